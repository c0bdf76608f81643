/- Functions that a law reaches, as functions of Lean, and the walks that show that the calls come to their answers: written by a program of this project out of the translation. No condition. -/
import Derived.Test.YtmknnoeggkgkgaaQFnPartsx0
import Derived.Test.YtmknnoeggkgkgaaQFnPartsx1
import Derived.Test.YtmknnoeggkgkgaaQFnPartsx2
import Derived.Test.YtmknnoeggkgkgaaQFnPartsx3
import Derived.Test.YtmknnoeggkgkgaaQFnPartsx4
import Derived.Test.YtmknnoeggkgkgaaQFnPartsx5
import Derived.Test.YtmknnoeggkgkgaaQFnPartsx7
import Derived.Test.YtmknnoeggkgkgaaShort4
import Derived.Test.YtmknnoeggkgkgaaShort3
import Derived.Test.YtmknnoeggkgkgaaShort2
import Derived.Test.YtmknnoeggkgkgaaShort
import Derived.Test.YtmknnoeggkgkgaaShort5
namespace Go.Proofs.Ytmknnoeggkgkgaa.QFnParts
open Go.RowKit Go.Proofs.YtmknnoeggkgkgaaW.PrintWords Go.Proofs.YtmknnoeggkgkgaaW.PrintLast Go.Proofs.YtmknnoeggkgkgaaW.PrintMore Go.Proofs.Ytmknnoeggkgkgaa.Short
attribute [local go_sem] max2_int min2_int max_two min_two max_three min_three max_four min_four   -- for this text's walks alone
set_option linter.unusedVariables false
set_option linter.unusedSimpArgs false

attribute [local go_sem high] eqA62
theorem B8x12_ {p : Prop} (h : p := by (with_reducible repeat (first | apply Kd.R_alloc | apply Kd.R_drewN | apply Kd.R_drew)); exact Kd.R_mono HO356.out (fun _ hk => ⟨hk.2, hk.1.2⟩)) : p := h
theorem B8x13_ {p : Prop} (h : p := by (with_reducible repeat (first | apply Kd.R_alloc | apply Kd.R_drewN | apply Kd.R_drew)); exact Kd.R_mono HO361.out (fun _ hk => ⟨hk.1.2, hk.2⟩)) : p := h
theorem B8x14_ {p : Prop} (h : p := by (with_reducible repeat (first | apply Kd.S_alloc | apply Kd.S_drewN | apply Kd.S_drew)); exact Kd.S_mono HO374.out (fun _ hk => hk.1)) : p := h
theorem B8x20_ {p : Prop} (h : p := by have := HJ9.out; have := HK2.out; have := HJ28.out; first | omega | exact Nat.le_refl _) : p := h
theorem B8x21_ {p : Prop} (h : p := by (with_reducible repeat (first | apply Kd.R_alloc | apply Kd.R_drewN | apply Kd.R_drew)); exact Kd.R_mono HO_6.out (fun _ hk => ⟨hk.1, hk.2.1⟩)) : p := h
theorem B8x22_ {p : Prop} (h : p := by (with_reducible repeat (first | apply Kd.R_alloc | apply Kd.R_drewN | apply Kd.R_drew)); exact Kd.R_mono HO_8.out (fun _ hk => ⟨hk.1, hk.2.1⟩)) : p := h
theorem B8x24_ {p : Prop} (h : p := by first | rfl | (simp [errW_none, errW_some] <;> rfl) | (simp [*, errW_none, errW_some] <;> rfl)) : p := h
theorem B8x25_ {p : Prop} (h : p := by have := HJ9.out; have := HK2.out; have := HJ28.out; have := HJ46.out; omega) : p := h
theorem B8x27_ {p : Prop} (h : p := by have := HJ9.out; have := HK2.out; first | omega | exact Nat.le_refl _) : p := h
/-! ### laws_FnParts: function 6 -/
mutual
def laws_FnParts.j0 : Nat → List Int → List (S62) → List (S62) → Bool → Int → Int → Int → Int → Bool → ByteArray → Option (Bool)
 | 0, _, _, _, _, _, _, _, _, _, _ => none
 | k + 1, x4, x6, x8, x64, x349000, x349001, x349002, x349003, x349004, x349005 => if x64 = true then (some false) else (laws_FnParts.l0 k x4 x6 x8 (([] : List (S82))) 0 x349000 x349001 x349002 x349003 x349004 x349005)
def laws_FnParts.l0 : Nat → List Int → List (S62) → List (S62) → List (S82) → Int → Int → Int → Int → Int → Bool → ByteArray → Option (Bool)
 | 0, _, _, _, _, _, _, _, _, _, _, _ => none
 | k + 1, x4, x6, x8, x10, x11, x349000, x349001, x349002, x349003, x349004, x349005 => if x11 < (x6.length : Int) then (if 0 ≤ x11 then ((impl_DgramOk.f ((rd_T62 x6 x11).f0) ((rd_T62 x6 x11).f1) ((rd_T62 x6 x11).f2) ((rd_T62 x6 x11).f3) ((rd_T62 x6 x11).f4) ((rd_T62 x6 x11).f5)).bind fun t367 => (if t367 = true then (if x11 < (x8.length : Int) then (laws_FnParts.j2 k x4 x6 x8 x10 x11 (!(((rd_T62 x6 x11).f0) == ((rd_T62 x8 x11).f0)) || (!(((rd_T62 x6 x11).f1) == ((rd_T62 x8 x11).f1)) || (!(((rd_T62 x6 x11).f2) == ((rd_T62 x8 x11).f2)) || (!(((rd_T62 x6 x11).f3) == ((rd_T62 x8 x11).f3)) || (!(((rd_T62 x6 x11).f4) == ((rd_T62 x8 x11).f4)) || (!((((rd_T62 x6 x11).f5).toList) == (((rd_T62 x8 x11).f5).toList)))))))) x349000 x349001 x349002 x349003 x349004 x349005) else (none)) else (laws_FnParts.j2 k x4 x6 x8 x10 x11 true x349000 x349001 x349002 x349003 x349004 x349005))) else (none)) else (some ((x10.length : Int) == 0))
def laws_FnParts.j2 : Nat → List Int → List (S62) → List (S62) → List (S82) → Int → Bool → Int → Int → Int → Int → Bool → ByteArray → Option (Bool)
 | 0, _, _, _, _, _, _, _, _, _, _, _, _ => none
 | k + 1, x4, x6, x8, x10, x11, x88, x349000, x349001, x349002, x349003, x349004, x349005 => if x88 = true then (some false) else (if 2 < (x4.length : Int) then (if (x6.length : Int) = 0 then (none) else (if 0 ≤ (Int.tmod (wrap64 (x11 + (rd x4 2))) (x6.length : Int)) then (if (Int.tmod (wrap64 (x11 + (rd x4 2))) (x6.length : Int)) < (x6.length : Int) then ((impl_JoinBits.f k x10 ((rd_T62 x6 (Int.tmod (wrap64 (x11 + (rd x4 2))) (x6.length : Int))).f0) ((rd_T62 x6 (Int.tmod (wrap64 (x11 + (rd x4 2))) (x6.length : Int))).f1) ((rd_T62 x6 (Int.tmod (wrap64 (x11 + (rd x4 2))) (x6.length : Int))).f2) ((rd_T62 x6 (Int.tmod (wrap64 (x11 + (rd x4 2))) (x6.length : Int))).f3) ((rd_T62 x6 (Int.tmod (wrap64 (x11 + (rd x4 2))) (x6.length : Int))).f4) ((rd_T62 x6 (Int.tmod (wrap64 (x11 + (rd x4 2))) (x6.length : Int))).f5) 5).bind fun bt372 => (if (bt372.2.2.2.2.2.2.2 != ((wrap64 (x11 + 1)) == (x6.length : Int))) = true then (laws_FnParts.j3 k x4 x6 x8 x11 bt372.1 bt372.2.2.2.2.2.2.2 true x349000 x349001 x349002 x349003 x349004 x349005) else (if bt372.2.2.2.2.2.2.2 = true then (laws_FnParts.j3 k x4 x6 x8 x11 bt372.1 bt372.2.2.2.2.2.2.2 (!(bt372.2.1 == x349000) || (!(bt372.2.2.1 == x349001) || (!(bt372.2.2.2.1 == x349002) || (!(bt372.2.2.2.2.1 == x349003) || (!(bt372.2.2.2.2.2.1 == x349004) || (!(bt372.2.2.2.2.2.2.1.toList == x349005.toList))))))) x349000 x349001 x349002 x349003 x349004 x349005) else (laws_FnParts.j3 k x4 x6 x8 x11 bt372.1 bt372.2.2.2.2.2.2.2 false x349000 x349001 x349002 x349003 x349004 x349005)))) else (none)) else (none))) else (none))
def laws_FnParts.j3 : Nat → List Int → List (S62) → List (S62) → Int → List (S82) → Bool → Bool → Int → Int → Int → Int → Bool → ByteArray → Option (Bool)
 | 0, _, _, _, _, _, _, _, _, _, _, _, _, _ => none
 | k + 1, x4, x6, x8, x11, x12, x14, x120, x349000, x349001, x349002, x349003, x349004, x349005 => if x120 = true then (some false) else (if x14 = true then (laws_FnParts.l0 k x4 x6 x8 x12 (wrap64 (x11 + 1)) x349000 x349001 x349002 x349003 x349004 x349005) else (if 2 < (x4.length : Int) then (if (x6.length : Int) = 0 then (none) else (if 0 ≤ (Int.tmod (wrap64 (x11 + (rd x4 2))) (x6.length : Int)) then (if (Int.tmod (wrap64 (x11 + (rd x4 2))) (x6.length : Int)) < (x6.length : Int) then ((impl_JoinBits.f k x12 ((rd_T62 x6 (Int.tmod (wrap64 (x11 + (rd x4 2))) (x6.length : Int))).f0) ((rd_T62 x6 (Int.tmod (wrap64 (x11 + (rd x4 2))) (x6.length : Int))).f1) ((rd_T62 x6 (Int.tmod (wrap64 (x11 + (rd x4 2))) (x6.length : Int))).f2) ((rd_T62 x6 (Int.tmod (wrap64 (x11 + (rd x4 2))) (x6.length : Int))).f3) ((rd_T62 x6 (Int.tmod (wrap64 (x11 + (rd x4 2))) (x6.length : Int))).f4) ((rd_T62 x6 (Int.tmod (wrap64 (x11 + (rd x4 2))) (x6.length : Int))).f5) 5).bind fun bt385 => (if bt385.2.2.2.2.2.2.2 = true then (some false) else (if (bt385.1.length : Int) = (x12.length : Int) then (laws_FnParts.l0 k x4 x6 x8 x12 (wrap64 (x11 + 1)) x349000 x349001 x349002 x349003 x349004 x349005) else (some false)))) else (none)) else (none))) else (none)))
end
def laws_FnParts.f (k : Nat) (l0 : List Int) : Option (Bool) := (laws_big.f l0).bind fun t341 => (if t341 = true then (some true) else ((spec_DrawRightDgram.f k l0).bind fun bt342 => ((spec_DrawPlaces.f k l0).bind fun t349 => (if 0 < (t349.length : Int) then (if 1 < (t349.length : Int) then ((impl_CutDgram.f k bt342.1 bt342.2.1 bt342.2.2.1 bt342.2.2.2.1 bt342.2.2.2.2.1 bt342.2.2.2.2.2 (wrap64 ((wrap64 (8 + (wrap64 (8 * (Int.tmod (rd t349 0) 3))))) + (Int.tmod (rd t349 1) 8)))).bind fun bt354 => ((spec_CutDgram.f k bt342.1 bt342.2.1 bt342.2.2.1 bt342.2.2.2.1 bt342.2.2.2.2.1 bt342.2.2.2.2.2 (wrap64 ((wrap64 (8 + (wrap64 (8 * (Int.tmod (rd t349 0) 3))))) + (Int.tmod (rd t349 1) 8)))).bind fun bt359 => (if bt354.2 = true then (if bt359.2 = true then (laws_FnParts.j0 k t349 bt354.1 bt359.1 ((bt354.1.length : Int) != (bt359.1.length : Int)) bt342.1 bt342.2.1 bt342.2.2.1 bt342.2.2.2.1 bt342.2.2.2.2.1 bt342.2.2.2.2.2) else (laws_FnParts.j0 k t349 bt354.1 bt359.1 true bt342.1 bt342.2.1 bt342.2.2.1 bt342.2.2.2.1 bt342.2.2.2.2.1 bt342.2.2.2.2.2)) else (laws_FnParts.j0 k t349 bt354.1 bt359.1 true bt342.1 bt342.2.1 bt342.2.2.1 bt342.2.2.2.1 bt342.2.2.2.2.1 bt342.2.2.2.2.2)))) else (none)) else (none)))))
theorem laws_FnParts.mono_l : ∀ k, (∀ y0 y1 y2 y3 y4 y5 y6 y7 y8 y9, LeO (laws_FnParts.j0 k y0 y1 y2 y3 y4 y5 y6 y7 y8 y9) (laws_FnParts.j0 (k + 1) y0 y1 y2 y3 y4 y5 y6 y7 y8 y9)) ∧ (∀ y0 y1 y2 y3 y4 y5 y6 y7 y8 y9 y10, LeO (laws_FnParts.l0 k y0 y1 y2 y3 y4 y5 y6 y7 y8 y9 y10) (laws_FnParts.l0 (k + 1) y0 y1 y2 y3 y4 y5 y6 y7 y8 y9 y10)) ∧ (∀ y0 y1 y2 y3 y4 y5 y6 y7 y8 y9 y10 y11, LeO (laws_FnParts.j2 k y0 y1 y2 y3 y4 y5 y6 y7 y8 y9 y10 y11) (laws_FnParts.j2 (k + 1) y0 y1 y2 y3 y4 y5 y6 y7 y8 y9 y10 y11)) ∧ (∀ y0 y1 y2 y3 y4 y5 y6 y7 y8 y9 y10 y11 y12, LeO (laws_FnParts.j3 k y0 y1 y2 y3 y4 y5 y6 y7 y8 y9 y10 y11 y12) (laws_FnParts.j3 (k + 1) y0 y1 y2 y3 y4 y5 y6 y7 y8 y9 y10 y11 y12))
 | 0 => ⟨fun _ _ _ _ _ _ _ _ _ _ r h => by simp [laws_FnParts.j0] at h, fun _ _ _ _ _ _ _ _ _ _ _ r h => by simp [laws_FnParts.l0] at h, fun _ _ _ _ _ _ _ _ _ _ _ _ r h => by simp [laws_FnParts.j2] at h, fun _ _ _ _ _ _ _ _ _ _ _ _ _ r h => by simp [laws_FnParts.j3] at h⟩
 | k + 1 => by
  obtain ⟨ih0, ih1, ih2, ih3⟩ := laws_FnParts.mono_l k
  refine ⟨?_, ?_, ?_, ?_⟩ <;> intros <;> (first | unfold laws_FnParts.j0 | unfold laws_FnParts.l0 | unfold laws_FnParts.j2 | unfold laws_FnParts.j3) <;> repeat' (with_reducible first | exact ih0 .. | exact ih1 .. | exact ih2 .. | exact ih3 .. | exact impl_CutDgram.mono .. | exact impl_JoinBits.mono .. | exact spec_CutDgram.mono .. | exact spec_DrawPlaces.mono _ _ | exact spec_DrawRightDgram.mono _ _ | exact LeO.refl _ | exact LeO.none _ | refine LeO.ite ?_ ?_ | refine LeO.bind ?_ (fun _ => ?_))
theorem laws_FnParts.mono : ∀ a0 k, LeO (laws_FnParts.f k a0) (laws_FnParts.f (k + 1) a0) := by
 intro a0 k
 obtain ⟨ih0, ih1, ih2, ih3⟩ := laws_FnParts.mono_l k
 unfold laws_FnParts.f
 repeat' (with_reducible first | exact ih0 .. | exact ih1 .. | exact ih2 .. | exact ih3 .. | exact impl_CutDgram.mono .. | exact impl_JoinBits.mono .. | exact spec_CutDgram.mono .. | exact spec_DrawPlaces.mono _ _ | exact spec_DrawRightDgram.mono _ _ | exact LeO.refl _ | exact LeO.none _ | refine LeO.ite ?_ ?_ | refine LeO.bind ?_ (fun _ => ?_))
def laws_FnParts.T6 : Bool × List (List Nat × List Nat) := (true, [([], []), ([], []), ([], []), ([2], [2]), ([3], [3]), ([4], [4]), ([1, 5], [1, 5]), ([0, 6], [0, 6]), ([7], [7]), ([8], [8]), ([8], [8]), ([9, 7, 0, 1, 2, 3, 4, 5, 6, 7, 8, 9], [9]), ([10, 11, 0, 1, 2, 3, 4, 5, 6, 7, 8, 9, 10, 11], [10])])
def laws_FnParts.B6 : List Nat := [0, 0, 0, 4, 12, 28, 62, 127, 255, 511, 511, 1023, 4095]
theorem laws_FnParts.tab6 : rtab .any (opsOf Try.f6 6) = laws_FnParts.T6 := by kernel_rfl
theorem laws_FnParts.bits6 : waitsOk laws_FnParts.T6.2 laws_FnParts.B6 = true := by kernel_rfl
def laws_FnParts.T7 : Bool × List (List Nat × List Nat) := (true, [([], []), ([], []), ([], []), ([2], [2]), ([3], [3]), ([4], [4]), ([1, 5], [1, 5]), ([0, 6], [0, 6]), ([7], [7]), ([8], [8]), ([8], [8]), ([9, 7, 0, 1, 2, 3, 4, 5, 6, 7, 8, 9], [9]), ([10, 11, 0, 1, 2, 3, 4, 5, 6, 7, 8, 9, 10, 11], [10])])
def laws_FnParts.B7 : List Nat := [0, 0, 0, 4, 12, 28, 62, 127, 255, 511, 511, 1023, 4095]
theorem laws_FnParts.tab7 : rtab .any (opsOf Try.f6 7) = laws_FnParts.T7 := by kernel_rfl
theorem laws_FnParts.bits7 : waitsOk laws_FnParts.T7.2 laws_FnParts.B7 = true := by kernel_rfl
def laws_FnParts.T14 : Bool × List (List Nat × List Nat) := (true, [([], []), ([], []), ([0, 1], [0, 1]), ([2], [2]), ([3], [3]), ([4], [4]), ([5, 4], [5]), ([6], [6]), ([6], [6]), ([7, 8, 6], [6, 7, 8]), ([9, 6], [6, 9]), ([6], [6]), ([6], [6]), ([11, 12, 6], [6, 11, 12]), ([13, 6], [6, 13]), ([10, 14, 6], [6, 10, 14]), ([6, 15], [6, 15])])
def laws_FnParts.B14 : List Nat := [0, 0, 3, 7, 15, 31, 63, 127, 127, 511, 1023, 127, 127, 6271, 14463, 32767, 65535]
theorem laws_FnParts.tab14 : rtab .any (opsOf Try.f6 14) = laws_FnParts.T14 := by kernel_rfl
theorem laws_FnParts.bits14 : waitsOk laws_FnParts.T14.2 laws_FnParts.B14 = true := by kernel_rfl
set_option maxHeartbeats 8000000 in
set_option maxRecDepth 100000 in
theorem laws_FnParts.calls (k : Nat) (A0 : Option Addr) (c0 : Nat) (l0 : List Int) (r : Bool) (w : World) (hr0 : Kd.C (Kd.int .u8) w A0 l0.length l0) (hc0 : l0.length ≤ c0) (h : laws_FnParts.f k l0 = some r) (hr_ : Aside0 (r = true)) :
  Calls Try.prog 6 #[.slice A0 l0.length c0] w fun e w' => e = .returned (.bool r) ∧ Below w.heap.size w w' := by
 have hu62 := Try.underlying62
 have HR0 := am hr0
 have HC0 := am hc0
 clear hr0 hc0
 have HB := am (Below.refl w.heap.size w)
 have H : ((laws_big.f l0).bind fun t341 => (if t341 = true then (some true) else ((spec_DrawRightDgram.f k l0).bind fun bt342 => ((spec_DrawPlaces.f k l0).bind fun t349 => (if 0 < (t349.length : Int) then (if 1 < (t349.length : Int) then ((impl_CutDgram.f k bt342.1 bt342.2.1 bt342.2.2.1 bt342.2.2.2.1 bt342.2.2.2.2.1 bt342.2.2.2.2.2 (wrap64 ((wrap64 (8 + (wrap64 (8 * (Int.tmod (rd t349 0) 3))))) + (Int.tmod (rd t349 1) 8)))).bind fun bt354 => ((spec_CutDgram.f k bt342.1 bt342.2.1 bt342.2.2.1 bt342.2.2.2.1 bt342.2.2.2.2.1 bt342.2.2.2.2.2 (wrap64 ((wrap64 (8 + (wrap64 (8 * (Int.tmod (rd t349 0) 3))))) + (Int.tmod (rd t349 1) 8)))).bind fun bt359 => (if bt354.2 = true then (if bt359.2 = true then (laws_FnParts.j0 k t349 bt354.1 bt359.1 ((bt354.1.length : Int) != (bt359.1.length : Int)) bt342.1 bt342.2.1 bt342.2.2.1 bt342.2.2.2.1 bt342.2.2.2.2.1 bt342.2.2.2.2.2) else (laws_FnParts.j0 k t349 bt354.1 bt359.1 true bt342.1 bt342.2.1 bt342.2.2.1 bt342.2.2.2.1 bt342.2.2.2.2.1 bt342.2.2.2.2.2)) else (laws_FnParts.j0 k t349 bt354.1 bt359.1 true bt342.1 bt342.2.1 bt342.2.2.1 bt342.2.2.2.1 bt342.2.2.2.2.1 bt342.2.2.2.2.2)))) else (none)) else (none)))))) = some r := h
 clear h
 replace H := bsi H
 obtain ⟨t341, A2, H⟩ := H
 (try dsimp only at H)
 by_cases c3 : t341 = true
 ·subst c3; rw [if_pos rfl] at H; obtain rfl := Option.some.inj H; go_enter Try.func6, Try.ntmps6
  go_wp2_with (first | ((with_reducible refine gate_callee (f := 33) rfl ?_); refine goesL_ (some 19) rfl rfl Try.func33 gk_ rfl #[.slice A0 l0.length c0] rfl gm_ ?_; (with_reducible refine (laws_big.calls _ _ l0 true _ ?side1 ?side2 A2.out).mono ?_); (case side1 => exact (tc HR0.out)); (case side2 => exact HC0.out); rintro e w' ⟨rfl, ⟨nd, rfl⟩⟩; refine ⟨_, rfl, ?_⟩))
  go_ret; exact ⟨B8x24_, (te0 HB.out)⟩
 ·replace c3 := Bool.eq_false_iff.mpr c3; subst c3; rw [if_neg (show ¬ (false = true) by decide)] at H; replace H := bsi H; obtain ⟨⟨t342, t343, t344, t345, t346, t347⟩, A4, H⟩ := H; (try dsimp only at H); replace H := bsi H; obtain ⟨t349, A5, H⟩ := H; (try dsimp only at H)
  by_cases c6 : 0 < (t349.length : Int)
  rotate_left
  ·rw [if_neg c6] at H; exact absurd H (by simp)
  rw [if_pos c6] at H
  have c6b0 : decide (0 < (t349.length : Int)) = true := decide_eq_true c6
  have c6b1 : decide (0 < t349.length) = true := decide_eq_true (by omega)
  clear c6
  by_cases c7 : 1 < (t349.length : Int)
  rotate_left
  ·rw [if_neg c7] at H; exact absurd H (by simp)
  rw [if_pos c7] at H
  have c7b0 : decide (1 < (t349.length : Int)) = true := decide_eq_true c7
  have c7b1 : decide (1 < t349.length) = true := decide_eq_true (by omega)
  clear c7; replace H := bsi H; obtain ⟨⟨t354, t357⟩, A8, H⟩ := H; (try dsimp only at H); replace H := bsi H; obtain ⟨⟨t359, t362⟩, A9, H⟩ := H; (try dsimp only at H); have HC10 := am H; clear H; go_enter Try.func6, Try.ntmps6
  try go_wp2_with (first | ((with_reducible refine gate_callee (f := 33) rfl ?_); refine goesL_ (some 19) rfl rfl Try.func33 gk_ rfl #[.slice A0 l0.length c0] rfl gm_ ?_; (with_reducible refine (laws_big.calls _ _ l0 false _ ?side1 ?side2 A2.out).mono ?_); (case side1 => exact (tc HR0.out)); (case side2 => exact HC0.out); rintro e w' ⟨rfl, ⟨nd, rfl⟩⟩; refine ⟨_, rfl, ?_⟩) | ((with_reducible refine gate_callee (f := 34) rfl ?_); refine goesL_ (some 21) rfl rfl Try.func34 gk_ rfl #[.slice A0 l0.length c0] rfl gm_ ?_; (with_reducible refine (spec_DrawRightDgram.calls k _ _ l0 t342 t343 t344 t345 t346 t347 _ ?side1 ?side2 A4.out).mono ?_); (case side1 => exact (tc HR0.out)); (case side2 => exact HC0.out); rintro e w11 ⟨rfl, hb⟩; refine ⟨_, rfl, ?_⟩; replace HB := am (below_step (te0 HB.out) hb); (try clear hb); (try clear hl)) | ((with_reducible refine gate_dst (N := 3) rfl ?_); (try (refine gate_guard (by rfl) ?_; dsimp only)); refine bx (N := 3) (cs := #[.int .i64 0, .int .i64 0, .int .i64 0, .int .i64 0, .bool false, .string (⟨#[]⟩ : ByteArray)]) (t := 62) ?_; intro gb348 hg w12 hbox hb; have BK348 := am (hbox); have GW348 := am ((bs hg (below_size HB.out))); have GE348 := am ((bs hg (below_size HB.out))); replace HB := am (below_step (te0 HB.out) hb); clear hb hbox hg; obtain ⟨hcz13_0, hcz13_1, hcz13_2, hcz13_3, hcz13_4, hcz13_5⟩ := cl6 BK348.out; obtain ⟨hfz13_0, hfz13_1, hfz13_2, hfz13_3, hfz13_4, hfz13_5⟩ := fr6 BK348.out) | ((with_reducible refine gate_store (t := 62) (p := 3) rfl ?_); refine store_event (t := 62) (p := 3) (v := ?vo_w14) (w1 := ((((((w12.setCell ⟨gb348, 0, none⟩ (.int .i64 t342)).setCell ⟨gb348, 1, none⟩ (.int .i64 t343)).setCell ⟨gb348, 2, none⟩ (.int .i64 t344)).setCell ⟨gb348, 3, none⟩ (.int .i64 t345)).setCell ⟨gb348, 4, none⟩ (.bool t346)).setCell ⟨gb348, 5, none⟩ (.string t347))) ?hg ?ho ?hn ?hr ?_; (case ho => rfl); (case hg => rfl); (case hn => rfl); (case hr => exact gs_); intro w14 hw; replace BK348 : Aside0 (w14.heap[gb348]? = some (.cells #[.int .i64 t342, .int .i64 t343, .int .i64 t344, .int .i64 t345, .bool t346, .string t347] 62 (0, 0))) := ⟨(wtp0 BK348.out)⟩; replace HB : Aside0 (Below w.heap.size w w14) := ⟨(by rw [hw]; exact (te1 HB.out GE348.out))⟩; clear hw) | ((with_reducible refine gate_callee (f := 35) rfl ?_); refine goesL_ (some 23) rfl rfl Try.func35 gk_ rfl #[.slice A0 l0.length c0] rfl gm_ ?_; (with_reducible refine (spec_DrawPlaces.calls k _ _ l0 t349 _ ?side1 ?side2 A5.out).mono ?_); (case side1 => repeat (first | exact (Kd.C_below HR0.out HB.out) | (with_reducible refine Kd.C_alloc ?_ _) | (with_reducible refine Kd.C_drewN ?_ _) | (with_reducible refine Kd.C_drew ?_))); (case side2 => exact HC0.out); rintro e w15 ⟨v350, rfl, ho0, hb⟩; refine ⟨_, rfl, ?_⟩; have HO351 := am (Kd.R_lower ho0 (below_size (te1 HB.out GE348.out))); replace BK348 := am (bb BK348.out hb); replace HB := am (below_step (te1 HB.out GE348.out) hb); (try clear hb); (try clear hl); (try clear ho0); obtain ⟨Ao16, co16, eo16⟩ := Kd.R_slice HO351.out; subst eo16; have p352 : 0 ≤ (0 : Int) := (by omega); have q352 : 0 < (t349.length : Int) := dga; obtain ⟨ad352, e352, hx352_0⟩ := Kd.at_int (Kd.R_reads' HO351.out).2.2 0 p352 q352; cases e352; have qi352 : (0 < t349.length) = True := eq_true (by omega); (try rw [show ((0 : Int)).toNat = 0 from rfl] at hx352_0); (try rw [Addr.add_zero'] at hx352_0); replace p352 := eq_true p352; replace q352 := eq_true q352))
  replace HO351 := am (Kd.R_drew HO351.out); replace BK348 := am (blk_drew BK348.out); replace HB := am (below_drew1 HB.out)
  have p353 : 0 ≤ (1 : Int) := (by omega)
  have q353 : 1 < (t349.length : Int) := dga
  obtain ⟨ad353, e353, hx353_0⟩ := Kd.at_int (Kd.R_reads' HO351.out).2.2 1 p353 q353; obtain rfl : ad352 = ad353 := (by injection e353); (try simp only [show (1 : Int).toNat = 1 from rfl, Nat.reduceMul, Nat.reduceEqDiff, Go.Addr.add, ↓reduceIte] at hx353_0)
  have qi353 : (1 < t349.length) = True := eq_true (by omega)
  (try rw [show ((1 : Int)).toNat = 1 from rfl] at hx353_0); replace p353 := eq_true p353; replace q353 := eq_true q353; refine start_ (n := 13) (S := fun w' => w'.cell? ⟨gb348, 0, none⟩ = some (.int .i64 t342) ∧ w'.cell? ⟨gb348, 1, none⟩ = some (.int .i64 t343) ∧ w'.cell? ⟨gb348, 2, none⟩ = some (.int .i64 t344) ∧ w'.cell? ⟨gb348, 3, none⟩ = some (.int .i64 t345) ∧ w'.cell? ⟨gb348, 4, none⟩ = some (.bool t346) ∧ w'.cell? ⟨gb348, 5, none⟩ = some (.string t347) ∧ w'.cell? ⟨ad352.block, ad352.off + 1, none⟩ = some (.int .i64 (rd t349 1))) (ds := []) #[false, false, false, false, false, false, false, false, false, false, false, false, false] gk_ rfl rfl ⟨(blk_cell BK348.out 0).trans rfl, (blk_cell BK348.out 1).trans rfl, (blk_cell BK348.out 2).trans rfl, (blk_cell BK348.out 3).trans rfl, (blk_cell BK348.out 4).trans rfl, (blk_cell BK348.out 5).trans rfl, hx353_0⟩ (fun hHeld => ?_); refine with_tabW laws_FnParts.tab6 laws_FnParts.bits6 (fun HT_ HW_ => ?_); generalize w15.drew = w17 at HO351 BK348 HB hx353_0 hHeld ⊢; refine pu_ 1 32 HT_ ?_; refine pu_ 2 33 HT_ ?_; refine pu_ 3 34 HT_ ?_; refine ta_ 0 31 HT_ HW_ hHeld ?_; refine ta_ 4 35 HT_ HW_ hHeld ?_; refine pu_ 5 36 HT_ ?_; refine pu_ 6 37 HT_ ?_; refine one_ (i := 7) (N := some 38) #[true, true, true, true, true, true, true, true, false, false, false, false, false] rfl rfl (one_of HT_.out gk_) (by decide) (fun K hK => ?_); refine goes_ Try.func36 gk_ rfl #[.agg #[.int .i64 t342, .int .i64 t343, .int .i64 t344, .int .i64 t345, .bool t346, .string t347], .int .i64 (wrap64 ((wrap64 (8 + (wrap64 (8 * (Int.tmod (rd t349 0) 3))))) + (Int.tmod (rd t349 1) 8)))] (by rfl) rfl rfl gm_ ?_
  with_reducible refine (impl_CutDgram.calls k t342 t343 t344 t345 t346 t347 (wrap64 ((wrap64 (8 + (wrap64 (8 * (Int.tmod (rd t349 0) 3))))) + (Int.tmod (rd t349 1) 8))) t354 t357 _ A8.out).mono ?_
  rintro e w18 ⟨v355, rfl, ho0, hb⟩; have HS6_ := (hb.cell (World.block_lt_of_cell? _ _ (hHeld.2.2.2.2.2.2))).trans (hHeld.2.2.2.2.2.2); refine ⟨_, rfl, ?_⟩; replace HO351 := am (Kd.R_below (tr HO351.out) hb); have HO356 := am (Kd.R_lower (Kd.R_newB ho0 (g := gb348) (o := .cells #[.int .i64 t342, .int .i64 t343, .int .i64 t344, .int .i64 t345, .bool t346, .string t347] 62 (0, 0)) (tb BK348.out)) (below_size (te1 HB.out GE348.out))); replace BK348 := am (bb BK348.out hb); replace HB := am (below_step (te1 HB.out GE348.out) hb); (try clear hb); (try clear hb2); (try clear hk); (try clear hi); (try clear hl); (try clear ho0); refine hK.out _ _ ⟨(blk_cell BK348.out 0).trans rfl, (blk_cell BK348.out 1).trans rfl, (blk_cell BK348.out 2).trans rfl, (blk_cell BK348.out 3).trans rfl, (blk_cell BK348.out 4).trans rfl, (blk_cell BK348.out 5).trans rfl, HS6_⟩ (fun hHeld => ?_); clear hK K; refine norm_ (a' := ?_) ?_ ?_; rotate_left
  ·show Act.put _ (some 38) _ = _; simp only [Act.put, List.setIfInBounds_toArray, List.set_cons_zero, List.set_cons_succ, i64_w, i32_w]; rfl
  refine pu_ 8 30 HT_ ?_; refine pu_ 9 39 HT_ ?_; refine pu_ 10 40 HT_ ?_; refine pu_ 11 6 HT_ ?_; refine pu_ 12 7 HT_ ?_; refine done_ (done_of HT_.out gk_) ?_
  try go_wp2
  replace HO351 := am (Kd.R_drew HO351.out); replace HO356 := am (Kd.R_drew HO356.out); replace BK348 := am (blk_drew BK348.out); replace HB := am (below_drew1 HB.out)
  have p358 : 0 ≤ (1 : Int) := (by omega)
  have q358 : 1 < (t349.length : Int) := dga
  obtain ⟨ad358, e358, hx358_0⟩ := Kd.at_int (Kd.R_reads' HO351.out).2.2 1 p358 q358; obtain rfl : ad352 = ad358 := (by injection e358); (try simp only [show (1 : Int).toNat = 1 from rfl, Nat.reduceMul, Nat.reduceEqDiff, Go.Addr.add, ↓reduceIte] at hx358_0)
  have qi358 : (1 < t349.length) = True := eq_true (by omega)
  (try rw [show ((1 : Int)).toNat = 1 from rfl] at hx358_0); replace p358 := eq_true p358; replace q358 := eq_true q358; refine start_ (n := 13) (S := fun w' => w'.cell? ⟨gb348, 0, none⟩ = some (.int .i64 t342) ∧ w'.cell? ⟨gb348, 1, none⟩ = some (.int .i64 t343) ∧ w'.cell? ⟨gb348, 2, none⟩ = some (.int .i64 t344) ∧ w'.cell? ⟨gb348, 3, none⟩ = some (.int .i64 t345) ∧ w'.cell? ⟨gb348, 4, none⟩ = some (.bool t346) ∧ w'.cell? ⟨gb348, 5, none⟩ = some (.string t347) ∧ w'.cell? ⟨ad352.block, ad352.off + 1, none⟩ = some (.int .i64 (rd t349 1))) (ds := []) #[false, false, false, false, false, false, false, false, false, false, false, false, false] gk_ rfl rfl ⟨(blk_cell BK348.out 0).trans rfl, (blk_cell BK348.out 1).trans rfl, (blk_cell BK348.out 2).trans rfl, (blk_cell BK348.out 3).trans rfl, (blk_cell BK348.out 4).trans rfl, (blk_cell BK348.out 5).trans rfl, hx358_0⟩ (fun hHeld => ?_); refine with_tabW laws_FnParts.tab7 laws_FnParts.bits7 (fun HT_ HW_ => ?_); generalize w18.drew = w19 at HO351 HO356 BK348 HB hx358_0 hHeld ⊢; refine pu_ 1 43 HT_ ?_; refine pu_ 2 44 HT_ ?_; refine pu_ 3 45 HT_ ?_; refine ta_ 0 42 HT_ HW_ hHeld ?_; refine ta_ 4 46 HT_ HW_ hHeld ?_; refine pu_ 5 47 HT_ ?_; refine pu_ 6 48 HT_ ?_; refine one_ (i := 7) (N := some 49) #[true, true, true, true, true, true, true, true, false, false, false, false, false] rfl rfl (one_of HT_.out gk_) (by decide) (fun K hK => ?_); refine goes_ Try.func37 gk_ rfl #[.agg #[.int .i64 t342, .int .i64 t343, .int .i64 t344, .int .i64 t345, .bool t346, .string t347], .int .i64 (wrap64 ((wrap64 (8 + (wrap64 (8 * (Int.tmod (rd t349 0) 3))))) + (Int.tmod (rd t349 1) 8)))] (by rfl) rfl rfl gm_ ?_
  with_reducible refine (spec_CutDgram.calls k t342 t343 t344 t345 t346 t347 (wrap64 ((wrap64 (8 + (wrap64 (8 * (Int.tmod (rd t349 0) 3))))) + (Int.tmod (rd t349 1) 8))) t359 t362 _ A9.out).mono ?_
  rintro e w20 ⟨v360, rfl, ho0, hb⟩; have HS6_ := (hb.cell (World.block_lt_of_cell? _ _ (hHeld.2.2.2.2.2.2))).trans (hHeld.2.2.2.2.2.2); refine ⟨_, rfl, ?_⟩; replace HO351 := am (Kd.R_below (tr HO351.out) hb); have HO361 := am (Kd.R_lower (Kd.R_newB (Kd.R_new' ho0 (Kd.R_lt (tr HO356.out))) (g := gb348) (o := .cells #[.int .i64 t342, .int .i64 t343, .int .i64 t344, .int .i64 t345, .bool t346, .string t347] 62 (0, 0)) (tb BK348.out)) (below_size (te1 HB.out GE348.out))); replace HO356 := am (Kd.R_elder' (tr HO356.out) (Kd.R_base ho0) hb); replace BK348 := am (bb BK348.out hb); replace HB := am (below_step (te1 HB.out GE348.out) hb); (try clear hb); (try clear hb2); (try clear hk); (try clear hi); (try clear hl); (try clear ho0); refine hK.out _ _ ⟨(blk_cell BK348.out 0).trans rfl, (blk_cell BK348.out 1).trans rfl, (blk_cell BK348.out 2).trans rfl, (blk_cell BK348.out 3).trans rfl, (blk_cell BK348.out 4).trans rfl, (blk_cell BK348.out 5).trans rfl, HS6_⟩ (fun hHeld => ?_); clear hK K; refine norm_ (a' := ?_) ?_ ?_; rotate_left
  ·show Act.put _ (some 49) _ = _; simp only [Act.put, List.setIfInBounds_toArray, List.set_cons_zero, List.set_cons_succ, i64_w, i32_w]; rfl
  refine pu_ 8 41 HT_ ?_; refine pu_ 9 50 HT_ ?_; refine pu_ 10 51 HT_ ?_; refine pu_ 11 8 HT_ ?_; refine pu_ 12 9 HT_ ?_; refine done_ (done_of HT_.out gk_) ?_
  go_upto_region 8 with (fail)
  go_cut [64] (fun v64 wc => ∃ (kq : Nat) (x64_9 : Bool), v64 = .bool x64_9 ∧ Aside0 (laws_FnParts.j0 kq t349 t354 t359 x64_9 t342 t343 t344 t345 t346 t347 = some r) ∧ Aside0 (kq ≤ k) ∧ Aside0 (Kd.R (Kd.int .i64) 3 wc w.heap.size (fun _ => True) (.slice (some ad352) t349.length co16) t349) ∧ Aside0 (Kd.R k62 62 wc w.heap.size (fun k_ => some k_ ≠ (v360 : Value).ownBlock ∧ k_ ≠ gb348) v355 t354) ∧ Aside0 (Kd.R k62 62 wc w.heap.size (fun k_ => some k_ ≠ (v355 : Value).ownBlock ∧ k_ ≠ gb348) v360 t359) ∧ Aside0 (wc.heap[gb348]? = some (.cells #[.int .i64 t342, .int .i64 t343, .int .i64 t344, .int .i64 t345, .bool t346, .string t347] 62 (0, 0))) ∧ Aside0 (Below w.heap.size w wc))
  case first =>
   have H := HC10.out; clear HC10
   by_cases c21 : t357 = true
   ·subst c21; rw [if_pos rfl] at H
    by_cases c22 : t362 = true
    ·subst c22; rw [if_pos rfl] at H
     have H' := am H
     clear H; obtain ⟨Ao23, co23, eo23⟩ := Kd.R_slice HO356.out; subst eo23; obtain ⟨Ao24, co24, eo24⟩ := Kd.R_slice HO361.out; subst eo24
     go_wp2
     go_meet
     case rel => exact ⟨_, (((t354.length : Int) != (t359.length : Int))), (be_), H', ⟨gl_⟩, ⟨(tr HO351.out)⟩, ⟨B8x12_⟩, ⟨B8x13_⟩, ⟨(tb BK348.out)⟩, ⟨(te1 HB.out GE348.out)⟩⟩
    ·replace c22 := Bool.eq_false_iff.mpr c22; subst c22; rw [if_neg (show ¬ (false = true) by decide)] at H
     have H' := am H
     clear H
     go_wp2
     go_meet
     case rel => exact ⟨_, (true), (be_), H', ⟨gl_⟩, ⟨(tr HO351.out)⟩, ⟨B8x12_⟩, ⟨B8x13_⟩, ⟨(tb BK348.out)⟩, ⟨(te1 HB.out GE348.out)⟩⟩
   ·replace c21 := Bool.eq_false_iff.mpr c21; subst c21; rw [if_neg (show ¬ (false = true) by decide)] at H
    have H' := am H
    clear H
    go_wp2
    go_meet
    case rel => exact ⟨_, (true), (be_), H', ⟨gl_⟩, ⟨(tr HO351.out)⟩, ⟨B8x12_⟩, ⟨B8x13_⟩, ⟨(tb BK348.out)⟩, ⟨(te1 HB.out GE348.out)⟩⟩
  case rest =>
   clear HC10
   try clear c3
   try clear c6
   try clear c6b0
   try clear c6b1
   try clear c7
   try clear c7b0
   try clear c7b1
   try clear hcz13_0
   try clear hcz13_1
   try clear hcz13_2
   try clear hcz13_3
   try clear hcz13_4
   try clear hcz13_5
   try clear hfz13_0
   try clear hfz13_1
   try clear hfz13_2
   try clear hfz13_3
   try clear hfz13_4
   try clear hfz13_5
   try clear hx352_0
   try clear hx353_0
   try clear hx358_0
   try clear p352
   try clear p353
   try clear p358
   try clear q352
   try clear q353
   try clear q358
   obtain ⟨kq, x64_9, rfl, HA, HJ9, HO_4, HO_6, HO_8, BK348, HB⟩ := hcut
   cases kq with
   | zero => exact absurd HA.out (by simp [laws_FnParts.j0])
   | succ kj9 =>
    have H := HA.out; clear HA; simp only [laws_FnParts.j0] at H
    by_cases c25 : x64_9 = true
    ·subst c25; rw [if_pos rfl] at H; exact absurd ((Option.some.inj H).trans hr_.out) (by decide)
    replace c25 := Bool.eq_false_iff.mpr c25; subst c25; rw [if_neg (show ¬ (false = true) by decide)] at H; obtain ⟨y363, hy363⟩ : ∃ y_ : List (S82), y_ = (([] : List (S82))) := ⟨_, rfl⟩
    replace H : (laws_FnParts.l0 kj9 t349 t354 t359 y363 0 t342 t343 t344 t345 t346 t347) = some r := by first | (rw [hy363]; with_reducible exact H) | (have H2_ := (Option.bind_some _ _).symm.trans H; rw [hy363]; with_reducible exact H2_) | (have H2_ := (Option.bind_some _ _).symm.trans H; with_reducible exact H2_) | with_reducible exact H | (rw [hy363]; exact H) | exact H
    have Ny363 := am hy363; clear hy363
    have H' := am H
    clear H
    go_wp2_with (first | ((with_reducible refine gate_dst (N := 65) rfl ?_); (try (refine gate_guard (by rfl) ?_; dsimp only)); refine Kd.S_lit k82 _ 82 ?hg (N := 65) ?hd (xs := ([] : List (S82))) (inner := []) (ok := fun _ => True) (okp := fun _ => True) ?hr ?hp (fun _ hk => hk) trivial (Below.refl _ _) (Nat.le_refl _) (by simp) ?_; (case hd => rfl); (case hg => rfl); (case hr => exact gs_); (case hp => exact (Reps.none _ _)); intro v364 w26 ho27 hb hg_ hnew_; clear hg_ hnew_; (first | rw [← Ny363.out] at ho27 | (simp only [Int.reduceToNat] at ho27; rw [← Ny363.out] at ho27)); replace HO_6 := am (Kd.R_below (tr HO_6.out) hb); replace HO_8 := am (Kd.R_below (tr HO_8.out) hb); have HO365 := am (Kd.S_lower (Kd.S_new' ho27 (Kd.R_lt (tr HO_4.out))) (below_size (te1 HB.out GE348.out))); replace HO_4 := am (Kd.R_below (tr HO_4.out) hb); replace BK348 := am (bb BK348.out hb); replace HB := am (below_step (te1 HB.out GE348.out) hb); clear hb ho27))
    go_loopg [10, 11] kj9 (fun kq v10 v11 w' => ∃ (x10_2 : List (S82)) (x11_2 : Int), v11 = .int .i64 x11_2 ∧ Aside0 (laws_FnParts.l0 kq t349 t354 t359 x10_2 x11_2 t342 t343 t344 t345 t346 t347 = some r) ∧ Aside0 (kq ≤ kj9) ∧ Aside0 (Kd.R (Kd.int .i64) 3 w' w.heap.size (fun _ => True) (.slice (some ad352) t349.length co16) t349) ∧ Aside0 (Kd.R k62 62 w' w.heap.size (fun k_ => some k_ ≠ (v360 : Value).ownBlock ∧ k_ ≠ gb348) v355 t354) ∧ Aside0 (Kd.R k62 62 w' w.heap.size (fun k_ => some k_ ≠ (v355 : Value).ownBlock ∧ k_ ≠ gb348) v360 t359) ∧ Aside0 (Kd.S k82 82 w' w.heap.size (fun k_ => some k_ ≠ ((.slice (some ad352) t349.length co16) : Value).ownBlock) v10 x10_2) ∧ Aside0 (w'.heap[gb348]? = some (.cells #[.int .i64 t342, .int .i64 t343, .int .i64 t344, .int .i64 t345, .bool t346, .string t347] 62 (0, 0))) ∧ Aside0 (Below w.heap.size w w'))
    case atStart => exact ⟨(y363), (0), (be_), H', ⟨Nat.le_refl _⟩, ⟨(tr HO_4.out)⟩, ⟨(tr HO_6.out)⟩, ⟨(tr HO_8.out)⟩, ⟨(by (with_reducible repeat (first | apply Kd.S_alloc | apply Kd.S_drewN | apply Kd.S_drew)); exact Kd.S_mono HO365.out (fun _ hk => hk.2))⟩, ⟨(tb BK348.out)⟩, ⟨(te1 HB.out GE348.out)⟩⟩
    case round =>
     clear H'
     try clear c3
     try clear c6
     try clear c6b0
     try clear c6b1
     try clear c7
     try clear c7b0
     try clear c7b1
     try clear c25
     try clear hcz13_0
     try clear hcz13_1
     try clear hcz13_2
     try clear hcz13_3
     try clear hcz13_4
     try clear hcz13_5
     try clear hfz13_0
     try clear hfz13_1
     try clear hfz13_2
     try clear hfz13_3
     try clear hfz13_4
     try clear hfz13_5
     try clear hx352_0
     try clear hx353_0
     try clear hx358_0
     try clear p352
     try clear p353
     try clear p358
     try clear q352
     try clear q353
     try clear q358
     obtain ⟨x10_2, x11_2, rfl, HA, HK2, HO_4, HO_6, HO_8, HO_10, BK348, HB⟩ := hrel
     cases gk with
     | zero => exact absurd HA.out (by simp [laws_FnParts.l0])
     | succ k2 =>
      have H := HA.out; clear HA; simp only [laws_FnParts.l0] at H
      by_cases c28 : x11_2 < (t354.length : Int)
      ·rw [if_pos c28] at H
       have c28b0 : decide (x11_2 < (t354.length : Int)) = true := decide_eq_true c28
       clear c28; have HC29 := am H; clear H; obtain ⟨Ao30, co30, eo30⟩ := Kd.R_slice HO_6.out; subst eo30
       go_upto_region 14 with (fail)
       go_cut [88] (fun v88 wc => ∃ (kq : Nat) (x88_28 : Bool), v88 = .bool x88_28 ∧ Aside0 (laws_FnParts.j2 kq t349 t354 t359 x10_2 x11_2 x88_28 t342 t343 t344 t345 t346 t347 = some r) ∧ Aside0 (kq ≤ k2) ∧ Aside0 (Kd.R (Kd.int .i64) 3 wc w.heap.size (fun _ => True) (.slice (some ad352) t349.length co16) t349) ∧ Aside0 (Kd.R k62 62 wc w.heap.size (fun k_ => some k_ ≠ (v360 : Value).ownBlock ∧ k_ ≠ gb348) (.slice Ao30 t354.length co30) t354) ∧ Aside0 (Kd.R k62 62 wc w.heap.size (fun k_ => some k_ ≠ ((.slice Ao30 t354.length co30) : Value).ownBlock ∧ k_ ≠ gb348) v360 t359) ∧ Aside0 (Kd.S k82 82 wc w.heap.size (fun k_ => some k_ ≠ ((.slice (some ad352) t349.length co16) : Value).ownBlock) u10 x10_2) ∧ Aside0 (wc.heap[gb348]? = some (.cells #[.int .i64 t342, .int .i64 t343, .int .i64 t344, .int .i64 t345, .bool t346, .string t347] 62 (0, 0))) ∧ Aside0 (Below w.heap.size w wc))
       case first =>
        have H := HC29.out; clear HC29
        by_cases c31 : 0 ≤ x11_2
        rotate_left
        ·rw [if_neg c31] at H; exact absurd H (by simp)
        rw [if_pos c31] at H
        have c31b0 : decide (0 ≤ x11_2) = true := decide_eq_true c31
        clear c31
        (first | rw [c31b0] | (simp only [i64_w, i32_w]; rw [c31b0]) | skip)
        replace H := bsi H; obtain ⟨t367, A32, H⟩ := H; (try dsimp only at H)
        by_cases c33 : t367 = true
        ·subst c33; rw [if_pos rfl] at H
         by_cases c34 : x11_2 < (t359.length : Int)
         rotate_left
         ·rw [if_neg c34] at H; exact absurd H (by simp)
         rw [if_pos c34] at H
         have c34b0 : decide (x11_2 < (t359.length : Int)) = true := decide_eq_true c34
         clear c34
         have H' := am H
         clear H
         try go_wp2
         replace HO_4 := am (Kd.R_drew HO_4.out); replace HO_6 := am (Kd.R_drew HO_6.out); replace HO_8 := am (Kd.R_drew HO_8.out); replace HO_10 := am (Kd.S_drew HO_10.out); replace BK348 := am (blk_drew BK348.out); replace HB := am (below_drew1 HB.out)
         have p366 : 0 ≤ (x11_2 : Int) := dga
         have q366 : x11_2 < (t354.length : Int) := dga
         obtain ⟨ad366, e366, hx366_0, hx366_1, hx366_2, hx366_3, hx366_4, hx366_5⟩ := at_T62 (Kd.R_reads' HO_6.out).2.2 x11_2 p366 q366; cases e366; replace p366 := eq_true p366; replace q366 := eq_true q366
         have p368 : 0 ≤ (x11_2 : Int) := dga
         have q368 : x11_2 < (t354.length : Int) := dga
         obtain ⟨ad368, e368, hx368_0, hx368_1, hx368_2, hx368_3, hx368_4, hx368_5⟩ := at_T62 (Kd.R_reads' HO_6.out).2.2 x11_2 p368 q368; obtain rfl : ad366 = ad368 := (by injection e368); replace p368 := eq_true p368; replace q368 := eq_true q368; obtain ⟨Ao8_, co8_, eo8_⟩ := Kd.R_slice HO_8.out
         (first | subst eo8_ | (injection eo8_ with f1_ f2_ f3_; have f4_ := f1_.symm; have f5_ := f3_.symm; clear f1_ f2_ f3_; subst f4_; subst f5_))
         have p369 : 0 ≤ (x11_2 : Int) := dga
         have q369 : x11_2 < (t359.length : Int) := dga
         obtain ⟨ad369, e369, hx369_0, hx369_1, hx369_2, hx369_3, hx369_4, hx369_5⟩ := at_T62 (Kd.R_reads' HO_8.out).2.2 x11_2 p369 q369; cases e369; replace p369 := eq_true p369; replace q369 := eq_true q369; refine start_ (n := 17) (S := fun w' => w'.cell? (ad366.add ((x11_2).toNat * 6)) = some (.int .i64 ((rd_T62 t354 x11_2).f0)) ∧ w'.cell? ⟨(ad366.add ((x11_2).toNat * 6)).block, (ad366.add ((x11_2).toNat * 6)).off + 1, none⟩ = some (.int .i64 ((rd_T62 t354 x11_2).f1)) ∧ w'.cell? ⟨(ad366.add ((x11_2).toNat * 6)).block, (ad366.add ((x11_2).toNat * 6)).off + 2, none⟩ = some (.int .i64 ((rd_T62 t354 x11_2).f2)) ∧ w'.cell? ⟨(ad366.add ((x11_2).toNat * 6)).block, (ad366.add ((x11_2).toNat * 6)).off + 3, none⟩ = some (.int .i64 ((rd_T62 t354 x11_2).f3)) ∧ w'.cell? ⟨(ad366.add ((x11_2).toNat * 6)).block, (ad366.add ((x11_2).toNat * 6)).off + 4, none⟩ = some (.bool ((rd_T62 t354 x11_2).f4)) ∧ w'.cell? ⟨(ad366.add ((x11_2).toNat * 6)).block, (ad366.add ((x11_2).toNat * 6)).off + 5, none⟩ = some (.string ((rd_T62 t354 x11_2).f5)) ∧ w'.cell? (ad366.add ((x11_2).toNat * 6)) = some (.int .i64 ((rd_T62 t354 x11_2).f0)) ∧ w'.cell? ⟨(ad366.add ((x11_2).toNat * 6)).block, (ad366.add ((x11_2).toNat * 6)).off + 1, none⟩ = some (.int .i64 ((rd_T62 t354 x11_2).f1)) ∧ w'.cell? ⟨(ad366.add ((x11_2).toNat * 6)).block, (ad366.add ((x11_2).toNat * 6)).off + 2, none⟩ = some (.int .i64 ((rd_T62 t354 x11_2).f2)) ∧ w'.cell? ⟨(ad366.add ((x11_2).toNat * 6)).block, (ad366.add ((x11_2).toNat * 6)).off + 3, none⟩ = some (.int .i64 ((rd_T62 t354 x11_2).f3)) ∧ w'.cell? ⟨(ad366.add ((x11_2).toNat * 6)).block, (ad366.add ((x11_2).toNat * 6)).off + 4, none⟩ = some (.bool ((rd_T62 t354 x11_2).f4)) ∧ w'.cell? ⟨(ad366.add ((x11_2).toNat * 6)).block, (ad366.add ((x11_2).toNat * 6)).off + 5, none⟩ = some (.string ((rd_T62 t354 x11_2).f5)) ∧ w'.cell? (ad369.add ((x11_2).toNat * 6)) = some (.int .i64 ((rd_T62 t359 x11_2).f0)) ∧ w'.cell? ⟨(ad369.add ((x11_2).toNat * 6)).block, (ad369.add ((x11_2).toNat * 6)).off + 1, none⟩ = some (.int .i64 ((rd_T62 t359 x11_2).f1)) ∧ w'.cell? ⟨(ad369.add ((x11_2).toNat * 6)).block, (ad369.add ((x11_2).toNat * 6)).off + 2, none⟩ = some (.int .i64 ((rd_T62 t359 x11_2).f2)) ∧ w'.cell? ⟨(ad369.add ((x11_2).toNat * 6)).block, (ad369.add ((x11_2).toNat * 6)).off + 3, none⟩ = some (.int .i64 ((rd_T62 t359 x11_2).f3)) ∧ w'.cell? ⟨(ad369.add ((x11_2).toNat * 6)).block, (ad369.add ((x11_2).toNat * 6)).off + 4, none⟩ = some (.bool ((rd_T62 t359 x11_2).f4)) ∧ w'.cell? ⟨(ad369.add ((x11_2).toNat * 6)).block, (ad369.add ((x11_2).toNat * 6)).off + 5, none⟩ = some (.string ((rd_T62 t359 x11_2).f5))) (ds := []) #[false, false, false, false, false, false, false, false, false, false, false, false, false, false, false, false, false] gk_ rfl rfl ⟨hx366_0, hx366_1, hx366_2, hx366_3, hx366_4, hx366_5, hx368_0, hx368_1, hx368_2, hx368_3, hx368_4, hx368_5, hx369_0, hx369_1, hx369_2, hx369_3, hx369_4, hx369_5⟩ (fun hHeld => ?_); refine with_tabW laws_FnParts.tab14 laws_FnParts.bits14 (fun HT_ HW_ => ?_); generalize wr.drew = w35 at HO_4 HO_6 HO_8 HO_10 BK348 HB hx366_0 hx366_1 hx366_2 hx366_3 hx366_4 hx366_5 hx368_0 hx368_1 hx368_2 hx368_3 hx368_4 hx368_5 hx369_0 hx369_1 hx369_2 hx369_3 hx369_4 hx369_5 hHeld ⊢; refine pu_ 0 72 HT_ ?_; refine pu_ 1 73 HT_ ?_; refine pu_ 2 74 HT_ ?_; refine ta_ 3 75 HT_ HW_ hHeld ?_; refine one_ (i := 4) (N := some 76) #[true, true, true, true, true, false, false, false, false, false, false, false, false, false, false, false, false] rfl rfl (one_of HT_.out gk_) (by decide) (fun K hK => ?_); refine goes_ Try.func38 gk_ rfl #[.agg #[.int .i64 ((rd_T62 t354 x11_2).f0), .int .i64 ((rd_T62 t354 x11_2).f1), .int .i64 ((rd_T62 t354 x11_2).f2), .int .i64 ((rd_T62 t354 x11_2).f3), .bool ((rd_T62 t354 x11_2).f4), .string ((rd_T62 t354 x11_2).f5)]] (by rfl) rfl rfl gm_ ?_
         with_reducible refine (impl_DgramOk.calls ((rd_T62 t354 x11_2).f0) ((rd_T62 t354 x11_2).f1) ((rd_T62 t354 x11_2).f2) ((rd_T62 t354 x11_2).f3) ((rd_T62 t354 x11_2).f4) ((rd_T62 t354 x11_2).f5) true _ A32.out).mono ?_
         rintro e w36 ⟨rfl, hb⟩; have HS0_ := (hb.cell (World.block_lt_of_cell? _ _ (hHeld.1))).trans (hHeld.1); have HS1_ := (hb.cell (World.block_lt_of_cell? _ _ (hHeld.2.1))).trans (hHeld.2.1); have HS2_ := (hb.cell (World.block_lt_of_cell? _ _ (hHeld.2.2.1))).trans (hHeld.2.2.1); have HS3_ := (hb.cell (World.block_lt_of_cell? _ _ (hHeld.2.2.2.1))).trans (hHeld.2.2.2.1); have HS4_ := (hb.cell (World.block_lt_of_cell? _ _ (hHeld.2.2.2.2.1))).trans (hHeld.2.2.2.2.1); have HS5_ := (hb.cell (World.block_lt_of_cell? _ _ (hHeld.2.2.2.2.2.1))).trans (hHeld.2.2.2.2.2.1); have HS6_ := (hb.cell (World.block_lt_of_cell? _ _ (hHeld.2.2.2.2.2.2.1))).trans (hHeld.2.2.2.2.2.2.1); have HS7_ := (hb.cell (World.block_lt_of_cell? _ _ (hHeld.2.2.2.2.2.2.2.1))).trans (hHeld.2.2.2.2.2.2.2.1); have HS8_ := (hb.cell (World.block_lt_of_cell? _ _ (hHeld.2.2.2.2.2.2.2.2.1))).trans (hHeld.2.2.2.2.2.2.2.2.1); have HS9_ := (hb.cell (World.block_lt_of_cell? _ _ (hHeld.2.2.2.2.2.2.2.2.2.1))).trans (hHeld.2.2.2.2.2.2.2.2.2.1); have HS10_ := (hb.cell (World.block_lt_of_cell? _ _ (hHeld.2.2.2.2.2.2.2.2.2.2.1))).trans (hHeld.2.2.2.2.2.2.2.2.2.2.1); have HS11_ := (hb.cell (World.block_lt_of_cell? _ _ (hHeld.2.2.2.2.2.2.2.2.2.2.2.1))).trans (hHeld.2.2.2.2.2.2.2.2.2.2.2.1); have HS12_ := (hb.cell (World.block_lt_of_cell? _ _ (hHeld.2.2.2.2.2.2.2.2.2.2.2.2.1))).trans (hHeld.2.2.2.2.2.2.2.2.2.2.2.2.1); have HS13_ := (hb.cell (World.block_lt_of_cell? _ _ (hHeld.2.2.2.2.2.2.2.2.2.2.2.2.2.1))).trans (hHeld.2.2.2.2.2.2.2.2.2.2.2.2.2.1); have HS14_ := (hb.cell (World.block_lt_of_cell? _ _ (hHeld.2.2.2.2.2.2.2.2.2.2.2.2.2.2.1))).trans (hHeld.2.2.2.2.2.2.2.2.2.2.2.2.2.2.1); have HS15_ := (hb.cell (World.block_lt_of_cell? _ _ (hHeld.2.2.2.2.2.2.2.2.2.2.2.2.2.2.2.1))).trans (hHeld.2.2.2.2.2.2.2.2.2.2.2.2.2.2.2.1); have HS16_ := (hb.cell (World.block_lt_of_cell? _ _ (hHeld.2.2.2.2.2.2.2.2.2.2.2.2.2.2.2.2.1))).trans (hHeld.2.2.2.2.2.2.2.2.2.2.2.2.2.2.2.2.1); have HS17_ := (hb.cell (World.block_lt_of_cell? _ _ (hHeld.2.2.2.2.2.2.2.2.2.2.2.2.2.2.2.2.2))).trans (hHeld.2.2.2.2.2.2.2.2.2.2.2.2.2.2.2.2.2); refine ⟨_, rfl, ?_⟩; replace HO_4 := am (Kd.R_below (tr HO_4.out) hb); replace HO_6 := am (Kd.R_below (tr HO_6.out) hb); replace HO_8 := am (Kd.R_below (tr HO_8.out) hb); replace HO_10 := am (Kd.S_below (ts HO_10.out) hb); replace BK348 := am (bb BK348.out hb); replace HB := am (below_step (te1 HB.out GE348.out) hb); (try clear hb); (try clear hb2); (try clear hk); (try clear hi); (try clear hl); obtain ⟨Ao37, co37, eo37⟩ := Kd.R_slice HO_8.out
         (first | subst eo37 | (injection eo37 with f1_ f2_ f3_; have f4_ := f1_.symm; have f5_ := f3_.symm; clear f1_ f2_ f3_; subst f4_; subst f5_))
         refine hK.out _ _ ⟨HS0_, HS1_, HS2_, HS3_, HS4_, HS5_, HS6_, HS7_, HS8_, HS9_, HS10_, HS11_, HS12_, HS13_, HS14_, HS15_, HS16_, HS17_⟩ (fun hHeld => ?_); clear hK K; refine norm_ (a' := ?_) ?_ ?_; rotate_left
         ·show Act.put _ (some 76) _ = _; simp only [Act.put, List.setIfInBounds_toArray, List.set_cons_zero, List.set_cons_succ, i64_w, i32_w]; rfl
         refine pu_ 5 77 HT_ ?_; refine pu_ 6 78 HT_ ?_; refine pu_ 7 79 HT_ ?_; refine pu_ 8 80 HT_ ?_; refine pu_ 9 81 HT_ ?_; refine pu_ 11 83 HT_ ?_; refine pu_ 12 84 HT_ ?_; refine pu_ 13 85 HT_ ?_; refine ta_ 10 82 HT_ HW_ hHeld ?_; refine ta_ 14 86 HT_ HW_ hHeld ?_; refine pu_ 15 87 HT_ ?_; refine pu_ 16 88 HT_ ?_; refine done_ (done_of HT_.out gk_) ?_
         try go_wp2
         go_meet
         case rel => exact ⟨_, ((!(((rd_T62 t354 x11_2).f0) == ((rd_T62 t359 x11_2).f0)) || (!(((rd_T62 t354 x11_2).f1) == ((rd_T62 t359 x11_2).f1)) || (!(((rd_T62 t354 x11_2).f2) == ((rd_T62 t359 x11_2).f2)) || (!(((rd_T62 t354 x11_2).f3) == ((rd_T62 t359 x11_2).f3)) || (!(((rd_T62 t354 x11_2).f4) == ((rd_T62 t359 x11_2).f4)) || (!((((rd_T62 t354 x11_2).f5).toList) == (((rd_T62 t359 x11_2).f5).toList))))))))), (be_), H', ⟨B8x27_⟩, ⟨(tr HO_4.out)⟩, ⟨(tr HO_6.out)⟩, ⟨(tr HO_8.out)⟩, ⟨(ts HO_10.out)⟩, ⟨(tb BK348.out)⟩, ⟨(te1 HB.out GE348.out)⟩⟩
        ·replace c33 := Bool.eq_false_iff.mpr c33; subst c33; rw [if_neg (show ¬ (false = true) by decide)] at H
         have H' := am H
         clear H
         try go_wp2
         replace HO_4 := am (Kd.R_drew HO_4.out); replace HO_6 := am (Kd.R_drew HO_6.out); replace HO_8 := am (Kd.R_drew HO_8.out); replace HO_10 := am (Kd.S_drew HO_10.out); replace BK348 := am (blk_drew BK348.out); replace HB := am (below_drew1 HB.out)
         have p366 : 0 ≤ (x11_2 : Int) := dga
         have q366 : x11_2 < (t354.length : Int) := dga
         obtain ⟨ad366, e366, hx366_0, hx366_1, hx366_2, hx366_3, hx366_4, hx366_5⟩ := at_T62 (Kd.R_reads' HO_6.out).2.2 x11_2 p366 q366; cases e366; replace p366 := eq_true p366; replace q366 := eq_true q366; refine start_ (n := 17) (S := fun w' => w'.cell? (ad366.add ((x11_2).toNat * 6)) = some (.int .i64 ((rd_T62 t354 x11_2).f0)) ∧ w'.cell? ⟨(ad366.add ((x11_2).toNat * 6)).block, (ad366.add ((x11_2).toNat * 6)).off + 1, none⟩ = some (.int .i64 ((rd_T62 t354 x11_2).f1)) ∧ w'.cell? ⟨(ad366.add ((x11_2).toNat * 6)).block, (ad366.add ((x11_2).toNat * 6)).off + 2, none⟩ = some (.int .i64 ((rd_T62 t354 x11_2).f2)) ∧ w'.cell? ⟨(ad366.add ((x11_2).toNat * 6)).block, (ad366.add ((x11_2).toNat * 6)).off + 3, none⟩ = some (.int .i64 ((rd_T62 t354 x11_2).f3)) ∧ w'.cell? ⟨(ad366.add ((x11_2).toNat * 6)).block, (ad366.add ((x11_2).toNat * 6)).off + 4, none⟩ = some (.bool ((rd_T62 t354 x11_2).f4)) ∧ w'.cell? ⟨(ad366.add ((x11_2).toNat * 6)).block, (ad366.add ((x11_2).toNat * 6)).off + 5, none⟩ = some (.string ((rd_T62 t354 x11_2).f5))) (ds := []) #[false, false, false, false, false, false, false, false, false, false, false, false, false, false, false, false, false] gk_ rfl rfl ⟨hx366_0, hx366_1, hx366_2, hx366_3, hx366_4, hx366_5⟩ (fun hHeld => ?_); refine with_tabW laws_FnParts.tab14 laws_FnParts.bits14 (fun HT_ HW_ => ?_); generalize wr.drew = w38 at HO_4 HO_6 HO_8 HO_10 BK348 HB hx366_0 hx366_1 hx366_2 hx366_3 hx366_4 hx366_5 hHeld ⊢; refine pu_ 0 72 HT_ ?_; refine pu_ 1 73 HT_ ?_; refine pu_ 2 74 HT_ ?_; refine ta_ 3 75 HT_ HW_ hHeld ?_; refine one_ (i := 4) (N := some 76) #[true, true, true, true, true, false, false, false, false, false, false, false, false, false, false, false, false] rfl rfl (one_of HT_.out gk_) (by decide) (fun K hK => ?_); refine goes_ Try.func38 gk_ rfl #[.agg #[.int .i64 ((rd_T62 t354 x11_2).f0), .int .i64 ((rd_T62 t354 x11_2).f1), .int .i64 ((rd_T62 t354 x11_2).f2), .int .i64 ((rd_T62 t354 x11_2).f3), .bool ((rd_T62 t354 x11_2).f4), .string ((rd_T62 t354 x11_2).f5)]] (by rfl) rfl rfl gm_ ?_
         with_reducible refine (impl_DgramOk.calls ((rd_T62 t354 x11_2).f0) ((rd_T62 t354 x11_2).f1) ((rd_T62 t354 x11_2).f2) ((rd_T62 t354 x11_2).f3) ((rd_T62 t354 x11_2).f4) ((rd_T62 t354 x11_2).f5) false _ A32.out).mono ?_
         rintro e w39 ⟨rfl, hb⟩; have HS0_ := (hb.cell (World.block_lt_of_cell? _ _ (hHeld.1))).trans (hHeld.1); have HS1_ := (hb.cell (World.block_lt_of_cell? _ _ (hHeld.2.1))).trans (hHeld.2.1); have HS2_ := (hb.cell (World.block_lt_of_cell? _ _ (hHeld.2.2.1))).trans (hHeld.2.2.1); have HS3_ := (hb.cell (World.block_lt_of_cell? _ _ (hHeld.2.2.2.1))).trans (hHeld.2.2.2.1); have HS4_ := (hb.cell (World.block_lt_of_cell? _ _ (hHeld.2.2.2.2.1))).trans (hHeld.2.2.2.2.1); have HS5_ := (hb.cell (World.block_lt_of_cell? _ _ (hHeld.2.2.2.2.2))).trans (hHeld.2.2.2.2.2); refine ⟨_, rfl, ?_⟩; replace HO_4 := am (Kd.R_below (tr HO_4.out) hb); replace HO_6 := am (Kd.R_below (tr HO_6.out) hb); replace HO_8 := am (Kd.R_below (tr HO_8.out) hb); replace HO_10 := am (Kd.S_below (ts HO_10.out) hb); replace BK348 := am (bb BK348.out hb); replace HB := am (below_step (te1 HB.out GE348.out) hb); (try clear hb); (try clear hb2); (try clear hk); (try clear hi); (try clear hl); refine hK.out _ _ ⟨HS0_, HS1_, HS2_, HS3_, HS4_, HS5_⟩ (fun hHeld => ?_); clear hK K; refine norm_ (a' := ?_) ?_ ?_; rotate_left
         ·show Act.put _ (some 76) _ = _; simp only [Act.put, List.setIfInBounds_toArray, List.set_cons_zero, List.set_cons_succ, i64_w, i32_w]; rfl
         refine pu_ 5 77 HT_ ?_; refine pu_ 6 78 HT_ ?_; refine of_ 7 79 HT_ ?_; refine of_ 8 80 HT_ ?_; refine of_ 9 81 HT_ ?_; refine of_ 10 82 HT_ ?_; refine of_ 11 83 HT_ ?_; refine of_ 12 84 HT_ ?_; refine of_ 13 85 HT_ ?_; refine of_ 14 86 HT_ ?_; refine of_ 15 87 HT_ ?_; refine pu_ 16 88 HT_ ?_; refine done_ (done_of HT_.out gk_) ?_
         try go_wp2
         go_meet
         case rel => exact ⟨_, (true), (be_), H', ⟨B8x27_⟩, ⟨(tr HO_4.out)⟩, ⟨(tr HO_6.out)⟩, ⟨(tr HO_8.out)⟩, ⟨(ts HO_10.out)⟩, ⟨(tb BK348.out)⟩, ⟨(te1 HB.out GE348.out)⟩⟩
       case rest =>
        clear HC29
        try clear c3
        try clear c6
        try clear c6b0
        try clear c6b1
        try clear c7
        try clear c7b0
        try clear c7b1
        try clear c25
        try clear c28
        try clear c28b0
        try clear hcz13_0
        try clear hcz13_1
        try clear hcz13_2
        try clear hcz13_3
        try clear hcz13_4
        try clear hcz13_5
        try clear hfz13_0
        try clear hfz13_1
        try clear hfz13_2
        try clear hfz13_3
        try clear hfz13_4
        try clear hfz13_5
        try clear hx352_0
        try clear hx353_0
        try clear hx358_0
        try clear p352
        try clear p353
        try clear p358
        try clear q352
        try clear q353
        try clear q358
        obtain ⟨kq, x88_28, rfl, HA, HJ28, HO_4, HO_6, HO_8, HO_10, BK348, HB⟩ := hcut
        cases kq with
        | zero => exact absurd HA.out (by simp [laws_FnParts.j2])
        | succ kj28 =>
         have H := HA.out; clear HA; simp only [laws_FnParts.j2] at H
         by_cases c40 : x88_28 = true
         ·subst c40; rw [if_pos rfl] at H; exact absurd ((Option.some.inj H).trans hr_.out) (by decide)
         replace c40 := Bool.eq_false_iff.mpr c40; subst c40; rw [if_neg (show ¬ (false = true) by decide)] at H
         by_cases c41 : 2 < (t349.length : Int)
         rotate_left
         ·rw [if_neg c41] at H; exact absurd H (by simp)
         rw [if_pos c41] at H
         have c41b0 : decide (2 < (t349.length : Int)) = true := decide_eq_true c41
         have c41b1 : decide (2 < t349.length) = true := decide_eq_true (by omega)
         clear c41
         by_cases c42 : (t354.length : Int) = 0
         ·rw [if_pos c42] at H; exact absurd H (by simp)
         rw [if_neg c42] at H; have c42b0 := beq_eq_false_iff_ne.mpr c42; have c42b1 := bne_iff_ne.mpr c42
         have c42b2 : ¬ (t354 = []) := fun h_ => c42 (by rw [h_]; rfl)
         obtain ⟨ji43, hji43⟩ : ∃ j_ : Int, (Int.tmod (wrap64 (x11_2 + (rd t349 2))) (t354.length : Int)) = j_ := ⟨_, rfl⟩
         replace H : (if 0 ≤ (ji43) then (if (ji43) < (t354.length : Int) then ((impl_JoinBits.f kj28 x10_2 ((rd_T62 t354 (ji43)).f0) ((rd_T62 t354 (ji43)).f1) ((rd_T62 t354 (ji43)).f2) ((rd_T62 t354 (ji43)).f3) ((rd_T62 t354 (ji43)).f4) ((rd_T62 t354 (ji43)).f5) 5).bind fun bt372 => (if (bt372.2.2.2.2.2.2.2 != ((wrap64 (x11_2 + 1)) == (t354.length : Int))) = true then (laws_FnParts.j3 kj28 t349 t354 t359 x11_2 bt372.1 bt372.2.2.2.2.2.2.2 true t342 t343 t344 t345 t346 t347) else (if bt372.2.2.2.2.2.2.2 = true then (laws_FnParts.j3 kj28 t349 t354 t359 x11_2 bt372.1 bt372.2.2.2.2.2.2.2 (!(bt372.2.1 == t342) || (!(bt372.2.2.1 == t343) || (!(bt372.2.2.2.1 == t344) || (!(bt372.2.2.2.2.1 == t345) || (!(bt372.2.2.2.2.2.1 == t346) || (!(bt372.2.2.2.2.2.2.1.toList == t347.toList))))))) t342 t343 t344 t345 t346 t347) else (laws_FnParts.j3 kj28 t349 t354 t359 x11_2 bt372.1 bt372.2.2.2.2.2.2.2 false t342 t343 t344 t345 t346 t347)))) else (none)) else (none)) = some r := by first | (rw [hji43] at H; exact H) | (simp only [hji43] at H ⊢; exact H)
         by_cases c44 : 0 ≤ (ji43)
         rotate_left
         ·rw [if_neg c44] at H; exact absurd H (by simp)
         rw [if_pos c44] at H
         have c44b0 : decide (0 ≤ (ji43)) = true := decide_eq_true c44
         clear c44
         by_cases c45 : (ji43) < (t354.length : Int)
         rotate_left
         ·rw [if_neg c45] at H; exact absurd H (by simp)
         rw [if_pos c45] at H
         have c45b0 : decide ((ji43) < (t354.length : Int)) = true := decide_eq_true c45
         clear c45; replace H := bsi H; obtain ⟨⟨t372, t375, t376, t377, t378, t379, t380, t381⟩, A46, H⟩ := H; (try dsimp only at H); have HC47 := am H; clear H
         have p370 : 0 ≤ (2 : Int) := (by omega)
         have q370 : 2 < (t349.length : Int) := dga
         obtain ⟨ad370, e370, hx370_0⟩ := Kd.at_int (Kd.R_reads' HO_4.out).2.2 2 p370 q370; obtain rfl : ad352 = ad370 := (by injection e370); (try simp only [show (2 : Int).toNat = 2 from rfl, Nat.reduceMul, Nat.reduceEqDiff, Go.Addr.add, ↓reduceIte] at hx370_0)
         have qi370 : (2 < t349.length) = True := eq_true (by omega)
         (try rw [show ((2 : Int)).toNat = 2 from rfl] at hx370_0); replace p370 := eq_true p370; replace q370 := eq_true q370
         have p371 : 0 ≤ ((ji43) : Int) := dga
         have q371 : (ji43) < (t354.length : Int) := dga
         obtain ⟨ad371, e371, hx371_0, hx371_1, hx371_2, hx371_3, hx371_4, hx371_5⟩ := at_T62 (Kd.R_reads' HO_6.out).2.2 (ji43) p371 q371; cases e371; replace p371 := eq_true p371; replace q371 := eq_true q371; obtain ⟨Ao48, co48, eo48⟩ := Kd.S_slice HO_10.out; subst eo48
         go_upto_region 17 with (first | ((with_reducible refine gate_callee (f := 39) rfl ?_); refine goesL_ (some 102) rfl rfl Try.func39 gk_ rfl #[.slice Ao48 x10_2.length co48, .agg #[.int .i64 ((rd_T62 t354 (ji43)).f0), .int .i64 ((rd_T62 t354 (ji43)).f1), .int .i64 ((rd_T62 t354 (ji43)).f2), .int .i64 ((rd_T62 t354 (ji43)).f3), .bool ((rd_T62 t354 (ji43)).f4), .string ((rd_T62 t354 (ji43)).f5)], .int .i64 5] rfl (by (try simp only [List.map_toArray, List.map_cons, List.map_nil]); first | done | (simp only [hji43]; rfl) | rfl | (simp only [List.length_drop, List.length_take]; rfl)) ?_; (with_reducible refine (impl_JoinBits.calls kj28 _ _ x10_2 ((rd_T62 t354 (ji43)).f0) ((rd_T62 t354 (ji43)).f1) ((rd_T62 t354 (ji43)).f2) ((rd_T62 t354 (ji43)).f3) ((rd_T62 t354 (ji43)).f4) ((rd_T62 t354 (ji43)).f5) 5 t372 t375 t376 t377 t378 t379 t380 t381 _ ?side1 ?side2 A46.out).mono ?_); (case side1 => repeat (first | exact (Kd.S_reads' HO_10.out).2.2 | (with_reducible refine Kd.C_alloc ?_ _) | (with_reducible refine Kd.C_drewN ?_ _) | (with_reducible refine Kd.C_drew ?_))); (case side2 => exact (Kd.S_reads' HO_10.out).2.1); rintro e w49 ⟨v373, rfl, ho0, hb⟩; refine ⟨_, rfl, ?_⟩; replace HO_6 := am (Kd.R_below (tr HO_6.out) hb); replace HO_8 := am (Kd.R_below (tr HO_8.out) hb); have HO374 := am (Kd.S_lower (Kd.S_new' (Kd.S_new' ho0 (Kd.R_lt (tr HO_4.out))) (Kd.S_lt (ts HO_10.out))) (below_size (te1 HB.out GE348.out))); replace HO_4 := am (Kd.R_below (tr HO_4.out) hb); replace HO_10 := am (Kd.S_elder' (ts HO_10.out) (Kd.S_base ho0) hb); replace BK348 := am (bb BK348.out hb); replace HB := am (below_step (te1 HB.out GE348.out) hb); (try clear hb); (try clear hl); (try clear ho0)) | ((with_reducible refine gate_dst (N := 13) rfl ?_); (try (refine gate_guard (by rfl) ?_; dsimp only)); refine bx (N := 13) (cs := #[.int .i64 0, .int .i64 0, .int .i64 0, .int .i64 0, .bool false, .string (⟨#[]⟩ : ByteArray)]) (t := 62) ?_; intro gb382 hg w50 hbox hb; replace HO_4 := am (Kd.R_below (tr HO_4.out) hb); replace HO_6 := am (Kd.R_below (Kd.R_elderB (tr HO_6.out) gb382 (Nat.le_of_eq hg.symm)) hb); replace HO_8 := am (Kd.R_below (Kd.R_elderB (tr HO_8.out) gb382 (Nat.le_of_eq hg.symm)) hb); replace HO_10 := am (Kd.S_below (ts HO_10.out) hb); replace HO374 := am (Kd.S_below (ts HO374.out) hb); have BK382 := am (hbox); have GW382 := am ((bs hg (below_size HB.out))); have GE382 := am ((bs hg (below_size HB.out))); replace HB := am (below_step (te1 HB.out GE348.out) hb); have NB348_382 := am ((nl hg (blk_lt BK348.out))); have NB382_348 := am ((ng hg (blk_lt BK348.out))); replace BK348 := am (bb BK348.out hb); clear hb hbox hg; have hnb51 := NB382_348.out; have hnc51 := NB348_382.out; obtain ⟨hcz52_0, hcz52_1, hcz52_2, hcz52_3, hcz52_4, hcz52_5⟩ := cl6 BK382.out; obtain ⟨hfz52_0, hfz52_1, hfz52_2, hfz52_3, hfz52_4, hfz52_5⟩ := fr6 BK382.out) | ((with_reducible refine gate_store (t := 62) (p := 13) rfl ?_); refine store_event (t := 62) (p := 13) (v := ?vo_w53) (w1 := ((((((w50.setCell ⟨gb382, 0, none⟩ (.int .i64 t375)).setCell ⟨gb382, 1, none⟩ (.int .i64 t376)).setCell ⟨gb382, 2, none⟩ (.int .i64 t377)).setCell ⟨gb382, 3, none⟩ (.int .i64 t378)).setCell ⟨gb382, 4, none⟩ (.bool t379)).setCell ⟨gb382, 5, none⟩ (.string t380))) ?hg ?ho ?hn ?hr ?_; (case ho => rfl); (case hg => rfl); (case hn => rfl); (case hr => exact gs_); intro w53 hw; replace HO_4 : Aside0 (Kd.R (Kd.int .i64) 3 w53 w.heap.size (fun _ => True) (.slice (some ad352) t349.length co16) t349) := ⟨(by rw [hw]; exact (by (with_reducible repeat (first | apply Kd.R_alloc | apply Kd.R_drewN | apply Kd.R_drew)); exact Kd.R_mono (Kd.R_far (p := ⟨gb382, 5, none⟩) (Kd.R_far (p := ⟨gb382, 4, none⟩) (Kd.R_far (p := ⟨gb382, 3, none⟩) (Kd.R_far (p := ⟨gb382, 2, none⟩) (Kd.R_far (p := ⟨gb382, 1, none⟩) (Kd.R_far (p := ⟨gb382, 0, none⟩) (Kd.R_types HO_4.out BK382.out (by decide)) (fun _ hk => hk.2) (.int .i64 t375)) (fun _ hk => hk.2) (.int .i64 t376)) (fun _ hk => hk.2) (.int .i64 t377)) (fun _ hk => hk.2) (.int .i64 t378)) (fun _ hk => hk.2) (.bool t379)) (fun _ hk => hk.2) (.string t380)) (fun _ hk => trivial)))⟩; replace HO_6 : Aside0 (Kd.R k62 62 w53 w.heap.size (fun k_ => some k_ ≠ (v360 : Value).ownBlock ∧ k_ ≠ gb348 ∧ k_ ≠ gb382) (.slice (some ad371) t354.length co30) t354) := ⟨(by rw [hw]; exact (by (with_reducible repeat (first | apply Kd.R_alloc | apply Kd.R_drewN | apply Kd.R_drew)); exact Kd.R_mono (Kd.R_far (p := ⟨gb382, 5, none⟩) (Kd.R_far (p := ⟨gb382, 4, none⟩) (Kd.R_far (p := ⟨gb382, 3, none⟩) (Kd.R_far (p := ⟨gb382, 2, none⟩) (Kd.R_far (p := ⟨gb382, 1, none⟩) (Kd.R_far (p := ⟨gb382, 0, none⟩) (Kd.R_mono HO_6.out (fun k_ hk => (⟨hk, hk.2⟩ : _ ∧ k_ ≠ gb382))) (fun _ hk => hk.2) (.int .i64 t375)) (fun _ hk => hk.2) (.int .i64 t376)) (fun _ hk => hk.2) (.int .i64 t377)) (fun _ hk => hk.2) (.int .i64 t378)) (fun _ hk => hk.2) (.bool t379)) (fun _ hk => hk.2) (.string t380)) (fun _ hk => ⟨hk.1.1.1, ⟨hk.1.1.2, hk.1.2⟩⟩)))⟩; replace HO_8 : Aside0 (Kd.R k62 62 w53 w.heap.size (fun k_ => some k_ ≠ (.slice (some ad371) t354.length co30 : Value).ownBlock ∧ k_ ≠ gb348 ∧ k_ ≠ gb382) v360 t359) := ⟨(by rw [hw]; exact (by (with_reducible repeat (first | apply Kd.R_alloc | apply Kd.R_drewN | apply Kd.R_drew)); exact Kd.R_mono (Kd.R_far (p := ⟨gb382, 5, none⟩) (Kd.R_far (p := ⟨gb382, 4, none⟩) (Kd.R_far (p := ⟨gb382, 3, none⟩) (Kd.R_far (p := ⟨gb382, 2, none⟩) (Kd.R_far (p := ⟨gb382, 1, none⟩) (Kd.R_far (p := ⟨gb382, 0, none⟩) (Kd.R_mono HO_8.out (fun k_ hk => (⟨hk, hk.2⟩ : _ ∧ k_ ≠ gb382))) (fun _ hk => hk.2) (.int .i64 t375)) (fun _ hk => hk.2) (.int .i64 t376)) (fun _ hk => hk.2) (.int .i64 t377)) (fun _ hk => hk.2) (.int .i64 t378)) (fun _ hk => hk.2) (.bool t379)) (fun _ hk => hk.2) (.string t380)) (fun _ hk => ⟨hk.1.1.1, ⟨hk.1.1.2, hk.1.2⟩⟩)))⟩; replace HO_10 : Aside0 (Kd.S k82 82 w53 w.heap.size (fun k_ => some k_ ≠ (.slice (some ad352) t349.length co16 : Value).ownBlock ∧ some k_ ≠ (v373 : Value).ownBlock) (.slice Ao48 x10_2.length co48) x10_2) := ⟨(by rw [hw]; exact (by (with_reducible repeat (first | apply Kd.S_alloc | apply Kd.S_drewN | apply Kd.S_drew)); exact Kd.S_mono (Kd.S_far (p := ⟨gb382, 5, none⟩) (Kd.S_far (p := ⟨gb382, 4, none⟩) (Kd.S_far (p := ⟨gb382, 3, none⟩) (Kd.S_far (p := ⟨gb382, 2, none⟩) (Kd.S_far (p := ⟨gb382, 1, none⟩) (Kd.S_far (p := ⟨gb382, 0, none⟩) (Kd.S_types HO_10.out BK382.out (by decide)) (fun _ hk => hk.2) (.int .i64 t375)) (fun _ hk => hk.2) (.int .i64 t376)) (fun _ hk => hk.2) (.int .i64 t377)) (fun _ hk => hk.2) (.int .i64 t378)) (fun _ hk => hk.2) (.bool t379)) (fun _ hk => hk.2) (.string t380)) (fun _ hk => ⟨hk.1.1, hk.1.2⟩)))⟩; replace HO374 : Aside0 (Kd.S k82 82 w53 w.heap.size (fun k_ => some k_ ≠ (.slice (some ad352) t349.length co16 : Value).ownBlock ∧ some k_ ≠ (.slice Ao48 x10_2.length co48 : Value).ownBlock) v373 t372) := ⟨(by rw [hw]; exact (by (with_reducible repeat (first | apply Kd.S_alloc | apply Kd.S_drewN | apply Kd.S_drew)); exact Kd.S_mono (Kd.S_far (p := ⟨gb382, 5, none⟩) (Kd.S_far (p := ⟨gb382, 4, none⟩) (Kd.S_far (p := ⟨gb382, 3, none⟩) (Kd.S_far (p := ⟨gb382, 2, none⟩) (Kd.S_far (p := ⟨gb382, 1, none⟩) (Kd.S_far (p := ⟨gb382, 0, none⟩) (Kd.S_types HO374.out BK382.out (by decide)) (fun _ hk => hk.2) (.int .i64 t375)) (fun _ hk => hk.2) (.int .i64 t376)) (fun _ hk => hk.2) (.int .i64 t377)) (fun _ hk => hk.2) (.int .i64 t378)) (fun _ hk => hk.2) (.bool t379)) (fun _ hk => hk.2) (.string t380)) (fun _ hk => ⟨hk.1.1.2, hk.1.2⟩)))⟩; replace BK348 : Aside0 (w53.heap[gb348]? = some (.cells #[.int .i64 t342, .int .i64 t343, .int .i64 t344, .int .i64 t345, .bool t346, .string t347] 62 (0, 0))) := ⟨(wtp1 BK348.out NB348_382.out)⟩; replace BK382 : Aside0 (w53.heap[gb382]? = some (.cells #[.int .i64 t375, .int .i64 t376, .int .i64 t377, .int .i64 t378, .bool t379, .string t380] 62 (0, 0))) := ⟨(wtp0 BK382.out)⟩; replace HB : Aside0 (Below w.heap.size w w53) := ⟨(by rw [hw]; exact (te2 HB.out GE348.out GE382.out))⟩; clear hw))
         (try simp only [Act.put, List.setIfInBounds_toArray, List.set_cons_zero, List.set_cons_succ])
         go_cut [120] (fun v120 wc => ∃ (kq : Nat) (x120_46 : Bool), v120 = .bool x120_46 ∧ Aside0 (laws_FnParts.j3 kq t349 t354 t359 x11_2 t372 t381 x120_46 t342 t343 t344 t345 t346 t347 = some r) ∧ Aside0 (kq ≤ kj28) ∧ Aside0 (Kd.R (Kd.int .i64) 3 wc w.heap.size (fun _ => True) (.slice (some ad352) t349.length co16) t349) ∧ Aside0 (Kd.R k62 62 wc w.heap.size (fun k_ => some k_ ≠ (v360 : Value).ownBlock ∧ k_ ≠ gb348 ∧ k_ ≠ gb382) (.slice (some ad371) t354.length co30) t354) ∧ Aside0 (Kd.R k62 62 wc w.heap.size (fun k_ => some k_ ≠ ((.slice (some ad371) t354.length co30) : Value).ownBlock ∧ k_ ≠ gb348 ∧ k_ ≠ gb382) v360 t359) ∧ Aside0 (Kd.S k82 82 wc w.heap.size (fun k_ => some k_ ≠ ((.slice (some ad352) t349.length co16) : Value).ownBlock) v373 t372) ∧ Aside0 (wc.heap[gb348]? = some (.cells #[.int .i64 t342, .int .i64 t343, .int .i64 t344, .int .i64 t345, .bool t346, .string t347] 62 (0, 0))) ∧ Aside0 (wc.heap[gb382]? = some (.cells #[.int .i64 t375, .int .i64 t376, .int .i64 t377, .int .i64 t378, .bool t379, .string t380] 62 (0, 0))) ∧ Aside0 (Below w.heap.size w wc))
         case first =>
          have H := HC47.out; clear HC47
          by_cases c54 : (t381 != ((wrap64 (x11_2 + 1)) == (t354.length : Int))) = true
          ·rw [if_pos c54] at H
           have c54b0 : (t381 != ((wrap64 (x11_2 + 1)) == (t354.length : Int))) = true := c54
           (try (have c54b1 : decide (t381 = ((wrap64 (x11_2 + 1)) == (t354.length : Int))) = false := by simpa using c54)); (try (have c54b2 : (t381 == ((wrap64 (x11_2 + 1)) == (t354.length : Int))) = false := by simpa using c54)); (try (have c54b3 : ¬ (t381 = ((wrap64 (x11_2 + 1)) == (t354.length : Int))) := by simpa using c54)); clear c54
           (first | rw [c54b0] | (simp only [i64_w, i32_w]; rw [c54b0]) | skip)
           have H' := am H
           clear H
           go_wp2
           go_meet
           case rel => exact ⟨_, (true), (be_), H', ⟨B8x20_⟩, ⟨(tr HO_4.out)⟩, ⟨(tr HO_6.out)⟩, ⟨(tr HO_8.out)⟩, ⟨B8x14_⟩, ⟨(tb BK348.out)⟩, ⟨(tb BK382.out)⟩, ⟨(te2 HB.out GE348.out GE382.out)⟩⟩
          ·rw [if_neg c54] at H
           have c54b0 : (t381 != ((wrap64 (x11_2 + 1)) == (t354.length : Int))) = false := by simpa using c54
           (try (have c54b1 : decide (t381 = ((wrap64 (x11_2 + 1)) == (t354.length : Int))) = true := by simpa using c54)); (try (have c54b2 : (t381 == ((wrap64 (x11_2 + 1)) == (t354.length : Int))) = true := by simpa using c54)); clear c54
           (first | rw [c54b0] | (simp only [i64_w, i32_w]; rw [c54b0]) | skip)
           by_cases c55 : t381 = true
           ·subst c55; rw [if_pos rfl] at H
            have H' := am H
            clear H; have hnb56 := NB382_348.out; have hnc56 := NB348_382.out; obtain ⟨hcz57_0, hcz57_1, hcz57_2, hcz57_3, hcz57_4, hcz57_5⟩ := cl6 BK382.out; obtain ⟨hfz57_0, hfz57_1, hfz57_2, hfz57_3, hfz57_4, hfz57_5⟩ := fr6 BK382.out; obtain ⟨hcz58_0, hcz58_1, hcz58_2, hcz58_3, hcz58_4, hcz58_5⟩ := cl6 BK348.out; obtain ⟨hfz58_0, hfz58_1, hfz58_2, hfz58_3, hfz58_4, hfz58_5⟩ := fr6 BK348.out
            go_wp2
            go_meet
            case rel => exact ⟨_, ((!(t375 == t342) || (!(t376 == t343) || (!(t377 == t344) || (!(t378 == t345) || (!(t379 == t346) || (!(t380.toList == t347.toList)))))))), (be_), H', ⟨B8x20_⟩, ⟨(tr HO_4.out)⟩, ⟨(tr HO_6.out)⟩, ⟨(tr HO_8.out)⟩, ⟨B8x14_⟩, ⟨(tb BK348.out)⟩, ⟨(tb BK382.out)⟩, ⟨(te2 HB.out GE348.out GE382.out)⟩⟩
           ·replace c55 := Bool.eq_false_iff.mpr c55; subst c55; rw [if_neg (show ¬ (false = true) by decide)] at H
            have H' := am H
            clear H
            go_wp2
            go_meet
            case rel => exact ⟨_, (false), (be_), H', ⟨B8x20_⟩, ⟨(tr HO_4.out)⟩, ⟨(tr HO_6.out)⟩, ⟨(tr HO_8.out)⟩, ⟨B8x14_⟩, ⟨(tb BK348.out)⟩, ⟨(tb BK382.out)⟩, ⟨(te2 HB.out GE348.out GE382.out)⟩⟩
         case rest =>
          clear HC47
          try clear c3
          try clear c6
          try clear c6b0
          try clear c6b1
          try clear c7
          try clear c7b0
          try clear c7b1
          try clear c25
          try clear c28
          try clear c28b0
          try clear c40
          try clear c41
          try clear c41b0
          try clear c41b1
          try clear c42
          try clear c42b0
          try clear c42b1
          try clear c42b2
          try clear c44
          try clear c44b0
          try clear c45
          try clear c45b0
          try clear hcz13_0
          try clear hcz13_1
          try clear hcz13_2
          try clear hcz13_3
          try clear hcz13_4
          try clear hcz13_5
          try clear hcz52_0
          try clear hcz52_1
          try clear hcz52_2
          try clear hcz52_3
          try clear hcz52_4
          try clear hcz52_5
          try clear hfz13_0
          try clear hfz13_1
          try clear hfz13_2
          try clear hfz13_3
          try clear hfz13_4
          try clear hfz13_5
          try clear hfz52_0
          try clear hfz52_1
          try clear hfz52_2
          try clear hfz52_3
          try clear hfz52_4
          try clear hfz52_5
          try clear hx352_0
          try clear hx353_0
          try clear hx358_0
          try clear hx370_0
          try clear hx371_0
          try clear hx371_1
          try clear hx371_2
          try clear hx371_3
          try clear hx371_4
          try clear hx371_5
          try clear p352
          try clear p353
          try clear p358
          try clear p370
          try clear p371
          try clear q352
          try clear q353
          try clear q358
          try clear q370
          try clear q371
          obtain ⟨kq, x120_46, rfl, HA, HJ46, HO_4, HO_6, HO_8, HO_12, BK348, BK382, HB⟩ := hcut
          cases kq with
          | zero => exact absurd HA.out (by simp [laws_FnParts.j3])
          | succ kj46 =>
           have H := HA.out; clear HA; simp only [laws_FnParts.j3] at H
           by_cases c59 : x120_46 = true
           ·subst c59; rw [if_pos rfl] at H; exact absurd ((Option.some.inj H).trans hr_.out) (by decide)
           replace c59 := Bool.eq_false_iff.mpr c59; subst c59; rw [if_neg (show ¬ (false = true) by decide)] at H
           by_cases c60 : t381 = true
           ·subst c60; rw [if_pos rfl] at H
            have H' := am H
            clear H
            go_wp2
            go_roundg kj46
            case measure => have := HJ9.out; have := HK2.out; have := HJ28.out; have := HJ46.out; omega
            case rel => exact ⟨(t372), (wrap64 (x11_2 + 1)), (be_), H', ⟨B8x25_⟩, ⟨(tr HO_4.out)⟩, ⟨B8x21_⟩, ⟨B8x22_⟩, ⟨(ts HO_12.out)⟩, ⟨(tb BK348.out)⟩, ⟨(te2 HB.out GE348.out GE382.out)⟩⟩
           ·replace c60 := Bool.eq_false_iff.mpr c60; subst c60; rw [if_neg (show ¬ (false = true) by decide)] at H
            by_cases c61 : 2 < (t349.length : Int)
            rotate_left
            ·rw [if_neg c61] at H; exact absurd H (by simp)
            rw [if_pos c61] at H
            have c61b0 : decide (2 < (t349.length : Int)) = true := decide_eq_true c61
            have c61b1 : decide (2 < t349.length) = true := decide_eq_true (by omega)
            clear c61
            by_cases c62 : (t354.length : Int) = 0
            ·rw [if_pos c62] at H; exact absurd H (by simp)
            rw [if_neg c62] at H; have c62b0 := beq_eq_false_iff_ne.mpr c62; have c62b1 := bne_iff_ne.mpr c62
            have c62b2 : ¬ (t354 = []) := fun h_ => c62 (by rw [h_]; rfl)
            skip
            replace H : (if 0 ≤ (ji43) then (if (ji43) < (t354.length : Int) then ((impl_JoinBits.f kj46 t372 ((rd_T62 t354 (ji43)).f0) ((rd_T62 t354 (ji43)).f1) ((rd_T62 t354 (ji43)).f2) ((rd_T62 t354 (ji43)).f3) ((rd_T62 t354 (ji43)).f4) ((rd_T62 t354 (ji43)).f5) 5).bind fun bt385 => (if bt385.2.2.2.2.2.2.2 = true then (some false) else (if (bt385.1.length : Int) = (t372.length : Int) then (laws_FnParts.l0 kj46 t349 t354 t359 t372 (wrap64 (x11_2 + 1)) t342 t343 t344 t345 t346 t347) else (some false)))) else (none)) else (none)) = some r := by first | (rw [hji43] at H; exact H) | (simp only [hji43] at H ⊢; exact H)
            by_cases c64 : 0 ≤ (ji43)
            rotate_left
            ·rw [if_neg c64] at H; exact absurd H (by simp)
            rw [if_pos c64] at H
            have c64b0 : decide (0 ≤ (ji43)) = true := decide_eq_true c64
            clear c64
            by_cases c65 : (ji43) < (t354.length : Int)
            rotate_left
            ·rw [if_neg c65] at H; exact absurd H (by simp)
            rw [if_pos c65] at H
            have c65b0 : decide ((ji43) < (t354.length : Int)) = true := decide_eq_true c65
            clear c65; replace H := bsi H; obtain ⟨⟨t385, t388, t389, t390, t391, t392, t393, t394⟩, A66, H⟩ := H; (try dsimp only at H)
            by_cases c67 : t394 = true
            ·subst c67; rw [if_pos rfl] at H; exact absurd ((Option.some.inj H).trans hr_.out) (by decide)
            replace c67 := Bool.eq_false_iff.mpr c67; subst c67; rw [if_neg (show ¬ (false = true) by decide)] at H
            by_cases c68 : (t385.length : Int) = (t372.length : Int)
            rotate_left
            ·rw [if_neg c68] at H; have c68b0 := beq_eq_false_iff_ne.mpr c68; have c68b1 := bne_iff_ne.mpr c68
             have c68b2 : (t385.length == t372.length) = false := by first | simpa using c68 | (simp at c68 ⊢; omega)
             exact absurd ((Option.some.inj H).trans hr_.out) (by decide)
            rw [if_pos c68] at H; have c68b0 := beq_iff_eq.mpr c68; have c68b1 := bne_eq_false_iff_eq.mpr c68
            have c68b2 : (t385.length == t372.length) = true := by first | simpa using c68 | (simp at c68 ⊢; omega)
            clear c68
            have H' := am H
            clear H
            have p383 : 0 ≤ (2 : Int) := (by omega)
            have q383 : 2 < (t349.length : Int) := dga
            obtain ⟨ad383, e383, hx383_0⟩ := Kd.at_int (Kd.R_reads' HO_4.out).2.2 2 p383 q383; obtain rfl : ad352 = ad383 := (by injection e383); (try simp only [show (2 : Int).toNat = 2 from rfl, Nat.reduceMul, Nat.reduceEqDiff, Go.Addr.add, ↓reduceIte] at hx383_0)
            have qi383 : (2 < t349.length) = True := eq_true (by omega)
            (try rw [show ((2 : Int)).toNat = 2 from rfl] at hx383_0); replace p383 := eq_true p383; replace q383 := eq_true q383
            have p384 : 0 ≤ ((ji43) : Int) := dga
            have q384 : (ji43) < (t354.length : Int) := dga
            obtain ⟨ad384, e384, hx384_0, hx384_1, hx384_2, hx384_3, hx384_4, hx384_5⟩ := at_T62 (Kd.R_reads' HO_6.out).2.2 (ji43) p384 q384; obtain rfl : ad371 = ad384 := (by injection e384); replace p384 := eq_true p384; replace q384 := eq_true q384; obtain ⟨Ao69, co69, eo69⟩ := Kd.S_slice HO_12.out; subst eo69
            go_wp2_with (first | ((with_reducible refine gate_callee (f := 39) rfl ?_); refine goesL_ (some 136) rfl rfl Try.func39 gk_ rfl #[.slice Ao69 t372.length co69, .agg #[.int .i64 ((rd_T62 t354 (ji43)).f0), .int .i64 ((rd_T62 t354 (ji43)).f1), .int .i64 ((rd_T62 t354 (ji43)).f2), .int .i64 ((rd_T62 t354 (ji43)).f3), .bool ((rd_T62 t354 (ji43)).f4), .string ((rd_T62 t354 (ji43)).f5)], .int .i64 5] rfl (by (try simp only [List.map_toArray, List.map_cons, List.map_nil]); first | done | (simp only [hji43]; rfl) | rfl | (simp only [List.length_drop, List.length_take]; rfl)) ?_; (with_reducible refine (impl_JoinBits.calls kj46 _ _ t372 ((rd_T62 t354 (ji43)).f0) ((rd_T62 t354 (ji43)).f1) ((rd_T62 t354 (ji43)).f2) ((rd_T62 t354 (ji43)).f3) ((rd_T62 t354 (ji43)).f4) ((rd_T62 t354 (ji43)).f5) 5 t385 t388 t389 t390 t391 t392 t393 false _ ?side1 ?side2 A66.out).mono ?_); (case side1 => repeat (first | exact (Kd.S_reads' HO_12.out).2.2 | (with_reducible refine Kd.C_alloc ?_ _) | (with_reducible refine Kd.C_drewN ?_ _) | (with_reducible refine Kd.C_drew ?_))); (case side2 => exact (Kd.S_reads' HO_12.out).2.1); rintro e w70 ⟨v386, rfl, ho0, hb⟩; refine ⟨_, rfl, ?_⟩; replace HO_6 := am (Kd.R_below (tr HO_6.out) hb); replace HO_8 := am (Kd.R_below (tr HO_8.out) hb); have HO387 := am (Kd.S_lower (Kd.S_new' (Kd.S_new' ho0 (Kd.R_lt (tr HO_4.out))) (Kd.S_lt (ts HO_12.out))) (below_size (te2 HB.out GE348.out GE382.out))); replace HO_4 := am (Kd.R_below (tr HO_4.out) hb); replace HO_12 := am (Kd.S_elder' (ts HO_12.out) (Kd.S_base ho0) hb); replace BK348 := am (bb BK348.out hb); replace BK382 := am (bb BK382.out hb); replace HB := am (below_step (te2 HB.out GE348.out GE382.out) hb); (try clear hb); (try clear hl); (try clear ho0)) | ((with_reducible refine gate_dst (N := 16) rfl ?_); (try (refine gate_guard (by rfl) ?_; dsimp only)); refine bx (N := 16) (cs := #[.int .i64 0, .int .i64 0, .int .i64 0, .int .i64 0, .bool false, .string (⟨#[]⟩ : ByteArray)]) (t := 62) ?_; intro gb395 hg w71 hbox hb; replace HO_4 := am (Kd.R_below (tr HO_4.out) hb); replace HO_6 := am (Kd.R_below (Kd.R_elderB (tr HO_6.out) gb395 (Nat.le_of_eq hg.symm)) hb); replace HO_8 := am (Kd.R_below (Kd.R_elderB (tr HO_8.out) gb395 (Nat.le_of_eq hg.symm)) hb); replace HO_12 := am (Kd.S_below (ts HO_12.out) hb); replace HO387 := am (Kd.S_below (ts HO387.out) hb); have BK395 := am (hbox); have GW395 := am ((bs hg (below_size HB.out))); have GE395 := am ((bs hg (below_size HB.out))); replace HB := am (below_step (te2 HB.out GE348.out GE382.out) hb); have NB348_395 := am ((nl hg (blk_lt BK348.out))); have NB395_348 := am ((ng hg (blk_lt BK348.out))); replace BK348 := am (bb BK348.out hb); have NB382_395 := am ((nl hg (blk_lt BK382.out))); have NB395_382 := am ((ng hg (blk_lt BK382.out))); replace BK382 := am (bb BK382.out hb); clear hb hbox hg; have hnb72 := NB395_348.out; have hnc72 := NB348_395.out; have hnb73 := NB395_382.out; have hnc73 := NB382_395.out; obtain ⟨hcz74_0, hcz74_1, hcz74_2, hcz74_3, hcz74_4, hcz74_5⟩ := cl6 BK395.out; obtain ⟨hfz74_0, hfz74_1, hfz74_2, hfz74_3, hfz74_4, hfz74_5⟩ := fr6 BK395.out) | ((with_reducible refine gate_store (t := 62) (p := 16) rfl ?_); refine store_event (t := 62) (p := 16) (v := ?vo_w75) (w1 := ((((((w71.setCell ⟨gb395, 0, none⟩ (.int .i64 t388)).setCell ⟨gb395, 1, none⟩ (.int .i64 t389)).setCell ⟨gb395, 2, none⟩ (.int .i64 t390)).setCell ⟨gb395, 3, none⟩ (.int .i64 t391)).setCell ⟨gb395, 4, none⟩ (.bool t392)).setCell ⟨gb395, 5, none⟩ (.string t393))) ?hg ?ho ?hn ?hr ?_; (case ho => rfl); (case hg => rfl); (case hn => rfl); (case hr => exact gs_); intro w75 hw; replace HO_4 : Aside0 (Kd.R (Kd.int .i64) 3 w75 w.heap.size (fun _ => True) (.slice (some ad352) t349.length co16) t349) := ⟨(by rw [hw]; exact (by (with_reducible repeat (first | apply Kd.R_alloc | apply Kd.R_drewN | apply Kd.R_drew)); exact Kd.R_mono (Kd.R_far (p := ⟨gb395, 5, none⟩) (Kd.R_far (p := ⟨gb395, 4, none⟩) (Kd.R_far (p := ⟨gb395, 3, none⟩) (Kd.R_far (p := ⟨gb395, 2, none⟩) (Kd.R_far (p := ⟨gb395, 1, none⟩) (Kd.R_far (p := ⟨gb395, 0, none⟩) (Kd.R_types HO_4.out BK395.out (by decide)) (fun _ hk => hk.2) (.int .i64 t388)) (fun _ hk => hk.2) (.int .i64 t389)) (fun _ hk => hk.2) (.int .i64 t390)) (fun _ hk => hk.2) (.int .i64 t391)) (fun _ hk => hk.2) (.bool t392)) (fun _ hk => hk.2) (.string t393)) (fun _ hk => trivial)))⟩; replace HO_6 : Aside0 (Kd.R k62 62 w75 w.heap.size (fun k_ => some k_ ≠ (v360 : Value).ownBlock ∧ k_ ≠ gb348 ∧ k_ ≠ gb382 ∧ k_ ≠ gb395) (.slice (some ad371) t354.length co30) t354) := ⟨(by rw [hw]; exact (by (with_reducible repeat (first | apply Kd.R_alloc | apply Kd.R_drewN | apply Kd.R_drew)); exact Kd.R_mono (Kd.R_far (p := ⟨gb395, 5, none⟩) (Kd.R_far (p := ⟨gb395, 4, none⟩) (Kd.R_far (p := ⟨gb395, 3, none⟩) (Kd.R_far (p := ⟨gb395, 2, none⟩) (Kd.R_far (p := ⟨gb395, 1, none⟩) (Kd.R_far (p := ⟨gb395, 0, none⟩) (Kd.R_mono HO_6.out (fun k_ hk => (⟨hk, hk.2⟩ : _ ∧ k_ ≠ gb395))) (fun _ hk => hk.2) (.int .i64 t388)) (fun _ hk => hk.2) (.int .i64 t389)) (fun _ hk => hk.2) (.int .i64 t390)) (fun _ hk => hk.2) (.int .i64 t391)) (fun _ hk => hk.2) (.bool t392)) (fun _ hk => hk.2) (.string t393)) (fun _ hk => ⟨hk.1.1.1, ⟨hk.1.1.2.1, ⟨hk.1.1.2.2, hk.1.2⟩⟩⟩)))⟩; replace HO_8 : Aside0 (Kd.R k62 62 w75 w.heap.size (fun k_ => some k_ ≠ (.slice (some ad371) t354.length co30 : Value).ownBlock ∧ k_ ≠ gb348 ∧ k_ ≠ gb382 ∧ k_ ≠ gb395) v360 t359) := ⟨(by rw [hw]; exact (by (with_reducible repeat (first | apply Kd.R_alloc | apply Kd.R_drewN | apply Kd.R_drew)); exact Kd.R_mono (Kd.R_far (p := ⟨gb395, 5, none⟩) (Kd.R_far (p := ⟨gb395, 4, none⟩) (Kd.R_far (p := ⟨gb395, 3, none⟩) (Kd.R_far (p := ⟨gb395, 2, none⟩) (Kd.R_far (p := ⟨gb395, 1, none⟩) (Kd.R_far (p := ⟨gb395, 0, none⟩) (Kd.R_mono HO_8.out (fun k_ hk => (⟨hk, hk.2⟩ : _ ∧ k_ ≠ gb395))) (fun _ hk => hk.2) (.int .i64 t388)) (fun _ hk => hk.2) (.int .i64 t389)) (fun _ hk => hk.2) (.int .i64 t390)) (fun _ hk => hk.2) (.int .i64 t391)) (fun _ hk => hk.2) (.bool t392)) (fun _ hk => hk.2) (.string t393)) (fun _ hk => ⟨hk.1.1.1, ⟨hk.1.1.2.1, ⟨hk.1.1.2.2, hk.1.2⟩⟩⟩)))⟩; replace HO_12 : Aside0 (Kd.S k82 82 w75 w.heap.size (fun k_ => some k_ ≠ (.slice (some ad352) t349.length co16 : Value).ownBlock ∧ some k_ ≠ (v386 : Value).ownBlock) (.slice Ao69 t372.length co69) t372) := ⟨(by rw [hw]; exact (by (with_reducible repeat (first | apply Kd.S_alloc | apply Kd.S_drewN | apply Kd.S_drew)); exact Kd.S_mono (Kd.S_far (p := ⟨gb395, 5, none⟩) (Kd.S_far (p := ⟨gb395, 4, none⟩) (Kd.S_far (p := ⟨gb395, 3, none⟩) (Kd.S_far (p := ⟨gb395, 2, none⟩) (Kd.S_far (p := ⟨gb395, 1, none⟩) (Kd.S_far (p := ⟨gb395, 0, none⟩) (Kd.S_types HO_12.out BK395.out (by decide)) (fun _ hk => hk.2) (.int .i64 t388)) (fun _ hk => hk.2) (.int .i64 t389)) (fun _ hk => hk.2) (.int .i64 t390)) (fun _ hk => hk.2) (.int .i64 t391)) (fun _ hk => hk.2) (.bool t392)) (fun _ hk => hk.2) (.string t393)) (fun _ hk => ⟨hk.1.1, hk.1.2⟩)))⟩; replace HO387 : Aside0 (Kd.S k82 82 w75 w.heap.size (fun k_ => some k_ ≠ (.slice (some ad352) t349.length co16 : Value).ownBlock ∧ some k_ ≠ (.slice Ao69 t372.length co69 : Value).ownBlock) v386 t385) := ⟨(by rw [hw]; exact (by (with_reducible repeat (first | apply Kd.S_alloc | apply Kd.S_drewN | apply Kd.S_drew)); exact Kd.S_mono (Kd.S_far (p := ⟨gb395, 5, none⟩) (Kd.S_far (p := ⟨gb395, 4, none⟩) (Kd.S_far (p := ⟨gb395, 3, none⟩) (Kd.S_far (p := ⟨gb395, 2, none⟩) (Kd.S_far (p := ⟨gb395, 1, none⟩) (Kd.S_far (p := ⟨gb395, 0, none⟩) (Kd.S_types HO387.out BK395.out (by decide)) (fun _ hk => hk.2) (.int .i64 t388)) (fun _ hk => hk.2) (.int .i64 t389)) (fun _ hk => hk.2) (.int .i64 t390)) (fun _ hk => hk.2) (.int .i64 t391)) (fun _ hk => hk.2) (.bool t392)) (fun _ hk => hk.2) (.string t393)) (fun _ hk => ⟨hk.1.1.2, hk.1.2⟩)))⟩; replace BK348 : Aside0 (w75.heap[gb348]? = some (.cells #[.int .i64 t342, .int .i64 t343, .int .i64 t344, .int .i64 t345, .bool t346, .string t347] 62 (0, 0))) := ⟨(wtp1 BK348.out NB348_395.out)⟩; replace BK382 : Aside0 (w75.heap[gb382]? = some (.cells #[.int .i64 t375, .int .i64 t376, .int .i64 t377, .int .i64 t378, .bool t379, .string t380] 62 (0, 0))) := ⟨(wtp1 BK382.out NB382_395.out)⟩; replace BK395 : Aside0 (w75.heap[gb395]? = some (.cells #[.int .i64 t388, .int .i64 t389, .int .i64 t390, .int .i64 t391, .bool t392, .string t393] 62 (0, 0))) := ⟨(wtp0 BK395.out)⟩; replace HB : Aside0 (Below w.heap.size w w75) := ⟨(by rw [hw]; exact (te3 HB.out GE348.out GE382.out GE395.out))⟩; clear hw; obtain ⟨Ao76, co76, eo76⟩ := Kd.S_slice HO387.out; subst eo76))
            go_roundg kj46
            case measure => have := HJ9.out; have := HK2.out; have := HJ28.out; have := HJ46.out; omega
            case rel => exact ⟨(t372), (wrap64 (x11_2 + 1)), (be_), H', ⟨B8x25_⟩, ⟨(tr HO_4.out)⟩, ⟨B8x21_⟩, ⟨B8x22_⟩, ⟨(by (with_reducible repeat (first | apply Kd.S_alloc | apply Kd.S_drewN | apply Kd.S_drew)); exact Kd.S_mono HO_12.out (fun _ hk => hk.1))⟩, ⟨(tb BK348.out)⟩, ⟨(te3 HB.out GE348.out GE382.out GE395.out)⟩⟩
      ·rw [if_neg c28] at H
       have c28b0 : decide (x11_2 < (t354.length : Int)) = false := decide_eq_false c28
       clear c28; obtain rfl := Option.some.inj H; obtain ⟨Ao77, co77, eo77⟩ := Kd.R_slice HO_6.out; subst eo77; obtain ⟨Ao78, co78, eo78⟩ := Kd.S_slice HO_10.out; subst eo78
       go_wp2
       go_ret; exact ⟨B8x24_, (te1 HB.out GE348.out)⟩

/-- THE ONE PURE STATEMENT of laws_FnParts: yours. -/
def laws_FnParts.Pure : Prop := ∀ (l0 : List Int), l0.length ≤ maxLen → l0.length * 1 ≤ 140737488351232 → (∀ x ∈ l0, (Lit.int .u8 x).wf = true) → ∃ k, laws_FnParts.f k l0 = some true
theorem laws_FnParts.walk (P : laws_FnParts.Pure) (a0 : Option Addr) (len0 cap0 : Nat) (z0 : List Int) (w : World) (w0 : (a0 = none ∧ len0 = 0 ∧ cap0 = 0 ∧ z0 = []) ∨ ∃ x, a0 = some x ∧ len0 ≤ cap0 ∧ cap0 ≤ maxLen ∧ z0.length = cap0 ∧ (∀ i, i < z0.length → w.cell? (x.add i) = some (.int .u8 (z0.getD i 0))) ∧ ∀ n ∈ z0, (Lit.int .u8 n).wf = true) (y0 : len0 * 1 ≤ 140737488351232) :
  Calls Try.prog 6 #[.slice a0 len0 cap0] w fun e w' => e = .returned (.bool true) ∧ Below w.heap.size w w' := by
 obtain ⟨l0, rfl, hr0, hm0, hw0, hc0⟩ := ReadsInt.ofRowC w0
 obtain ⟨k, h⟩ := P l0 hm0 y0 hw0
 refine (laws_FnParts.calls k _ _ l0 true w (Kd.C_of_reads (d := (0 : Int)) (h1 := fun _ => rfl) hr0) hc0 h ⟨rfl⟩).mono ?_
 rintro e w' ⟨rfl, hd⟩
 exact ⟨rfl, hd⟩

end Go.Proofs.Ytmknnoeggkgkgaa.QFnParts
