/- Functions that a law reaches, as functions of Lean, and the walks that show that the calls come to their answers: written by a program of this project out of the translation. No condition. -/
import Derived.Test.YtmknnoeggkgkgaaQFnExactEndsNewx0
import Derived.Test.YtmknnoeggkgkgaaQFnExactEndsNewx3
import Derived.Test.YtmknnoeggkgkgaaVFnExactEndsNewhort4
import Derived.Test.YtmknnoeggkgkgaaVFnExactEndsNewhort3
import Derived.Test.YtmknnoeggkgkgaaVFnExactEndsNewShort2
import Derived.Test.YtmknnoeggkgkgaaVFnExactEndsNewShort
import Derived.Test.YtmknnoeggkgkgaaVFnExactEndsNewhort8
namespace Go.Proofs.Ytmknnoeggkgkgaa.QFnExactEndsNew
open Go.RowKit Go.Proofs.YtmknnoeggkgkgaaW.PrintWords Go.Proofs.YtmknnoeggkgkgaaW.PrintLast Go.Proofs.YtmknnoeggkgkgaaW.PrintMore Go.Proofs.Ytmknnoeggkgkgaa.Short
attribute [local go_sem] max2_int min2_int max_two min_two max_three min_three max_four min_four   -- for this text's walks alone
set_option linter.unusedVariables false
set_option linter.unusedSimpArgs false

theorem B4x4_ {p : Prop} (h : p := by first | rfl | (simp [errW_none, errW_some] <;> rfl) | (simp [*, errW_none, errW_some] <;> rfl)) : p := h
/-! ### laws_eqStreamS: function 82 -/
def laws_eqStreamS.l0 : Nat → List (S39) → List (S39) → Int → Option (Bool)
 | 0, _, _, _ => none
 | k + 1, x0, x1, x5 => if x5 < (x0.length : Int) then (if 0 ≤ x5 then (if x5 < (x1.length : Int) then ((laws_eqStream.f k ((rd_T39 x0 x5).f0) ((rd_T39 x0 x5).f1) ((rd_T39 x0 x5).f2) ((rd_T39 x0 x5).f3) ((rd_T39 x0 x5).f4) ((rd_T39 x0 x5).f5) ((rd_T39 x0 x5).f6) ((rd_T39 x0 x5).f7) ((rd_T39 x0 x5).f8) ((rd_T39 x0 x5).f9) ((rd_T39 x0 x5).f10) ((rd_T39 x0 x5).f11) ((rd_T39 x0 x5).f12) ((rd_T39 x1 x5).f0) ((rd_T39 x1 x5).f1) ((rd_T39 x1 x5).f2) ((rd_T39 x1 x5).f3) ((rd_T39 x1 x5).f4) ((rd_T39 x1 x5).f5) ((rd_T39 x1 x5).f6) ((rd_T39 x1 x5).f7) ((rd_T39 x1 x5).f8) ((rd_T39 x1 x5).f9) ((rd_T39 x1 x5).f10) ((rd_T39 x1 x5).f11) ((rd_T39 x1 x5).f12)).bind fun t214 => (if t214 = true then (laws_eqStreamS.l0 k x0 x1 (wrap64 (x5 + 1))) else (some false))) else (none)) else (none)) else (some true)
def laws_eqStreamS.f (k : Nat) (l0 : List (S39)) (l1 : List (S39)) : Option (Bool) := if (l0.length : Int) = (l1.length : Int) then (laws_eqStreamS.l0 k l0 l1 0) else (some false)
def laws_eqStreamS.T6 : Bool × List (List Nat × List Nat) := (true, [([], []), ([], []), ([0, 1], [0, 1]), ([2], [2]), ([], []), ([], []), ([4, 5], [4, 5]), ([6], [6]), ([3, 7], [3, 7]), ([8], [8])])
def laws_eqStreamS.B6 : List Nat := [0, 0, 3, 7, 0, 0, 48, 112, 255, 511]
theorem laws_eqStreamS.tab6 : rtab .any (opsOf Try.f82 6) = laws_eqStreamS.T6 := by kernel_rfl
theorem laws_eqStreamS.bits6 : waitsOk laws_eqStreamS.T6.2 laws_eqStreamS.B6 = true := by kernel_rfl
set_option maxHeartbeats 8000000 in
set_option maxRecDepth 100000 in
theorem laws_eqStreamS.calls (k : Nat) (A0 : Option Addr) (c0 : Nat) (l0 : List (S39)) (A1 : Option Addr) (c1 : Nat) (l1 : List (S39)) (r : Bool) (w : World) (hr0 : Kd.C k39 w A0 l0.length l0) (hc0 : l0.length ≤ c0) (hr1 : Kd.C k39 w A1 l1.length l1) (hc1 : l1.length ≤ c1) (h : laws_eqStreamS.f k l0 l1 = some r) :
  Calls Try.prog 82 #[.slice A0 l0.length c0, .slice A1 l1.length c1] w fun e w' => e = .returned (.bool r) ∧ Below w.heap.size w w' := by
 have hu39 := Try.underlying39
 have HR0 := am hr0
 have HC0 := am hc0
 clear hr0 hc0
 have HR1 := am hr1
 have HC1 := am hc1
 clear hr1 hc1
 have HB := am (Below.refl w.heap.size w)
 have HZ1 := h
 clear h
 unfold laws_eqStreamS.f at HZ1
 obtain ⟨c3, HZ2⟩ | ⟨c3, HZ2⟩ := sp HZ1
 ·obtain ⟨c3b0, c3b1⟩ := yE c3
  have c3b2 : (l0.length == l1.length) = true := by first | simpa using c3 | (simp at c3 ⊢; omega)
  clear c3; replace HZ2 := am HZ2; clear HZ1; go_enter Try.func82, Try.ntmps82
  go_wp2
  go_loopg [5] k (fun kq v5 w' => ∃ (x5_1 : Int), v5 = .int .i64 x5_1 ∧ Aside0 (laws_eqStreamS.l0 kq l0 l1 x5_1 = some r) ∧ Aside0 (kq ≤ k) ∧ Aside0 (Below w.heap.size w w'))
  case atStart => exact ⟨(0), (be_), HZ2, ⟨Nat.le_refl _⟩, ⟨(Ae0 HB)⟩⟩
  case round =>
   clear HZ2
   try clear c1
   try clear c3
   try clear c3b0
   try clear c3b1
   try clear c3b2
   obtain ⟨x5_1, rfl, HZ3, HK1, HB⟩ := hrel
   cases gk with
   | zero => exact absurd HZ3.out (by simp [laws_eqStreamS.l0])
   | succ k1 => ?_
   replace HZ3 := HZ3.out; simp only [laws_eqStreamS.l0] at HZ3
   obtain ⟨c4b0, HZ4⟩ | ⟨c4b0, HZ4⟩ := sd HZ3
   ·obtain ⟨c5b0, HZ5⟩ := yd HZ4; obtain ⟨c6b0, HZ6⟩ := yd HZ5; obtain ⟨t214, A7, HZ7⟩ := bsi HZ6; (try dsimp only at HZ7)
    obtain ⟨rfl, HZ8⟩ | ⟨rfl, HZ8⟩ := sb HZ7
    ·replace HZ8 := am HZ8; clear HZ3 HZ4 HZ5 HZ6 HZ7
     try go_wp2
     replace HB := am (below_drew1 HB.out)
     have p212 : 0 ≤ (x5_1 : Int) := dga
     have q212 : x5_1 < (l0.length : Int) := dga
     obtain ⟨ad212, A212_9, c212_9, e212, hx212_0, hx212_1, hx212_2, hx212_3, hx212_4, hx212_5, hx212_6, hx212_7, hx212_8, hx212_9, hx212_10, hx212_11, hx212_12, hl212_9, hi212_9⟩ := at_T39 HR0.out x5_1 p212 q212; have hw212_12 := hx212_12; have hw212_11 := hx212_11; have hw212_10 := hx212_10; have hw212_9 := hx212_9; have hw212_8 := hx212_8; have hw212_7 := hx212_7; have hw212_6 := hx212_6; have hw212_5 := hx212_5; have hw212_4 := hx212_4; have hw212_3 := hx212_3; have hw212_2 := hx212_2; have hw212_1 := hx212_1; have hw212_0 := hx212_0; cases e212; replace hx212_0 := (hbc HB hx212_0).trans hx212_0; replace hx212_1 := (hbc HB hx212_1).trans hx212_1; replace hx212_2 := (hbc HB hx212_2).trans hx212_2; replace hx212_3 := (hbc HB hx212_3).trans hx212_3; replace hx212_4 := (hbc HB hx212_4).trans hx212_4; replace hx212_5 := (hbc HB hx212_5).trans hx212_5; replace hx212_6 := (hbc HB hx212_6).trans hx212_6; replace hx212_7 := (hbc HB hx212_7).trans hx212_7; replace hx212_8 := (hbc HB hx212_8).trans hx212_8; replace hx212_9 := (hbc HB hx212_9).trans hx212_9; replace hx212_10 := (hbc HB hx212_10).trans hx212_10; replace hx212_11 := (hbc HB hx212_11).trans hx212_11; replace hx212_12 := (hbc HB hx212_12).trans hx212_12; have HR212_9 := am hi212_9; have HC212_9 := am hl212_9; clear hi212_9 hl212_9; replace p212 := eq_true p212; replace q212 := eq_true q212
     have p213 : 0 ≤ (x5_1 : Int) := dga
     have q213 : x5_1 < (l1.length : Int) := dga
     obtain ⟨ad213, A213_9, c213_9, e213, hx213_0, hx213_1, hx213_2, hx213_3, hx213_4, hx213_5, hx213_6, hx213_7, hx213_8, hx213_9, hx213_10, hx213_11, hx213_12, hl213_9, hi213_9⟩ := at_T39 HR1.out x5_1 p213 q213; have hw213_12 := hx213_12; have hw213_11 := hx213_11; have hw213_10 := hx213_10; have hw213_9 := hx213_9; have hw213_8 := hx213_8; have hw213_7 := hx213_7; have hw213_6 := hx213_6; have hw213_5 := hx213_5; have hw213_4 := hx213_4; have hw213_3 := hx213_3; have hw213_2 := hx213_2; have hw213_1 := hx213_1; have hw213_0 := hx213_0; cases e213; replace hx213_0 := (hbc HB hx213_0).trans hx213_0; replace hx213_1 := (hbc HB hx213_1).trans hx213_1; replace hx213_2 := (hbc HB hx213_2).trans hx213_2; replace hx213_3 := (hbc HB hx213_3).trans hx213_3; replace hx213_4 := (hbc HB hx213_4).trans hx213_4; replace hx213_5 := (hbc HB hx213_5).trans hx213_5; replace hx213_6 := (hbc HB hx213_6).trans hx213_6; replace hx213_7 := (hbc HB hx213_7).trans hx213_7; replace hx213_8 := (hbc HB hx213_8).trans hx213_8; replace hx213_9 := (hbc HB hx213_9).trans hx213_9; replace hx213_10 := (hbc HB hx213_10).trans hx213_10; replace hx213_11 := (hbc HB hx213_11).trans hx213_11; replace hx213_12 := (hbc HB hx213_12).trans hx213_12; have HR213_9 := am hi213_9; have HC213_9 := am hl213_9; clear hi213_9 hl213_9; replace p213 := eq_true p213; replace q213 := eq_true q213; refine start_ (n := 10) (S := fun w' => w'.cell? (ad212.add ((x5_1).toNat * 13)) = some (.int .i64 ((rd_T39 l0 x5_1).f0)) ∧ w'.cell? ⟨(ad212.add ((x5_1).toNat * 13)).block, (ad212.add ((x5_1).toNat * 13)).off + 1, none⟩ = some (.int .i64 ((rd_T39 l0 x5_1).f1)) ∧ w'.cell? ⟨(ad212.add ((x5_1).toNat * 13)).block, (ad212.add ((x5_1).toNat * 13)).off + 2, none⟩ = some (.int .i64 ((rd_T39 l0 x5_1).f2)) ∧ w'.cell? ⟨(ad212.add ((x5_1).toNat * 13)).block, (ad212.add ((x5_1).toNat * 13)).off + 3, none⟩ = some (.int .i64 ((rd_T39 l0 x5_1).f3)) ∧ w'.cell? ⟨(ad212.add ((x5_1).toNat * 13)).block, (ad212.add ((x5_1).toNat * 13)).off + 4, none⟩ = some (.string ((rd_T39 l0 x5_1).f4)) ∧ w'.cell? ⟨(ad212.add ((x5_1).toNat * 13)).block, (ad212.add ((x5_1).toNat * 13)).off + 5, none⟩ = some (.int .i64 ((rd_T39 l0 x5_1).f5)) ∧ w'.cell? ⟨(ad212.add ((x5_1).toNat * 13)).block, (ad212.add ((x5_1).toNat * 13)).off + 6, none⟩ = some (.int .i64 ((rd_T39 l0 x5_1).f6)) ∧ w'.cell? ⟨(ad212.add ((x5_1).toNat * 13)).block, (ad212.add ((x5_1).toNat * 13)).off + 7, none⟩ = some (.bool ((rd_T39 l0 x5_1).f7)) ∧ w'.cell? ⟨(ad212.add ((x5_1).toNat * 13)).block, (ad212.add ((x5_1).toNat * 13)).off + 8, none⟩ = some (.string ((rd_T39 l0 x5_1).f8)) ∧ w'.cell? ⟨(ad212.add ((x5_1).toNat * 13)).block, (ad212.add ((x5_1).toNat * 13)).off + 9, none⟩ = some (.slice A212_9 ((rd_T39 l0 x5_1).f9).length c212_9) ∧ w'.cell? ⟨(ad212.add ((x5_1).toNat * 13)).block, (ad212.add ((x5_1).toNat * 13)).off + 10, none⟩ = some (.bool ((rd_T39 l0 x5_1).f10)) ∧ w'.cell? ⟨(ad212.add ((x5_1).toNat * 13)).block, (ad212.add ((x5_1).toNat * 13)).off + 11, none⟩ = some (.int .i64 ((rd_T39 l0 x5_1).f11)) ∧ w'.cell? ⟨(ad212.add ((x5_1).toNat * 13)).block, (ad212.add ((x5_1).toNat * 13)).off + 12, none⟩ = some (.int .i64 ((rd_T39 l0 x5_1).f12)) ∧ w'.cell? (ad213.add ((x5_1).toNat * 13)) = some (.int .i64 ((rd_T39 l1 x5_1).f0)) ∧ w'.cell? ⟨(ad213.add ((x5_1).toNat * 13)).block, (ad213.add ((x5_1).toNat * 13)).off + 1, none⟩ = some (.int .i64 ((rd_T39 l1 x5_1).f1)) ∧ w'.cell? ⟨(ad213.add ((x5_1).toNat * 13)).block, (ad213.add ((x5_1).toNat * 13)).off + 2, none⟩ = some (.int .i64 ((rd_T39 l1 x5_1).f2)) ∧ w'.cell? ⟨(ad213.add ((x5_1).toNat * 13)).block, (ad213.add ((x5_1).toNat * 13)).off + 3, none⟩ = some (.int .i64 ((rd_T39 l1 x5_1).f3)) ∧ w'.cell? ⟨(ad213.add ((x5_1).toNat * 13)).block, (ad213.add ((x5_1).toNat * 13)).off + 4, none⟩ = some (.string ((rd_T39 l1 x5_1).f4)) ∧ w'.cell? ⟨(ad213.add ((x5_1).toNat * 13)).block, (ad213.add ((x5_1).toNat * 13)).off + 5, none⟩ = some (.int .i64 ((rd_T39 l1 x5_1).f5)) ∧ w'.cell? ⟨(ad213.add ((x5_1).toNat * 13)).block, (ad213.add ((x5_1).toNat * 13)).off + 6, none⟩ = some (.int .i64 ((rd_T39 l1 x5_1).f6)) ∧ w'.cell? ⟨(ad213.add ((x5_1).toNat * 13)).block, (ad213.add ((x5_1).toNat * 13)).off + 7, none⟩ = some (.bool ((rd_T39 l1 x5_1).f7)) ∧ w'.cell? ⟨(ad213.add ((x5_1).toNat * 13)).block, (ad213.add ((x5_1).toNat * 13)).off + 8, none⟩ = some (.string ((rd_T39 l1 x5_1).f8)) ∧ w'.cell? ⟨(ad213.add ((x5_1).toNat * 13)).block, (ad213.add ((x5_1).toNat * 13)).off + 9, none⟩ = some (.slice A213_9 ((rd_T39 l1 x5_1).f9).length c213_9) ∧ w'.cell? ⟨(ad213.add ((x5_1).toNat * 13)).block, (ad213.add ((x5_1).toNat * 13)).off + 10, none⟩ = some (.bool ((rd_T39 l1 x5_1).f10)) ∧ w'.cell? ⟨(ad213.add ((x5_1).toNat * 13)).block, (ad213.add ((x5_1).toNat * 13)).off + 11, none⟩ = some (.int .i64 ((rd_T39 l1 x5_1).f11)) ∧ w'.cell? ⟨(ad213.add ((x5_1).toNat * 13)).block, (ad213.add ((x5_1).toNat * 13)).off + 12, none⟩ = some (.int .i64 ((rd_T39 l1 x5_1).f12))) (ds := []) #[false, false, false, false, false, false, false, false, false, false] gk_ rfl rfl ⟨((hbc HB hw212_0).trans hw212_0), ((hbc HB hw212_1).trans hw212_1), ((hbc HB hw212_2).trans hw212_2), ((hbc HB hw212_3).trans hw212_3), ((hbc HB hw212_4).trans hw212_4), ((hbc HB hw212_5).trans hw212_5), ((hbc HB hw212_6).trans hw212_6), ((hbc HB hw212_7).trans hw212_7), ((hbc HB hw212_8).trans hw212_8), ((hbc HB hw212_9).trans hw212_9), ((hbc HB hw212_10).trans hw212_10), ((hbc HB hw212_11).trans hw212_11), ((hbc HB hw212_12).trans hw212_12), ((hbc HB hw213_0).trans hw213_0), ((hbc HB hw213_1).trans hw213_1), ((hbc HB hw213_2).trans hw213_2), ((hbc HB hw213_3).trans hw213_3), ((hbc HB hw213_4).trans hw213_4), ((hbc HB hw213_5).trans hw213_5), ((hbc HB hw213_6).trans hw213_6), ((hbc HB hw213_7).trans hw213_7), ((hbc HB hw213_8).trans hw213_8), ((hbc HB hw213_9).trans hw213_9), ((hbc HB hw213_10).trans hw213_10), ((hbc HB hw213_11).trans hw213_11), ((hbc HB hw213_12).trans hw213_12)⟩ (fun hHeld => ?_); refine with_tabW laws_eqStreamS.tab6 laws_eqStreamS.bits6 (fun HT_ HW_ => ?_); generalize wr.drew = w9 at HB HR212_9 HR213_9 hx212_0 hx212_1 hx212_10 hx212_11 hx212_12 hx212_2 hx212_3 hx212_4 hx212_5 hx212_6 hx212_7 hx212_8 hx212_9 hx213_0 hx213_1 hx213_10 hx213_11 hx213_12 hx213_2 hx213_3 hx213_4 hx213_5 hx213_6 hx213_7 hx213_8 hx213_9 hHeld ⊢; refine pu_ 0 17 HT_ ?_; refine pu_ 1 18 HT_ ?_; refine pu_ 2 19 HT_ ?_; refine pu_ 4 21 HT_ ?_; refine pu_ 5 22 HT_ ?_; refine pu_ 6 23 HT_ ?_; refine ta_ 3 20 HT_ HW_ hHeld ?_; refine ta_ 7 24 HT_ HW_ hHeld ?_; refine on_ 8 (some 25) HT_ (fun K hK => ?_); refine gT Try.func22 (laws_eqStream.calls k1 ((rd_T39 l0 x5_1).f0) ((rd_T39 l0 x5_1).f1) ((rd_T39 l0 x5_1).f2) ((rd_T39 l0 x5_1).f3) ((rd_T39 l0 x5_1).f4) ((rd_T39 l0 x5_1).f5) ((rd_T39 l0 x5_1).f6) ((rd_T39 l0 x5_1).f7) ((rd_T39 l0 x5_1).f8) _ _ ((rd_T39 l0 x5_1).f9) ((rd_T39 l0 x5_1).f10) ((rd_T39 l0 x5_1).f11) ((rd_T39 l0 x5_1).f12) ((rd_T39 l1 x5_1).f0) ((rd_T39 l1 x5_1).f1) ((rd_T39 l1 x5_1).f2) ((rd_T39 l1 x5_1).f3) ((rd_T39 l1 x5_1).f4) ((rd_T39 l1 x5_1).f5) ((rd_T39 l1 x5_1).f6) ((rd_T39 l1 x5_1).f7) ((rd_T39 l1 x5_1).f8) _ _ ((rd_T39 l1 x5_1).f9) ((rd_T39 l1 x5_1).f10) ((rd_T39 l1 x5_1).f11) ((rd_T39 l1 x5_1).f12) true _ (tc (Kd.C_below HR212_9.out HB.out)) HC212_9.out (tc (Kd.C_below HR213_9.out HB.out)) HC213_9.out A7.out) ?_; rintro w10 hb; replace HB := hA HB hb; (try clear hb); (try clear hb2); (try clear hk); (try clear hi); (try clear hl); refine hK.out _ _ ⟨((hbc HB hw212_0).trans hw212_0), ((hbc HB hw212_1).trans hw212_1), ((hbc HB hw212_2).trans hw212_2), ((hbc HB hw212_3).trans hw212_3), ((hbc HB hw212_4).trans hw212_4), ((hbc HB hw212_5).trans hw212_5), ((hbc HB hw212_6).trans hw212_6), ((hbc HB hw212_7).trans hw212_7), ((hbc HB hw212_8).trans hw212_8), ((hbc HB hw212_9).trans hw212_9), ((hbc HB hw212_10).trans hw212_10), ((hbc HB hw212_11).trans hw212_11), ((hbc HB hw212_12).trans hw212_12), ((hbc HB hw213_0).trans hw213_0), ((hbc HB hw213_1).trans hw213_1), ((hbc HB hw213_2).trans hw213_2), ((hbc HB hw213_3).trans hw213_3), ((hbc HB hw213_4).trans hw213_4), ((hbc HB hw213_5).trans hw213_5), ((hbc HB hw213_6).trans hw213_6), ((hbc HB hw213_7).trans hw213_7), ((hbc HB hw213_8).trans hw213_8), ((hbc HB hw213_9).trans hw213_9), ((hbc HB hw213_10).trans hw213_10), ((hbc HB hw213_11).trans hw213_11), ((hbc HB hw213_12).trans hw213_12)⟩ (fun hHeld => nm_ ?_); clear hK K; refine pu_ 9 26 HT_ ?_; refine done_ (done_of HT_.out gk_) ?_
     try go_wp2
     go_roundg k1
     case measure => have := HK1.out; omega
     case rel => exact ⟨(wrap64 (x5_1 + 1)), (be_), HZ8, ⟨(by have := HK1.out; omega)⟩, ⟨(Ae0 HB)⟩⟩
    ·obtain rfl := Option.some.inj HZ8; clear HZ8 HZ3 HZ4 HZ5 HZ6 HZ7
     try go_wp2
     replace HB := am (below_drew1 HB.out)
     have p212 : 0 ≤ (x5_1 : Int) := dga
     have q212 : x5_1 < (l0.length : Int) := dga
     obtain ⟨ad212, A212_9, c212_9, e212, hx212_0, hx212_1, hx212_2, hx212_3, hx212_4, hx212_5, hx212_6, hx212_7, hx212_8, hx212_9, hx212_10, hx212_11, hx212_12, hl212_9, hi212_9⟩ := at_T39 HR0.out x5_1 p212 q212; have hw212_12 := hx212_12; have hw212_11 := hx212_11; have hw212_10 := hx212_10; have hw212_9 := hx212_9; have hw212_8 := hx212_8; have hw212_7 := hx212_7; have hw212_6 := hx212_6; have hw212_5 := hx212_5; have hw212_4 := hx212_4; have hw212_3 := hx212_3; have hw212_2 := hx212_2; have hw212_1 := hx212_1; have hw212_0 := hx212_0; cases e212; replace hx212_0 := (hbc HB hx212_0).trans hx212_0; replace hx212_1 := (hbc HB hx212_1).trans hx212_1; replace hx212_2 := (hbc HB hx212_2).trans hx212_2; replace hx212_3 := (hbc HB hx212_3).trans hx212_3; replace hx212_4 := (hbc HB hx212_4).trans hx212_4; replace hx212_5 := (hbc HB hx212_5).trans hx212_5; replace hx212_6 := (hbc HB hx212_6).trans hx212_6; replace hx212_7 := (hbc HB hx212_7).trans hx212_7; replace hx212_8 := (hbc HB hx212_8).trans hx212_8; replace hx212_9 := (hbc HB hx212_9).trans hx212_9; replace hx212_10 := (hbc HB hx212_10).trans hx212_10; replace hx212_11 := (hbc HB hx212_11).trans hx212_11; replace hx212_12 := (hbc HB hx212_12).trans hx212_12; have HR212_9 := am hi212_9; have HC212_9 := am hl212_9; clear hi212_9 hl212_9; replace p212 := eq_true p212; replace q212 := eq_true q212
     have p213 : 0 ≤ (x5_1 : Int) := dga
     have q213 : x5_1 < (l1.length : Int) := dga
     obtain ⟨ad213, A213_9, c213_9, e213, hx213_0, hx213_1, hx213_2, hx213_3, hx213_4, hx213_5, hx213_6, hx213_7, hx213_8, hx213_9, hx213_10, hx213_11, hx213_12, hl213_9, hi213_9⟩ := at_T39 HR1.out x5_1 p213 q213; have hw213_12 := hx213_12; have hw213_11 := hx213_11; have hw213_10 := hx213_10; have hw213_9 := hx213_9; have hw213_8 := hx213_8; have hw213_7 := hx213_7; have hw213_6 := hx213_6; have hw213_5 := hx213_5; have hw213_4 := hx213_4; have hw213_3 := hx213_3; have hw213_2 := hx213_2; have hw213_1 := hx213_1; have hw213_0 := hx213_0; cases e213; replace hx213_0 := (hbc HB hx213_0).trans hx213_0; replace hx213_1 := (hbc HB hx213_1).trans hx213_1; replace hx213_2 := (hbc HB hx213_2).trans hx213_2; replace hx213_3 := (hbc HB hx213_3).trans hx213_3; replace hx213_4 := (hbc HB hx213_4).trans hx213_4; replace hx213_5 := (hbc HB hx213_5).trans hx213_5; replace hx213_6 := (hbc HB hx213_6).trans hx213_6; replace hx213_7 := (hbc HB hx213_7).trans hx213_7; replace hx213_8 := (hbc HB hx213_8).trans hx213_8; replace hx213_9 := (hbc HB hx213_9).trans hx213_9; replace hx213_10 := (hbc HB hx213_10).trans hx213_10; replace hx213_11 := (hbc HB hx213_11).trans hx213_11; replace hx213_12 := (hbc HB hx213_12).trans hx213_12; have HR213_9 := am hi213_9; have HC213_9 := am hl213_9; clear hi213_9 hl213_9; replace p213 := eq_true p213; replace q213 := eq_true q213; refine start_ (n := 10) (S := fun w' => w'.cell? (ad212.add ((x5_1).toNat * 13)) = some (.int .i64 ((rd_T39 l0 x5_1).f0)) ∧ w'.cell? ⟨(ad212.add ((x5_1).toNat * 13)).block, (ad212.add ((x5_1).toNat * 13)).off + 1, none⟩ = some (.int .i64 ((rd_T39 l0 x5_1).f1)) ∧ w'.cell? ⟨(ad212.add ((x5_1).toNat * 13)).block, (ad212.add ((x5_1).toNat * 13)).off + 2, none⟩ = some (.int .i64 ((rd_T39 l0 x5_1).f2)) ∧ w'.cell? ⟨(ad212.add ((x5_1).toNat * 13)).block, (ad212.add ((x5_1).toNat * 13)).off + 3, none⟩ = some (.int .i64 ((rd_T39 l0 x5_1).f3)) ∧ w'.cell? ⟨(ad212.add ((x5_1).toNat * 13)).block, (ad212.add ((x5_1).toNat * 13)).off + 4, none⟩ = some (.string ((rd_T39 l0 x5_1).f4)) ∧ w'.cell? ⟨(ad212.add ((x5_1).toNat * 13)).block, (ad212.add ((x5_1).toNat * 13)).off + 5, none⟩ = some (.int .i64 ((rd_T39 l0 x5_1).f5)) ∧ w'.cell? ⟨(ad212.add ((x5_1).toNat * 13)).block, (ad212.add ((x5_1).toNat * 13)).off + 6, none⟩ = some (.int .i64 ((rd_T39 l0 x5_1).f6)) ∧ w'.cell? ⟨(ad212.add ((x5_1).toNat * 13)).block, (ad212.add ((x5_1).toNat * 13)).off + 7, none⟩ = some (.bool ((rd_T39 l0 x5_1).f7)) ∧ w'.cell? ⟨(ad212.add ((x5_1).toNat * 13)).block, (ad212.add ((x5_1).toNat * 13)).off + 8, none⟩ = some (.string ((rd_T39 l0 x5_1).f8)) ∧ w'.cell? ⟨(ad212.add ((x5_1).toNat * 13)).block, (ad212.add ((x5_1).toNat * 13)).off + 9, none⟩ = some (.slice A212_9 ((rd_T39 l0 x5_1).f9).length c212_9) ∧ w'.cell? ⟨(ad212.add ((x5_1).toNat * 13)).block, (ad212.add ((x5_1).toNat * 13)).off + 10, none⟩ = some (.bool ((rd_T39 l0 x5_1).f10)) ∧ w'.cell? ⟨(ad212.add ((x5_1).toNat * 13)).block, (ad212.add ((x5_1).toNat * 13)).off + 11, none⟩ = some (.int .i64 ((rd_T39 l0 x5_1).f11)) ∧ w'.cell? ⟨(ad212.add ((x5_1).toNat * 13)).block, (ad212.add ((x5_1).toNat * 13)).off + 12, none⟩ = some (.int .i64 ((rd_T39 l0 x5_1).f12)) ∧ w'.cell? (ad213.add ((x5_1).toNat * 13)) = some (.int .i64 ((rd_T39 l1 x5_1).f0)) ∧ w'.cell? ⟨(ad213.add ((x5_1).toNat * 13)).block, (ad213.add ((x5_1).toNat * 13)).off + 1, none⟩ = some (.int .i64 ((rd_T39 l1 x5_1).f1)) ∧ w'.cell? ⟨(ad213.add ((x5_1).toNat * 13)).block, (ad213.add ((x5_1).toNat * 13)).off + 2, none⟩ = some (.int .i64 ((rd_T39 l1 x5_1).f2)) ∧ w'.cell? ⟨(ad213.add ((x5_1).toNat * 13)).block, (ad213.add ((x5_1).toNat * 13)).off + 3, none⟩ = some (.int .i64 ((rd_T39 l1 x5_1).f3)) ∧ w'.cell? ⟨(ad213.add ((x5_1).toNat * 13)).block, (ad213.add ((x5_1).toNat * 13)).off + 4, none⟩ = some (.string ((rd_T39 l1 x5_1).f4)) ∧ w'.cell? ⟨(ad213.add ((x5_1).toNat * 13)).block, (ad213.add ((x5_1).toNat * 13)).off + 5, none⟩ = some (.int .i64 ((rd_T39 l1 x5_1).f5)) ∧ w'.cell? ⟨(ad213.add ((x5_1).toNat * 13)).block, (ad213.add ((x5_1).toNat * 13)).off + 6, none⟩ = some (.int .i64 ((rd_T39 l1 x5_1).f6)) ∧ w'.cell? ⟨(ad213.add ((x5_1).toNat * 13)).block, (ad213.add ((x5_1).toNat * 13)).off + 7, none⟩ = some (.bool ((rd_T39 l1 x5_1).f7)) ∧ w'.cell? ⟨(ad213.add ((x5_1).toNat * 13)).block, (ad213.add ((x5_1).toNat * 13)).off + 8, none⟩ = some (.string ((rd_T39 l1 x5_1).f8)) ∧ w'.cell? ⟨(ad213.add ((x5_1).toNat * 13)).block, (ad213.add ((x5_1).toNat * 13)).off + 9, none⟩ = some (.slice A213_9 ((rd_T39 l1 x5_1).f9).length c213_9) ∧ w'.cell? ⟨(ad213.add ((x5_1).toNat * 13)).block, (ad213.add ((x5_1).toNat * 13)).off + 10, none⟩ = some (.bool ((rd_T39 l1 x5_1).f10)) ∧ w'.cell? ⟨(ad213.add ((x5_1).toNat * 13)).block, (ad213.add ((x5_1).toNat * 13)).off + 11, none⟩ = some (.int .i64 ((rd_T39 l1 x5_1).f11)) ∧ w'.cell? ⟨(ad213.add ((x5_1).toNat * 13)).block, (ad213.add ((x5_1).toNat * 13)).off + 12, none⟩ = some (.int .i64 ((rd_T39 l1 x5_1).f12))) (ds := []) #[false, false, false, false, false, false, false, false, false, false] gk_ rfl rfl ⟨((hbc HB hw212_0).trans hw212_0), ((hbc HB hw212_1).trans hw212_1), ((hbc HB hw212_2).trans hw212_2), ((hbc HB hw212_3).trans hw212_3), ((hbc HB hw212_4).trans hw212_4), ((hbc HB hw212_5).trans hw212_5), ((hbc HB hw212_6).trans hw212_6), ((hbc HB hw212_7).trans hw212_7), ((hbc HB hw212_8).trans hw212_8), ((hbc HB hw212_9).trans hw212_9), ((hbc HB hw212_10).trans hw212_10), ((hbc HB hw212_11).trans hw212_11), ((hbc HB hw212_12).trans hw212_12), ((hbc HB hw213_0).trans hw213_0), ((hbc HB hw213_1).trans hw213_1), ((hbc HB hw213_2).trans hw213_2), ((hbc HB hw213_3).trans hw213_3), ((hbc HB hw213_4).trans hw213_4), ((hbc HB hw213_5).trans hw213_5), ((hbc HB hw213_6).trans hw213_6), ((hbc HB hw213_7).trans hw213_7), ((hbc HB hw213_8).trans hw213_8), ((hbc HB hw213_9).trans hw213_9), ((hbc HB hw213_10).trans hw213_10), ((hbc HB hw213_11).trans hw213_11), ((hbc HB hw213_12).trans hw213_12)⟩ (fun hHeld => ?_); refine with_tabW laws_eqStreamS.tab6 laws_eqStreamS.bits6 (fun HT_ HW_ => ?_); generalize wr.drew = w11 at HB HR212_9 HR213_9 hx212_0 hx212_1 hx212_10 hx212_11 hx212_12 hx212_2 hx212_3 hx212_4 hx212_5 hx212_6 hx212_7 hx212_8 hx212_9 hx213_0 hx213_1 hx213_10 hx213_11 hx213_12 hx213_2 hx213_3 hx213_4 hx213_5 hx213_6 hx213_7 hx213_8 hx213_9 hHeld ⊢; refine pu_ 0 17 HT_ ?_; refine pu_ 1 18 HT_ ?_; refine pu_ 2 19 HT_ ?_; refine pu_ 4 21 HT_ ?_; refine pu_ 5 22 HT_ ?_; refine pu_ 6 23 HT_ ?_; refine ta_ 3 20 HT_ HW_ hHeld ?_; refine ta_ 7 24 HT_ HW_ hHeld ?_; refine on_ 8 (some 25) HT_ (fun K hK => ?_); refine gT Try.func22 (laws_eqStream.calls k1 ((rd_T39 l0 x5_1).f0) ((rd_T39 l0 x5_1).f1) ((rd_T39 l0 x5_1).f2) ((rd_T39 l0 x5_1).f3) ((rd_T39 l0 x5_1).f4) ((rd_T39 l0 x5_1).f5) ((rd_T39 l0 x5_1).f6) ((rd_T39 l0 x5_1).f7) ((rd_T39 l0 x5_1).f8) _ _ ((rd_T39 l0 x5_1).f9) ((rd_T39 l0 x5_1).f10) ((rd_T39 l0 x5_1).f11) ((rd_T39 l0 x5_1).f12) ((rd_T39 l1 x5_1).f0) ((rd_T39 l1 x5_1).f1) ((rd_T39 l1 x5_1).f2) ((rd_T39 l1 x5_1).f3) ((rd_T39 l1 x5_1).f4) ((rd_T39 l1 x5_1).f5) ((rd_T39 l1 x5_1).f6) ((rd_T39 l1 x5_1).f7) ((rd_T39 l1 x5_1).f8) _ _ ((rd_T39 l1 x5_1).f9) ((rd_T39 l1 x5_1).f10) ((rd_T39 l1 x5_1).f11) ((rd_T39 l1 x5_1).f12) false _ (tc (Kd.C_below HR212_9.out HB.out)) HC212_9.out (tc (Kd.C_below HR213_9.out HB.out)) HC213_9.out A7.out) ?_; rintro w12 hb; replace HB := hA HB hb; (try clear hb); (try clear hb2); (try clear hk); (try clear hi); (try clear hl); refine hK.out _ _ ⟨((hbc HB hw212_0).trans hw212_0), ((hbc HB hw212_1).trans hw212_1), ((hbc HB hw212_2).trans hw212_2), ((hbc HB hw212_3).trans hw212_3), ((hbc HB hw212_4).trans hw212_4), ((hbc HB hw212_5).trans hw212_5), ((hbc HB hw212_6).trans hw212_6), ((hbc HB hw212_7).trans hw212_7), ((hbc HB hw212_8).trans hw212_8), ((hbc HB hw212_9).trans hw212_9), ((hbc HB hw212_10).trans hw212_10), ((hbc HB hw212_11).trans hw212_11), ((hbc HB hw212_12).trans hw212_12), ((hbc HB hw213_0).trans hw213_0), ((hbc HB hw213_1).trans hw213_1), ((hbc HB hw213_2).trans hw213_2), ((hbc HB hw213_3).trans hw213_3), ((hbc HB hw213_4).trans hw213_4), ((hbc HB hw213_5).trans hw213_5), ((hbc HB hw213_6).trans hw213_6), ((hbc HB hw213_7).trans hw213_7), ((hbc HB hw213_8).trans hw213_8), ((hbc HB hw213_9).trans hw213_9), ((hbc HB hw213_10).trans hw213_10), ((hbc HB hw213_11).trans hw213_11), ((hbc HB hw213_12).trans hw213_12)⟩ (fun hHeld => nm_ ?_); clear hK K; refine pu_ 9 26 HT_ ?_; refine done_ (done_of HT_.out gk_) ?_
     try go_wp2
     go_ret; exact ⟨B4x4_, (Ae0 HB)⟩
   ·obtain rfl := Option.some.inj HZ4; clear HZ4 HZ3
    go_wp2
    go_ret; exact ⟨B4x4_, (Ae0 HB)⟩
 ·obtain ⟨c3b0, c3b1⟩ := nE c3
  have c3b2 : (l0.length == l1.length) = false := by first | simpa using c3 | (simp at c3 ⊢; omega)
  obtain rfl := Option.some.inj HZ2; clear HZ2 HZ1; go_enter Try.func82, Try.ntmps82
  go_wp2
  go_ret; exact ⟨B4x4_, (Ae0 HB)⟩

/-! ### laws_eqIntS: function 84 -/
def laws_eqIntS.l0 : Nat → List Int → List Int → Int → Option (Bool)
 | 0, _, _, _ => none
 | k + 1, x0, x1, x5 => if x5 < (x0.length : Int) then (if 0 ≤ x5 then (if x5 < (x1.length : Int) then (if (rd x0 x5) = (rd x1 x5) then (laws_eqIntS.l0 k x0 x1 (wrap64 (x5 + 1))) else (some false)) else (none)) else (none)) else (some true)
def laws_eqIntS.f (k : Nat) (l0 : List Int) (l1 : List Int) : Option (Bool) := if (l0.length : Int) = (l1.length : Int) then (laws_eqIntS.l0 k l0 l1 0) else (some false)
set_option maxHeartbeats 8000000 in
set_option maxRecDepth 100000 in
theorem laws_eqIntS.calls (k : Nat) (A0 : Option Addr) (c0 : Nat) (l0 : List Int) (A1 : Option Addr) (c1 : Nat) (l1 : List Int) (r : Bool) (w : World) (hr0 : Kd.C (Kd.int .i64) w A0 l0.length l0) (hc0 : l0.length ≤ c0) (hr1 : Kd.C (Kd.int .i64) w A1 l1.length l1) (hc1 : l1.length ≤ c1) (h : laws_eqIntS.f k l0 l1 = some r) :
  Calls Try.prog 84 #[.slice A0 l0.length c0, .slice A1 l1.length c1] w fun e w' => e = .returned (.bool r) ∧ Drawn0 w w' := by
 have HR0 := am hr0
 have HC0 := am hc0
 clear hr0 hc0
 have HR1 := am hr1
 have HC1 := am hc1
 clear hr1 hc1
 have HZ1 := h
 clear h
 unfold laws_eqIntS.f at HZ1
 obtain ⟨c3, HZ2⟩ | ⟨c3, HZ2⟩ := sp HZ1
 ·obtain ⟨c3b0, c3b1⟩ := yE c3
  have c3b2 : (l0.length == l1.length) = true := by first | simpa using c3 | (simp at c3 ⊢; omega)
  clear c3; replace HZ2 := am HZ2; clear HZ1; go_enter Try.func84, Try.ntmps84
  go_wp2
  repeat (go_quiet (fail); try go_wp2)
  go_loopg [5] k (fun kq v5 w' => ∃ (x5_1 : Int), v5 = .int .i64 x5_1 ∧ Aside0 (laws_eqIntS.l0 kq l0 l1 x5_1 = some r) ∧ Aside0 (kq ≤ k) ∧ Drawn0 w w')
  case atStart => exact ⟨(0), (be_), HZ2, ⟨Nat.le_refl _⟩, gd_⟩
  case round =>
   clear HZ2
   try clear c1
   try clear c3
   try clear c3b0
   try clear c3b1
   try clear c3b2
   obtain ⟨x5_1, rfl, HZ3, HK1, ⟨m1, rfl⟩⟩ := hrel
   cases gk with
   | zero => exact absurd HZ3.out (by simp [laws_eqIntS.l0])
   | succ k1 => ?_
   replace HZ3 := HZ3.out; simp only [laws_eqIntS.l0] at HZ3
   obtain ⟨c4b0, HZ4⟩ | ⟨c4b0, HZ4⟩ := sd HZ3
   ·obtain ⟨c5b0, HZ5⟩ := yd HZ4; obtain ⟨c6b0, HZ6⟩ := yd HZ5
    obtain ⟨c7, HZ7⟩ | ⟨c7, HZ7⟩ := sp HZ6
    ·obtain ⟨c7b0, c7b1⟩ := yE c7; clear c7; replace HZ7 := am HZ7; clear HZ3 HZ4 HZ5 HZ6
     have p215 : 0 ≤ (x5_1 : Int) := dga
     have q215 : x5_1 < (l0.length : Int) := dga
     obtain ⟨ad215, e215, hx215_0⟩ := Kd.at_int HR0.out x5_1 p215 q215; cases e215; replace p215 := eq_true p215; replace q215 := eq_true q215
     have p216 : 0 ≤ (x5_1 : Int) := dga
     have q216 : x5_1 < (l1.length : Int) := dga
     obtain ⟨ad216, e216, hx216_0⟩ := Kd.at_int HR1.out x5_1 p216 q216; cases e216; replace p216 := eq_true p216; replace q216 := eq_true q216
     go_wp2
     repeat (go_quiet (fail); try go_wp2)
     go_roundg k1
     case measure => have := HK1.out; omega
     case rel => exact ⟨(wrap64 (x5_1 + 1)), (be_), HZ7, ⟨(by have := HK1.out; omega)⟩, gd_⟩
    ·obtain ⟨c7b0, c7b1⟩ := nE c7; obtain rfl := Option.some.inj HZ7; clear HZ7 HZ3 HZ4 HZ5 HZ6
     have p215 : 0 ≤ (x5_1 : Int) := dga
     have q215 : x5_1 < (l0.length : Int) := dga
     obtain ⟨ad215, e215, hx215_0⟩ := Kd.at_int HR0.out x5_1 p215 q215; cases e215; replace p215 := eq_true p215; replace q215 := eq_true q215
     have p216 : 0 ≤ (x5_1 : Int) := dga
     have q216 : x5_1 < (l1.length : Int) := dga
     obtain ⟨ad216, e216, hx216_0⟩ := Kd.at_int HR1.out x5_1 p216 q216; cases e216; replace p216 := eq_true p216; replace q216 := eq_true q216
     go_wp2
     repeat (go_quiet (fail); try go_wp2)
     go_ret; exact ⟨gr_, gd_⟩
   ·obtain rfl := Option.some.inj HZ4; clear HZ4 HZ3
    go_wp2
    repeat (go_quiet (fail); try go_wp2)
    go_ret; exact ⟨gr_, gd_⟩
 ·obtain ⟨c3b0, c3b1⟩ := nE c3
  have c3b2 : (l0.length == l1.length) = false := by first | simpa using c3 | (simp at c3 ⊢; omega)
  obtain rfl := Option.some.inj HZ2; clear HZ2 HZ1; go_enter Try.func84, Try.ntmps84
  go_wp2
  repeat (go_quiet (fail); try go_wp2)
  go_ret; exact ⟨gr_, gd_⟩

/-! ### laws_eqBits: function 108 -/
def laws_eqBits.f (k : Nat) (a0_0 : Int) (a0_1 : Int) (l0_2 : List ByteArray) (l0_3 : List Int) (a0_4 : Int) (a0_5 : Int) (a1_0 : Int) (a1_1 : Int) (l1_2 : List ByteArray) (l1_3 : List Int) (a1_4 : Int) (a1_5 : Int) : Option (Bool) := if a0_0 = a1_0 then (if a0_1 = a1_1 then ((laws_eqStringS.f k l0_2 l1_2).bind fun t219 => (if t219 = true then ((laws_eqIntS.f k l0_3 l1_3).bind fun t220 => (if t220 = true then (if a0_4 = a1_4 then (if a0_5 = a1_5 then (some true) else (some false)) else (some false)) else (some false))) else (some false))) else (some false)) else (some false)
set_option maxHeartbeats 8000000 in
set_option maxRecDepth 100000 in
theorem laws_eqBits.calls (k : Nat) (a0_0 : Int) (a0_1 : Int) (A0_2 : Option Addr) (c0_2 : Nat) (l0_2 : List ByteArray) (A0_3 : Option Addr) (c0_3 : Nat) (l0_3 : List Int) (a0_4 : Int) (a0_5 : Int) (a1_0 : Int) (a1_1 : Int) (A1_2 : Option Addr) (c1_2 : Nat) (l1_2 : List ByteArray) (A1_3 : Option Addr) (c1_3 : Nat) (l1_3 : List Int) (a1_4 : Int) (a1_5 : Int) (r : Bool) (w : World) (hr0_2 : Kd.C Kd.string w A0_2 l0_2.length l0_2) (hc0_2 : l0_2.length ≤ c0_2) (hr0_3 : Kd.C (Kd.int .i64) w A0_3 l0_3.length l0_3) (hc0_3 : l0_3.length ≤ c0_3) (hr1_2 : Kd.C Kd.string w A1_2 l1_2.length l1_2) (hc1_2 : l1_2.length ≤ c1_2) (hr1_3 : Kd.C (Kd.int .i64) w A1_3 l1_3.length l1_3) (hc1_3 : l1_3.length ≤ c1_3) (h : laws_eqBits.f k a0_0 a0_1 l0_2 l0_3 a0_4 a0_5 a1_0 a1_1 l1_2 l1_3 a1_4 a1_5 = some r) :
  Calls Try.prog 108 #[.agg #[.int .i64 a0_0, .int .i64 a0_1, .slice A0_2 l0_2.length c0_2, .slice A0_3 l0_3.length c0_3, .int .i64 a0_4, .int .i64 a0_5], .agg #[.int .i64 a1_0, .int .i64 a1_1, .slice A1_2 l1_2.length c1_2, .slice A1_3 l1_3.length c1_3, .int .i64 a1_4, .int .i64 a1_5]] w fun e w' => e = .returned (.bool r) ∧ Below w.heap.size w w' := by
 have hu82 := Try.underlying82
 have HR0_2 := am hr0_2
 have HC0_2 := am hc0_2
 clear hr0_2 hc0_2
 have HR0_3 := am hr0_3
 have HC0_3 := am hc0_3
 clear hr0_3 hc0_3
 have HR1_2 := am hr1_2
 have HC1_2 := am hc1_2
 clear hr1_2 hc1_2
 have HR1_3 := am hr1_3
 have HC1_3 := am hc1_3
 clear hr1_3 hc1_3
 have HB := am (Below.refl w.heap.size w)
 have HZ1 := h
 clear h
 unfold laws_eqBits.f at HZ1
 obtain ⟨c3, HZ2⟩ | ⟨c3, HZ2⟩ := sp HZ1
 ·obtain ⟨c3b0, c3b1⟩ := yE c3; clear c3
  obtain ⟨c4, HZ3⟩ | ⟨c4, HZ3⟩ := sp HZ2
  ·obtain ⟨c4b0, c4b1⟩ := yE c4; clear c4; obtain ⟨t219, A5, HZ4⟩ := bsi HZ3; (try dsimp only at HZ4)
   obtain ⟨rfl, HZ5⟩ | ⟨rfl, HZ5⟩ := sb HZ4
   ·obtain ⟨t220, A7, HZ6⟩ := bsi HZ5; (try dsimp only at HZ6)
    obtain ⟨rfl, HZ7⟩ | ⟨rfl, HZ7⟩ := sb HZ6
    ·obtain ⟨c9, HZ8⟩ | ⟨c9, HZ8⟩ := sp HZ7
     ·obtain ⟨c9b0, c9b1⟩ := yE c9; clear c9
      obtain ⟨c10, HZ9⟩ | ⟨c10, HZ9⟩ := sp HZ8
      ·obtain ⟨c10b0, c10b1⟩ := yE c10; clear c10; obtain rfl := Option.some.inj HZ9; clear HZ9 HZ1 HZ2 HZ3 HZ4 HZ5 HZ6 HZ7 HZ8; go_enter Try.func108, Try.ntmps108
       go_wp2_with (first | ((with_reducible refine gate_dst (N := 2) rfl ?_); refine bx (N := 2) (cs := #[.int .i64 a0_0, .int .i64 a0_1, .slice A0_2 l0_2.length c0_2, .slice A0_3 l0_3.length c0_3, .int .i64 a0_4, .int .i64 a0_5]) (t := 82) ?_; intro gb217 hg w11 hbox hb; have BK217 := am (hbox); have GE217 := gA hg HB; replace HB := hA HB hb; clear hb hbox hg) | ((with_reducible refine gate_dst (N := 3) rfl ?_); refine bx (N := 3) (cs := #[.int .i64 a1_0, .int .i64 a1_1, .slice A1_2 l1_2.length c1_2, .slice A1_3 l1_3.length c1_3, .int .i64 a1_4, .int .i64 a1_5]) (t := 82) ?_; intro gb218 hg w12 hbox hb; have BK218 := am (hbox); have GE218 := gA hg HB; replace HB := am (below_step (Ae1 HB GE217) hb); have NB217_218 := nA hg BK217; have NB218_217 := mA hg BK217; replace BK217 := bA BK217 hb; clear hb hbox hg; have hnb13 := NB217_218.out; have hnc13 := NB218_217.out; obtain ⟨zc217_0, zc217_1, zc217_2, zc217_3, zc217_4, zc217_5, zf217_0, zf217_1, zf217_2, zf217_3, zf217_4, zf217_5⟩ := cf6 BK217; obtain ⟨zc218_0, zc218_1, zc218_2, zc218_3, zc218_4, zc218_5, zf218_0, zf218_1, zf218_2, zf218_3, zf218_4, zf218_5⟩ := cf6 BK218) | ((with_reducible refine gate_callee (f := 15) rfl ?_); refine gM (some 19) Try.func15 (laws_eqStringS.calls k _ _ l0_2 _ _ l1_2 true _ (tc (Kd.C_below HR0_2.out HB.out)) HC0_2.out (tc (Kd.C_below HR1_2.out HB.out)) HC1_2.out A5.out) ?_; rintro w' ⟨nd, rfl⟩) | ((with_reducible refine gate_callee (f := 84) rfl ?_); refine gM (some 25) Try.func84 (laws_eqIntS.calls k _ _ l0_3 _ _ l1_3 true _ (tc (Kd.C_below HR0_3.out (Ae2 HB GE217 GE218))) HC0_3.out (tc (Kd.C_below HR1_3.out (Ae2 HB GE217 GE218))) HC1_3.out A7.out) ?_; rintro w' ⟨nd, rfl⟩))
       go_ret; exact ⟨B4x4_, (Ae2 HB GE217 GE218)⟩
      obtain ⟨c10b0, c10b1⟩ := nE c10; obtain rfl := Option.some.inj HZ9; clear HZ9 HZ1 HZ2 HZ3 HZ4 HZ5 HZ6 HZ7 HZ8; go_enter Try.func108, Try.ntmps108
      go_wp2_with (first | ((with_reducible refine gate_dst (N := 2) rfl ?_); refine bx (N := 2) (cs := #[.int .i64 a0_0, .int .i64 a0_1, .slice A0_2 l0_2.length c0_2, .slice A0_3 l0_3.length c0_3, .int .i64 a0_4, .int .i64 a0_5]) (t := 82) ?_; intro gb217 hg w16 hbox hb; have BK217 := am (hbox); have GE217 := gA hg HB; replace HB := hA HB hb; clear hb hbox hg) | ((with_reducible refine gate_dst (N := 3) rfl ?_); refine bx (N := 3) (cs := #[.int .i64 a1_0, .int .i64 a1_1, .slice A1_2 l1_2.length c1_2, .slice A1_3 l1_3.length c1_3, .int .i64 a1_4, .int .i64 a1_5]) (t := 82) ?_; intro gb218 hg w17 hbox hb; have BK218 := am (hbox); have GE218 := gA hg HB; replace HB := am (below_step (Ae1 HB GE217) hb); have NB217_218 := nA hg BK217; have NB218_217 := mA hg BK217; replace BK217 := bA BK217 hb; clear hb hbox hg; have hnb18 := NB217_218.out; have hnc18 := NB218_217.out; obtain ⟨zc217_0, zc217_1, zc217_2, zc217_3, zc217_4, zc217_5, zf217_0, zf217_1, zf217_2, zf217_3, zf217_4, zf217_5⟩ := cf6 BK217; obtain ⟨zc218_0, zc218_1, zc218_2, zc218_3, zc218_4, zc218_5, zf218_0, zf218_1, zf218_2, zf218_3, zf218_4, zf218_5⟩ := cf6 BK218) | ((with_reducible refine gate_callee (f := 15) rfl ?_); refine gM (some 19) Try.func15 (laws_eqStringS.calls k _ _ l0_2 _ _ l1_2 true _ (tc (Kd.C_below HR0_2.out HB.out)) HC0_2.out (tc (Kd.C_below HR1_2.out HB.out)) HC1_2.out A5.out) ?_; rintro w' ⟨nd, rfl⟩) | ((with_reducible refine gate_callee (f := 84) rfl ?_); refine gM (some 25) Try.func84 (laws_eqIntS.calls k _ _ l0_3 _ _ l1_3 true _ (tc (Kd.C_below HR0_3.out (Ae2 HB GE217 GE218))) HC0_3.out (tc (Kd.C_below HR1_3.out (Ae2 HB GE217 GE218))) HC1_3.out A7.out) ?_; rintro w' ⟨nd, rfl⟩))
      go_ret; exact ⟨B4x4_, (Ae2 HB GE217 GE218)⟩
     obtain ⟨c9b0, c9b1⟩ := nE c9; obtain rfl := Option.some.inj HZ8; clear HZ8 HZ1 HZ2 HZ3 HZ4 HZ5 HZ6 HZ7; go_enter Try.func108, Try.ntmps108
     go_wp2_with (first | ((with_reducible refine gate_dst (N := 2) rfl ?_); refine bx (N := 2) (cs := #[.int .i64 a0_0, .int .i64 a0_1, .slice A0_2 l0_2.length c0_2, .slice A0_3 l0_3.length c0_3, .int .i64 a0_4, .int .i64 a0_5]) (t := 82) ?_; intro gb217 hg w21 hbox hb; have BK217 := am (hbox); have GE217 := gA hg HB; replace HB := hA HB hb; clear hb hbox hg) | ((with_reducible refine gate_dst (N := 3) rfl ?_); refine bx (N := 3) (cs := #[.int .i64 a1_0, .int .i64 a1_1, .slice A1_2 l1_2.length c1_2, .slice A1_3 l1_3.length c1_3, .int .i64 a1_4, .int .i64 a1_5]) (t := 82) ?_; intro gb218 hg w22 hbox hb; have BK218 := am (hbox); have GE218 := gA hg HB; replace HB := am (below_step (Ae1 HB GE217) hb); have NB217_218 := nA hg BK217; have NB218_217 := mA hg BK217; replace BK217 := bA BK217 hb; clear hb hbox hg; have hnb23 := NB217_218.out; have hnc23 := NB218_217.out; obtain ⟨zc217_0, zc217_1, zc217_2, zc217_3, zc217_4, zc217_5, zf217_0, zf217_1, zf217_2, zf217_3, zf217_4, zf217_5⟩ := cf6 BK217; obtain ⟨zc218_0, zc218_1, zc218_2, zc218_3, zc218_4, zc218_5, zf218_0, zf218_1, zf218_2, zf218_3, zf218_4, zf218_5⟩ := cf6 BK218) | ((with_reducible refine gate_callee (f := 15) rfl ?_); refine gM (some 19) Try.func15 (laws_eqStringS.calls k _ _ l0_2 _ _ l1_2 true _ (tc (Kd.C_below HR0_2.out HB.out)) HC0_2.out (tc (Kd.C_below HR1_2.out HB.out)) HC1_2.out A5.out) ?_; rintro w' ⟨nd, rfl⟩) | ((with_reducible refine gate_callee (f := 84) rfl ?_); refine gM (some 25) Try.func84 (laws_eqIntS.calls k _ _ l0_3 _ _ l1_3 true _ (tc (Kd.C_below HR0_3.out (Ae2 HB GE217 GE218))) HC0_3.out (tc (Kd.C_below HR1_3.out (Ae2 HB GE217 GE218))) HC1_3.out A7.out) ?_; rintro w' ⟨nd, rfl⟩))
     go_ret; exact ⟨B4x4_, (Ae2 HB GE217 GE218)⟩
    obtain rfl := Option.some.inj HZ7; clear HZ7 HZ1 HZ2 HZ3 HZ4 HZ5 HZ6; go_enter Try.func108, Try.ntmps108
    go_wp2_with (first | ((with_reducible refine gate_dst (N := 2) rfl ?_); refine bx (N := 2) (cs := #[.int .i64 a0_0, .int .i64 a0_1, .slice A0_2 l0_2.length c0_2, .slice A0_3 l0_3.length c0_3, .int .i64 a0_4, .int .i64 a0_5]) (t := 82) ?_; intro gb217 hg w26 hbox hb; have BK217 := am (hbox); have GE217 := gA hg HB; replace HB := hA HB hb; clear hb hbox hg) | ((with_reducible refine gate_dst (N := 3) rfl ?_); refine bx (N := 3) (cs := #[.int .i64 a1_0, .int .i64 a1_1, .slice A1_2 l1_2.length c1_2, .slice A1_3 l1_3.length c1_3, .int .i64 a1_4, .int .i64 a1_5]) (t := 82) ?_; intro gb218 hg w27 hbox hb; have BK218 := am (hbox); have GE218 := gA hg HB; replace HB := am (below_step (Ae1 HB GE217) hb); have NB217_218 := nA hg BK217; have NB218_217 := mA hg BK217; replace BK217 := bA BK217 hb; clear hb hbox hg; have hnb28 := NB217_218.out; have hnc28 := NB218_217.out; obtain ⟨zc217_0, zc217_1, zc217_2, zc217_3, zc217_4, zc217_5, zf217_0, zf217_1, zf217_2, zf217_3, zf217_4, zf217_5⟩ := cf6 BK217; obtain ⟨zc218_0, zc218_1, zc218_2, zc218_3, zc218_4, zc218_5, zf218_0, zf218_1, zf218_2, zf218_3, zf218_4, zf218_5⟩ := cf6 BK218) | ((with_reducible refine gate_callee (f := 15) rfl ?_); refine gM (some 19) Try.func15 (laws_eqStringS.calls k _ _ l0_2 _ _ l1_2 true _ (tc (Kd.C_below HR0_2.out HB.out)) HC0_2.out (tc (Kd.C_below HR1_2.out HB.out)) HC1_2.out A5.out) ?_; rintro w' ⟨nd, rfl⟩) | ((with_reducible refine gate_callee (f := 84) rfl ?_); refine gM (some 25) Try.func84 (laws_eqIntS.calls k _ _ l0_3 _ _ l1_3 false _ (tc (Kd.C_below HR0_3.out (Ae2 HB GE217 GE218))) HC0_3.out (tc (Kd.C_below HR1_3.out (Ae2 HB GE217 GE218))) HC1_3.out A7.out) ?_; rintro w' ⟨nd, rfl⟩))
    go_ret; exact ⟨B4x4_, (Ae2 HB GE217 GE218)⟩
   obtain rfl := Option.some.inj HZ5; clear HZ5 HZ1 HZ2 HZ3 HZ4; go_enter Try.func108, Try.ntmps108
   go_wp2_with (first | ((with_reducible refine gate_dst (N := 2) rfl ?_); refine bx (N := 2) (cs := #[.int .i64 a0_0, .int .i64 a0_1, .slice A0_2 l0_2.length c0_2, .slice A0_3 l0_3.length c0_3, .int .i64 a0_4, .int .i64 a0_5]) (t := 82) ?_; intro gb217 hg w31 hbox hb; have BK217 := am (hbox); have GE217 := gA hg HB; replace HB := hA HB hb; clear hb hbox hg) | ((with_reducible refine gate_dst (N := 3) rfl ?_); refine bx (N := 3) (cs := #[.int .i64 a1_0, .int .i64 a1_1, .slice A1_2 l1_2.length c1_2, .slice A1_3 l1_3.length c1_3, .int .i64 a1_4, .int .i64 a1_5]) (t := 82) ?_; intro gb218 hg w32 hbox hb; have BK218 := am (hbox); have GE218 := gA hg HB; replace HB := am (below_step (Ae1 HB GE217) hb); have NB217_218 := nA hg BK217; have NB218_217 := mA hg BK217; replace BK217 := bA BK217 hb; clear hb hbox hg; have hnb33 := NB217_218.out; have hnc33 := NB218_217.out; obtain ⟨zc217_0, zc217_1, zc217_2, zc217_3, zc217_4, zc217_5, zf217_0, zf217_1, zf217_2, zf217_3, zf217_4, zf217_5⟩ := cf6 BK217; obtain ⟨zc218_0, zc218_1, zc218_2, zc218_3, zc218_4, zc218_5, zf218_0, zf218_1, zf218_2, zf218_3, zf218_4, zf218_5⟩ := cf6 BK218) | ((with_reducible refine gate_callee (f := 15) rfl ?_); refine gM (some 19) Try.func15 (laws_eqStringS.calls k _ _ l0_2 _ _ l1_2 false _ (tc (Kd.C_below HR0_2.out HB.out)) HC0_2.out (tc (Kd.C_below HR1_2.out HB.out)) HC1_2.out A5.out) ?_; rintro w' ⟨nd, rfl⟩))
   go_ret; exact ⟨B4x4_, (Ae2 HB GE217 GE218)⟩
  obtain ⟨c4b0, c4b1⟩ := nE c4; obtain rfl := Option.some.inj HZ3; clear HZ3 HZ1 HZ2; go_enter Try.func108, Try.ntmps108
  go_wp2_with (first | ((with_reducible refine gate_dst (N := 2) rfl ?_); refine bx (N := 2) (cs := #[.int .i64 a0_0, .int .i64 a0_1, .slice A0_2 l0_2.length c0_2, .slice A0_3 l0_3.length c0_3, .int .i64 a0_4, .int .i64 a0_5]) (t := 82) ?_; intro gb217 hg w36 hbox hb; have BK217 := am (hbox); have GE217 := gA hg HB; replace HB := hA HB hb; clear hb hbox hg) | ((with_reducible refine gate_dst (N := 3) rfl ?_); refine bx (N := 3) (cs := #[.int .i64 a1_0, .int .i64 a1_1, .slice A1_2 l1_2.length c1_2, .slice A1_3 l1_3.length c1_3, .int .i64 a1_4, .int .i64 a1_5]) (t := 82) ?_; intro gb218 hg w37 hbox hb; have BK218 := am (hbox); have GE218 := gA hg HB; replace HB := am (below_step (Ae1 HB GE217) hb); have NB217_218 := nA hg BK217; have NB218_217 := mA hg BK217; replace BK217 := bA BK217 hb; clear hb hbox hg; have hnb38 := NB217_218.out; have hnc38 := NB218_217.out; obtain ⟨zc217_0, zc217_1, zc217_2, zc217_3, zc217_4, zc217_5, zf217_0, zf217_1, zf217_2, zf217_3, zf217_4, zf217_5⟩ := cf6 BK217; obtain ⟨zc218_0, zc218_1, zc218_2, zc218_3, zc218_4, zc218_5, zf218_0, zf218_1, zf218_2, zf218_3, zf218_4, zf218_5⟩ := cf6 BK218))
  go_ret; exact ⟨B4x4_, (Ae2 HB GE217 GE218)⟩
 obtain ⟨c3b0, c3b1⟩ := nE c3
 obtain rfl := Option.some.inj HZ2
 clear HZ2 HZ1
 go_enter Try.func108, Try.ntmps108
 go_wp2_with (first | ((with_reducible refine gate_dst (N := 2) rfl ?_); refine bx (N := 2) (cs := #[.int .i64 a0_0, .int .i64 a0_1, .slice A0_2 l0_2.length c0_2, .slice A0_3 l0_3.length c0_3, .int .i64 a0_4, .int .i64 a0_5]) (t := 82) ?_; intro gb217 hg w41 hbox hb; have BK217 := am (hbox); have GE217 := gA hg HB; replace HB := hA HB hb; clear hb hbox hg) | ((with_reducible refine gate_dst (N := 3) rfl ?_); refine bx (N := 3) (cs := #[.int .i64 a1_0, .int .i64 a1_1, .slice A1_2 l1_2.length c1_2, .slice A1_3 l1_3.length c1_3, .int .i64 a1_4, .int .i64 a1_5]) (t := 82) ?_; intro gb218 hg w42 hbox hb; have BK218 := am (hbox); have GE218 := gA hg HB; replace HB := am (below_step (Ae1 HB GE217) hb); have NB217_218 := nA hg BK217; have NB218_217 := mA hg BK217; replace BK217 := bA BK217 hb; clear hb hbox hg; have hnb43 := NB217_218.out; have hnc43 := NB218_217.out; obtain ⟨zc217_0, zc217_1, zc217_2, zc217_3, zc217_4, zc217_5, zf217_0, zf217_1, zf217_2, zf217_3, zf217_4, zf217_5⟩ := cf6 BK217; obtain ⟨zc218_0, zc218_1, zc218_2, zc218_3, zc218_4, zc218_5, zf218_0, zf218_1, zf218_2, zf218_3, zf218_4, zf218_5⟩ := cf6 BK218))
 go_ret
 exact ⟨B4x4_, (Ae2 HB GE217 GE218)⟩

end Go.Proofs.Ytmknnoeggkgkgaa.QFnExactEndsNew
