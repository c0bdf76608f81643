/- Functions that a law reaches, as functions of Lean, and the walks that show that the calls come to their answers: written by a program of this project out of the translation. No condition. -/
import Derived.Test.YtmknnoeggkgkgaaQFnExactEndsNewx0
import Derived.Test.YtmknnoeggkgkgaaQFnExactEndsNewx4
import Derived.Test.YtmknnoeggkgkgaaVFnExactEndsNewhort4
import Derived.Test.YtmknnoeggkgkgaaVFnExactEndsNewShort2
import Derived.Test.YtmknnoeggkgkgaaVFnExactEndsNewShort
import Derived.Test.YtmknnoeggkgkgaaVFnExactEndsNewhort8
namespace Go.Proofs.Ytmknnoeggkgkgaa.QFnExactEndsNew
open Go.RowKit Go.Proofs.YtmknnoeggkgkgaaW.PrintWords Go.Proofs.YtmknnoeggkgkgaaW.PrintLast Go.Proofs.YtmknnoeggkgkgaaW.PrintMore Go.Proofs.Ytmknnoeggkgkgaa.Short
attribute [local go_sem] max2_int min2_int max_two min_two max_three min_three max_four min_four   -- for this text's walks alone
set_option linter.unusedVariables false
set_option linter.unusedSimpArgs false

theorem B5x2_ {p : Prop} (h : p := by first | rfl | (simp [errW_none, errW_some] <;> rfl) | (simp [*, errW_none, errW_some] <;> rfl)) : p := h
/-! ### laws_eqBitsS: function 44 -/
def laws_eqBitsS.l0 : Nat → List (S82) → List (S82) → Int → Option (Bool)
 | 0, _, _, _ => none
 | k + 1, x0, x1, x5 => if x5 < (x0.length : Int) then (if 0 ≤ x5 then (if x5 < (x1.length : Int) then ((laws_eqBits.f k ((rd_T82 x0 x5).f0) ((rd_T82 x0 x5).f1) ((rd_T82 x0 x5).f2) ((rd_T82 x0 x5).f3) ((rd_T82 x0 x5).f4) ((rd_T82 x0 x5).f5) ((rd_T82 x1 x5).f0) ((rd_T82 x1 x5).f1) ((rd_T82 x1 x5).f2) ((rd_T82 x1 x5).f3) ((rd_T82 x1 x5).f4) ((rd_T82 x1 x5).f5)).bind fun t223 => (if t223 = true then (laws_eqBitsS.l0 k x0 x1 (wrap64 (x5 + 1))) else (some false))) else (none)) else (none)) else (some true)
def laws_eqBitsS.f (k : Nat) (l0 : List (S82)) (l1 : List (S82)) : Option (Bool) := if (l0.length : Int) = (l1.length : Int) then (laws_eqBitsS.l0 k l0 l1 0) else (some false)
def laws_eqBitsS.T6 : Bool × List (List Nat × List Nat) := (true, [([], []), ([], []), ([0, 1], [0, 1]), ([2], [2]), ([], []), ([], []), ([4, 5], [4, 5]), ([6], [6]), ([3, 7], [3, 7]), ([8], [8])])
def laws_eqBitsS.B6 : List Nat := [0, 0, 3, 7, 0, 0, 48, 112, 255, 511]
theorem laws_eqBitsS.tab6 : rtab .any (opsOf Try.f44 6) = laws_eqBitsS.T6 := by kernel_rfl
theorem laws_eqBitsS.bits6 : waitsOk laws_eqBitsS.T6.2 laws_eqBitsS.B6 = true := by kernel_rfl
set_option maxHeartbeats 8000000 in
set_option maxRecDepth 100000 in
theorem laws_eqBitsS.calls (k : Nat) (A0 : Option Addr) (c0 : Nat) (l0 : List (S82)) (A1 : Option Addr) (c1 : Nat) (l1 : List (S82)) (r : Bool) (w : World) (hr0 : Kd.C k82 w A0 l0.length l0) (hc0 : l0.length ≤ c0) (hr1 : Kd.C k82 w A1 l1.length l1) (hc1 : l1.length ≤ c1) (h : laws_eqBitsS.f k l0 l1 = some r) :
  Calls Try.prog 44 #[.slice A0 l0.length c0, .slice A1 l1.length c1] w fun e w' => e = .returned (.bool r) ∧ Below w.heap.size w w' := by
 have hu82 := Try.underlying82
 have HR0 := am hr0
 have HC0 := am hc0
 clear hr0 hc0
 have HR1 := am hr1
 have HC1 := am hc1
 clear hr1 hc1
 have HB := am (Below.refl w.heap.size w)
 have HZ1 := h
 clear h
 unfold laws_eqBitsS.f at HZ1
 obtain ⟨c3, HZ2⟩ | ⟨c3, HZ2⟩ := sp HZ1
 ·obtain ⟨c3b0, c3b1⟩ := yE c3
  have c3b2 : (l0.length == l1.length) = true := by first | simpa using c3 | (simp at c3 ⊢; omega)
  clear c3; replace HZ2 := am HZ2; clear HZ1; go_enter Try.func44, Try.ntmps44
  go_wp2
  go_loopg [5] k (fun kq v5 w' => ∃ (x5_1 : Int), v5 = .int .i64 x5_1 ∧ Aside0 (laws_eqBitsS.l0 kq l0 l1 x5_1 = some r) ∧ Aside0 (kq ≤ k) ∧ Aside0 (Below w.heap.size w w'))
  case atStart => exact ⟨(0), (be_), HZ2, ⟨Nat.le_refl _⟩, ⟨(Ae0 HB)⟩⟩
  case round =>
   clear HZ2
   try clear c1
   try clear c3
   try clear c3b0
   try clear c3b1
   try clear c3b2
   obtain ⟨x5_1, rfl, HZ3, HK1, HB⟩ := hrel
   cases gk with
   | zero => exact absurd HZ3.out (by simp [laws_eqBitsS.l0])
   | succ k1 => ?_
   replace HZ3 := HZ3.out; simp only [laws_eqBitsS.l0] at HZ3
   obtain ⟨c4b0, HZ4⟩ | ⟨c4b0, HZ4⟩ := sd HZ3
   ·obtain ⟨c5b0, HZ5⟩ := yd HZ4; obtain ⟨c6b0, HZ6⟩ := yd HZ5; obtain ⟨t223, A7, HZ7⟩ := bsi HZ6; (try dsimp only at HZ7)
    obtain ⟨rfl, HZ8⟩ | ⟨rfl, HZ8⟩ := sb HZ7
    ·replace HZ8 := am HZ8; clear HZ3 HZ4 HZ5 HZ6 HZ7
     try go_wp2
     replace HB := am (below_drew1 HB.out)
     have p221 : 0 ≤ (x5_1 : Int) := dga
     have q221 : x5_1 < (l0.length : Int) := dga
     obtain ⟨ad221, A221_2, c221_2, A221_3, c221_3, e221, hx221_0, hx221_1, hx221_2, hx221_3, hx221_4, hx221_5, hl221_2, hi221_2, hl221_3, hi221_3⟩ := at_T82 HR0.out x5_1 p221 q221; have hw221_5 := hx221_5; have hw221_4 := hx221_4; have hw221_3 := hx221_3; have hw221_2 := hx221_2; have hw221_1 := hx221_1; have hw221_0 := hx221_0; cases e221; replace hx221_0 := (hbc HB hx221_0).trans hx221_0; replace hx221_1 := (hbc HB hx221_1).trans hx221_1; replace hx221_2 := (hbc HB hx221_2).trans hx221_2; replace hx221_3 := (hbc HB hx221_3).trans hx221_3; replace hx221_4 := (hbc HB hx221_4).trans hx221_4; replace hx221_5 := (hbc HB hx221_5).trans hx221_5; have HR221_2 := am hi221_2; have HC221_2 := am hl221_2; clear hi221_2 hl221_2; have HR221_3 := am hi221_3; have HC221_3 := am hl221_3; clear hi221_3 hl221_3; replace p221 := eq_true p221; replace q221 := eq_true q221
     have p222 : 0 ≤ (x5_1 : Int) := dga
     have q222 : x5_1 < (l1.length : Int) := dga
     obtain ⟨ad222, A222_2, c222_2, A222_3, c222_3, e222, hx222_0, hx222_1, hx222_2, hx222_3, hx222_4, hx222_5, hl222_2, hi222_2, hl222_3, hi222_3⟩ := at_T82 HR1.out x5_1 p222 q222; have hw222_5 := hx222_5; have hw222_4 := hx222_4; have hw222_3 := hx222_3; have hw222_2 := hx222_2; have hw222_1 := hx222_1; have hw222_0 := hx222_0; cases e222; replace hx222_0 := (hbc HB hx222_0).trans hx222_0; replace hx222_1 := (hbc HB hx222_1).trans hx222_1; replace hx222_2 := (hbc HB hx222_2).trans hx222_2; replace hx222_3 := (hbc HB hx222_3).trans hx222_3; replace hx222_4 := (hbc HB hx222_4).trans hx222_4; replace hx222_5 := (hbc HB hx222_5).trans hx222_5; have HR222_2 := am hi222_2; have HC222_2 := am hl222_2; clear hi222_2 hl222_2; have HR222_3 := am hi222_3; have HC222_3 := am hl222_3; clear hi222_3 hl222_3; replace p222 := eq_true p222; replace q222 := eq_true q222; refine start_ (n := 10) (S := fun w' => w'.cell? (ad221.add ((x5_1).toNat * 6)) = some (.int .i64 ((rd_T82 l0 x5_1).f0)) ∧ w'.cell? ⟨(ad221.add ((x5_1).toNat * 6)).block, (ad221.add ((x5_1).toNat * 6)).off + 1, none⟩ = some (.int .i64 ((rd_T82 l0 x5_1).f1)) ∧ w'.cell? ⟨(ad221.add ((x5_1).toNat * 6)).block, (ad221.add ((x5_1).toNat * 6)).off + 2, none⟩ = some (.slice A221_2 ((rd_T82 l0 x5_1).f2).length c221_2) ∧ w'.cell? ⟨(ad221.add ((x5_1).toNat * 6)).block, (ad221.add ((x5_1).toNat * 6)).off + 3, none⟩ = some (.slice A221_3 ((rd_T82 l0 x5_1).f3).length c221_3) ∧ w'.cell? ⟨(ad221.add ((x5_1).toNat * 6)).block, (ad221.add ((x5_1).toNat * 6)).off + 4, none⟩ = some (.int .i64 ((rd_T82 l0 x5_1).f4)) ∧ w'.cell? ⟨(ad221.add ((x5_1).toNat * 6)).block, (ad221.add ((x5_1).toNat * 6)).off + 5, none⟩ = some (.int .i64 ((rd_T82 l0 x5_1).f5)) ∧ w'.cell? (ad222.add ((x5_1).toNat * 6)) = some (.int .i64 ((rd_T82 l1 x5_1).f0)) ∧ w'.cell? ⟨(ad222.add ((x5_1).toNat * 6)).block, (ad222.add ((x5_1).toNat * 6)).off + 1, none⟩ = some (.int .i64 ((rd_T82 l1 x5_1).f1)) ∧ w'.cell? ⟨(ad222.add ((x5_1).toNat * 6)).block, (ad222.add ((x5_1).toNat * 6)).off + 2, none⟩ = some (.slice A222_2 ((rd_T82 l1 x5_1).f2).length c222_2) ∧ w'.cell? ⟨(ad222.add ((x5_1).toNat * 6)).block, (ad222.add ((x5_1).toNat * 6)).off + 3, none⟩ = some (.slice A222_3 ((rd_T82 l1 x5_1).f3).length c222_3) ∧ w'.cell? ⟨(ad222.add ((x5_1).toNat * 6)).block, (ad222.add ((x5_1).toNat * 6)).off + 4, none⟩ = some (.int .i64 ((rd_T82 l1 x5_1).f4)) ∧ w'.cell? ⟨(ad222.add ((x5_1).toNat * 6)).block, (ad222.add ((x5_1).toNat * 6)).off + 5, none⟩ = some (.int .i64 ((rd_T82 l1 x5_1).f5))) (ds := []) #[false, false, false, false, false, false, false, false, false, false] gk_ rfl rfl ⟨((hbc HB hw221_0).trans hw221_0), ((hbc HB hw221_1).trans hw221_1), ((hbc HB hw221_2).trans hw221_2), ((hbc HB hw221_3).trans hw221_3), ((hbc HB hw221_4).trans hw221_4), ((hbc HB hw221_5).trans hw221_5), ((hbc HB hw222_0).trans hw222_0), ((hbc HB hw222_1).trans hw222_1), ((hbc HB hw222_2).trans hw222_2), ((hbc HB hw222_3).trans hw222_3), ((hbc HB hw222_4).trans hw222_4), ((hbc HB hw222_5).trans hw222_5)⟩ (fun hHeld => ?_); refine with_tabW laws_eqBitsS.tab6 laws_eqBitsS.bits6 (fun HT_ HW_ => ?_); generalize wr.drew = w9 at HB HR221_2 HR221_3 HR222_2 HR222_3 hx221_0 hx221_1 hx221_2 hx221_3 hx221_4 hx221_5 hx222_0 hx222_1 hx222_2 hx222_3 hx222_4 hx222_5 hHeld ⊢; refine pu_ 0 17 HT_ ?_; refine pu_ 1 18 HT_ ?_; refine pu_ 2 19 HT_ ?_; refine pu_ 4 21 HT_ ?_; refine pu_ 5 22 HT_ ?_; refine pu_ 6 23 HT_ ?_; refine ta_ 3 20 HT_ HW_ hHeld ?_; refine ta_ 7 24 HT_ HW_ hHeld ?_; refine on_ 8 (some 25) HT_ (fun K hK => ?_); refine gT Try.func108 (laws_eqBits.calls k1 ((rd_T82 l0 x5_1).f0) ((rd_T82 l0 x5_1).f1) _ _ ((rd_T82 l0 x5_1).f2) _ _ ((rd_T82 l0 x5_1).f3) ((rd_T82 l0 x5_1).f4) ((rd_T82 l0 x5_1).f5) ((rd_T82 l1 x5_1).f0) ((rd_T82 l1 x5_1).f1) _ _ ((rd_T82 l1 x5_1).f2) _ _ ((rd_T82 l1 x5_1).f3) ((rd_T82 l1 x5_1).f4) ((rd_T82 l1 x5_1).f5) true _ (tc (Kd.C_below HR221_2.out HB.out)) HC221_2.out (tc (Kd.C_below HR221_3.out HB.out)) HC221_3.out (tc (Kd.C_below HR222_2.out HB.out)) HC222_2.out (tc (Kd.C_below HR222_3.out HB.out)) HC222_3.out A7.out) ?_; rintro w10 hb; replace HB := hA HB hb; (try clear hb); (try clear hb2); (try clear hk); (try clear hi); (try clear hl); refine hK.out _ _ ⟨((hbc HB hw221_0).trans hw221_0), ((hbc HB hw221_1).trans hw221_1), ((hbc HB hw221_2).trans hw221_2), ((hbc HB hw221_3).trans hw221_3), ((hbc HB hw221_4).trans hw221_4), ((hbc HB hw221_5).trans hw221_5), ((hbc HB hw222_0).trans hw222_0), ((hbc HB hw222_1).trans hw222_1), ((hbc HB hw222_2).trans hw222_2), ((hbc HB hw222_3).trans hw222_3), ((hbc HB hw222_4).trans hw222_4), ((hbc HB hw222_5).trans hw222_5)⟩ (fun hHeld => nm_ ?_); clear hK K; refine pu_ 9 26 HT_ ?_; refine done_ (done_of HT_.out gk_) ?_
     try go_wp2
     go_roundg k1
     case measure => have := HK1.out; omega
     case rel => exact ⟨(wrap64 (x5_1 + 1)), (be_), HZ8, ⟨(by have := HK1.out; omega)⟩, ⟨(Ae0 HB)⟩⟩
    ·obtain rfl := Option.some.inj HZ8; clear HZ8 HZ3 HZ4 HZ5 HZ6 HZ7
     try go_wp2
     replace HB := am (below_drew1 HB.out)
     have p221 : 0 ≤ (x5_1 : Int) := dga
     have q221 : x5_1 < (l0.length : Int) := dga
     obtain ⟨ad221, A221_2, c221_2, A221_3, c221_3, e221, hx221_0, hx221_1, hx221_2, hx221_3, hx221_4, hx221_5, hl221_2, hi221_2, hl221_3, hi221_3⟩ := at_T82 HR0.out x5_1 p221 q221; have hw221_5 := hx221_5; have hw221_4 := hx221_4; have hw221_3 := hx221_3; have hw221_2 := hx221_2; have hw221_1 := hx221_1; have hw221_0 := hx221_0; cases e221; replace hx221_0 := (hbc HB hx221_0).trans hx221_0; replace hx221_1 := (hbc HB hx221_1).trans hx221_1; replace hx221_2 := (hbc HB hx221_2).trans hx221_2; replace hx221_3 := (hbc HB hx221_3).trans hx221_3; replace hx221_4 := (hbc HB hx221_4).trans hx221_4; replace hx221_5 := (hbc HB hx221_5).trans hx221_5; have HR221_2 := am hi221_2; have HC221_2 := am hl221_2; clear hi221_2 hl221_2; have HR221_3 := am hi221_3; have HC221_3 := am hl221_3; clear hi221_3 hl221_3; replace p221 := eq_true p221; replace q221 := eq_true q221
     have p222 : 0 ≤ (x5_1 : Int) := dga
     have q222 : x5_1 < (l1.length : Int) := dga
     obtain ⟨ad222, A222_2, c222_2, A222_3, c222_3, e222, hx222_0, hx222_1, hx222_2, hx222_3, hx222_4, hx222_5, hl222_2, hi222_2, hl222_3, hi222_3⟩ := at_T82 HR1.out x5_1 p222 q222; have hw222_5 := hx222_5; have hw222_4 := hx222_4; have hw222_3 := hx222_3; have hw222_2 := hx222_2; have hw222_1 := hx222_1; have hw222_0 := hx222_0; cases e222; replace hx222_0 := (hbc HB hx222_0).trans hx222_0; replace hx222_1 := (hbc HB hx222_1).trans hx222_1; replace hx222_2 := (hbc HB hx222_2).trans hx222_2; replace hx222_3 := (hbc HB hx222_3).trans hx222_3; replace hx222_4 := (hbc HB hx222_4).trans hx222_4; replace hx222_5 := (hbc HB hx222_5).trans hx222_5; have HR222_2 := am hi222_2; have HC222_2 := am hl222_2; clear hi222_2 hl222_2; have HR222_3 := am hi222_3; have HC222_3 := am hl222_3; clear hi222_3 hl222_3; replace p222 := eq_true p222; replace q222 := eq_true q222; refine start_ (n := 10) (S := fun w' => w'.cell? (ad221.add ((x5_1).toNat * 6)) = some (.int .i64 ((rd_T82 l0 x5_1).f0)) ∧ w'.cell? ⟨(ad221.add ((x5_1).toNat * 6)).block, (ad221.add ((x5_1).toNat * 6)).off + 1, none⟩ = some (.int .i64 ((rd_T82 l0 x5_1).f1)) ∧ w'.cell? ⟨(ad221.add ((x5_1).toNat * 6)).block, (ad221.add ((x5_1).toNat * 6)).off + 2, none⟩ = some (.slice A221_2 ((rd_T82 l0 x5_1).f2).length c221_2) ∧ w'.cell? ⟨(ad221.add ((x5_1).toNat * 6)).block, (ad221.add ((x5_1).toNat * 6)).off + 3, none⟩ = some (.slice A221_3 ((rd_T82 l0 x5_1).f3).length c221_3) ∧ w'.cell? ⟨(ad221.add ((x5_1).toNat * 6)).block, (ad221.add ((x5_1).toNat * 6)).off + 4, none⟩ = some (.int .i64 ((rd_T82 l0 x5_1).f4)) ∧ w'.cell? ⟨(ad221.add ((x5_1).toNat * 6)).block, (ad221.add ((x5_1).toNat * 6)).off + 5, none⟩ = some (.int .i64 ((rd_T82 l0 x5_1).f5)) ∧ w'.cell? (ad222.add ((x5_1).toNat * 6)) = some (.int .i64 ((rd_T82 l1 x5_1).f0)) ∧ w'.cell? ⟨(ad222.add ((x5_1).toNat * 6)).block, (ad222.add ((x5_1).toNat * 6)).off + 1, none⟩ = some (.int .i64 ((rd_T82 l1 x5_1).f1)) ∧ w'.cell? ⟨(ad222.add ((x5_1).toNat * 6)).block, (ad222.add ((x5_1).toNat * 6)).off + 2, none⟩ = some (.slice A222_2 ((rd_T82 l1 x5_1).f2).length c222_2) ∧ w'.cell? ⟨(ad222.add ((x5_1).toNat * 6)).block, (ad222.add ((x5_1).toNat * 6)).off + 3, none⟩ = some (.slice A222_3 ((rd_T82 l1 x5_1).f3).length c222_3) ∧ w'.cell? ⟨(ad222.add ((x5_1).toNat * 6)).block, (ad222.add ((x5_1).toNat * 6)).off + 4, none⟩ = some (.int .i64 ((rd_T82 l1 x5_1).f4)) ∧ w'.cell? ⟨(ad222.add ((x5_1).toNat * 6)).block, (ad222.add ((x5_1).toNat * 6)).off + 5, none⟩ = some (.int .i64 ((rd_T82 l1 x5_1).f5))) (ds := []) #[false, false, false, false, false, false, false, false, false, false] gk_ rfl rfl ⟨((hbc HB hw221_0).trans hw221_0), ((hbc HB hw221_1).trans hw221_1), ((hbc HB hw221_2).trans hw221_2), ((hbc HB hw221_3).trans hw221_3), ((hbc HB hw221_4).trans hw221_4), ((hbc HB hw221_5).trans hw221_5), ((hbc HB hw222_0).trans hw222_0), ((hbc HB hw222_1).trans hw222_1), ((hbc HB hw222_2).trans hw222_2), ((hbc HB hw222_3).trans hw222_3), ((hbc HB hw222_4).trans hw222_4), ((hbc HB hw222_5).trans hw222_5)⟩ (fun hHeld => ?_); refine with_tabW laws_eqBitsS.tab6 laws_eqBitsS.bits6 (fun HT_ HW_ => ?_); generalize wr.drew = w11 at HB HR221_2 HR221_3 HR222_2 HR222_3 hx221_0 hx221_1 hx221_2 hx221_3 hx221_4 hx221_5 hx222_0 hx222_1 hx222_2 hx222_3 hx222_4 hx222_5 hHeld ⊢; refine pu_ 0 17 HT_ ?_; refine pu_ 1 18 HT_ ?_; refine pu_ 2 19 HT_ ?_; refine pu_ 4 21 HT_ ?_; refine pu_ 5 22 HT_ ?_; refine pu_ 6 23 HT_ ?_; refine ta_ 3 20 HT_ HW_ hHeld ?_; refine ta_ 7 24 HT_ HW_ hHeld ?_; refine on_ 8 (some 25) HT_ (fun K hK => ?_); refine gT Try.func108 (laws_eqBits.calls k1 ((rd_T82 l0 x5_1).f0) ((rd_T82 l0 x5_1).f1) _ _ ((rd_T82 l0 x5_1).f2) _ _ ((rd_T82 l0 x5_1).f3) ((rd_T82 l0 x5_1).f4) ((rd_T82 l0 x5_1).f5) ((rd_T82 l1 x5_1).f0) ((rd_T82 l1 x5_1).f1) _ _ ((rd_T82 l1 x5_1).f2) _ _ ((rd_T82 l1 x5_1).f3) ((rd_T82 l1 x5_1).f4) ((rd_T82 l1 x5_1).f5) false _ (tc (Kd.C_below HR221_2.out HB.out)) HC221_2.out (tc (Kd.C_below HR221_3.out HB.out)) HC221_3.out (tc (Kd.C_below HR222_2.out HB.out)) HC222_2.out (tc (Kd.C_below HR222_3.out HB.out)) HC222_3.out A7.out) ?_; rintro w12 hb; replace HB := hA HB hb; (try clear hb); (try clear hb2); (try clear hk); (try clear hi); (try clear hl); refine hK.out _ _ ⟨((hbc HB hw221_0).trans hw221_0), ((hbc HB hw221_1).trans hw221_1), ((hbc HB hw221_2).trans hw221_2), ((hbc HB hw221_3).trans hw221_3), ((hbc HB hw221_4).trans hw221_4), ((hbc HB hw221_5).trans hw221_5), ((hbc HB hw222_0).trans hw222_0), ((hbc HB hw222_1).trans hw222_1), ((hbc HB hw222_2).trans hw222_2), ((hbc HB hw222_3).trans hw222_3), ((hbc HB hw222_4).trans hw222_4), ((hbc HB hw222_5).trans hw222_5)⟩ (fun hHeld => nm_ ?_); clear hK K; refine pu_ 9 26 HT_ ?_; refine done_ (done_of HT_.out gk_) ?_
     try go_wp2
     go_ret; exact ⟨B5x2_, (Ae0 HB)⟩
   ·obtain rfl := Option.some.inj HZ4; clear HZ4 HZ3
    go_wp2
    go_ret; exact ⟨B5x2_, (Ae0 HB)⟩
 ·obtain ⟨c3b0, c3b1⟩ := nE c3
  have c3b2 : (l0.length == l1.length) = false := by first | simpa using c3 | (simp at c3 ⊢; omega)
  obtain rfl := Option.some.inj HZ2; clear HZ2 HZ1; go_enter Try.func44, Try.ntmps44
  go_wp2
  go_ret; exact ⟨B5x2_, (Ae0 HB)⟩

/-! ### laws_eqBitsSS: function 83 -/
def laws_eqBitsSS.l0 : Nat → List (List (S82)) → List (List (S82)) → Int → Option (Bool)
 | 0, _, _, _ => none
 | k + 1, x0, x1, x5 => if x5 < (x0.length : Int) then (if 0 ≤ x5 then (if x5 < (x1.length : Int) then ((laws_eqBitsS.f k (rd_L9 x0 x5) (rd_L9 x1 x5)).bind fun t226 => (if t226 = true then (laws_eqBitsSS.l0 k x0 x1 (wrap64 (x5 + 1))) else (some false))) else (none)) else (none)) else (some true)
def laws_eqBitsSS.f (k : Nat) (l0 : List (List (S82))) (l1 : List (List (S82))) : Option (Bool) := if (l0.length : Int) = (l1.length : Int) then (laws_eqBitsSS.l0 k l0 l1 0) else (some false)
def laws_eqBitsSS.T6 : Bool × List (List Nat × List Nat) := (true, [([], []), ([], []), ([0, 1], [0, 1]), ([2], [2]), ([], []), ([], []), ([4, 5], [4, 5]), ([6], [6]), ([3, 7], [3, 7]), ([8], [8])])
def laws_eqBitsSS.B6 : List Nat := [0, 0, 3, 7, 0, 0, 48, 112, 255, 511]
theorem laws_eqBitsSS.tab6 : rtab .any (opsOf Try.f83 6) = laws_eqBitsSS.T6 := by kernel_rfl
theorem laws_eqBitsSS.bits6 : waitsOk laws_eqBitsSS.T6.2 laws_eqBitsSS.B6 = true := by kernel_rfl
set_option maxHeartbeats 8000000 in
set_option maxRecDepth 100000 in
theorem laws_eqBitsSS.calls (k : Nat) (A0 : Option Addr) (c0 : Nat) (l0 : List (List (S82))) (A1 : Option Addr) (c1 : Nat) (l1 : List (List (S82))) (r : Bool) (w : World) (hr0 : Kd.C (Kd.slice 82 k82) w A0 l0.length l0) (hc0 : l0.length ≤ c0) (hr1 : Kd.C (Kd.slice 82 k82) w A1 l1.length l1) (hc1 : l1.length ≤ c1) (h : laws_eqBitsSS.f k l0 l1 = some r) :
  Calls Try.prog 83 #[.slice A0 l0.length c0, .slice A1 l1.length c1] w fun e w' => e = .returned (.bool r) ∧ Below w.heap.size w w' := by
 have HR0 := am hr0
 have HC0 := am hc0
 clear hr0 hc0
 have HR1 := am hr1
 have HC1 := am hc1
 clear hr1 hc1
 have HB := am (Below.refl w.heap.size w)
 have HZ1 := h
 clear h
 unfold laws_eqBitsSS.f at HZ1
 obtain ⟨c3, HZ2⟩ | ⟨c3, HZ2⟩ := sp HZ1
 ·obtain ⟨c3b0, c3b1⟩ := yE c3
  have c3b2 : (l0.length == l1.length) = true := by first | simpa using c3 | (simp at c3 ⊢; omega)
  clear c3; replace HZ2 := am HZ2; clear HZ1; go_enter Try.func83, Try.ntmps83
  go_wp2
  go_loopg [5] k (fun kq v5 w' => ∃ (x5_1 : Int), v5 = .int .i64 x5_1 ∧ Aside0 (laws_eqBitsSS.l0 kq l0 l1 x5_1 = some r) ∧ Aside0 (kq ≤ k) ∧ Aside0 (Below w.heap.size w w'))
  case atStart => exact ⟨(0), (be_), HZ2, ⟨Nat.le_refl _⟩, ⟨(Ae0 HB)⟩⟩
  case round =>
   clear HZ2
   try clear c1
   try clear c3
   try clear c3b0
   try clear c3b1
   try clear c3b2
   obtain ⟨x5_1, rfl, HZ3, HK1, HB⟩ := hrel
   cases gk with
   | zero => exact absurd HZ3.out (by simp [laws_eqBitsSS.l0])
   | succ k1 => ?_
   replace HZ3 := HZ3.out; simp only [laws_eqBitsSS.l0] at HZ3
   obtain ⟨c4b0, HZ4⟩ | ⟨c4b0, HZ4⟩ := sd HZ3
   ·obtain ⟨c5b0, HZ5⟩ := yd HZ4; obtain ⟨c6b0, HZ6⟩ := yd HZ5; obtain ⟨t226, A7, HZ7⟩ := bsi HZ6; (try dsimp only at HZ7)
    obtain ⟨rfl, HZ8⟩ | ⟨rfl, HZ8⟩ := sb HZ7
    ·replace HZ8 := am HZ8; clear HZ3 HZ4 HZ5 HZ6 HZ7
     try go_wp2
     replace HB := am (below_drew1 HB.out)
     have p224 : 0 ≤ (x5_1 : Int) := dga
     have q224 : x5_1 < (l0.length : Int) := dga
     obtain ⟨ad224, A224_0, c224_0, e224, hx224_0, hl224_0, hi224_0⟩ := at_L9 HR0.out x5_1 p224 q224; have hw224_0 := hx224_0; cases e224; replace hx224_0 := (hbc HB hx224_0).trans hx224_0; have HR224_0 := am hi224_0; have HC224_0 := am hl224_0; clear hi224_0 hl224_0; replace p224 := eq_true p224; replace q224 := eq_true q224
     have p225 : 0 ≤ (x5_1 : Int) := dga
     have q225 : x5_1 < (l1.length : Int) := dga
     obtain ⟨ad225, A225_0, c225_0, e225, hx225_0, hl225_0, hi225_0⟩ := at_L9 HR1.out x5_1 p225 q225; have hw225_0 := hx225_0; cases e225; replace hx225_0 := (hbc HB hx225_0).trans hx225_0; have HR225_0 := am hi225_0; have HC225_0 := am hl225_0; clear hi225_0 hl225_0; replace p225 := eq_true p225; replace q225 := eq_true q225; refine start_ (n := 10) (S := fun w' => w'.cell? (ad224.add (x5_1).toNat) = some (.slice A224_0 (rd_L9 l0 x5_1).length c224_0) ∧ w'.cell? (ad225.add (x5_1).toNat) = some (.slice A225_0 (rd_L9 l1 x5_1).length c225_0)) (ds := []) #[false, false, false, false, false, false, false, false, false, false] gk_ rfl rfl ⟨((hbc HB hw224_0).trans hw224_0), ((hbc HB hw225_0).trans hw225_0)⟩ (fun hHeld => ?_); refine with_tabW laws_eqBitsSS.tab6 laws_eqBitsSS.bits6 (fun HT_ HW_ => ?_); generalize wr.drew = w9 at HB HR224_0 HR225_0 hx224_0 hx225_0 hHeld ⊢; refine pu_ 0 17 HT_ ?_; refine pu_ 1 18 HT_ ?_; refine pu_ 2 19 HT_ ?_; refine pu_ 4 21 HT_ ?_; refine pu_ 5 22 HT_ ?_; refine pu_ 6 23 HT_ ?_; refine ta_ 3 20 HT_ HW_ hHeld ?_; refine ta_ 7 24 HT_ HW_ hHeld ?_; refine on_ 8 (some 25) HT_ (fun K hK => ?_); refine gT Try.func44 (laws_eqBitsS.calls k1 _ _ (rd_L9 l0 x5_1) _ _ (rd_L9 l1 x5_1) true _ (tc (Kd.C_below HR224_0.out HB.out)) HC224_0.out (tc (Kd.C_below HR225_0.out HB.out)) HC225_0.out A7.out) ?_; rintro w10 hb; replace HB := hA HB hb; (try clear hb); (try clear hb2); (try clear hk); (try clear hi); (try clear hl); refine hK.out _ _ ⟨((hbc HB hw224_0).trans hw224_0), ((hbc HB hw225_0).trans hw225_0)⟩ (fun hHeld => nm_ ?_); clear hK K; refine pu_ 9 26 HT_ ?_; refine done_ (done_of HT_.out gk_) ?_
     try go_wp2
     go_roundg k1
     case measure => have := HK1.out; omega
     case rel => exact ⟨(wrap64 (x5_1 + 1)), (be_), HZ8, ⟨(by have := HK1.out; omega)⟩, ⟨(Ae0 HB)⟩⟩
    obtain rfl := Option.some.inj HZ8; clear HZ8 HZ3 HZ4 HZ5 HZ6 HZ7
    try go_wp2
    replace HB := am (below_drew1 HB.out)
    have p224 : 0 ≤ (x5_1 : Int) := dga
    have q224 : x5_1 < (l0.length : Int) := dga
    obtain ⟨ad224, A224_0, c224_0, e224, hx224_0, hl224_0, hi224_0⟩ := at_L9 HR0.out x5_1 p224 q224; have hw224_0 := hx224_0; cases e224; replace hx224_0 := (hbc HB hx224_0).trans hx224_0; have HR224_0 := am hi224_0; have HC224_0 := am hl224_0; clear hi224_0 hl224_0; replace p224 := eq_true p224; replace q224 := eq_true q224
    have p225 : 0 ≤ (x5_1 : Int) := dga
    have q225 : x5_1 < (l1.length : Int) := dga
    obtain ⟨ad225, A225_0, c225_0, e225, hx225_0, hl225_0, hi225_0⟩ := at_L9 HR1.out x5_1 p225 q225; have hw225_0 := hx225_0; cases e225; replace hx225_0 := (hbc HB hx225_0).trans hx225_0; have HR225_0 := am hi225_0; have HC225_0 := am hl225_0; clear hi225_0 hl225_0; replace p225 := eq_true p225; replace q225 := eq_true q225; refine start_ (n := 10) (S := fun w' => w'.cell? (ad224.add (x5_1).toNat) = some (.slice A224_0 (rd_L9 l0 x5_1).length c224_0) ∧ w'.cell? (ad225.add (x5_1).toNat) = some (.slice A225_0 (rd_L9 l1 x5_1).length c225_0)) (ds := []) #[false, false, false, false, false, false, false, false, false, false] gk_ rfl rfl ⟨((hbc HB hw224_0).trans hw224_0), ((hbc HB hw225_0).trans hw225_0)⟩ (fun hHeld => ?_); refine with_tabW laws_eqBitsSS.tab6 laws_eqBitsSS.bits6 (fun HT_ HW_ => ?_); generalize wr.drew = w11 at HB HR224_0 HR225_0 hx224_0 hx225_0 hHeld ⊢; refine pu_ 0 17 HT_ ?_; refine pu_ 1 18 HT_ ?_; refine pu_ 2 19 HT_ ?_; refine pu_ 4 21 HT_ ?_; refine pu_ 5 22 HT_ ?_; refine pu_ 6 23 HT_ ?_; refine ta_ 3 20 HT_ HW_ hHeld ?_; refine ta_ 7 24 HT_ HW_ hHeld ?_; refine on_ 8 (some 25) HT_ (fun K hK => ?_); refine gT Try.func44 (laws_eqBitsS.calls k1 _ _ (rd_L9 l0 x5_1) _ _ (rd_L9 l1 x5_1) false _ (tc (Kd.C_below HR224_0.out HB.out)) HC224_0.out (tc (Kd.C_below HR225_0.out HB.out)) HC225_0.out A7.out) ?_; rintro w12 hb; replace HB := hA HB hb; (try clear hb); (try clear hb2); (try clear hk); (try clear hi); (try clear hl); refine hK.out _ _ ⟨((hbc HB hw224_0).trans hw224_0), ((hbc HB hw225_0).trans hw225_0)⟩ (fun hHeld => nm_ ?_); clear hK K; refine pu_ 9 26 HT_ ?_; refine done_ (done_of HT_.out gk_) ?_
    try go_wp2
    go_ret; exact ⟨B5x2_, (Ae0 HB)⟩
   obtain rfl := Option.some.inj HZ4; clear HZ4 HZ3
   go_wp2
   go_ret; exact ⟨B5x2_, (Ae0 HB)⟩
 obtain ⟨c3b0, c3b1⟩ := nE c3
 have c3b2 : (l0.length == l1.length) = false := by first | simpa using c3 | (simp at c3 ⊢; omega)
 obtain rfl := Option.some.inj HZ2
 clear HZ2 HZ1
 go_enter Try.func83, Try.ntmps83
 go_wp2
 go_ret
 exact ⟨B5x2_, (Ae0 HB)⟩

end Go.Proofs.Ytmknnoeggkgkgaa.QFnExactEndsNew
