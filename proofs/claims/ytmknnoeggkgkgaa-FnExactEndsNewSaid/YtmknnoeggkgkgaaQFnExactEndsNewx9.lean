/- Functions that a law reaches, as functions of Lean, and the walks that show that the calls come to their answers: written by a program of this project out of the translation. No condition. -/
import Derived.Test.YtmknnoeggkgkgaaQFnExactEndsNewx0
import Derived.Test.YtmknnoeggkgkgaaQFnExactEndsNewx7
import Derived.Test.YtmknnoeggkgkgaaVFnExactEndsNewhort4
import Derived.Test.YtmknnoeggkgkgaaVFnExactEndsNewShort2
import Derived.Test.YtmknnoeggkgkgaaVFnExactEndsNewShort
import Derived.Test.YtmknnoeggkgkgaaVFnExactEndsNewhort8
namespace Go.Proofs.Ytmknnoeggkgkgaa.QFnExactEndsNew
open Go.RowKit Go.Proofs.YtmknnoeggkgkgaaW.PrintWords Go.Proofs.YtmknnoeggkgkgaaW.PrintLast Go.Proofs.YtmknnoeggkgkgaaW.PrintMore Go.Proofs.Ytmknnoeggkgkgaa.Short
attribute [local go_sem] max2_int min2_int max_two min_two max_three min_three max_four min_four   -- for this text's walks alone
set_option linter.unusedVariables false
set_option linter.unusedSimpArgs false

theorem B9x3_ {p : Prop} (h : p := by first | rfl | (simp [errW_none, errW_some] <;> rfl) | (simp [*, errW_none, errW_some] <;> rfl)) : p := h
theorem B9x9_ {p : Prop} (h : p := by injection e288) : p := h
theorem B9x10_ {p : Prop} (h : p := by injection e289) : p := h
theorem B9x12_ {p : Prop} (h : p := by have := HK1.out; omega) : p := h
theorem B9x13_ {p : Prop} (h : p := by injection e291) : p := h
/-! ### laws_heldIntS: function 90 -/
def laws_heldIntS.l0 : Nat → List Int → Int → Int → Option (Int)
 | 0, _, _, _ => none
 | k + 1, x0, x1, x5 => if x5 < (x0.length : Int) then (if 0 ≤ x5 then (if (rd x0 x5) = x1 then (laws_heldIntS.l0 k x0 (wrap64 (x1 + 1)) (wrap64 (x5 + 1))) else (some (-1))) else (none)) else (some x1)
def laws_heldIntS.f (k : Nat) (l0 : List Int) (a1 : Int) : Option (Int) := laws_heldIntS.l0 k l0 a1 0
set_option maxHeartbeats 8000000 in
set_option maxRecDepth 100000 in
theorem laws_heldIntS.calls (k : Nat) (A0 : Option Addr) (c0 : Nat) (l0 : List Int) (a1 : Int) (r : Int) (w : World) (hr0 : Kd.C (Kd.int .i64) w A0 l0.length l0) (hc0 : l0.length ≤ c0) (h : laws_heldIntS.f k l0 a1 = some r) :
  Calls Try.prog 90 #[.slice A0 l0.length c0, .int .i64 a1] w fun e w' => e = .returned (.int .i64 r) ∧ Drawn0 w w' := by
 have HR0 := am hr0
 have HC0 := am hc0
 clear hr0 hc0
 have HZ1 := h
 clear h
 unfold laws_heldIntS.f at HZ1
 replace HZ1 := am HZ1
 go_enter Try.func90, Try.ntmps90
 go_wp2
 go_loopg [1, 5] k (fun kq v1 v5 w' => ∃ (x1_1 : Int) (x5_1 : Int), v1 = .int .i64 x1_1 ∧ v5 = .int .i64 x5_1 ∧ Aside0 (laws_heldIntS.l0 kq l0 x1_1 x5_1 = some r) ∧ Aside0 (kq ≤ k) ∧ Drawn0 w w')
 case atStart => exact ⟨(a1), (0), (be_), (be_), HZ1, ⟨Nat.le_refl _⟩, gd_⟩
 case round =>
  clear HZ1; obtain ⟨x1_1, x5_1, rfl, rfl, HZ2, HK1, ⟨m1, rfl⟩⟩ := hrel
  cases gk with
  | zero => exact absurd HZ2.out (by simp [laws_heldIntS.l0])
  | succ k1 => ?_
  replace HZ2 := HZ2.out; simp only [laws_heldIntS.l0] at HZ2
  obtain ⟨c3b0, HZ3⟩ | ⟨c3b0, HZ3⟩ := sd HZ2
  ·obtain ⟨c4b0, HZ4⟩ := yd HZ3
   obtain ⟨c5, HZ5⟩ | ⟨c5, HZ5⟩ := sp HZ4
   ·obtain ⟨c5b0, c5b1⟩ := yE c5; clear c5; replace HZ5 := am HZ5; clear HZ2 HZ3 HZ4
    have p286 : 0 ≤ (x5_1 : Int) := dga
    have q286 : x5_1 < (l0.length : Int) := dga
    obtain ⟨ad286, e286, hx286_0⟩ := Kd.at_int HR0.out x5_1 p286 q286; cases e286; replace p286 := eq_true p286; replace q286 := eq_true q286
    go_wp2
    go_roundg k1
    case measure => have := HK1.out; omega
    case rel => exact ⟨(wrap64 (x1_1 + 1)), (wrap64 (x5_1 + 1)), (be_), (be_), HZ5, ⟨B9x12_⟩, gd_⟩
   ·obtain ⟨c5b0, c5b1⟩ := nE c5; obtain rfl := Option.some.inj HZ5; clear HZ5 HZ2 HZ3 HZ4
    have p286 : 0 ≤ (x5_1 : Int) := dga
    have q286 : x5_1 < (l0.length : Int) := dga
    obtain ⟨ad286, e286, hx286_0⟩ := Kd.at_int HR0.out x5_1 p286 q286; cases e286; replace p286 := eq_true p286; replace q286 := eq_true q286
    go_wp2
    go_ret; exact ⟨gr_, gd_⟩
  ·obtain rfl := Option.some.inj HZ3; clear HZ3 HZ2
   go_wp2
   go_ret; exact ⟨gr_, gd_⟩

/-! ### laws_heldBitsS: function 46 -/
def laws_heldBitsS.l0 : Nat → List (S82) → Int → Int → Option (Int)
 | 0, _, _, _ => none
 | k + 1, x0, x1, x5 => if x5 < (x0.length : Int) then (if 0 ≤ x5 then (if ((rd_T82 x0 x5).f0) = x1 then (if ((rd_T82 x0 x5).f1) = (wrap64 (x1 + 1)) then ((laws_heldStringS.f k ((rd_T82 x0 x5).f2) (wrap64 ((wrap64 (x1 + 1)) + 1))).bind fun t290 => (if t290 < 0 then (some (-1)) else ((laws_heldIntS.f k ((rd_T82 x0 x5).f3) t290).bind fun t292 => (if t292 < 0 then (some (-1)) else (if ((rd_T82 x0 x5).f4) = t292 then (if ((rd_T82 x0 x5).f5) = (wrap64 (t292 + 1)) then (laws_heldBitsS.l0 k x0 (wrap64 ((wrap64 (t292 + 1)) + 1)) (wrap64 (x5 + 1))) else (some (-1))) else (some (-1))))))) else (some (-1))) else (some (-1))) else (none)) else (some x1)
def laws_heldBitsS.f (k : Nat) (l0 : List (S82)) (a1 : Int) : Option (Int) := laws_heldBitsS.l0 k l0 a1 0
set_option maxHeartbeats 8000000 in
set_option maxRecDepth 100000 in
theorem laws_heldBitsS.calls (k : Nat) (A0 : Option Addr) (c0 : Nat) (l0 : List (S82)) (a1 : Int) (r : Int) (w : World) (hr0 : Kd.C k82 w A0 l0.length l0) (hc0 : l0.length ≤ c0) (h : laws_heldBitsS.f k l0 a1 = some r) :
  Calls Try.prog 46 #[.slice A0 l0.length c0, .int .i64 a1] w fun e w' => e = .returned (.int .i64 r) ∧ Below w.heap.size w w' := by
 have HR0 := am hr0
 have HC0 := am hc0
 clear hr0 hc0
 have HB := am (Below.refl w.heap.size w)
 have HZ1 := h
 clear h
 unfold laws_heldBitsS.f at HZ1
 replace HZ1 := am HZ1
 go_enter Try.func46, Try.ntmps46
 go_wp2
 go_loopg [1, 5] k (fun kq v1 v5 w' => ∃ (x1_1 : Int) (x5_1 : Int), v1 = .int .i64 x1_1 ∧ v5 = .int .i64 x5_1 ∧ Aside0 (laws_heldBitsS.l0 kq l0 x1_1 x5_1 = some r) ∧ Aside0 (kq ≤ k) ∧ Aside0 (Below w.heap.size w w'))
 case atStart => exact ⟨(a1), (0), (be_), (be_), HZ1, ⟨Nat.le_refl _⟩, ⟨(Ae0 HB)⟩⟩
 case round =>
  clear HZ1; obtain ⟨x1_1, x5_1, rfl, rfl, HZ2, HK1, HB⟩ := hrel
  cases gk with
  | zero => exact absurd HZ2.out (by simp [laws_heldBitsS.l0])
  | succ k1 => ?_
  replace HZ2 := HZ2.out; simp only [laws_heldBitsS.l0] at HZ2
  obtain ⟨c3b0, HZ3⟩ | ⟨c3b0, HZ3⟩ := sd HZ2
  ·obtain ⟨c4b0, HZ4⟩ := yd HZ3
   obtain ⟨c5, HZ5⟩ | ⟨c5, HZ5⟩ := sp HZ4
   ·obtain ⟨c5b0, c5b1⟩ := yE c5; clear c5
    obtain ⟨c6, HZ6⟩ | ⟨c6, HZ6⟩ := sp HZ5
    ·obtain ⟨c6b0, c6b1⟩ := yE c6; clear c6; obtain ⟨t290, A7, HZ7⟩ := bsi HZ6; (try dsimp only at HZ7)
     obtain ⟨c8b0, HZ8⟩ | ⟨c8b0, HZ8⟩ := sd HZ7
     ·obtain rfl := Option.some.inj HZ8; clear HZ8 HZ2 HZ3 HZ4 HZ5 HZ6 HZ7
      have p287 : 0 ≤ (x5_1 : Int) := dga
      have q287 : x5_1 < (l0.length : Int) := dga
      obtain ⟨ad287, A287_2, c287_2, A287_3, c287_3, e287, hx287_0, hx287_1, hx287_2, hx287_3, hx287_4, hx287_5, hl287_2, hi287_2, hl287_3, hi287_3⟩ := at_T82 HR0.out x5_1 p287 q287; cases e287; replace hx287_0 := (hbc HB hx287_0).trans hx287_0; replace hx287_1 := (hbc HB hx287_1).trans hx287_1; replace hx287_2 := (hbc HB hx287_2).trans hx287_2; replace hx287_3 := (hbc HB hx287_3).trans hx287_3; replace hx287_4 := (hbc HB hx287_4).trans hx287_4; replace hx287_5 := (hbc HB hx287_5).trans hx287_5; have HC287_2 := am hl287_2; clear hi287_2 hl287_2; have HC287_3 := am hl287_3; clear hi287_3 hl287_3; replace p287 := eq_true p287; replace q287 := eq_true q287
      have p288 : 0 ≤ (x5_1 : Int) := dga
      have q288 : x5_1 < (l0.length : Int) := dga
      obtain ⟨ad288, A288_2, c288_2, A288_3, c288_3, e288, hx288_0, hx288_1, hx288_2, hx288_3, hx288_4, hx288_5, hl288_2, hi288_2, hl288_3, hi288_3⟩ := at_T82 HR0.out x5_1 p288 q288; obtain rfl : ad287 = ad288 := B9x9_; replace hx288_0 := (hbc HB hx288_0).trans hx288_0; replace hx288_1 := (hbc HB hx288_1).trans hx288_1; replace hx288_2 := (hbc HB hx288_2).trans hx288_2; replace hx288_3 := (hbc HB hx288_3).trans hx288_3; replace hx288_4 := (hbc HB hx288_4).trans hx288_4; replace hx288_5 := (hbc HB hx288_5).trans hx288_5; have HC288_2 := am hl288_2; clear hi288_2 hl288_2; have HC288_3 := am hl288_3; clear hi288_3 hl288_3; replace p288 := eq_true p288; replace q288 := eq_true q288; have ea_ := Option.some.inj (hx287_2.symm.trans hx288_2)
      injection ea_ with ea_ en_ ec_
      subst ea_; subst ec_; clear en_; have ea_ := Option.some.inj (hx287_3.symm.trans hx288_3)
      injection ea_ with ea_ en_ ec_
      subst ea_; subst ec_; clear en_
      have p289 : 0 ≤ (x5_1 : Int) := dga
      have q289 : x5_1 < (l0.length : Int) := dga
      obtain ⟨ad289, A289_2, c289_2, A289_3, c289_3, e289, hx289_0, hx289_1, hx289_2, hx289_3, hx289_4, hx289_5, hl289_2, hi289_2, hl289_3, hi289_3⟩ := at_T82 HR0.out x5_1 p289 q289; obtain rfl : ad287 = ad289 := B9x10_; replace hx289_0 := (hbc HB hx289_0).trans hx289_0; replace hx289_1 := (hbc HB hx289_1).trans hx289_1; replace hx289_2 := (hbc HB hx289_2).trans hx289_2; replace hx289_3 := (hbc HB hx289_3).trans hx289_3; replace hx289_4 := (hbc HB hx289_4).trans hx289_4; replace hx289_5 := (hbc HB hx289_5).trans hx289_5; have HR289_2 := am hi289_2; have HC289_2 := am hl289_2; clear hi289_2 hl289_2; have HC289_3 := am hl289_3; clear hi289_3 hl289_3; replace p289 := eq_true p289; replace q289 := eq_true q289; have ea_ := Option.some.inj (hx287_2.symm.trans hx289_2)
      injection ea_ with ea_ en_ ec_
      subst ea_; subst ec_; clear en_; have ea_ := Option.some.inj (hx287_3.symm.trans hx289_3)
      injection ea_ with ea_ en_ ec_
      subst ea_; subst ec_; clear en_
      go_wp2_with (first | ((with_reducible refine gate_callee (f := 17) rfl ?_); refine gM (some 36) Try.func17 (laws_heldStringS.calls k1 _ _ ((rd_T82 l0 x5_1).f2) (wrap64 ((wrap64 (x1_1 + 1)) + 1)) t290 _ (tc (Kd.C_below HR289_2.out HB.out)) HC289_2.out A7.out) ?_; rintro w9 hb; replace HB := hA HB hb; (try clear hb); (try clear hl)))
      go_ret; exact ⟨B9x3_, (Ae0 HB)⟩
     ·obtain ⟨t292, A10, HZ9⟩ := bsi HZ8; (try dsimp only at HZ9)
      obtain ⟨c11b0, HZ10⟩ | ⟨c11b0, HZ10⟩ := sd HZ9
      ·obtain rfl := Option.some.inj HZ10; clear HZ10 HZ2 HZ3 HZ4 HZ5 HZ6 HZ7 HZ8 HZ9
       have p287 : 0 ≤ (x5_1 : Int) := dga
       have q287 : x5_1 < (l0.length : Int) := dga
       obtain ⟨ad287, A287_2, c287_2, A287_3, c287_3, e287, hx287_0, hx287_1, hx287_2, hx287_3, hx287_4, hx287_5, hl287_2, hi287_2, hl287_3, hi287_3⟩ := at_T82 HR0.out x5_1 p287 q287; cases e287; replace hx287_0 := (hbc HB hx287_0).trans hx287_0; replace hx287_1 := (hbc HB hx287_1).trans hx287_1; replace hx287_2 := (hbc HB hx287_2).trans hx287_2; replace hx287_3 := (hbc HB hx287_3).trans hx287_3; replace hx287_4 := (hbc HB hx287_4).trans hx287_4; replace hx287_5 := (hbc HB hx287_5).trans hx287_5; have HC287_2 := am hl287_2; clear hi287_2 hl287_2; have HC287_3 := am hl287_3; clear hi287_3 hl287_3; replace p287 := eq_true p287; replace q287 := eq_true q287
       have p288 : 0 ≤ (x5_1 : Int) := dga
       have q288 : x5_1 < (l0.length : Int) := dga
       obtain ⟨ad288, A288_2, c288_2, A288_3, c288_3, e288, hx288_0, hx288_1, hx288_2, hx288_3, hx288_4, hx288_5, hl288_2, hi288_2, hl288_3, hi288_3⟩ := at_T82 HR0.out x5_1 p288 q288; obtain rfl : ad287 = ad288 := B9x9_; replace hx288_0 := (hbc HB hx288_0).trans hx288_0; replace hx288_1 := (hbc HB hx288_1).trans hx288_1; replace hx288_2 := (hbc HB hx288_2).trans hx288_2; replace hx288_3 := (hbc HB hx288_3).trans hx288_3; replace hx288_4 := (hbc HB hx288_4).trans hx288_4; replace hx288_5 := (hbc HB hx288_5).trans hx288_5; have HC288_2 := am hl288_2; clear hi288_2 hl288_2; have HC288_3 := am hl288_3; clear hi288_3 hl288_3; replace p288 := eq_true p288; replace q288 := eq_true q288; have ea_ := Option.some.inj (hx287_2.symm.trans hx288_2)
       injection ea_ with ea_ en_ ec_
       subst ea_; subst ec_; clear en_; have ea_ := Option.some.inj (hx287_3.symm.trans hx288_3)
       injection ea_ with ea_ en_ ec_
       subst ea_; subst ec_; clear en_
       have p289 : 0 ≤ (x5_1 : Int) := dga
       have q289 : x5_1 < (l0.length : Int) := dga
       obtain ⟨ad289, A289_2, c289_2, A289_3, c289_3, e289, hx289_0, hx289_1, hx289_2, hx289_3, hx289_4, hx289_5, hl289_2, hi289_2, hl289_3, hi289_3⟩ := at_T82 HR0.out x5_1 p289 q289; obtain rfl : ad287 = ad289 := B9x10_; replace hx289_0 := (hbc HB hx289_0).trans hx289_0; replace hx289_1 := (hbc HB hx289_1).trans hx289_1; replace hx289_2 := (hbc HB hx289_2).trans hx289_2; replace hx289_3 := (hbc HB hx289_3).trans hx289_3; replace hx289_4 := (hbc HB hx289_4).trans hx289_4; replace hx289_5 := (hbc HB hx289_5).trans hx289_5; have HR289_2 := am hi289_2; have HC289_2 := am hl289_2; clear hi289_2 hl289_2; have HC289_3 := am hl289_3; clear hi289_3 hl289_3; replace p289 := eq_true p289; replace q289 := eq_true q289; have ea_ := Option.some.inj (hx287_2.symm.trans hx289_2)
       injection ea_ with ea_ en_ ec_
       subst ea_; subst ec_; clear en_; have ea_ := Option.some.inj (hx287_3.symm.trans hx289_3)
       injection ea_ with ea_ en_ ec_
       subst ea_; subst ec_; clear en_
       go_wp2_with (first | ((with_reducible refine gate_callee (f := 17) rfl ?_); refine gM (some 36) Try.func17 (laws_heldStringS.calls k1 _ _ ((rd_T82 l0 x5_1).f2) (wrap64 ((wrap64 (x1_1 + 1)) + 1)) t290 _ (tc (Kd.C_below HR289_2.out HB.out)) HC289_2.out A7.out) ?_; rintro w12 hb; replace HB := hA HB hb; (try clear hb); (try clear hl); have p291 : 0 ≤ (x5_1 : Int) := dga; have q291 : x5_1 < (l0.length : Int) := dga; obtain ⟨ad291, A291_2, c291_2, A291_3, c291_3, e291, hx291_0, hx291_1, hx291_2, hx291_3, hx291_4, hx291_5, hl291_2, hi291_2, hl291_3, hi291_3⟩ := at_T82 HR0.out x5_1 p291 q291; obtain rfl : ad287 = ad291 := B9x13_; replace hx291_0 := (hbc HB hx291_0).trans hx291_0; replace hx291_1 := (hbc HB hx291_1).trans hx291_1; replace hx291_2 := (hbc HB hx291_2).trans hx291_2; replace hx291_3 := (hbc HB hx291_3).trans hx291_3; replace hx291_4 := (hbc HB hx291_4).trans hx291_4; replace hx291_5 := (hbc HB hx291_5).trans hx291_5; have HC291_2 := am hl291_2; clear hi291_2 hl291_2; have HR291_3 := am hi291_3; have HC291_3 := am hl291_3; clear hi291_3 hl291_3; replace p291 := eq_true p291; replace q291 := eq_true q291) | ((with_reducible refine gate_callee (f := 90) rfl ?_); refine gM (some 45) Try.func90 (laws_heldIntS.calls k1 _ _ ((rd_T82 l0 x5_1).f3) t290 t292 _ (tc (Kd.C_below HR291_3.out HB.out)) HC291_3.out A10.out) ?_; rintro w' ⟨nd, rfl⟩))
       go_ret; exact ⟨B9x3_, (Ae0 HB)⟩
      ·obtain ⟨c13, HZ11⟩ | ⟨c13, HZ11⟩ := sp HZ10
       ·obtain ⟨c13b0, c13b1⟩ := yE c13; clear c13
        obtain ⟨c14, HZ12⟩ | ⟨c14, HZ12⟩ := sp HZ11
        ·obtain ⟨c14b0, c14b1⟩ := yE c14; clear c14; replace HZ12 := am HZ12; clear HZ2 HZ3 HZ4 HZ5 HZ6 HZ7 HZ8 HZ9 HZ10 HZ11
         have p287 : 0 ≤ (x5_1 : Int) := dga
         have q287 : x5_1 < (l0.length : Int) := dga
         obtain ⟨ad287, A287_2, c287_2, A287_3, c287_3, e287, hx287_0, hx287_1, hx287_2, hx287_3, hx287_4, hx287_5, hl287_2, hi287_2, hl287_3, hi287_3⟩ := at_T82 HR0.out x5_1 p287 q287; cases e287; replace hx287_0 := (hbc HB hx287_0).trans hx287_0; replace hx287_1 := (hbc HB hx287_1).trans hx287_1; replace hx287_2 := (hbc HB hx287_2).trans hx287_2; replace hx287_3 := (hbc HB hx287_3).trans hx287_3; replace hx287_4 := (hbc HB hx287_4).trans hx287_4; replace hx287_5 := (hbc HB hx287_5).trans hx287_5; have HC287_2 := am hl287_2; clear hi287_2 hl287_2; have HC287_3 := am hl287_3; clear hi287_3 hl287_3; replace p287 := eq_true p287; replace q287 := eq_true q287
         have p288 : 0 ≤ (x5_1 : Int) := dga
         have q288 : x5_1 < (l0.length : Int) := dga
         obtain ⟨ad288, A288_2, c288_2, A288_3, c288_3, e288, hx288_0, hx288_1, hx288_2, hx288_3, hx288_4, hx288_5, hl288_2, hi288_2, hl288_3, hi288_3⟩ := at_T82 HR0.out x5_1 p288 q288; obtain rfl : ad287 = ad288 := B9x9_; replace hx288_0 := (hbc HB hx288_0).trans hx288_0; replace hx288_1 := (hbc HB hx288_1).trans hx288_1; replace hx288_2 := (hbc HB hx288_2).trans hx288_2; replace hx288_3 := (hbc HB hx288_3).trans hx288_3; replace hx288_4 := (hbc HB hx288_4).trans hx288_4; replace hx288_5 := (hbc HB hx288_5).trans hx288_5; have HC288_2 := am hl288_2; clear hi288_2 hl288_2; have HC288_3 := am hl288_3; clear hi288_3 hl288_3; replace p288 := eq_true p288; replace q288 := eq_true q288; have ea_ := Option.some.inj (hx287_2.symm.trans hx288_2)
         injection ea_ with ea_ en_ ec_
         subst ea_; subst ec_; clear en_; have ea_ := Option.some.inj (hx287_3.symm.trans hx288_3)
         injection ea_ with ea_ en_ ec_
         subst ea_; subst ec_; clear en_
         have p289 : 0 ≤ (x5_1 : Int) := dga
         have q289 : x5_1 < (l0.length : Int) := dga
         obtain ⟨ad289, A289_2, c289_2, A289_3, c289_3, e289, hx289_0, hx289_1, hx289_2, hx289_3, hx289_4, hx289_5, hl289_2, hi289_2, hl289_3, hi289_3⟩ := at_T82 HR0.out x5_1 p289 q289; obtain rfl : ad287 = ad289 := B9x10_; replace hx289_0 := (hbc HB hx289_0).trans hx289_0; replace hx289_1 := (hbc HB hx289_1).trans hx289_1; replace hx289_2 := (hbc HB hx289_2).trans hx289_2; replace hx289_3 := (hbc HB hx289_3).trans hx289_3; replace hx289_4 := (hbc HB hx289_4).trans hx289_4; replace hx289_5 := (hbc HB hx289_5).trans hx289_5; have HR289_2 := am hi289_2; have HC289_2 := am hl289_2; clear hi289_2 hl289_2; have HC289_3 := am hl289_3; clear hi289_3 hl289_3; replace p289 := eq_true p289; replace q289 := eq_true q289; have ea_ := Option.some.inj (hx287_2.symm.trans hx289_2)
         injection ea_ with ea_ en_ ec_
         subst ea_; subst ec_; clear en_; have ea_ := Option.some.inj (hx287_3.symm.trans hx289_3)
         injection ea_ with ea_ en_ ec_
         subst ea_; subst ec_; clear en_
         go_wp2_with (first | ((with_reducible refine gate_callee (f := 17) rfl ?_); refine gM (some 36) Try.func17 (laws_heldStringS.calls k1 _ _ ((rd_T82 l0 x5_1).f2) (wrap64 ((wrap64 (x1_1 + 1)) + 1)) t290 _ (tc (Kd.C_below HR289_2.out HB.out)) HC289_2.out A7.out) ?_; rintro w15 hb; replace HB := hA HB hb; (try clear hb); (try clear hl); have p291 : 0 ≤ (x5_1 : Int) := dga; have q291 : x5_1 < (l0.length : Int) := dga; obtain ⟨ad291, A291_2, c291_2, A291_3, c291_3, e291, hx291_0, hx291_1, hx291_2, hx291_3, hx291_4, hx291_5, hl291_2, hi291_2, hl291_3, hi291_3⟩ := at_T82 HR0.out x5_1 p291 q291; obtain rfl : ad287 = ad291 := B9x13_; replace hx291_0 := (hbc HB hx291_0).trans hx291_0; replace hx291_1 := (hbc HB hx291_1).trans hx291_1; replace hx291_2 := (hbc HB hx291_2).trans hx291_2; replace hx291_3 := (hbc HB hx291_3).trans hx291_3; replace hx291_4 := (hbc HB hx291_4).trans hx291_4; replace hx291_5 := (hbc HB hx291_5).trans hx291_5; have HC291_2 := am hl291_2; clear hi291_2 hl291_2; have HR291_3 := am hi291_3; have HC291_3 := am hl291_3; clear hi291_3 hl291_3; replace p291 := eq_true p291; replace q291 := eq_true q291) | ((with_reducible refine gate_callee (f := 90) rfl ?_); refine gM (some 45) Try.func90 (laws_heldIntS.calls k1 _ _ ((rd_T82 l0 x5_1).f3) t290 t292 _ (tc (Kd.C_below HR291_3.out HB.out)) HC291_3.out A10.out) ?_; rintro w' ⟨nd, rfl⟩; have p293 : 0 ≤ (x5_1 : Int) := dga; have q293 : x5_1 < (l0.length : Int) := dga; obtain ⟨ad293, A293_2, c293_2, A293_3, c293_3, e293, hx293_0, hx293_1, hx293_2, hx293_3, hx293_4, hx293_5, hl293_2, hi293_2, hl293_3, hi293_3⟩ := at_T82 HR0.out x5_1 p293 q293; obtain rfl : ad287 = ad293 := (by injection e293); replace hx293_0 := (hbc HB hx293_0).trans hx293_0; replace hx293_1 := (hbc HB hx293_1).trans hx293_1; replace hx293_2 := (hbc HB hx293_2).trans hx293_2; replace hx293_3 := (hbc HB hx293_3).trans hx293_3; replace hx293_4 := (hbc HB hx293_4).trans hx293_4; replace hx293_5 := (hbc HB hx293_5).trans hx293_5; have HC293_2 := am hl293_2; clear hi293_2 hl293_2; have HC293_3 := am hl293_3; clear hi293_3 hl293_3; replace p293 := eq_true p293; replace q293 := eq_true q293; have ea_ := Option.some.inj (hx291_2.symm.trans hx293_2); injection ea_ with ea_ en_ ec_; subst ea_; subst ec_; clear en_; have ea_ := Option.some.inj (hx291_3.symm.trans hx293_3); injection ea_ with ea_ en_ ec_; subst ea_; subst ec_; clear en_; have p294 : 0 ≤ (x5_1 : Int) := dga; have q294 : x5_1 < (l0.length : Int) := dga; obtain ⟨ad294, A294_2, c294_2, A294_3, c294_3, e294, hx294_0, hx294_1, hx294_2, hx294_3, hx294_4, hx294_5, hl294_2, hi294_2, hl294_3, hi294_3⟩ := at_T82 HR0.out x5_1 p294 q294; obtain rfl : ad287 = ad294 := (by injection e294); replace hx294_0 := (hbc HB hx294_0).trans hx294_0; replace hx294_1 := (hbc HB hx294_1).trans hx294_1; replace hx294_2 := (hbc HB hx294_2).trans hx294_2; replace hx294_3 := (hbc HB hx294_3).trans hx294_3; replace hx294_4 := (hbc HB hx294_4).trans hx294_4; replace hx294_5 := (hbc HB hx294_5).trans hx294_5; have HC294_2 := am hl294_2; clear hi294_2 hl294_2; have HC294_3 := am hl294_3; clear hi294_3 hl294_3; replace p294 := eq_true p294; replace q294 := eq_true q294; have ea_ := Option.some.inj (hx291_2.symm.trans hx294_2); injection ea_ with ea_ en_ ec_; subst ea_; subst ec_; clear en_; have ea_ := Option.some.inj (hx291_3.symm.trans hx294_3); injection ea_ with ea_ en_ ec_; subst ea_; subst ec_; clear en_))
         go_roundg k1
         case measure => have := HK1.out; omega
         case rel => exact ⟨(wrap64 ((wrap64 (t292 + 1)) + 1)), (wrap64 (x5_1 + 1)), (be_), (be_), HZ12, ⟨B9x12_⟩, ⟨(Ae0 HB)⟩⟩
        ·obtain ⟨c14b0, c14b1⟩ := nE c14; obtain rfl := Option.some.inj HZ12; clear HZ12 HZ2 HZ3 HZ4 HZ5 HZ6 HZ7 HZ8 HZ9 HZ10 HZ11
         have p287 : 0 ≤ (x5_1 : Int) := dga
         have q287 : x5_1 < (l0.length : Int) := dga
         obtain ⟨ad287, A287_2, c287_2, A287_3, c287_3, e287, hx287_0, hx287_1, hx287_2, hx287_3, hx287_4, hx287_5, hl287_2, hi287_2, hl287_3, hi287_3⟩ := at_T82 HR0.out x5_1 p287 q287; cases e287; replace hx287_0 := (hbc HB hx287_0).trans hx287_0; replace hx287_1 := (hbc HB hx287_1).trans hx287_1; replace hx287_2 := (hbc HB hx287_2).trans hx287_2; replace hx287_3 := (hbc HB hx287_3).trans hx287_3; replace hx287_4 := (hbc HB hx287_4).trans hx287_4; replace hx287_5 := (hbc HB hx287_5).trans hx287_5; have HC287_2 := am hl287_2; clear hi287_2 hl287_2; have HC287_3 := am hl287_3; clear hi287_3 hl287_3; replace p287 := eq_true p287; replace q287 := eq_true q287
         have p288 : 0 ≤ (x5_1 : Int) := dga
         have q288 : x5_1 < (l0.length : Int) := dga
         obtain ⟨ad288, A288_2, c288_2, A288_3, c288_3, e288, hx288_0, hx288_1, hx288_2, hx288_3, hx288_4, hx288_5, hl288_2, hi288_2, hl288_3, hi288_3⟩ := at_T82 HR0.out x5_1 p288 q288; obtain rfl : ad287 = ad288 := B9x9_; replace hx288_0 := (hbc HB hx288_0).trans hx288_0; replace hx288_1 := (hbc HB hx288_1).trans hx288_1; replace hx288_2 := (hbc HB hx288_2).trans hx288_2; replace hx288_3 := (hbc HB hx288_3).trans hx288_3; replace hx288_4 := (hbc HB hx288_4).trans hx288_4; replace hx288_5 := (hbc HB hx288_5).trans hx288_5; have HC288_2 := am hl288_2; clear hi288_2 hl288_2; have HC288_3 := am hl288_3; clear hi288_3 hl288_3; replace p288 := eq_true p288; replace q288 := eq_true q288; have ea_ := Option.some.inj (hx287_2.symm.trans hx288_2)
         injection ea_ with ea_ en_ ec_
         subst ea_; subst ec_; clear en_; have ea_ := Option.some.inj (hx287_3.symm.trans hx288_3)
         injection ea_ with ea_ en_ ec_
         subst ea_; subst ec_; clear en_
         have p289 : 0 ≤ (x5_1 : Int) := dga
         have q289 : x5_1 < (l0.length : Int) := dga
         obtain ⟨ad289, A289_2, c289_2, A289_3, c289_3, e289, hx289_0, hx289_1, hx289_2, hx289_3, hx289_4, hx289_5, hl289_2, hi289_2, hl289_3, hi289_3⟩ := at_T82 HR0.out x5_1 p289 q289; obtain rfl : ad287 = ad289 := B9x10_; replace hx289_0 := (hbc HB hx289_0).trans hx289_0; replace hx289_1 := (hbc HB hx289_1).trans hx289_1; replace hx289_2 := (hbc HB hx289_2).trans hx289_2; replace hx289_3 := (hbc HB hx289_3).trans hx289_3; replace hx289_4 := (hbc HB hx289_4).trans hx289_4; replace hx289_5 := (hbc HB hx289_5).trans hx289_5; have HR289_2 := am hi289_2; have HC289_2 := am hl289_2; clear hi289_2 hl289_2; have HC289_3 := am hl289_3; clear hi289_3 hl289_3; replace p289 := eq_true p289; replace q289 := eq_true q289; have ea_ := Option.some.inj (hx287_2.symm.trans hx289_2)
         injection ea_ with ea_ en_ ec_
         subst ea_; subst ec_; clear en_; have ea_ := Option.some.inj (hx287_3.symm.trans hx289_3)
         injection ea_ with ea_ en_ ec_
         subst ea_; subst ec_; clear en_
         go_wp2_with (first | ((with_reducible refine gate_callee (f := 17) rfl ?_); refine gM (some 36) Try.func17 (laws_heldStringS.calls k1 _ _ ((rd_T82 l0 x5_1).f2) (wrap64 ((wrap64 (x1_1 + 1)) + 1)) t290 _ (tc (Kd.C_below HR289_2.out HB.out)) HC289_2.out A7.out) ?_; rintro w16 hb; replace HB := hA HB hb; (try clear hb); (try clear hl); have p291 : 0 ≤ (x5_1 : Int) := dga; have q291 : x5_1 < (l0.length : Int) := dga; obtain ⟨ad291, A291_2, c291_2, A291_3, c291_3, e291, hx291_0, hx291_1, hx291_2, hx291_3, hx291_4, hx291_5, hl291_2, hi291_2, hl291_3, hi291_3⟩ := at_T82 HR0.out x5_1 p291 q291; obtain rfl : ad287 = ad291 := B9x13_; replace hx291_0 := (hbc HB hx291_0).trans hx291_0; replace hx291_1 := (hbc HB hx291_1).trans hx291_1; replace hx291_2 := (hbc HB hx291_2).trans hx291_2; replace hx291_3 := (hbc HB hx291_3).trans hx291_3; replace hx291_4 := (hbc HB hx291_4).trans hx291_4; replace hx291_5 := (hbc HB hx291_5).trans hx291_5; have HC291_2 := am hl291_2; clear hi291_2 hl291_2; have HR291_3 := am hi291_3; have HC291_3 := am hl291_3; clear hi291_3 hl291_3; replace p291 := eq_true p291; replace q291 := eq_true q291) | ((with_reducible refine gate_callee (f := 90) rfl ?_); refine gM (some 45) Try.func90 (laws_heldIntS.calls k1 _ _ ((rd_T82 l0 x5_1).f3) t290 t292 _ (tc (Kd.C_below HR291_3.out HB.out)) HC291_3.out A10.out) ?_; rintro w' ⟨nd, rfl⟩; have p293 : 0 ≤ (x5_1 : Int) := dga; have q293 : x5_1 < (l0.length : Int) := dga; obtain ⟨ad293, A293_2, c293_2, A293_3, c293_3, e293, hx293_0, hx293_1, hx293_2, hx293_3, hx293_4, hx293_5, hl293_2, hi293_2, hl293_3, hi293_3⟩ := at_T82 HR0.out x5_1 p293 q293; obtain rfl : ad287 = ad293 := (by injection e293); replace hx293_0 := (hbc HB hx293_0).trans hx293_0; replace hx293_1 := (hbc HB hx293_1).trans hx293_1; replace hx293_2 := (hbc HB hx293_2).trans hx293_2; replace hx293_3 := (hbc HB hx293_3).trans hx293_3; replace hx293_4 := (hbc HB hx293_4).trans hx293_4; replace hx293_5 := (hbc HB hx293_5).trans hx293_5; have HC293_2 := am hl293_2; clear hi293_2 hl293_2; have HC293_3 := am hl293_3; clear hi293_3 hl293_3; replace p293 := eq_true p293; replace q293 := eq_true q293; have ea_ := Option.some.inj (hx291_2.symm.trans hx293_2); injection ea_ with ea_ en_ ec_; subst ea_; subst ec_; clear en_; have ea_ := Option.some.inj (hx291_3.symm.trans hx293_3); injection ea_ with ea_ en_ ec_; subst ea_; subst ec_; clear en_; have p294 : 0 ≤ (x5_1 : Int) := dga; have q294 : x5_1 < (l0.length : Int) := dga; obtain ⟨ad294, A294_2, c294_2, A294_3, c294_3, e294, hx294_0, hx294_1, hx294_2, hx294_3, hx294_4, hx294_5, hl294_2, hi294_2, hl294_3, hi294_3⟩ := at_T82 HR0.out x5_1 p294 q294; obtain rfl : ad287 = ad294 := (by injection e294); replace hx294_0 := (hbc HB hx294_0).trans hx294_0; replace hx294_1 := (hbc HB hx294_1).trans hx294_1; replace hx294_2 := (hbc HB hx294_2).trans hx294_2; replace hx294_3 := (hbc HB hx294_3).trans hx294_3; replace hx294_4 := (hbc HB hx294_4).trans hx294_4; replace hx294_5 := (hbc HB hx294_5).trans hx294_5; have HC294_2 := am hl294_2; clear hi294_2 hl294_2; have HC294_3 := am hl294_3; clear hi294_3 hl294_3; replace p294 := eq_true p294; replace q294 := eq_true q294; have ea_ := Option.some.inj (hx291_2.symm.trans hx294_2); injection ea_ with ea_ en_ ec_; subst ea_; subst ec_; clear en_; have ea_ := Option.some.inj (hx291_3.symm.trans hx294_3); injection ea_ with ea_ en_ ec_; subst ea_; subst ec_; clear en_))
         go_ret; exact ⟨B9x3_, (Ae0 HB)⟩
       ·obtain ⟨c13b0, c13b1⟩ := nE c13; obtain rfl := Option.some.inj HZ11; clear HZ11 HZ2 HZ3 HZ4 HZ5 HZ6 HZ7 HZ8 HZ9 HZ10
        have p287 : 0 ≤ (x5_1 : Int) := dga
        have q287 : x5_1 < (l0.length : Int) := dga
        obtain ⟨ad287, A287_2, c287_2, A287_3, c287_3, e287, hx287_0, hx287_1, hx287_2, hx287_3, hx287_4, hx287_5, hl287_2, hi287_2, hl287_3, hi287_3⟩ := at_T82 HR0.out x5_1 p287 q287; cases e287; replace hx287_0 := (hbc HB hx287_0).trans hx287_0; replace hx287_1 := (hbc HB hx287_1).trans hx287_1; replace hx287_2 := (hbc HB hx287_2).trans hx287_2; replace hx287_3 := (hbc HB hx287_3).trans hx287_3; replace hx287_4 := (hbc HB hx287_4).trans hx287_4; replace hx287_5 := (hbc HB hx287_5).trans hx287_5; have HC287_2 := am hl287_2; clear hi287_2 hl287_2; have HC287_3 := am hl287_3; clear hi287_3 hl287_3; replace p287 := eq_true p287; replace q287 := eq_true q287
        have p288 : 0 ≤ (x5_1 : Int) := dga
        have q288 : x5_1 < (l0.length : Int) := dga
        obtain ⟨ad288, A288_2, c288_2, A288_3, c288_3, e288, hx288_0, hx288_1, hx288_2, hx288_3, hx288_4, hx288_5, hl288_2, hi288_2, hl288_3, hi288_3⟩ := at_T82 HR0.out x5_1 p288 q288; obtain rfl : ad287 = ad288 := B9x9_; replace hx288_0 := (hbc HB hx288_0).trans hx288_0; replace hx288_1 := (hbc HB hx288_1).trans hx288_1; replace hx288_2 := (hbc HB hx288_2).trans hx288_2; replace hx288_3 := (hbc HB hx288_3).trans hx288_3; replace hx288_4 := (hbc HB hx288_4).trans hx288_4; replace hx288_5 := (hbc HB hx288_5).trans hx288_5; have HC288_2 := am hl288_2; clear hi288_2 hl288_2; have HC288_3 := am hl288_3; clear hi288_3 hl288_3; replace p288 := eq_true p288; replace q288 := eq_true q288; have ea_ := Option.some.inj (hx287_2.symm.trans hx288_2)
        injection ea_ with ea_ en_ ec_
        subst ea_; subst ec_; clear en_; have ea_ := Option.some.inj (hx287_3.symm.trans hx288_3)
        injection ea_ with ea_ en_ ec_
        subst ea_; subst ec_; clear en_
        have p289 : 0 ≤ (x5_1 : Int) := dga
        have q289 : x5_1 < (l0.length : Int) := dga
        obtain ⟨ad289, A289_2, c289_2, A289_3, c289_3, e289, hx289_0, hx289_1, hx289_2, hx289_3, hx289_4, hx289_5, hl289_2, hi289_2, hl289_3, hi289_3⟩ := at_T82 HR0.out x5_1 p289 q289; obtain rfl : ad287 = ad289 := B9x10_; replace hx289_0 := (hbc HB hx289_0).trans hx289_0; replace hx289_1 := (hbc HB hx289_1).trans hx289_1; replace hx289_2 := (hbc HB hx289_2).trans hx289_2; replace hx289_3 := (hbc HB hx289_3).trans hx289_3; replace hx289_4 := (hbc HB hx289_4).trans hx289_4; replace hx289_5 := (hbc HB hx289_5).trans hx289_5; have HR289_2 := am hi289_2; have HC289_2 := am hl289_2; clear hi289_2 hl289_2; have HC289_3 := am hl289_3; clear hi289_3 hl289_3; replace p289 := eq_true p289; replace q289 := eq_true q289; have ea_ := Option.some.inj (hx287_2.symm.trans hx289_2)
        injection ea_ with ea_ en_ ec_
        subst ea_; subst ec_; clear en_; have ea_ := Option.some.inj (hx287_3.symm.trans hx289_3)
        injection ea_ with ea_ en_ ec_
        subst ea_; subst ec_; clear en_
        go_wp2_with (first | ((with_reducible refine gate_callee (f := 17) rfl ?_); refine gM (some 36) Try.func17 (laws_heldStringS.calls k1 _ _ ((rd_T82 l0 x5_1).f2) (wrap64 ((wrap64 (x1_1 + 1)) + 1)) t290 _ (tc (Kd.C_below HR289_2.out HB.out)) HC289_2.out A7.out) ?_; rintro w17 hb; replace HB := hA HB hb; (try clear hb); (try clear hl); have p291 : 0 ≤ (x5_1 : Int) := dga; have q291 : x5_1 < (l0.length : Int) := dga; obtain ⟨ad291, A291_2, c291_2, A291_3, c291_3, e291, hx291_0, hx291_1, hx291_2, hx291_3, hx291_4, hx291_5, hl291_2, hi291_2, hl291_3, hi291_3⟩ := at_T82 HR0.out x5_1 p291 q291; obtain rfl : ad287 = ad291 := B9x13_; replace hx291_0 := (hbc HB hx291_0).trans hx291_0; replace hx291_1 := (hbc HB hx291_1).trans hx291_1; replace hx291_2 := (hbc HB hx291_2).trans hx291_2; replace hx291_3 := (hbc HB hx291_3).trans hx291_3; replace hx291_4 := (hbc HB hx291_4).trans hx291_4; replace hx291_5 := (hbc HB hx291_5).trans hx291_5; have HC291_2 := am hl291_2; clear hi291_2 hl291_2; have HR291_3 := am hi291_3; have HC291_3 := am hl291_3; clear hi291_3 hl291_3; replace p291 := eq_true p291; replace q291 := eq_true q291) | ((with_reducible refine gate_callee (f := 90) rfl ?_); refine gM (some 45) Try.func90 (laws_heldIntS.calls k1 _ _ ((rd_T82 l0 x5_1).f3) t290 t292 _ (tc (Kd.C_below HR291_3.out HB.out)) HC291_3.out A10.out) ?_; rintro w' ⟨nd, rfl⟩; have p293 : 0 ≤ (x5_1 : Int) := dga; have q293 : x5_1 < (l0.length : Int) := dga; obtain ⟨ad293, A293_2, c293_2, A293_3, c293_3, e293, hx293_0, hx293_1, hx293_2, hx293_3, hx293_4, hx293_5, hl293_2, hi293_2, hl293_3, hi293_3⟩ := at_T82 HR0.out x5_1 p293 q293; obtain rfl : ad287 = ad293 := (by injection e293); replace hx293_0 := (hbc HB hx293_0).trans hx293_0; replace hx293_1 := (hbc HB hx293_1).trans hx293_1; replace hx293_2 := (hbc HB hx293_2).trans hx293_2; replace hx293_3 := (hbc HB hx293_3).trans hx293_3; replace hx293_4 := (hbc HB hx293_4).trans hx293_4; replace hx293_5 := (hbc HB hx293_5).trans hx293_5; have HC293_2 := am hl293_2; clear hi293_2 hl293_2; have HC293_3 := am hl293_3; clear hi293_3 hl293_3; replace p293 := eq_true p293; replace q293 := eq_true q293; have ea_ := Option.some.inj (hx291_2.symm.trans hx293_2); injection ea_ with ea_ en_ ec_; subst ea_; subst ec_; clear en_; have ea_ := Option.some.inj (hx291_3.symm.trans hx293_3); injection ea_ with ea_ en_ ec_; subst ea_; subst ec_; clear en_))
        go_ret; exact ⟨B9x3_, (Ae0 HB)⟩
    ·obtain ⟨c6b0, c6b1⟩ := nE c6; obtain rfl := Option.some.inj HZ6; clear HZ6 HZ2 HZ3 HZ4 HZ5
     have p287 : 0 ≤ (x5_1 : Int) := dga
     have q287 : x5_1 < (l0.length : Int) := dga
     obtain ⟨ad287, A287_2, c287_2, A287_3, c287_3, e287, hx287_0, hx287_1, hx287_2, hx287_3, hx287_4, hx287_5, hl287_2, hi287_2, hl287_3, hi287_3⟩ := at_T82 HR0.out x5_1 p287 q287; cases e287; replace hx287_0 := (hbc HB hx287_0).trans hx287_0; replace hx287_1 := (hbc HB hx287_1).trans hx287_1; replace hx287_2 := (hbc HB hx287_2).trans hx287_2; replace hx287_3 := (hbc HB hx287_3).trans hx287_3; replace hx287_4 := (hbc HB hx287_4).trans hx287_4; replace hx287_5 := (hbc HB hx287_5).trans hx287_5; have HC287_2 := am hl287_2; clear hi287_2 hl287_2; have HC287_3 := am hl287_3; clear hi287_3 hl287_3; replace p287 := eq_true p287; replace q287 := eq_true q287
     have p288 : 0 ≤ (x5_1 : Int) := dga
     have q288 : x5_1 < (l0.length : Int) := dga
     obtain ⟨ad288, A288_2, c288_2, A288_3, c288_3, e288, hx288_0, hx288_1, hx288_2, hx288_3, hx288_4, hx288_5, hl288_2, hi288_2, hl288_3, hi288_3⟩ := at_T82 HR0.out x5_1 p288 q288; obtain rfl : ad287 = ad288 := B9x9_; replace hx288_0 := (hbc HB hx288_0).trans hx288_0; replace hx288_1 := (hbc HB hx288_1).trans hx288_1; replace hx288_2 := (hbc HB hx288_2).trans hx288_2; replace hx288_3 := (hbc HB hx288_3).trans hx288_3; replace hx288_4 := (hbc HB hx288_4).trans hx288_4; replace hx288_5 := (hbc HB hx288_5).trans hx288_5; have HC288_2 := am hl288_2; clear hi288_2 hl288_2; have HC288_3 := am hl288_3; clear hi288_3 hl288_3; replace p288 := eq_true p288; replace q288 := eq_true q288; have ea_ := Option.some.inj (hx287_2.symm.trans hx288_2)
     injection ea_ with ea_ en_ ec_
     subst ea_; subst ec_; clear en_; have ea_ := Option.some.inj (hx287_3.symm.trans hx288_3)
     injection ea_ with ea_ en_ ec_
     subst ea_; subst ec_; clear en_
     go_wp2
     go_ret; exact ⟨B9x3_, (Ae0 HB)⟩
   ·obtain ⟨c5b0, c5b1⟩ := nE c5; obtain rfl := Option.some.inj HZ5; clear HZ5 HZ2 HZ3 HZ4
    have p287 : 0 ≤ (x5_1 : Int) := dga
    have q287 : x5_1 < (l0.length : Int) := dga
    obtain ⟨ad287, A287_2, c287_2, A287_3, c287_3, e287, hx287_0, hx287_1, hx287_2, hx287_3, hx287_4, hx287_5, hl287_2, hi287_2, hl287_3, hi287_3⟩ := at_T82 HR0.out x5_1 p287 q287; cases e287; replace hx287_0 := (hbc HB hx287_0).trans hx287_0; replace hx287_1 := (hbc HB hx287_1).trans hx287_1; replace hx287_2 := (hbc HB hx287_2).trans hx287_2; replace hx287_3 := (hbc HB hx287_3).trans hx287_3; replace hx287_4 := (hbc HB hx287_4).trans hx287_4; replace hx287_5 := (hbc HB hx287_5).trans hx287_5; have HC287_2 := am hl287_2; clear hi287_2 hl287_2; have HC287_3 := am hl287_3; clear hi287_3 hl287_3; replace p287 := eq_true p287; replace q287 := eq_true q287
    go_wp2
    go_ret; exact ⟨B9x3_, (Ae0 HB)⟩
  ·obtain rfl := Option.some.inj HZ3; clear HZ3 HZ2
   go_wp2
   go_ret; exact ⟨B9x3_, (Ae0 HB)⟩

/-! ### laws_heldBitsSS: function 89 -/
def laws_heldBitsSS.l0 : Nat → List (List (S82)) → Int → Int → Option (Int)
 | 0, _, _, _ => none
 | k + 1, x0, x1, x5 => if x5 < (x0.length : Int) then (if 0 ≤ x5 then ((laws_heldBitsS.f k (rd_L9 x0 x5) x1).bind fun t296 => (if t296 < 0 then (some (-1)) else (laws_heldBitsSS.l0 k x0 t296 (wrap64 (x5 + 1))))) else (none)) else (some x1)
def laws_heldBitsSS.f (k : Nat) (l0 : List (List (S82))) (a1 : Int) : Option (Int) := laws_heldBitsSS.l0 k l0 a1 0
set_option maxHeartbeats 8000000 in
set_option maxRecDepth 100000 in
theorem laws_heldBitsSS.calls (k : Nat) (A0 : Option Addr) (c0 : Nat) (l0 : List (List (S82))) (a1 : Int) (r : Int) (w : World) (hr0 : Kd.C (Kd.slice 82 k82) w A0 l0.length l0) (hc0 : l0.length ≤ c0) (h : laws_heldBitsSS.f k l0 a1 = some r) :
  Calls Try.prog 89 #[.slice A0 l0.length c0, .int .i64 a1] w fun e w' => e = .returned (.int .i64 r) ∧ Below w.heap.size w w' := by
 have HR0 := am hr0
 have HC0 := am hc0
 clear hr0 hc0
 have HB := am (Below.refl w.heap.size w)
 have HZ1 := h
 clear h
 unfold laws_heldBitsSS.f at HZ1
 replace HZ1 := am HZ1
 go_enter Try.func89, Try.ntmps89
 go_wp2
 go_loopg [1, 5] k (fun kq v1 v5 w' => ∃ (x1_1 : Int) (x5_1 : Int), v1 = .int .i64 x1_1 ∧ v5 = .int .i64 x5_1 ∧ Aside0 (laws_heldBitsSS.l0 kq l0 x1_1 x5_1 = some r) ∧ Aside0 (kq ≤ k) ∧ Aside0 (Below w.heap.size w w'))
 case atStart => exact ⟨(a1), (0), (be_), (be_), HZ1, ⟨Nat.le_refl _⟩, ⟨(Ae0 HB)⟩⟩
 case round =>
  clear HZ1; obtain ⟨x1_1, x5_1, rfl, rfl, HZ2, HK1, HB⟩ := hrel
  cases gk with
  | zero => exact absurd HZ2.out (by simp [laws_heldBitsSS.l0])
  | succ k1 => ?_
  replace HZ2 := HZ2.out; simp only [laws_heldBitsSS.l0] at HZ2
  obtain ⟨c3b0, HZ3⟩ | ⟨c3b0, HZ3⟩ := sd HZ2
  ·obtain ⟨c4b0, HZ4⟩ := yd HZ3; obtain ⟨t296, A5, HZ5⟩ := bsi HZ4; (try dsimp only at HZ5)
   obtain ⟨c6b0, HZ6⟩ | ⟨c6b0, HZ6⟩ := sd HZ5
   ·obtain rfl := Option.some.inj HZ6; clear HZ6 HZ2 HZ3 HZ4 HZ5
    have p295 : 0 ≤ (x5_1 : Int) := dga
    have q295 : x5_1 < (l0.length : Int) := dga
    obtain ⟨ad295, A295_0, c295_0, e295, hx295_0, hl295_0, hi295_0⟩ := at_L9 HR0.out x5_1 p295 q295; cases e295; replace hx295_0 := (hbc HB hx295_0).trans hx295_0; have HR295_0 := am hi295_0; have HC295_0 := am hl295_0; clear hi295_0 hl295_0; replace p295 := eq_true p295; replace q295 := eq_true q295
    go_wp2_with (first | ((with_reducible refine gate_callee (f := 46) rfl ?_); refine gM (some 17) Try.func46 (laws_heldBitsS.calls k1 _ _ (rd_L9 l0 x5_1) x1_1 t296 _ (tc (Kd.C_below HR295_0.out HB.out)) HC295_0.out A5.out) ?_; rintro w7 hb; replace HB := hA HB hb; (try clear hb); (try clear hl)))
    go_ret; exact ⟨B9x3_, (Ae0 HB)⟩
   replace HZ6 := am HZ6; clear HZ2 HZ3 HZ4 HZ5
   have p295 : 0 ≤ (x5_1 : Int) := dga
   have q295 : x5_1 < (l0.length : Int) := dga
   obtain ⟨ad295, A295_0, c295_0, e295, hx295_0, hl295_0, hi295_0⟩ := at_L9 HR0.out x5_1 p295 q295; cases e295; replace hx295_0 := (hbc HB hx295_0).trans hx295_0; have HR295_0 := am hi295_0; have HC295_0 := am hl295_0; clear hi295_0 hl295_0; replace p295 := eq_true p295; replace q295 := eq_true q295
   go_wp2_with (first | ((with_reducible refine gate_callee (f := 46) rfl ?_); refine gM (some 17) Try.func46 (laws_heldBitsS.calls k1 _ _ (rd_L9 l0 x5_1) x1_1 t296 _ (tc (Kd.C_below HR295_0.out HB.out)) HC295_0.out A5.out) ?_; rintro w8 hb; replace HB := hA HB hb; (try clear hb); (try clear hl)))
   go_roundg k1
   case measure => have := HK1.out; omega
   case rel => exact ⟨(t296), (wrap64 (x5_1 + 1)), (be_), (be_), HZ6, ⟨B9x12_⟩, ⟨(Ae0 HB)⟩⟩
  obtain rfl := Option.some.inj HZ3; clear HZ3 HZ2
  go_wp2
  go_ret; exact ⟨B9x3_, (Ae0 HB)⟩

end Go.Proofs.Ytmknnoeggkgkgaa.QFnExactEndsNew
