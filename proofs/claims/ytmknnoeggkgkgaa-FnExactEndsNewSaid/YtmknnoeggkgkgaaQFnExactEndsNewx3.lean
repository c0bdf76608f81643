/- Functions that a law reaches, as functions of Lean, and the walks that show that the calls come to their answers: written by a program of this project out of the translation. No condition. -/
import Derived.Test.YtmknnoeggkgkgaaQFnExactEndsNewx0
import Derived.Test.YtmknnoeggkgkgaaVFnExactEndsNewhort4
import Derived.Test.YtmknnoeggkgkgaaVFnExactEndsNewhort3
import Derived.Test.YtmknnoeggkgkgaaVFnExactEndsNewShort2
import Derived.Test.YtmknnoeggkgkgaaVFnExactEndsNewShort
import Derived.Test.YtmknnoeggkgkgaaVFnExactEndsNewhort8
namespace Go.Proofs.Ytmknnoeggkgkgaa.QFnExactEndsNew
open Go.RowKit Go.Proofs.YtmknnoeggkgkgaaW.PrintWords Go.Proofs.YtmknnoeggkgkgaaW.PrintLast Go.Proofs.YtmknnoeggkgkgaaW.PrintMore Go.Proofs.Ytmknnoeggkgkgaa.Short
attribute [local go_sem] max2_int min2_int max_two min_two max_three min_three max_four min_four   -- for this text's walks alone
set_option linter.unusedVariables false
set_option linter.unusedSimpArgs false

theorem B3x3_ {p : Prop} (h : p := by first | rfl | (simp [errW_none, errW_some] <;> rfl) | (simp [*, errW_none, errW_some] <;> rfl)) : p := h
/-! ### laws_eqStringS: function 15 -/
def laws_eqStringS.l0 : Nat → List ByteArray → List ByteArray → Int → Option (Bool)
 | 0, _, _, _ => none
 | k + 1, x0, x1, x5 => if x5 < (x0.length : Int) then (if 0 ≤ x5 then (if x5 < (x1.length : Int) then (if (rdOf ByteArray.empty x0 x5).toList = (rdOf ByteArray.empty x1 x5).toList then (laws_eqStringS.l0 k x0 x1 (wrap64 (x5 + 1))) else (some false)) else (none)) else (none)) else (some true)
def laws_eqStringS.f (k : Nat) (l0 : List ByteArray) (l1 : List ByteArray) : Option (Bool) := if (l0.length : Int) = (l1.length : Int) then (laws_eqStringS.l0 k l0 l1 0) else (some false)
set_option maxHeartbeats 8000000 in
set_option maxRecDepth 100000 in
theorem laws_eqStringS.calls (k : Nat) (A0 : Option Addr) (c0 : Nat) (l0 : List ByteArray) (A1 : Option Addr) (c1 : Nat) (l1 : List ByteArray) (r : Bool) (w : World) (hr0 : Kd.C Kd.string w A0 l0.length l0) (hc0 : l0.length ≤ c0) (hr1 : Kd.C Kd.string w A1 l1.length l1) (hc1 : l1.length ≤ c1) (h : laws_eqStringS.f k l0 l1 = some r) :
  Calls Try.prog 15 #[.slice A0 l0.length c0, .slice A1 l1.length c1] w fun e w' => e = .returned (.bool r) ∧ Drawn0 w w' := by
 have HR0 := am hr0
 have HC0 := am hc0
 clear hr0 hc0
 have HR1 := am hr1
 have HC1 := am hc1
 clear hr1 hc1
 have HZ1 := h
 clear h
 unfold laws_eqStringS.f at HZ1
 obtain ⟨c3, HZ2⟩ | ⟨c3, HZ2⟩ := sp HZ1
 ·obtain ⟨c3b0, c3b1⟩ := yE c3
  have c3b2 : (l0.length == l1.length) = true := by first | simpa using c3 | (simp at c3 ⊢; omega)
  clear c3; replace HZ2 := am HZ2; clear HZ1; go_enter Try.func15, Try.ntmps15
  go_wp2
  repeat (go_quiet (fail); try go_wp2)
  go_loopg [5] k (fun kq v5 w' => ∃ (x5_1 : Int), v5 = .int .i64 x5_1 ∧ Aside0 (laws_eqStringS.l0 kq l0 l1 x5_1 = some r) ∧ Aside0 (kq ≤ k) ∧ Drawn0 w w')
  case atStart => exact ⟨(0), (be_), HZ2, ⟨Nat.le_refl _⟩, gd_⟩
  case round =>
   clear HZ2
   try clear c1
   try clear c3
   try clear c3b0
   try clear c3b1
   try clear c3b2
   obtain ⟨x5_1, rfl, HZ3, HK1, ⟨m1, rfl⟩⟩ := hrel
   cases gk with
   | zero => exact absurd HZ3.out (by simp [laws_eqStringS.l0])
   | succ k1 => ?_
   replace HZ3 := HZ3.out; simp only [laws_eqStringS.l0] at HZ3
   obtain ⟨c4b0, HZ4⟩ | ⟨c4b0, HZ4⟩ := sd HZ3
   ·obtain ⟨c5b0, HZ5⟩ := yd HZ4; obtain ⟨c6b0, HZ6⟩ := yd HZ5
    obtain ⟨c7, HZ7⟩ | ⟨c7, HZ7⟩ := sp HZ6
    ·obtain ⟨c7b0, c7b1⟩ := yE c7; clear c7; replace HZ7 := am HZ7; clear HZ3 HZ4 HZ5 HZ6
     have p202 : 0 ≤ (x5_1 : Int) := dga
     have q202 : x5_1 < (l0.length : Int) := dga
     obtain ⟨ad202, e202, hx202_0⟩ := Kd.at_string HR0.out x5_1 p202 q202; cases e202; replace p202 := eq_true p202; replace q202 := eq_true q202
     have p203 : 0 ≤ (x5_1 : Int) := dga
     have q203 : x5_1 < (l1.length : Int) := dga
     obtain ⟨ad203, e203, hx203_0⟩ := Kd.at_string HR1.out x5_1 p203 q203; cases e203; replace p203 := eq_true p203; replace q203 := eq_true q203
     go_wp2
     repeat (go_quiet (fail); try go_wp2)
     go_roundg k1
     case measure => have := HK1.out; omega
     case rel => exact ⟨(wrap64 (x5_1 + 1)), (be_), HZ7, ⟨(by have := HK1.out; omega)⟩, gd_⟩
    ·obtain ⟨c7b0, c7b1⟩ := nE c7; obtain rfl := Option.some.inj HZ7; clear HZ7 HZ3 HZ4 HZ5 HZ6
     have p202 : 0 ≤ (x5_1 : Int) := dga
     have q202 : x5_1 < (l0.length : Int) := dga
     obtain ⟨ad202, e202, hx202_0⟩ := Kd.at_string HR0.out x5_1 p202 q202; cases e202; replace p202 := eq_true p202; replace q202 := eq_true q202
     have p203 : 0 ≤ (x5_1 : Int) := dga
     have q203 : x5_1 < (l1.length : Int) := dga
     obtain ⟨ad203, e203, hx203_0⟩ := Kd.at_string HR1.out x5_1 p203 q203; cases e203; replace p203 := eq_true p203; replace q203 := eq_true q203
     go_wp2
     repeat (go_quiet (fail); try go_wp2)
     go_ret; exact ⟨gr_, gd_⟩
   ·obtain rfl := Option.some.inj HZ4; clear HZ4 HZ3
    go_wp2
    repeat (go_quiet (fail); try go_wp2)
    go_ret; exact ⟨gr_, gd_⟩
 ·obtain ⟨c3b0, c3b1⟩ := nE c3
  have c3b2 : (l0.length == l1.length) = false := by first | simpa using c3 | (simp at c3 ⊢; omega)
  obtain rfl := Option.some.inj HZ2; clear HZ2 HZ1; go_enter Try.func15, Try.ntmps15
  go_wp2
  repeat (go_quiet (fail); try go_wp2)
  go_ret; exact ⟨gr_, gd_⟩

/-! ### laws_eqLate: function 136 -/
def laws_eqLate.f (a0_0 : Int) (a0_1 : ByteArray) (a1_0 : Int) (a1_1 : ByteArray) : Option (Bool) := if a0_0 = a1_0 then (if a0_1.toList = a1_1.toList then (some true) else (some false)) else (some false)
set_option maxHeartbeats 8000000 in
set_option maxRecDepth 100000 in
theorem laws_eqLate.calls (a0_0 : Int) (a0_1 : ByteArray) (a1_0 : Int) (a1_1 : ByteArray) (r : Bool) (w : World) (h : laws_eqLate.f a0_0 a0_1 a1_0 a1_1 = some r) :
  Calls Try.prog 136 #[.agg #[.int .i64 a0_0, .string a0_1], .agg #[.int .i64 a1_0, .string a1_1]] w fun e w' => e = .returned (.bool r) ∧ Below w.heap.size w w' := by
 have hu143 := Try.underlying143
 have HB := am (Below.refl w.heap.size w)
 have HZ1 := h
 clear h
 unfold laws_eqLate.f at HZ1
 obtain ⟨c3, HZ2⟩ | ⟨c3, HZ2⟩ := sp HZ1
 ·obtain ⟨c3b0, c3b1⟩ := yE c3; clear c3
  obtain ⟨c4, HZ3⟩ | ⟨c4, HZ3⟩ := sp HZ2
  ·obtain ⟨c4b0, c4b1⟩ := yE c4; clear c4; obtain rfl := Option.some.inj HZ3; clear HZ3 HZ1 HZ2; go_enter Try.func136, Try.ntmps136
   go_wp2_with (first | ((with_reducible refine gate_dst (N := 2) rfl ?_); refine bx (N := 2) (cs := #[.int .i64 a0_0, .string a0_1]) (t := 143) ?_; intro gb204 hg w5 hbox hb; have BK204 := am (hbox); have GE204 := gA hg HB; replace HB := hA HB hb; clear hb hbox hg) | ((with_reducible refine gate_dst (N := 3) rfl ?_); refine bx (N := 3) (cs := #[.int .i64 a1_0, .string a1_1]) (t := 143) ?_; intro gb205 hg w6 hbox hb; have BK205 := am (hbox); have GE205 := gA hg HB; replace HB := am (below_step (Ae1 HB GE204) hb); have NB204_205 := nA hg BK204; have NB205_204 := mA hg BK204; replace BK204 := bA BK204 hb; clear hb hbox hg; have hnb7 := NB204_205.out; have hnc7 := NB205_204.out; obtain ⟨zc204_0, zc204_1, zf204_0, zf204_1⟩ := cf2 BK204; obtain ⟨zc205_0, zc205_1, zf205_0, zf205_1⟩ := cf2 BK205))
   go_ret; exact ⟨B3x3_, (Ae2 HB GE204 GE205)⟩
  ·obtain ⟨c4b0, c4b1⟩ := nE c4; obtain rfl := Option.some.inj HZ3; clear HZ3 HZ1 HZ2; go_enter Try.func136, Try.ntmps136
   go_wp2_with (first | ((with_reducible refine gate_dst (N := 2) rfl ?_); refine bx (N := 2) (cs := #[.int .i64 a0_0, .string a0_1]) (t := 143) ?_; intro gb204 hg w10 hbox hb; have BK204 := am (hbox); have GE204 := gA hg HB; replace HB := hA HB hb; clear hb hbox hg) | ((with_reducible refine gate_dst (N := 3) rfl ?_); refine bx (N := 3) (cs := #[.int .i64 a1_0, .string a1_1]) (t := 143) ?_; intro gb205 hg w11 hbox hb; have BK205 := am (hbox); have GE205 := gA hg HB; replace HB := am (below_step (Ae1 HB GE204) hb); have NB204_205 := nA hg BK204; have NB205_204 := mA hg BK204; replace BK204 := bA BK204 hb; clear hb hbox hg; have hnb12 := NB204_205.out; have hnc12 := NB205_204.out; obtain ⟨zc204_0, zc204_1, zf204_0, zf204_1⟩ := cf2 BK204; obtain ⟨zc205_0, zc205_1, zf205_0, zf205_1⟩ := cf2 BK205))
   go_ret; exact ⟨B3x3_, (Ae2 HB GE204 GE205)⟩
 ·obtain ⟨c3b0, c3b1⟩ := nE c3; obtain rfl := Option.some.inj HZ2; clear HZ2 HZ1; go_enter Try.func136, Try.ntmps136
  go_wp2_with (first | ((with_reducible refine gate_dst (N := 2) rfl ?_); refine bx (N := 2) (cs := #[.int .i64 a0_0, .string a0_1]) (t := 143) ?_; intro gb204 hg w15 hbox hb; have BK204 := am (hbox); have GE204 := gA hg HB; replace HB := hA HB hb; clear hb hbox hg) | ((with_reducible refine gate_dst (N := 3) rfl ?_); refine bx (N := 3) (cs := #[.int .i64 a1_0, .string a1_1]) (t := 143) ?_; intro gb205 hg w16 hbox hb; have BK205 := am (hbox); have GE205 := gA hg HB; replace HB := am (below_step (Ae1 HB GE204) hb); have NB204_205 := nA hg BK204; have NB205_204 := mA hg BK204; replace BK204 := bA BK204 hb; clear hb hbox hg; have hnb17 := NB204_205.out; have hnc17 := NB205_204.out; obtain ⟨zc204_0, zc204_1, zf204_0, zf204_1⟩ := cf2 BK204; obtain ⟨zc205_0, zc205_1, zf205_0, zf205_1⟩ := cf2 BK205))
  go_ret; exact ⟨B3x3_, (Ae2 HB GE204 GE205)⟩

/-! ### laws_eqLateS: function 77 -/
def laws_eqLateS.l0 : Nat → List (S143) → List (S143) → Int → Option (Bool)
 | 0, _, _, _ => none
 | k + 1, x0, x1, x5 => if x5 < (x0.length : Int) then (if 0 ≤ x5 then (if x5 < (x1.length : Int) then ((laws_eqLate.f ((rd_T143 x0 x5).f0) ((rd_T143 x0 x5).f1) ((rd_T143 x1 x5).f0) ((rd_T143 x1 x5).f1)).bind fun t208 => (if t208 = true then (laws_eqLateS.l0 k x0 x1 (wrap64 (x5 + 1))) else (some false))) else (none)) else (none)) else (some true)
def laws_eqLateS.f (k : Nat) (l0 : List (S143)) (l1 : List (S143)) : Option (Bool) := if (l0.length : Int) = (l1.length : Int) then (laws_eqLateS.l0 k l0 l1 0) else (some false)
def laws_eqLateS.T6 : Bool × List (List Nat × List Nat) := (true, [([], []), ([], []), ([0, 1], [0, 1]), ([2], [2]), ([], []), ([], []), ([4, 5], [4, 5]), ([6], [6]), ([3, 7], [3, 7]), ([8], [8])])
def laws_eqLateS.B6 : List Nat := [0, 0, 3, 7, 0, 0, 48, 112, 255, 511]
theorem laws_eqLateS.tab6 : rtab .any (opsOf Try.f77 6) = laws_eqLateS.T6 := by kernel_rfl
theorem laws_eqLateS.bits6 : waitsOk laws_eqLateS.T6.2 laws_eqLateS.B6 = true := by kernel_rfl
set_option maxHeartbeats 8000000 in
set_option maxRecDepth 100000 in
theorem laws_eqLateS.calls (k : Nat) (A0 : Option Addr) (c0 : Nat) (l0 : List (S143)) (A1 : Option Addr) (c1 : Nat) (l1 : List (S143)) (r : Bool) (w : World) (hr0 : Kd.C k143 w A0 l0.length l0) (hc0 : l0.length ≤ c0) (hr1 : Kd.C k143 w A1 l1.length l1) (hc1 : l1.length ≤ c1) (h : laws_eqLateS.f k l0 l1 = some r) :
  Calls Try.prog 77 #[.slice A0 l0.length c0, .slice A1 l1.length c1] w fun e w' => e = .returned (.bool r) ∧ Below w.heap.size w w' := by
 have hu143 := Try.underlying143
 have HR0 := am hr0
 have HC0 := am hc0
 clear hr0 hc0
 have HR1 := am hr1
 have HC1 := am hc1
 clear hr1 hc1
 have HB := am (Below.refl w.heap.size w)
 have HZ1 := h
 clear h
 unfold laws_eqLateS.f at HZ1
 obtain ⟨c3, HZ2⟩ | ⟨c3, HZ2⟩ := sp HZ1
 ·obtain ⟨c3b0, c3b1⟩ := yE c3
  have c3b2 : (l0.length == l1.length) = true := by first | simpa using c3 | (simp at c3 ⊢; omega)
  clear c3; replace HZ2 := am HZ2; clear HZ1; go_enter Try.func77, Try.ntmps77
  go_wp2
  go_loopg [5] k (fun kq v5 w' => ∃ (x5_1 : Int), v5 = .int .i64 x5_1 ∧ Aside0 (laws_eqLateS.l0 kq l0 l1 x5_1 = some r) ∧ Aside0 (kq ≤ k) ∧ Aside0 (Below w.heap.size w w'))
  case atStart => exact ⟨(0), (be_), HZ2, ⟨Nat.le_refl _⟩, ⟨(Ae0 HB)⟩⟩
  case round =>
   clear HZ2
   try clear c1
   try clear c3
   try clear c3b0
   try clear c3b1
   try clear c3b2
   obtain ⟨x5_1, rfl, HZ3, HK1, HB⟩ := hrel
   cases gk with
   | zero => exact absurd HZ3.out (by simp [laws_eqLateS.l0])
   | succ k1 => ?_
   replace HZ3 := HZ3.out; simp only [laws_eqLateS.l0] at HZ3
   obtain ⟨c4b0, HZ4⟩ | ⟨c4b0, HZ4⟩ := sd HZ3
   ·obtain ⟨c5b0, HZ5⟩ := yd HZ4; obtain ⟨c6b0, HZ6⟩ := yd HZ5; obtain ⟨t208, A7, HZ7⟩ := bsi HZ6; (try dsimp only at HZ7)
    obtain ⟨rfl, HZ8⟩ | ⟨rfl, HZ8⟩ := sb HZ7
    ·replace HZ8 := am HZ8; clear HZ3 HZ4 HZ5 HZ6 HZ7
     try go_wp2
     replace HB := am (below_drew1 HB.out)
     have p206 : 0 ≤ (x5_1 : Int) := dga
     have q206 : x5_1 < (l0.length : Int) := dga
     obtain ⟨ad206, e206, hx206_0, hx206_1⟩ := at_T143 HR0.out x5_1 p206 q206; have hw206_1 := hx206_1; have hw206_0 := hx206_0; cases e206; replace hx206_0 := (hbc HB hx206_0).trans hx206_0; replace hx206_1 := (hbc HB hx206_1).trans hx206_1; replace p206 := eq_true p206; replace q206 := eq_true q206
     have p207 : 0 ≤ (x5_1 : Int) := dga
     have q207 : x5_1 < (l1.length : Int) := dga
     obtain ⟨ad207, e207, hx207_0, hx207_1⟩ := at_T143 HR1.out x5_1 p207 q207; have hw207_1 := hx207_1; have hw207_0 := hx207_0; cases e207; replace hx207_0 := (hbc HB hx207_0).trans hx207_0; replace hx207_1 := (hbc HB hx207_1).trans hx207_1; replace p207 := eq_true p207; replace q207 := eq_true q207; refine start_ (n := 10) (S := fun w' => w'.cell? (ad206.add ((x5_1).toNat * 2)) = some (.int .i64 ((rd_T143 l0 x5_1).f0)) ∧ w'.cell? ⟨(ad206.add ((x5_1).toNat * 2)).block, (ad206.add ((x5_1).toNat * 2)).off + 1, none⟩ = some (.string ((rd_T143 l0 x5_1).f1)) ∧ w'.cell? (ad207.add ((x5_1).toNat * 2)) = some (.int .i64 ((rd_T143 l1 x5_1).f0)) ∧ w'.cell? ⟨(ad207.add ((x5_1).toNat * 2)).block, (ad207.add ((x5_1).toNat * 2)).off + 1, none⟩ = some (.string ((rd_T143 l1 x5_1).f1))) (ds := []) #[false, false, false, false, false, false, false, false, false, false] gk_ rfl rfl ⟨((hbc HB hw206_0).trans hw206_0), ((hbc HB hw206_1).trans hw206_1), ((hbc HB hw207_0).trans hw207_0), ((hbc HB hw207_1).trans hw207_1)⟩ (fun hHeld => ?_); refine with_tabW laws_eqLateS.tab6 laws_eqLateS.bits6 (fun HT_ HW_ => ?_); generalize wr.drew = w9 at HB hx206_0 hx206_1 hx207_0 hx207_1 hHeld ⊢; refine pu_ 0 17 HT_ ?_; refine pu_ 1 18 HT_ ?_; refine pu_ 2 19 HT_ ?_; refine pu_ 4 21 HT_ ?_; refine pu_ 5 22 HT_ ?_; refine pu_ 6 23 HT_ ?_; refine ta_ 3 20 HT_ HW_ hHeld ?_; refine ta_ 7 24 HT_ HW_ hHeld ?_; refine on_ 8 (some 25) HT_ (fun K hK => ?_); refine gT Try.func136 (laws_eqLate.calls ((rd_T143 l0 x5_1).f0) ((rd_T143 l0 x5_1).f1) ((rd_T143 l1 x5_1).f0) ((rd_T143 l1 x5_1).f1) true _ A7.out) ?_; rintro w10 hb; replace HB := hA HB hb; (try clear hb); (try clear hb2); (try clear hk); (try clear hi); (try clear hl); refine hK.out _ _ ⟨((hbc HB hw206_0).trans hw206_0), ((hbc HB hw206_1).trans hw206_1), ((hbc HB hw207_0).trans hw207_0), ((hbc HB hw207_1).trans hw207_1)⟩ (fun hHeld => nm_ ?_); clear hK K; refine pu_ 9 26 HT_ ?_; refine done_ (done_of HT_.out gk_) ?_
     try go_wp2
     go_roundg k1
     case measure => have := HK1.out; omega
     case rel => exact ⟨(wrap64 (x5_1 + 1)), (be_), HZ8, ⟨(by have := HK1.out; omega)⟩, ⟨(Ae0 HB)⟩⟩
    ·obtain rfl := Option.some.inj HZ8; clear HZ8 HZ3 HZ4 HZ5 HZ6 HZ7
     try go_wp2
     replace HB := am (below_drew1 HB.out)
     have p206 : 0 ≤ (x5_1 : Int) := dga
     have q206 : x5_1 < (l0.length : Int) := dga
     obtain ⟨ad206, e206, hx206_0, hx206_1⟩ := at_T143 HR0.out x5_1 p206 q206; have hw206_1 := hx206_1; have hw206_0 := hx206_0; cases e206; replace hx206_0 := (hbc HB hx206_0).trans hx206_0; replace hx206_1 := (hbc HB hx206_1).trans hx206_1; replace p206 := eq_true p206; replace q206 := eq_true q206
     have p207 : 0 ≤ (x5_1 : Int) := dga
     have q207 : x5_1 < (l1.length : Int) := dga
     obtain ⟨ad207, e207, hx207_0, hx207_1⟩ := at_T143 HR1.out x5_1 p207 q207; have hw207_1 := hx207_1; have hw207_0 := hx207_0; cases e207; replace hx207_0 := (hbc HB hx207_0).trans hx207_0; replace hx207_1 := (hbc HB hx207_1).trans hx207_1; replace p207 := eq_true p207; replace q207 := eq_true q207; refine start_ (n := 10) (S := fun w' => w'.cell? (ad206.add ((x5_1).toNat * 2)) = some (.int .i64 ((rd_T143 l0 x5_1).f0)) ∧ w'.cell? ⟨(ad206.add ((x5_1).toNat * 2)).block, (ad206.add ((x5_1).toNat * 2)).off + 1, none⟩ = some (.string ((rd_T143 l0 x5_1).f1)) ∧ w'.cell? (ad207.add ((x5_1).toNat * 2)) = some (.int .i64 ((rd_T143 l1 x5_1).f0)) ∧ w'.cell? ⟨(ad207.add ((x5_1).toNat * 2)).block, (ad207.add ((x5_1).toNat * 2)).off + 1, none⟩ = some (.string ((rd_T143 l1 x5_1).f1))) (ds := []) #[false, false, false, false, false, false, false, false, false, false] gk_ rfl rfl ⟨((hbc HB hw206_0).trans hw206_0), ((hbc HB hw206_1).trans hw206_1), ((hbc HB hw207_0).trans hw207_0), ((hbc HB hw207_1).trans hw207_1)⟩ (fun hHeld => ?_); refine with_tabW laws_eqLateS.tab6 laws_eqLateS.bits6 (fun HT_ HW_ => ?_); generalize wr.drew = w11 at HB hx206_0 hx206_1 hx207_0 hx207_1 hHeld ⊢; refine pu_ 0 17 HT_ ?_; refine pu_ 1 18 HT_ ?_; refine pu_ 2 19 HT_ ?_; refine pu_ 4 21 HT_ ?_; refine pu_ 5 22 HT_ ?_; refine pu_ 6 23 HT_ ?_; refine ta_ 3 20 HT_ HW_ hHeld ?_; refine ta_ 7 24 HT_ HW_ hHeld ?_; refine on_ 8 (some 25) HT_ (fun K hK => ?_); refine gT Try.func136 (laws_eqLate.calls ((rd_T143 l0 x5_1).f0) ((rd_T143 l0 x5_1).f1) ((rd_T143 l1 x5_1).f0) ((rd_T143 l1 x5_1).f1) false _ A7.out) ?_; rintro w12 hb; replace HB := hA HB hb; (try clear hb); (try clear hb2); (try clear hk); (try clear hi); (try clear hl); refine hK.out _ _ ⟨((hbc HB hw206_0).trans hw206_0), ((hbc HB hw206_1).trans hw206_1), ((hbc HB hw207_0).trans hw207_0), ((hbc HB hw207_1).trans hw207_1)⟩ (fun hHeld => nm_ ?_); clear hK K; refine pu_ 9 26 HT_ ?_; refine done_ (done_of HT_.out gk_) ?_
     try go_wp2
     go_ret; exact ⟨B3x3_, (Ae0 HB)⟩
   ·obtain rfl := Option.some.inj HZ4; clear HZ4 HZ3
    go_wp2
    go_ret; exact ⟨B3x3_, (Ae0 HB)⟩
 ·obtain ⟨c3b0, c3b1⟩ := nE c3
  have c3b2 : (l0.length == l1.length) = false := by first | simpa using c3 | (simp at c3 ⊢; omega)
  obtain rfl := Option.some.inj HZ2; clear HZ2 HZ1; go_enter Try.func77, Try.ntmps77
  go_wp2
  go_ret; exact ⟨B3x3_, (Ae0 HB)⟩

/-! ### laws_eqStream: function 22 -/
def laws_eqStream.f (k : Nat) (a0_0 : Int) (a0_1 : Int) (a0_2 : Int) (a0_3 : Int) (a0_4 : ByteArray) (a0_5 : Int) (a0_6 : Int) (a0_7 : Bool) (a0_8 : ByteArray) (l0_9 : List (S143)) (a0_10 : Bool) (a0_11 : Int) (a0_12 : Int) (a1_0 : Int) (a1_1 : Int) (a1_2 : Int) (a1_3 : Int) (a1_4 : ByteArray) (a1_5 : Int) (a1_6 : Int) (a1_7 : Bool) (a1_8 : ByteArray) (l1_9 : List (S143)) (a1_10 : Bool) (a1_11 : Int) (a1_12 : Int) : Option (Bool) := if a0_0 = a1_0 then (if a0_1 = a1_1 then (if a0_2 = a1_2 then (if a0_3 = a1_3 then (if a0_4.toList = a1_4.toList then (if a0_5 = a1_5 then (if a0_6 = a1_6 then (if (a0_7 != a1_7) = true then (some false) else (if a0_8.toList = a1_8.toList then ((laws_eqLateS.f k l0_9 l1_9).bind fun t211 => (if t211 = true then (if (a0_10 != a1_10) = true then (some false) else (if a0_11 = a1_11 then (if a0_12 = a1_12 then (some true) else (some false)) else (some false))) else (some false))) else (some false))) else (some false)) else (some false)) else (some false)) else (some false)) else (some false)) else (some false)) else (some false)
set_option maxHeartbeats 8000000 in
set_option maxRecDepth 100000 in
theorem laws_eqStream.calls (k : Nat) (a0_0 : Int) (a0_1 : Int) (a0_2 : Int) (a0_3 : Int) (a0_4 : ByteArray) (a0_5 : Int) (a0_6 : Int) (a0_7 : Bool) (a0_8 : ByteArray) (A0_9 : Option Addr) (c0_9 : Nat) (l0_9 : List (S143)) (a0_10 : Bool) (a0_11 : Int) (a0_12 : Int) (a1_0 : Int) (a1_1 : Int) (a1_2 : Int) (a1_3 : Int) (a1_4 : ByteArray) (a1_5 : Int) (a1_6 : Int) (a1_7 : Bool) (a1_8 : ByteArray) (A1_9 : Option Addr) (c1_9 : Nat) (l1_9 : List (S143)) (a1_10 : Bool) (a1_11 : Int) (a1_12 : Int) (r : Bool) (w : World) (hr0_9 : Kd.C k143 w A0_9 l0_9.length l0_9) (hc0_9 : l0_9.length ≤ c0_9) (hr1_9 : Kd.C k143 w A1_9 l1_9.length l1_9) (hc1_9 : l1_9.length ≤ c1_9) (h : laws_eqStream.f k a0_0 a0_1 a0_2 a0_3 a0_4 a0_5 a0_6 a0_7 a0_8 l0_9 a0_10 a0_11 a0_12 a1_0 a1_1 a1_2 a1_3 a1_4 a1_5 a1_6 a1_7 a1_8 l1_9 a1_10 a1_11 a1_12 = some r) :
  Calls Try.prog 22 #[.agg #[.int .i64 a0_0, .int .i64 a0_1, .int .i64 a0_2, .int .i64 a0_3, .string a0_4, .int .i64 a0_5, .int .i64 a0_6, .bool a0_7, .string a0_8, .slice A0_9 l0_9.length c0_9, .bool a0_10, .int .i64 a0_11, .int .i64 a0_12], .agg #[.int .i64 a1_0, .int .i64 a1_1, .int .i64 a1_2, .int .i64 a1_3, .string a1_4, .int .i64 a1_5, .int .i64 a1_6, .bool a1_7, .string a1_8, .slice A1_9 l1_9.length c1_9, .bool a1_10, .int .i64 a1_11, .int .i64 a1_12]] w fun e w' => e = .returned (.bool r) ∧ Below w.heap.size w w' := by
 have hu39 := Try.underlying39
 have HR0_9 := am hr0_9
 have HC0_9 := am hc0_9
 clear hr0_9 hc0_9
 have HR1_9 := am hr1_9
 have HC1_9 := am hc1_9
 clear hr1_9 hc1_9
 have HB := am (Below.refl w.heap.size w)
 have HZ1 := h
 clear h
 unfold laws_eqStream.f at HZ1
 obtain ⟨c3, HZ2⟩ | ⟨c3, HZ2⟩ := sp HZ1
 ·obtain ⟨c3b0, c3b1⟩ := yE c3; clear c3
  obtain ⟨c4, HZ3⟩ | ⟨c4, HZ3⟩ := sp HZ2
  ·obtain ⟨c4b0, c4b1⟩ := yE c4; clear c4
   obtain ⟨c5, HZ4⟩ | ⟨c5, HZ4⟩ := sp HZ3
   ·obtain ⟨c5b0, c5b1⟩ := yE c5; clear c5
    obtain ⟨c6, HZ5⟩ | ⟨c6, HZ5⟩ := sp HZ4
    ·obtain ⟨c6b0, c6b1⟩ := yE c6; clear c6
     obtain ⟨c7, HZ6⟩ | ⟨c7, HZ6⟩ := sp HZ5
     ·obtain ⟨c7b0, c7b1⟩ := yE c7; clear c7
      obtain ⟨c8, HZ7⟩ | ⟨c8, HZ7⟩ := sp HZ6
      ·obtain ⟨c8b0, c8b1⟩ := yE c8; clear c8
       obtain ⟨c9, HZ8⟩ | ⟨c9, HZ8⟩ := sp HZ7
       ·obtain ⟨c9b0, c9b1⟩ := yE c9; clear c9
        obtain ⟨c10, HZ9⟩ | ⟨c10, HZ9⟩ := sp HZ8
        ·have c10b0 : (a0_7 != a1_7) = true := c10
         (try (have c10b1 : decide (a0_7 = a1_7) = false := by simpa using c10)); (try (have c10b2 : (a0_7 == a1_7) = false := by simpa using c10)); (try (have c10b3 : ¬ (a0_7 = a1_7) := by simpa using c10)); clear c10; obtain rfl := Option.some.inj HZ9; clear HZ9 HZ1 HZ2 HZ3 HZ4 HZ5 HZ6 HZ7 HZ8; go_enter Try.func22, Try.ntmps22
         go_wp2_with (first | ((with_reducible refine gate_dst (N := 2) rfl ?_); refine bx (N := 2) (cs := #[.int .i64 a0_0, .int .i64 a0_1, .int .i64 a0_2, .int .i64 a0_3, .string a0_4, .int .i64 a0_5, .int .i64 a0_6, .bool a0_7, .string a0_8, .slice A0_9 l0_9.length c0_9, .bool a0_10, .int .i64 a0_11, .int .i64 a0_12]) (t := 39) ?_; intro gb209 hg w11 hbox hb; have BK209 := am (hbox); have GE209 := gA hg HB; replace HB := hA HB hb; clear hb hbox hg) | ((with_reducible refine gate_dst (N := 3) rfl ?_); refine bx (N := 3) (cs := #[.int .i64 a1_0, .int .i64 a1_1, .int .i64 a1_2, .int .i64 a1_3, .string a1_4, .int .i64 a1_5, .int .i64 a1_6, .bool a1_7, .string a1_8, .slice A1_9 l1_9.length c1_9, .bool a1_10, .int .i64 a1_11, .int .i64 a1_12]) (t := 39) ?_; intro gb210 hg w12 hbox hb; have BK210 := am (hbox); have GE210 := gA hg HB; replace HB := am (below_step (Ae1 HB GE209) hb); have NB209_210 := nA hg BK209; have NB210_209 := mA hg BK209; replace BK209 := bA BK209 hb; clear hb hbox hg; have hnb13 := NB209_210.out; have hnc13 := NB210_209.out; obtain ⟨zc209_0, zc209_1, zc209_2, zc209_3, zc209_4, zc209_5, zc209_6, zc209_7, zc209_8, zc209_9, zc209_10, zc209_11, zc209_12, zf209_0, zf209_1, zf209_2, zf209_3, zf209_4, zf209_5, zf209_6, zf209_7, zf209_8, zf209_9, zf209_10, zf209_11, zf209_12⟩ := cf13 BK209; obtain ⟨zc210_0, zc210_1, zc210_2, zc210_3, zc210_4, zc210_5, zc210_6, zc210_7, zc210_8, zc210_9, zc210_10, zc210_11, zc210_12, zf210_0, zf210_1, zf210_2, zf210_3, zf210_4, zf210_5, zf210_6, zf210_7, zf210_8, zf210_9, zf210_10, zf210_11, zf210_12⟩ := cf13 BK210))
         go_ret; exact ⟨B3x3_, (Ae2 HB GE209 GE210)⟩
        have c10b0 : (a0_7 != a1_7) = false := by simpa using c10
        (try (have c10b1 : decide (a0_7 = a1_7) = true := by simpa using c10)); (try (have c10b2 : (a0_7 == a1_7) = true := by simpa using c10)); clear c10
        obtain ⟨c16, HZ10⟩ | ⟨c16, HZ10⟩ := sp HZ9
        ·obtain ⟨c16b0, c16b1⟩ := yE c16; clear c16; obtain ⟨t211, A17, HZ11⟩ := bsi HZ10; (try dsimp only at HZ11)
         obtain ⟨rfl, HZ12⟩ | ⟨rfl, HZ12⟩ := sb HZ11
         ·obtain ⟨c19, HZ13⟩ | ⟨c19, HZ13⟩ := sp HZ12
          ·have c19b0 : (a0_10 != a1_10) = true := c19
           (try (have c19b1 : decide (a0_10 = a1_10) = false := by simpa using c19)); (try (have c19b2 : (a0_10 == a1_10) = false := by simpa using c19)); (try (have c19b3 : ¬ (a0_10 = a1_10) := by simpa using c19)); clear c19; obtain rfl := Option.some.inj HZ13; clear HZ13 HZ1 HZ2 HZ3 HZ4 HZ5 HZ6 HZ7 HZ8 HZ9 HZ10 HZ11 HZ12; go_enter Try.func22, Try.ntmps22
           go_wp2_with (first | ((with_reducible refine gate_dst (N := 2) rfl ?_); refine bx (N := 2) (cs := #[.int .i64 a0_0, .int .i64 a0_1, .int .i64 a0_2, .int .i64 a0_3, .string a0_4, .int .i64 a0_5, .int .i64 a0_6, .bool a0_7, .string a0_8, .slice A0_9 l0_9.length c0_9, .bool a0_10, .int .i64 a0_11, .int .i64 a0_12]) (t := 39) ?_; intro gb209 hg w20 hbox hb; have BK209 := am (hbox); have GE209 := gA hg HB; replace HB := hA HB hb; clear hb hbox hg) | ((with_reducible refine gate_dst (N := 3) rfl ?_); refine bx (N := 3) (cs := #[.int .i64 a1_0, .int .i64 a1_1, .int .i64 a1_2, .int .i64 a1_3, .string a1_4, .int .i64 a1_5, .int .i64 a1_6, .bool a1_7, .string a1_8, .slice A1_9 l1_9.length c1_9, .bool a1_10, .int .i64 a1_11, .int .i64 a1_12]) (t := 39) ?_; intro gb210 hg w21 hbox hb; have BK210 := am (hbox); have GE210 := gA hg HB; replace HB := am (below_step (Ae1 HB GE209) hb); have NB209_210 := nA hg BK209; have NB210_209 := mA hg BK209; replace BK209 := bA BK209 hb; clear hb hbox hg; have hnb22 := NB209_210.out; have hnc22 := NB210_209.out; obtain ⟨zc209_0, zc209_1, zc209_2, zc209_3, zc209_4, zc209_5, zc209_6, zc209_7, zc209_8, zc209_9, zc209_10, zc209_11, zc209_12, zf209_0, zf209_1, zf209_2, zf209_3, zf209_4, zf209_5, zf209_6, zf209_7, zf209_8, zf209_9, zf209_10, zf209_11, zf209_12⟩ := cf13 BK209; obtain ⟨zc210_0, zc210_1, zc210_2, zc210_3, zc210_4, zc210_5, zc210_6, zc210_7, zc210_8, zc210_9, zc210_10, zc210_11, zc210_12, zf210_0, zf210_1, zf210_2, zf210_3, zf210_4, zf210_5, zf210_6, zf210_7, zf210_8, zf210_9, zf210_10, zf210_11, zf210_12⟩ := cf13 BK210) | ((with_reducible refine gate_callee (f := 77) rfl ?_); refine gM (some 54) Try.func77 (laws_eqLateS.calls k _ _ l0_9 _ _ l1_9 true _ (tc (Kd.C_below HR0_9.out HB.out)) HC0_9.out (tc (Kd.C_below HR1_9.out HB.out)) HC1_9.out A17.out) ?_; rintro w25 hb; replace BK209 := bA BK209 hb; replace BK210 := bA BK210 hb; replace HB := am (below_step (Ae2 HB GE209 GE210) hb); (try clear hb); obtain ⟨zc209_0, zc209_1, zc209_2, zc209_3, zc209_4, zc209_5, zc209_6, zc209_7, zc209_8, zc209_9, zc209_10, zc209_11, zc209_12, zf209_0, zf209_1, zf209_2, zf209_3, zf209_4, zf209_5, zf209_6, zf209_7, zf209_8, zf209_9, zf209_10, zf209_11, zf209_12⟩ := cf13 BK209; obtain ⟨zc210_0, zc210_1, zc210_2, zc210_3, zc210_4, zc210_5, zc210_6, zc210_7, zc210_8, zc210_9, zc210_10, zc210_11, zc210_12, zf210_0, zf210_1, zf210_2, zf210_3, zf210_4, zf210_5, zf210_6, zf210_7, zf210_8, zf210_9, zf210_10, zf210_11, zf210_12⟩ := cf13 BK210))
           go_ret; exact ⟨B3x3_, (Ae2 HB GE209 GE210)⟩
          have c19b0 : (a0_10 != a1_10) = false := by simpa using c19
          (try (have c19b1 : decide (a0_10 = a1_10) = true := by simpa using c19)); (try (have c19b2 : (a0_10 == a1_10) = true := by simpa using c19)); clear c19
          obtain ⟨c28, HZ14⟩ | ⟨c28, HZ14⟩ := sp HZ13
          ·obtain ⟨c28b0, c28b1⟩ := yE c28; clear c28
           obtain ⟨c29, HZ15⟩ | ⟨c29, HZ15⟩ := sp HZ14
           ·obtain ⟨c29b0, c29b1⟩ := yE c29; clear c29; obtain rfl := Option.some.inj HZ15; clear HZ15 HZ1 HZ2 HZ3 HZ4 HZ5 HZ6 HZ7 HZ8 HZ9 HZ10 HZ11 HZ12 HZ13 HZ14; go_enter Try.func22, Try.ntmps22
            go_wp2_with (first | ((with_reducible refine gate_dst (N := 2) rfl ?_); refine bx (N := 2) (cs := #[.int .i64 a0_0, .int .i64 a0_1, .int .i64 a0_2, .int .i64 a0_3, .string a0_4, .int .i64 a0_5, .int .i64 a0_6, .bool a0_7, .string a0_8, .slice A0_9 l0_9.length c0_9, .bool a0_10, .int .i64 a0_11, .int .i64 a0_12]) (t := 39) ?_; intro gb209 hg w30 hbox hb; have BK209 := am (hbox); have GE209 := gA hg HB; replace HB := hA HB hb; clear hb hbox hg) | ((with_reducible refine gate_dst (N := 3) rfl ?_); refine bx (N := 3) (cs := #[.int .i64 a1_0, .int .i64 a1_1, .int .i64 a1_2, .int .i64 a1_3, .string a1_4, .int .i64 a1_5, .int .i64 a1_6, .bool a1_7, .string a1_8, .slice A1_9 l1_9.length c1_9, .bool a1_10, .int .i64 a1_11, .int .i64 a1_12]) (t := 39) ?_; intro gb210 hg w31 hbox hb; have BK210 := am (hbox); have GE210 := gA hg HB; replace HB := am (below_step (Ae1 HB GE209) hb); have NB209_210 := nA hg BK209; have NB210_209 := mA hg BK209; replace BK209 := bA BK209 hb; clear hb hbox hg; have hnb32 := NB209_210.out; have hnc32 := NB210_209.out; obtain ⟨zc209_0, zc209_1, zc209_2, zc209_3, zc209_4, zc209_5, zc209_6, zc209_7, zc209_8, zc209_9, zc209_10, zc209_11, zc209_12, zf209_0, zf209_1, zf209_2, zf209_3, zf209_4, zf209_5, zf209_6, zf209_7, zf209_8, zf209_9, zf209_10, zf209_11, zf209_12⟩ := cf13 BK209; obtain ⟨zc210_0, zc210_1, zc210_2, zc210_3, zc210_4, zc210_5, zc210_6, zc210_7, zc210_8, zc210_9, zc210_10, zc210_11, zc210_12, zf210_0, zf210_1, zf210_2, zf210_3, zf210_4, zf210_5, zf210_6, zf210_7, zf210_8, zf210_9, zf210_10, zf210_11, zf210_12⟩ := cf13 BK210) | ((with_reducible refine gate_callee (f := 77) rfl ?_); refine gM (some 54) Try.func77 (laws_eqLateS.calls k _ _ l0_9 _ _ l1_9 true _ (tc (Kd.C_below HR0_9.out HB.out)) HC0_9.out (tc (Kd.C_below HR1_9.out HB.out)) HC1_9.out A17.out) ?_; rintro w35 hb; replace BK209 := bA BK209 hb; replace BK210 := bA BK210 hb; replace HB := am (below_step (Ae2 HB GE209 GE210) hb); (try clear hb); obtain ⟨zc209_0, zc209_1, zc209_2, zc209_3, zc209_4, zc209_5, zc209_6, zc209_7, zc209_8, zc209_9, zc209_10, zc209_11, zc209_12, zf209_0, zf209_1, zf209_2, zf209_3, zf209_4, zf209_5, zf209_6, zf209_7, zf209_8, zf209_9, zf209_10, zf209_11, zf209_12⟩ := cf13 BK209; obtain ⟨zc210_0, zc210_1, zc210_2, zc210_3, zc210_4, zc210_5, zc210_6, zc210_7, zc210_8, zc210_9, zc210_10, zc210_11, zc210_12, zf210_0, zf210_1, zf210_2, zf210_3, zf210_4, zf210_5, zf210_6, zf210_7, zf210_8, zf210_9, zf210_10, zf210_11, zf210_12⟩ := cf13 BK210))
            go_ret; exact ⟨B3x3_, (Ae2 HB GE209 GE210)⟩
           obtain ⟨c29b0, c29b1⟩ := nE c29; obtain rfl := Option.some.inj HZ15; clear HZ15 HZ1 HZ2 HZ3 HZ4 HZ5 HZ6 HZ7 HZ8 HZ9 HZ10 HZ11 HZ12 HZ13 HZ14; go_enter Try.func22, Try.ntmps22
           go_wp2_with (first | ((with_reducible refine gate_dst (N := 2) rfl ?_); refine bx (N := 2) (cs := #[.int .i64 a0_0, .int .i64 a0_1, .int .i64 a0_2, .int .i64 a0_3, .string a0_4, .int .i64 a0_5, .int .i64 a0_6, .bool a0_7, .string a0_8, .slice A0_9 l0_9.length c0_9, .bool a0_10, .int .i64 a0_11, .int .i64 a0_12]) (t := 39) ?_; intro gb209 hg w38 hbox hb; have BK209 := am (hbox); have GE209 := gA hg HB; replace HB := hA HB hb; clear hb hbox hg) | ((with_reducible refine gate_dst (N := 3) rfl ?_); refine bx (N := 3) (cs := #[.int .i64 a1_0, .int .i64 a1_1, .int .i64 a1_2, .int .i64 a1_3, .string a1_4, .int .i64 a1_5, .int .i64 a1_6, .bool a1_7, .string a1_8, .slice A1_9 l1_9.length c1_9, .bool a1_10, .int .i64 a1_11, .int .i64 a1_12]) (t := 39) ?_; intro gb210 hg w39 hbox hb; have BK210 := am (hbox); have GE210 := gA hg HB; replace HB := am (below_step (Ae1 HB GE209) hb); have NB209_210 := nA hg BK209; have NB210_209 := mA hg BK209; replace BK209 := bA BK209 hb; clear hb hbox hg; have hnb40 := NB209_210.out; have hnc40 := NB210_209.out; obtain ⟨zc209_0, zc209_1, zc209_2, zc209_3, zc209_4, zc209_5, zc209_6, zc209_7, zc209_8, zc209_9, zc209_10, zc209_11, zc209_12, zf209_0, zf209_1, zf209_2, zf209_3, zf209_4, zf209_5, zf209_6, zf209_7, zf209_8, zf209_9, zf209_10, zf209_11, zf209_12⟩ := cf13 BK209; obtain ⟨zc210_0, zc210_1, zc210_2, zc210_3, zc210_4, zc210_5, zc210_6, zc210_7, zc210_8, zc210_9, zc210_10, zc210_11, zc210_12, zf210_0, zf210_1, zf210_2, zf210_3, zf210_4, zf210_5, zf210_6, zf210_7, zf210_8, zf210_9, zf210_10, zf210_11, zf210_12⟩ := cf13 BK210) | ((with_reducible refine gate_callee (f := 77) rfl ?_); refine gM (some 54) Try.func77 (laws_eqLateS.calls k _ _ l0_9 _ _ l1_9 true _ (tc (Kd.C_below HR0_9.out HB.out)) HC0_9.out (tc (Kd.C_below HR1_9.out HB.out)) HC1_9.out A17.out) ?_; rintro w43 hb; replace BK209 := bA BK209 hb; replace BK210 := bA BK210 hb; replace HB := am (below_step (Ae2 HB GE209 GE210) hb); (try clear hb); obtain ⟨zc209_0, zc209_1, zc209_2, zc209_3, zc209_4, zc209_5, zc209_6, zc209_7, zc209_8, zc209_9, zc209_10, zc209_11, zc209_12, zf209_0, zf209_1, zf209_2, zf209_3, zf209_4, zf209_5, zf209_6, zf209_7, zf209_8, zf209_9, zf209_10, zf209_11, zf209_12⟩ := cf13 BK209; obtain ⟨zc210_0, zc210_1, zc210_2, zc210_3, zc210_4, zc210_5, zc210_6, zc210_7, zc210_8, zc210_9, zc210_10, zc210_11, zc210_12, zf210_0, zf210_1, zf210_2, zf210_3, zf210_4, zf210_5, zf210_6, zf210_7, zf210_8, zf210_9, zf210_10, zf210_11, zf210_12⟩ := cf13 BK210))
           go_ret; exact ⟨B3x3_, (Ae2 HB GE209 GE210)⟩
          obtain ⟨c28b0, c28b1⟩ := nE c28; obtain rfl := Option.some.inj HZ14; clear HZ14 HZ1 HZ2 HZ3 HZ4 HZ5 HZ6 HZ7 HZ8 HZ9 HZ10 HZ11 HZ12 HZ13; go_enter Try.func22, Try.ntmps22
          go_wp2_with (first | ((with_reducible refine gate_dst (N := 2) rfl ?_); refine bx (N := 2) (cs := #[.int .i64 a0_0, .int .i64 a0_1, .int .i64 a0_2, .int .i64 a0_3, .string a0_4, .int .i64 a0_5, .int .i64 a0_6, .bool a0_7, .string a0_8, .slice A0_9 l0_9.length c0_9, .bool a0_10, .int .i64 a0_11, .int .i64 a0_12]) (t := 39) ?_; intro gb209 hg w46 hbox hb; have BK209 := am (hbox); have GE209 := gA hg HB; replace HB := hA HB hb; clear hb hbox hg) | ((with_reducible refine gate_dst (N := 3) rfl ?_); refine bx (N := 3) (cs := #[.int .i64 a1_0, .int .i64 a1_1, .int .i64 a1_2, .int .i64 a1_3, .string a1_4, .int .i64 a1_5, .int .i64 a1_6, .bool a1_7, .string a1_8, .slice A1_9 l1_9.length c1_9, .bool a1_10, .int .i64 a1_11, .int .i64 a1_12]) (t := 39) ?_; intro gb210 hg w47 hbox hb; have BK210 := am (hbox); have GE210 := gA hg HB; replace HB := am (below_step (Ae1 HB GE209) hb); have NB209_210 := nA hg BK209; have NB210_209 := mA hg BK209; replace BK209 := bA BK209 hb; clear hb hbox hg; have hnb48 := NB209_210.out; have hnc48 := NB210_209.out; obtain ⟨zc209_0, zc209_1, zc209_2, zc209_3, zc209_4, zc209_5, zc209_6, zc209_7, zc209_8, zc209_9, zc209_10, zc209_11, zc209_12, zf209_0, zf209_1, zf209_2, zf209_3, zf209_4, zf209_5, zf209_6, zf209_7, zf209_8, zf209_9, zf209_10, zf209_11, zf209_12⟩ := cf13 BK209; obtain ⟨zc210_0, zc210_1, zc210_2, zc210_3, zc210_4, zc210_5, zc210_6, zc210_7, zc210_8, zc210_9, zc210_10, zc210_11, zc210_12, zf210_0, zf210_1, zf210_2, zf210_3, zf210_4, zf210_5, zf210_6, zf210_7, zf210_8, zf210_9, zf210_10, zf210_11, zf210_12⟩ := cf13 BK210) | ((with_reducible refine gate_callee (f := 77) rfl ?_); refine gM (some 54) Try.func77 (laws_eqLateS.calls k _ _ l0_9 _ _ l1_9 true _ (tc (Kd.C_below HR0_9.out HB.out)) HC0_9.out (tc (Kd.C_below HR1_9.out HB.out)) HC1_9.out A17.out) ?_; rintro w51 hb; replace BK209 := bA BK209 hb; replace BK210 := bA BK210 hb; replace HB := am (below_step (Ae2 HB GE209 GE210) hb); (try clear hb); obtain ⟨zc209_0, zc209_1, zc209_2, zc209_3, zc209_4, zc209_5, zc209_6, zc209_7, zc209_8, zc209_9, zc209_10, zc209_11, zc209_12, zf209_0, zf209_1, zf209_2, zf209_3, zf209_4, zf209_5, zf209_6, zf209_7, zf209_8, zf209_9, zf209_10, zf209_11, zf209_12⟩ := cf13 BK209; obtain ⟨zc210_0, zc210_1, zc210_2, zc210_3, zc210_4, zc210_5, zc210_6, zc210_7, zc210_8, zc210_9, zc210_10, zc210_11, zc210_12, zf210_0, zf210_1, zf210_2, zf210_3, zf210_4, zf210_5, zf210_6, zf210_7, zf210_8, zf210_9, zf210_10, zf210_11, zf210_12⟩ := cf13 BK210))
          go_ret; exact ⟨B3x3_, (Ae2 HB GE209 GE210)⟩
         obtain rfl := Option.some.inj HZ12; clear HZ12 HZ1 HZ2 HZ3 HZ4 HZ5 HZ6 HZ7 HZ8 HZ9 HZ10 HZ11; go_enter Try.func22, Try.ntmps22
         go_wp2_with (first | ((with_reducible refine gate_dst (N := 2) rfl ?_); refine bx (N := 2) (cs := #[.int .i64 a0_0, .int .i64 a0_1, .int .i64 a0_2, .int .i64 a0_3, .string a0_4, .int .i64 a0_5, .int .i64 a0_6, .bool a0_7, .string a0_8, .slice A0_9 l0_9.length c0_9, .bool a0_10, .int .i64 a0_11, .int .i64 a0_12]) (t := 39) ?_; intro gb209 hg w54 hbox hb; have BK209 := am (hbox); have GE209 := gA hg HB; replace HB := hA HB hb; clear hb hbox hg) | ((with_reducible refine gate_dst (N := 3) rfl ?_); refine bx (N := 3) (cs := #[.int .i64 a1_0, .int .i64 a1_1, .int .i64 a1_2, .int .i64 a1_3, .string a1_4, .int .i64 a1_5, .int .i64 a1_6, .bool a1_7, .string a1_8, .slice A1_9 l1_9.length c1_9, .bool a1_10, .int .i64 a1_11, .int .i64 a1_12]) (t := 39) ?_; intro gb210 hg w55 hbox hb; have BK210 := am (hbox); have GE210 := gA hg HB; replace HB := am (below_step (Ae1 HB GE209) hb); have NB209_210 := nA hg BK209; have NB210_209 := mA hg BK209; replace BK209 := bA BK209 hb; clear hb hbox hg; have hnb56 := NB209_210.out; have hnc56 := NB210_209.out; obtain ⟨zc209_0, zc209_1, zc209_2, zc209_3, zc209_4, zc209_5, zc209_6, zc209_7, zc209_8, zc209_9, zc209_10, zc209_11, zc209_12, zf209_0, zf209_1, zf209_2, zf209_3, zf209_4, zf209_5, zf209_6, zf209_7, zf209_8, zf209_9, zf209_10, zf209_11, zf209_12⟩ := cf13 BK209; obtain ⟨zc210_0, zc210_1, zc210_2, zc210_3, zc210_4, zc210_5, zc210_6, zc210_7, zc210_8, zc210_9, zc210_10, zc210_11, zc210_12, zf210_0, zf210_1, zf210_2, zf210_3, zf210_4, zf210_5, zf210_6, zf210_7, zf210_8, zf210_9, zf210_10, zf210_11, zf210_12⟩ := cf13 BK210) | ((with_reducible refine gate_callee (f := 77) rfl ?_); refine gM (some 54) Try.func77 (laws_eqLateS.calls k _ _ l0_9 _ _ l1_9 false _ (tc (Kd.C_below HR0_9.out HB.out)) HC0_9.out (tc (Kd.C_below HR1_9.out HB.out)) HC1_9.out A17.out) ?_; rintro w59 hb; replace BK209 := bA BK209 hb; replace BK210 := bA BK210 hb; replace HB := am (below_step (Ae2 HB GE209 GE210) hb); (try clear hb)))
         go_ret; exact ⟨B3x3_, (Ae2 HB GE209 GE210)⟩
        obtain ⟨c16b0, c16b1⟩ := nE c16; obtain rfl := Option.some.inj HZ10; clear HZ10 HZ1 HZ2 HZ3 HZ4 HZ5 HZ6 HZ7 HZ8 HZ9; go_enter Try.func22, Try.ntmps22
        go_wp2_with (first | ((with_reducible refine gate_dst (N := 2) rfl ?_); refine bx (N := 2) (cs := #[.int .i64 a0_0, .int .i64 a0_1, .int .i64 a0_2, .int .i64 a0_3, .string a0_4, .int .i64 a0_5, .int .i64 a0_6, .bool a0_7, .string a0_8, .slice A0_9 l0_9.length c0_9, .bool a0_10, .int .i64 a0_11, .int .i64 a0_12]) (t := 39) ?_; intro gb209 hg w60 hbox hb; have BK209 := am (hbox); have GE209 := gA hg HB; replace HB := hA HB hb; clear hb hbox hg) | ((with_reducible refine gate_dst (N := 3) rfl ?_); refine bx (N := 3) (cs := #[.int .i64 a1_0, .int .i64 a1_1, .int .i64 a1_2, .int .i64 a1_3, .string a1_4, .int .i64 a1_5, .int .i64 a1_6, .bool a1_7, .string a1_8, .slice A1_9 l1_9.length c1_9, .bool a1_10, .int .i64 a1_11, .int .i64 a1_12]) (t := 39) ?_; intro gb210 hg w61 hbox hb; have BK210 := am (hbox); have GE210 := gA hg HB; replace HB := am (below_step (Ae1 HB GE209) hb); have NB209_210 := nA hg BK209; have NB210_209 := mA hg BK209; replace BK209 := bA BK209 hb; clear hb hbox hg; have hnb62 := NB209_210.out; have hnc62 := NB210_209.out; obtain ⟨zc209_0, zc209_1, zc209_2, zc209_3, zc209_4, zc209_5, zc209_6, zc209_7, zc209_8, zc209_9, zc209_10, zc209_11, zc209_12, zf209_0, zf209_1, zf209_2, zf209_3, zf209_4, zf209_5, zf209_6, zf209_7, zf209_8, zf209_9, zf209_10, zf209_11, zf209_12⟩ := cf13 BK209; obtain ⟨zc210_0, zc210_1, zc210_2, zc210_3, zc210_4, zc210_5, zc210_6, zc210_7, zc210_8, zc210_9, zc210_10, zc210_11, zc210_12, zf210_0, zf210_1, zf210_2, zf210_3, zf210_4, zf210_5, zf210_6, zf210_7, zf210_8, zf210_9, zf210_10, zf210_11, zf210_12⟩ := cf13 BK210))
        go_ret; exact ⟨B3x3_, (Ae2 HB GE209 GE210)⟩
       obtain ⟨c9b0, c9b1⟩ := nE c9; obtain rfl := Option.some.inj HZ8; clear HZ8 HZ1 HZ2 HZ3 HZ4 HZ5 HZ6 HZ7; go_enter Try.func22, Try.ntmps22
       go_wp2_with (first | ((with_reducible refine gate_dst (N := 2) rfl ?_); refine bx (N := 2) (cs := #[.int .i64 a0_0, .int .i64 a0_1, .int .i64 a0_2, .int .i64 a0_3, .string a0_4, .int .i64 a0_5, .int .i64 a0_6, .bool a0_7, .string a0_8, .slice A0_9 l0_9.length c0_9, .bool a0_10, .int .i64 a0_11, .int .i64 a0_12]) (t := 39) ?_; intro gb209 hg w65 hbox hb; have BK209 := am (hbox); have GE209 := gA hg HB; replace HB := hA HB hb; clear hb hbox hg) | ((with_reducible refine gate_dst (N := 3) rfl ?_); refine bx (N := 3) (cs := #[.int .i64 a1_0, .int .i64 a1_1, .int .i64 a1_2, .int .i64 a1_3, .string a1_4, .int .i64 a1_5, .int .i64 a1_6, .bool a1_7, .string a1_8, .slice A1_9 l1_9.length c1_9, .bool a1_10, .int .i64 a1_11, .int .i64 a1_12]) (t := 39) ?_; intro gb210 hg w66 hbox hb; have BK210 := am (hbox); have GE210 := gA hg HB; replace HB := am (below_step (Ae1 HB GE209) hb); have NB209_210 := nA hg BK209; have NB210_209 := mA hg BK209; replace BK209 := bA BK209 hb; clear hb hbox hg; have hnb67 := NB209_210.out; have hnc67 := NB210_209.out; obtain ⟨zc209_0, zc209_1, zc209_2, zc209_3, zc209_4, zc209_5, zc209_6, zc209_7, zc209_8, zc209_9, zc209_10, zc209_11, zc209_12, zf209_0, zf209_1, zf209_2, zf209_3, zf209_4, zf209_5, zf209_6, zf209_7, zf209_8, zf209_9, zf209_10, zf209_11, zf209_12⟩ := cf13 BK209; obtain ⟨zc210_0, zc210_1, zc210_2, zc210_3, zc210_4, zc210_5, zc210_6, zc210_7, zc210_8, zc210_9, zc210_10, zc210_11, zc210_12, zf210_0, zf210_1, zf210_2, zf210_3, zf210_4, zf210_5, zf210_6, zf210_7, zf210_8, zf210_9, zf210_10, zf210_11, zf210_12⟩ := cf13 BK210))
       go_ret; exact ⟨B3x3_, (Ae2 HB GE209 GE210)⟩
      obtain ⟨c8b0, c8b1⟩ := nE c8; obtain rfl := Option.some.inj HZ7; clear HZ7 HZ1 HZ2 HZ3 HZ4 HZ5 HZ6; go_enter Try.func22, Try.ntmps22
      go_wp2_with (first | ((with_reducible refine gate_dst (N := 2) rfl ?_); refine bx (N := 2) (cs := #[.int .i64 a0_0, .int .i64 a0_1, .int .i64 a0_2, .int .i64 a0_3, .string a0_4, .int .i64 a0_5, .int .i64 a0_6, .bool a0_7, .string a0_8, .slice A0_9 l0_9.length c0_9, .bool a0_10, .int .i64 a0_11, .int .i64 a0_12]) (t := 39) ?_; intro gb209 hg w70 hbox hb; have BK209 := am (hbox); have GE209 := gA hg HB; replace HB := hA HB hb; clear hb hbox hg) | ((with_reducible refine gate_dst (N := 3) rfl ?_); refine bx (N := 3) (cs := #[.int .i64 a1_0, .int .i64 a1_1, .int .i64 a1_2, .int .i64 a1_3, .string a1_4, .int .i64 a1_5, .int .i64 a1_6, .bool a1_7, .string a1_8, .slice A1_9 l1_9.length c1_9, .bool a1_10, .int .i64 a1_11, .int .i64 a1_12]) (t := 39) ?_; intro gb210 hg w71 hbox hb; have BK210 := am (hbox); have GE210 := gA hg HB; replace HB := am (below_step (Ae1 HB GE209) hb); have NB209_210 := nA hg BK209; have NB210_209 := mA hg BK209; replace BK209 := bA BK209 hb; clear hb hbox hg; have hnb72 := NB209_210.out; have hnc72 := NB210_209.out; obtain ⟨zc209_0, zc209_1, zc209_2, zc209_3, zc209_4, zc209_5, zc209_6, zc209_7, zc209_8, zc209_9, zc209_10, zc209_11, zc209_12, zf209_0, zf209_1, zf209_2, zf209_3, zf209_4, zf209_5, zf209_6, zf209_7, zf209_8, zf209_9, zf209_10, zf209_11, zf209_12⟩ := cf13 BK209; obtain ⟨zc210_0, zc210_1, zc210_2, zc210_3, zc210_4, zc210_5, zc210_6, zc210_7, zc210_8, zc210_9, zc210_10, zc210_11, zc210_12, zf210_0, zf210_1, zf210_2, zf210_3, zf210_4, zf210_5, zf210_6, zf210_7, zf210_8, zf210_9, zf210_10, zf210_11, zf210_12⟩ := cf13 BK210))
      go_ret; exact ⟨B3x3_, (Ae2 HB GE209 GE210)⟩
     obtain ⟨c7b0, c7b1⟩ := nE c7; obtain rfl := Option.some.inj HZ6; clear HZ6 HZ1 HZ2 HZ3 HZ4 HZ5; go_enter Try.func22, Try.ntmps22
     go_wp2_with (first | ((with_reducible refine gate_dst (N := 2) rfl ?_); refine bx (N := 2) (cs := #[.int .i64 a0_0, .int .i64 a0_1, .int .i64 a0_2, .int .i64 a0_3, .string a0_4, .int .i64 a0_5, .int .i64 a0_6, .bool a0_7, .string a0_8, .slice A0_9 l0_9.length c0_9, .bool a0_10, .int .i64 a0_11, .int .i64 a0_12]) (t := 39) ?_; intro gb209 hg w75 hbox hb; have BK209 := am (hbox); have GE209 := gA hg HB; replace HB := hA HB hb; clear hb hbox hg) | ((with_reducible refine gate_dst (N := 3) rfl ?_); refine bx (N := 3) (cs := #[.int .i64 a1_0, .int .i64 a1_1, .int .i64 a1_2, .int .i64 a1_3, .string a1_4, .int .i64 a1_5, .int .i64 a1_6, .bool a1_7, .string a1_8, .slice A1_9 l1_9.length c1_9, .bool a1_10, .int .i64 a1_11, .int .i64 a1_12]) (t := 39) ?_; intro gb210 hg w76 hbox hb; have BK210 := am (hbox); have GE210 := gA hg HB; replace HB := am (below_step (Ae1 HB GE209) hb); have NB209_210 := nA hg BK209; have NB210_209 := mA hg BK209; replace BK209 := bA BK209 hb; clear hb hbox hg; have hnb77 := NB209_210.out; have hnc77 := NB210_209.out; obtain ⟨zc209_0, zc209_1, zc209_2, zc209_3, zc209_4, zc209_5, zc209_6, zc209_7, zc209_8, zc209_9, zc209_10, zc209_11, zc209_12, zf209_0, zf209_1, zf209_2, zf209_3, zf209_4, zf209_5, zf209_6, zf209_7, zf209_8, zf209_9, zf209_10, zf209_11, zf209_12⟩ := cf13 BK209; obtain ⟨zc210_0, zc210_1, zc210_2, zc210_3, zc210_4, zc210_5, zc210_6, zc210_7, zc210_8, zc210_9, zc210_10, zc210_11, zc210_12, zf210_0, zf210_1, zf210_2, zf210_3, zf210_4, zf210_5, zf210_6, zf210_7, zf210_8, zf210_9, zf210_10, zf210_11, zf210_12⟩ := cf13 BK210))
     go_ret; exact ⟨B3x3_, (Ae2 HB GE209 GE210)⟩
    obtain ⟨c6b0, c6b1⟩ := nE c6; obtain rfl := Option.some.inj HZ5; clear HZ5 HZ1 HZ2 HZ3 HZ4; go_enter Try.func22, Try.ntmps22
    go_wp2_with (first | ((with_reducible refine gate_dst (N := 2) rfl ?_); refine bx (N := 2) (cs := #[.int .i64 a0_0, .int .i64 a0_1, .int .i64 a0_2, .int .i64 a0_3, .string a0_4, .int .i64 a0_5, .int .i64 a0_6, .bool a0_7, .string a0_8, .slice A0_9 l0_9.length c0_9, .bool a0_10, .int .i64 a0_11, .int .i64 a0_12]) (t := 39) ?_; intro gb209 hg w80 hbox hb; have BK209 := am (hbox); have GE209 := gA hg HB; replace HB := hA HB hb; clear hb hbox hg) | ((with_reducible refine gate_dst (N := 3) rfl ?_); refine bx (N := 3) (cs := #[.int .i64 a1_0, .int .i64 a1_1, .int .i64 a1_2, .int .i64 a1_3, .string a1_4, .int .i64 a1_5, .int .i64 a1_6, .bool a1_7, .string a1_8, .slice A1_9 l1_9.length c1_9, .bool a1_10, .int .i64 a1_11, .int .i64 a1_12]) (t := 39) ?_; intro gb210 hg w81 hbox hb; have BK210 := am (hbox); have GE210 := gA hg HB; replace HB := am (below_step (Ae1 HB GE209) hb); have NB209_210 := nA hg BK209; have NB210_209 := mA hg BK209; replace BK209 := bA BK209 hb; clear hb hbox hg; have hnb82 := NB209_210.out; have hnc82 := NB210_209.out; obtain ⟨zc209_0, zc209_1, zc209_2, zc209_3, zc209_4, zc209_5, zc209_6, zc209_7, zc209_8, zc209_9, zc209_10, zc209_11, zc209_12, zf209_0, zf209_1, zf209_2, zf209_3, zf209_4, zf209_5, zf209_6, zf209_7, zf209_8, zf209_9, zf209_10, zf209_11, zf209_12⟩ := cf13 BK209; obtain ⟨zc210_0, zc210_1, zc210_2, zc210_3, zc210_4, zc210_5, zc210_6, zc210_7, zc210_8, zc210_9, zc210_10, zc210_11, zc210_12, zf210_0, zf210_1, zf210_2, zf210_3, zf210_4, zf210_5, zf210_6, zf210_7, zf210_8, zf210_9, zf210_10, zf210_11, zf210_12⟩ := cf13 BK210))
    go_ret; exact ⟨B3x3_, (Ae2 HB GE209 GE210)⟩
   obtain ⟨c5b0, c5b1⟩ := nE c5; obtain rfl := Option.some.inj HZ4; clear HZ4 HZ1 HZ2 HZ3; go_enter Try.func22, Try.ntmps22
   go_wp2_with (first | ((with_reducible refine gate_dst (N := 2) rfl ?_); refine bx (N := 2) (cs := #[.int .i64 a0_0, .int .i64 a0_1, .int .i64 a0_2, .int .i64 a0_3, .string a0_4, .int .i64 a0_5, .int .i64 a0_6, .bool a0_7, .string a0_8, .slice A0_9 l0_9.length c0_9, .bool a0_10, .int .i64 a0_11, .int .i64 a0_12]) (t := 39) ?_; intro gb209 hg w85 hbox hb; have BK209 := am (hbox); have GE209 := gA hg HB; replace HB := hA HB hb; clear hb hbox hg) | ((with_reducible refine gate_dst (N := 3) rfl ?_); refine bx (N := 3) (cs := #[.int .i64 a1_0, .int .i64 a1_1, .int .i64 a1_2, .int .i64 a1_3, .string a1_4, .int .i64 a1_5, .int .i64 a1_6, .bool a1_7, .string a1_8, .slice A1_9 l1_9.length c1_9, .bool a1_10, .int .i64 a1_11, .int .i64 a1_12]) (t := 39) ?_; intro gb210 hg w86 hbox hb; have BK210 := am (hbox); have GE210 := gA hg HB; replace HB := am (below_step (Ae1 HB GE209) hb); have NB209_210 := nA hg BK209; have NB210_209 := mA hg BK209; replace BK209 := bA BK209 hb; clear hb hbox hg; have hnb87 := NB209_210.out; have hnc87 := NB210_209.out; obtain ⟨zc209_0, zc209_1, zc209_2, zc209_3, zc209_4, zc209_5, zc209_6, zc209_7, zc209_8, zc209_9, zc209_10, zc209_11, zc209_12, zf209_0, zf209_1, zf209_2, zf209_3, zf209_4, zf209_5, zf209_6, zf209_7, zf209_8, zf209_9, zf209_10, zf209_11, zf209_12⟩ := cf13 BK209; obtain ⟨zc210_0, zc210_1, zc210_2, zc210_3, zc210_4, zc210_5, zc210_6, zc210_7, zc210_8, zc210_9, zc210_10, zc210_11, zc210_12, zf210_0, zf210_1, zf210_2, zf210_3, zf210_4, zf210_5, zf210_6, zf210_7, zf210_8, zf210_9, zf210_10, zf210_11, zf210_12⟩ := cf13 BK210))
   go_ret; exact ⟨B3x3_, (Ae2 HB GE209 GE210)⟩
  obtain ⟨c4b0, c4b1⟩ := nE c4; obtain rfl := Option.some.inj HZ3; clear HZ3 HZ1 HZ2; go_enter Try.func22, Try.ntmps22
  go_wp2_with (first | ((with_reducible refine gate_dst (N := 2) rfl ?_); refine bx (N := 2) (cs := #[.int .i64 a0_0, .int .i64 a0_1, .int .i64 a0_2, .int .i64 a0_3, .string a0_4, .int .i64 a0_5, .int .i64 a0_6, .bool a0_7, .string a0_8, .slice A0_9 l0_9.length c0_9, .bool a0_10, .int .i64 a0_11, .int .i64 a0_12]) (t := 39) ?_; intro gb209 hg w90 hbox hb; have BK209 := am (hbox); have GE209 := gA hg HB; replace HB := hA HB hb; clear hb hbox hg) | ((with_reducible refine gate_dst (N := 3) rfl ?_); refine bx (N := 3) (cs := #[.int .i64 a1_0, .int .i64 a1_1, .int .i64 a1_2, .int .i64 a1_3, .string a1_4, .int .i64 a1_5, .int .i64 a1_6, .bool a1_7, .string a1_8, .slice A1_9 l1_9.length c1_9, .bool a1_10, .int .i64 a1_11, .int .i64 a1_12]) (t := 39) ?_; intro gb210 hg w91 hbox hb; have BK210 := am (hbox); have GE210 := gA hg HB; replace HB := am (below_step (Ae1 HB GE209) hb); have NB209_210 := nA hg BK209; have NB210_209 := mA hg BK209; replace BK209 := bA BK209 hb; clear hb hbox hg; have hnb92 := NB209_210.out; have hnc92 := NB210_209.out; obtain ⟨zc209_0, zc209_1, zc209_2, zc209_3, zc209_4, zc209_5, zc209_6, zc209_7, zc209_8, zc209_9, zc209_10, zc209_11, zc209_12, zf209_0, zf209_1, zf209_2, zf209_3, zf209_4, zf209_5, zf209_6, zf209_7, zf209_8, zf209_9, zf209_10, zf209_11, zf209_12⟩ := cf13 BK209; obtain ⟨zc210_0, zc210_1, zc210_2, zc210_3, zc210_4, zc210_5, zc210_6, zc210_7, zc210_8, zc210_9, zc210_10, zc210_11, zc210_12, zf210_0, zf210_1, zf210_2, zf210_3, zf210_4, zf210_5, zf210_6, zf210_7, zf210_8, zf210_9, zf210_10, zf210_11, zf210_12⟩ := cf13 BK210))
  go_ret; exact ⟨B3x3_, (Ae2 HB GE209 GE210)⟩
 obtain ⟨c3b0, c3b1⟩ := nE c3
 obtain rfl := Option.some.inj HZ2
 clear HZ2 HZ1
 go_enter Try.func22, Try.ntmps22
 go_wp2_with (first | ((with_reducible refine gate_dst (N := 2) rfl ?_); refine bx (N := 2) (cs := #[.int .i64 a0_0, .int .i64 a0_1, .int .i64 a0_2, .int .i64 a0_3, .string a0_4, .int .i64 a0_5, .int .i64 a0_6, .bool a0_7, .string a0_8, .slice A0_9 l0_9.length c0_9, .bool a0_10, .int .i64 a0_11, .int .i64 a0_12]) (t := 39) ?_; intro gb209 hg w95 hbox hb; have BK209 := am (hbox); have GE209 := gA hg HB; replace HB := hA HB hb; clear hb hbox hg) | ((with_reducible refine gate_dst (N := 3) rfl ?_); refine bx (N := 3) (cs := #[.int .i64 a1_0, .int .i64 a1_1, .int .i64 a1_2, .int .i64 a1_3, .string a1_4, .int .i64 a1_5, .int .i64 a1_6, .bool a1_7, .string a1_8, .slice A1_9 l1_9.length c1_9, .bool a1_10, .int .i64 a1_11, .int .i64 a1_12]) (t := 39) ?_; intro gb210 hg w96 hbox hb; have BK210 := am (hbox); have GE210 := gA hg HB; replace HB := am (below_step (Ae1 HB GE209) hb); have NB209_210 := nA hg BK209; have NB210_209 := mA hg BK209; replace BK209 := bA BK209 hb; clear hb hbox hg; have hnb97 := NB209_210.out; have hnc97 := NB210_209.out; obtain ⟨zc209_0, zc209_1, zc209_2, zc209_3, zc209_4, zc209_5, zc209_6, zc209_7, zc209_8, zc209_9, zc209_10, zc209_11, zc209_12, zf209_0, zf209_1, zf209_2, zf209_3, zf209_4, zf209_5, zf209_6, zf209_7, zf209_8, zf209_9, zf209_10, zf209_11, zf209_12⟩ := cf13 BK209; obtain ⟨zc210_0, zc210_1, zc210_2, zc210_3, zc210_4, zc210_5, zc210_6, zc210_7, zc210_8, zc210_9, zc210_10, zc210_11, zc210_12, zf210_0, zf210_1, zf210_2, zf210_3, zf210_4, zf210_5, zf210_6, zf210_7, zf210_8, zf210_9, zf210_10, zf210_11, zf210_12⟩ := cf13 BK210))
 go_ret
 exact ⟨B3x3_, (Ae2 HB GE209 GE210)⟩

end Go.Proofs.Ytmknnoeggkgkgaa.QFnExactEndsNew
