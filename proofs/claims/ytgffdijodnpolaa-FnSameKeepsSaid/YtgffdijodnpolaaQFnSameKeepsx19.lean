/- Functions that a law reaches, as functions of Lean, and the walks that show that the calls come to their answers: written by a program of this project out of the translation. No condition. -/
import Derived.Test.YtgffdijodnpolaaQFnSameKeepsx0
import Derived.Test.YtgffdijodnpolaaQFnSameKeepsx7
import Derived.Test.YtgffdijodnpolaaQFnSameKeepsx18
import Derived.Test.YtgffdijodnpolaaVFnSameKeepsShort4
import Derived.Test.YtgffdijodnpolaaVFnSameKeepshort3
import Derived.Test.YtgffdijodnpolaaVFnSameKeepsShort2
import Derived.Test.YtgffdijodnpolaaVFnSameKeepsShort
import Derived.Test.YtgffdijodnpolaaVFnSameKeepshort5
namespace Go.Proofs.Ytgffdijodnpolaa.QFnSameKeeps
open Go.RowKit Go.Proofs.YtgffdijodnpolaaW.PrintWords Go.Proofs.YtgffdijodnpolaaW.PrintLast Go.Proofs.YtgffdijodnpolaaW.PrintMore Go.Proofs.Ytgffdijodnpolaa.Short
attribute [local go_sem] max2_int min2_int max_two min_two max_three min_three max_four min_four   -- for this text's walks alone
set_option linter.unusedVariables false
set_option linter.unusedSimpArgs false

theorem B19x11_ {p : Prop} (h : p := by first | rfl | (simp [errW_none, errW_some] <;> rfl) | (simp [*, errW_none, errW_some] <;> rfl)) : p := h
/-! ### spec_KeepText: function 22 -/
mutual
def spec_KeepText.l0 : Nat → ByteArray → Int → List (S83) → List (S81) → Option (ByteArray × Bool)
 | 0, _, _, _, _ => none
 | k + 1, x4, x5, x517000, x517001 => if x5 < (x517000.length : Int) then (if 0 ≤ x5 then ((spec_l01Var.f k ((rd_T83 x517000 x5).f0)).bind fun t521 => (if x4.size + t521.size ≤ 9223372036854775807 then ((spec_l01Var.f k ((rd_T83 x517000 x5).f1)).bind fun t522 => (if (x4 ++ t521).size + t522.size ≤ 9223372036854775807 then ((spec_l16Short.f k ((rd_T83 x517000 x5).f2)).bind fun t523 => (if ((x4 ++ t521) ++ t522).size + t523.size ≤ 9223372036854775807 then (spec_KeepText.l0 k (((x4 ++ t521) ++ t522) ++ t523) (wrap64 (x5 + 1)) x517000 x517001) else (none))) else (none))) else (none))) else (none)) else ((spec_l01Var.f k (x517001.length : Int)).bind fun t524 => (if x4.size + t524.size ≤ 9223372036854775807 then (spec_KeepText.l1 k (x4 ++ t524) 0 x517000 x517001) else (none)))
def spec_KeepText.l1 : Nat → ByteArray → Int → List (S83) → List (S81) → Option (ByteArray × Bool)
 | 0, _, _, _, _ => none
 | k + 1, x4, x7, x517000, x517001 => if x7 < (x517001.length : Int) then (if 0 ≤ x7 then ((spec_l16Short.f k ((rd_T81 x517001 x7).f0)).bind fun t527 => (if x4.size + t527.size ≤ 9223372036854775807 then ((spec_l16Short.f k ((rd_T81 x517001 x7).f1)).bind fun t528 => (if (x4 ++ t527).size + t528.size ≤ 9223372036854775807 then ((spec_l01Var.f k ((rd_T81 x517001 x7).f2)).bind fun t529 => (if ((x4 ++ t527) ++ t528).size + t529.size ≤ 9223372036854775807 then (spec_KeepText.l1 k (((x4 ++ t527) ++ t528) ++ t529) (wrap64 (x7 + 1)) x517000 x517001) else (none))) else (none))) else (none))) else (none)) else (some (x4, true))
end
def spec_KeepText.f (k : Nat) (l0_0 : List (S83)) (l0_1 : List (S81)) : Option (ByteArray × Bool) := (spec_KeepOk.f k l0_0 l0_1).bind fun t517 => (if t517 = true then ((spec_l01Var.f k (l0_0.length : Int)).bind fun t518 => (spec_KeepText.l0 k t518 0 l0_0 l0_1)) else (some ((⟨#[]⟩ : ByteArray), false)))
theorem spec_KeepText.mono_l : ∀ k, (∀ y0 y1 y2 y3, LeO (spec_KeepText.l0 k y0 y1 y2 y3) (spec_KeepText.l0 (k + 1) y0 y1 y2 y3)) ∧ (∀ y0 y1 y2 y3, LeO (spec_KeepText.l1 k y0 y1 y2 y3) (spec_KeepText.l1 (k + 1) y0 y1 y2 y3))
 | 0 => ⟨fun _ _ _ _ r h => by simp [spec_KeepText.l0] at h, fun _ _ _ _ r h => by simp [spec_KeepText.l1] at h⟩
 | k + 1 => by
  obtain ⟨ih0, ih1⟩ := spec_KeepText.mono_l k
  refine ⟨?_, ?_⟩ <;> intros <;> (first | unfold spec_KeepText.l0 | unfold spec_KeepText.l1) <;> repeat' (with_reducible first | exact ih0 .. | exact ih1 .. | exact spec_KeepOk.mono .. | exact spec_l01Var.mono _ _ | exact spec_l16Short.mono _ _ | exact LeO.refl _ | exact LeO.none _ | refine LeO.ite ?_ ?_ | refine LeO.bind ?_ (fun _ => ?_))
theorem spec_KeepText.mono : ∀ a0 a1 k, LeO (spec_KeepText.f k a0 a1) (spec_KeepText.f (k + 1) a0 a1) := by
 intro a0 a1 k
 obtain ⟨ih0, ih1⟩ := spec_KeepText.mono_l k
 unfold spec_KeepText.f
 repeat' (with_reducible first | exact ih0 .. | exact ih1 .. | exact spec_KeepOk.mono .. | exact spec_l01Var.mono _ _ | exact spec_l16Short.mono _ _ | exact LeO.refl _ | exact LeO.none _ | refine LeO.ite ?_ ?_ | refine LeO.bind ?_ (fun _ => ?_))
def spec_KeepText.T8 : Bool × List (List Nat × List Nat) := (true, [([], []), ([], []), ([1], [1]), ([2], [2]), ([0, 3], [0, 3]), ([], []), ([5], [5]), ([6, 3], [6]), ([4, 7], [4, 7]), ([], []), ([9], [9]), ([10, 7], [10]), ([8, 11], [8, 11]), ([12, 11, 0, 1, 2, 3, 4, 5, 6, 7, 8, 9, 10, 11, 12], [0, 12])])
def spec_KeepText.B8 : List Nat := [0, 0, 2, 6, 15, 0, 32, 110, 255, 0, 512, 1774, 4095, 8191]
theorem spec_KeepText.tab8 : rtab .any (opsOf Try.f22 8) = spec_KeepText.T8 := by kernel_rfl
theorem spec_KeepText.bits8 : waitsOk spec_KeepText.T8.2 spec_KeepText.B8 = true := by kernel_rfl
def spec_KeepText.T14 : Bool × List (List Nat × List Nat) := (true, [([], []), ([], []), ([1], [1]), ([2], [2]), ([0, 3], [0, 3]), ([], []), ([5], [5]), ([6, 3], [6]), ([4, 7], [4, 7]), ([], []), ([9], [9]), ([10, 7], [10]), ([8, 11], [8, 11]), ([12, 11, 0, 1, 2, 3, 4, 5, 6, 7, 8, 9, 10, 11, 12], [0, 12])])
def spec_KeepText.B14 : List Nat := [0, 0, 2, 6, 15, 0, 32, 110, 255, 0, 512, 1774, 4095, 8191]
theorem spec_KeepText.tab14 : rtab .any (opsOf Try.f22 14) = spec_KeepText.T14 := by kernel_rfl
theorem spec_KeepText.bits14 : waitsOk spec_KeepText.T14.2 spec_KeepText.B14 = true := by kernel_rfl
set_option maxHeartbeats 8000000 in
set_option maxRecDepth 100000 in
theorem spec_KeepText.calls (k : Nat) (A0_0 : Option Addr) (c0_0 : Nat) (l0_0 : List (S83)) (A0_1 : Option Addr) (c0_1 : Nat) (l0_1 : List (S81)) (r1 : ByteArray) (r2 : Bool) (w : World) (hr0_0 : Kd.C k83 w A0_0 l0_0.length l0_0) (hc0_0 : l0_0.length ≤ c0_0) (hr0_1 : Kd.C k81 w A0_1 l0_1.length l0_1) (hc0_1 : l0_1.length ≤ c0_1) (h : spec_KeepText.f k l0_0 l0_1 = some (r1, r2)) :
  Calls Try.prog 22 #[.agg #[.slice A0_0 l0_0.length c0_0, .slice A0_1 l0_1.length c0_1]] w fun e w' => e = .returned (.tuple #[.string r1, .bool r2]) ∧ Below w.heap.size w w' := by
 have hu47 := Try.underlying47
 have hu83 := Try.underlying83
 have hu81 := Try.underlying81
 have HR0_0 := am hr0_0
 have HC0_0 := am hc0_0
 clear hr0_0 hc0_0
 have HR0_1 := am hr0_1
 have HC0_1 := am hc0_1
 clear hr0_1 hc0_1
 have HB := am (Below.refl w.heap.size w)
 have H : ((spec_KeepOk.f k l0_0 l0_1).bind fun t517 => (if t517 = true then ((spec_l01Var.f k (l0_0.length : Int)).bind fun t518 => (spec_KeepText.l0 k t518 0 l0_0 l0_1)) else (some ((⟨#[]⟩ : ByteArray), false)))) = some (r1, r2) := h
 clear h
 replace H := bsi H
 obtain ⟨t517, A2, H⟩ := H
 (try dsimp only at H)
 by_cases c3 : t517 = true
 ·subst c3; rw [if_pos rfl] at H; replace H := bsi H; obtain ⟨t518, A4, H⟩ := H; (try dsimp only at H)
  have H' := am H
  clear H; go_enter Try.func22, Try.ntmps22
  go_wp2_with (first | ((with_reducible refine gate_dst (N := 1) rfl ?_); refine bx (N := 1) (cs := #[.slice A0_0 l0_0.length c0_0, .slice A0_1 l0_1.length c0_1]) (t := 47) ?_; intro gb516 hg w5 hbox hb; have BK516 := am (hbox); have GW516 := am ((bs hg (below_size HB.out))); have GE516 := am ((bs hg (below_size HB.out))); replace HB := am (below_step (te0 HB.out) hb); clear hb hbox hg; obtain ⟨hcz6_0, hcz6_1⟩ := cl2 BK516.out; obtain ⟨hfz6_0, hfz6_1⟩ := fr2 BK516.out) | ((with_reducible refine gate_callee (f := 28) rfl ?_); refine goesL_ (some 10) rfl rfl Try.func28 gk_ rfl #[.agg #[.slice A0_0 l0_0.length c0_0, .slice A0_1 l0_1.length c0_1]] rfl gm_ ?_; (with_reducible refine (spec_KeepOk.calls k _ _ l0_0 _ _ l0_1 true _ ?side1 ?side2 ?side3 ?side4 A2.out).mono ?_); (case side1 => exact (tc (Kd.C_below HR0_0.out HB.out))); (case side2 => exact HC0_0.out); (case side3 => exact (tc (Kd.C_below HR0_1.out HB.out))); (case side4 => exact HC0_1.out); rintro e w7 ⟨rfl, hb⟩; refine ⟨_, rfl, ?_⟩; replace BK516 := am (bb BK516.out hb); replace HB := am (below_step (te1 HB.out GE516.out) hb); (try clear hb); (try clear hl); obtain ⟨hcz8_0, hcz8_1⟩ := cl2 BK516.out; obtain ⟨hfz8_0, hfz8_1⟩ := fr2 BK516.out) | ((with_reducible refine gate_callee (f := 59) rfl ?_); refine goesL_ (some 15) rfl rfl Try.func59 gk_ rfl #[.int .i64 (l0_0.length : Int)] rfl gm_ ?_; (with_reducible refine (spec_l01Var.calls k (l0_0.length : Int) t518 _ A4.out).mono ?_); rintro e w9 ⟨rfl, hb⟩; refine ⟨_, rfl, ?_⟩; replace BK516 := am (bb BK516.out hb); replace HB := am (below_step (te1 HB.out GE516.out) hb); (try clear hb); (try clear hl)))
  go_loopg [4, 5] k (fun kq v4 v5 w' => ∃ (x4_1 : ByteArray) (x5_1 : Int), v4 = .string x4_1 ∧ v5 = .int .i64 x5_1 ∧ Aside0 (spec_KeepText.l0 kq x4_1 x5_1 l0_0 l0_1 = some (r1, r2)) ∧ Aside0 (kq ≤ k) ∧ Aside0 (w'.heap[gb516]? = some (.cells #[(.slice A0_0 l0_0.length c0_0), (.slice A0_1 l0_1.length c0_1)] 47 (0, 0))) ∧ Aside0 (Below w.heap.size w w'))
  case atStart => exact ⟨(t518), (0), (be_), (be_), H', ⟨Nat.le_refl _⟩, ⟨(tb BK516.out)⟩, ⟨(te1 HB.out GE516.out)⟩⟩
  case round =>
   clear H'
   try clear c3
   try clear hcz6_0
   try clear hcz6_1
   try clear hcz8_0
   try clear hcz8_1
   try clear hfz6_0
   try clear hfz6_1
   try clear hfz8_0
   try clear hfz8_1
   obtain ⟨x4_1, x5_1, rfl, rfl, HA, HK1, BK516, HB⟩ := hrel
   cases gk with
   | zero => exact absurd HA.out (by simp [spec_KeepText.l0])
   | succ k1 =>
    have H := HA.out; clear HA; simp only [spec_KeepText.l0] at H
    by_cases c10 : x5_1 < (l0_0.length : Int)
    ·rw [if_pos c10] at H
     have c10b0 : decide (x5_1 < (l0_0.length : Int)) = true := decide_eq_true c10
     clear c10
     by_cases c11 : 0 ≤ x5_1
     rotate_left
     ·rw [if_neg c11] at H; exact absurd H (by simp)
     rw [if_pos c11] at H
     have c11b0 : decide (0 ≤ x5_1) = true := decide_eq_true c11
     clear c11; replace H := bsi H; obtain ⟨t521, A12, H⟩ := H; (try dsimp only at H)
     by_cases c13 : x4_1.size + t521.size ≤ 9223372036854775807
     rotate_left
     ·rw [if_neg c13] at H; exact absurd H (by simp)
     rw [if_pos c13] at H; have c13b0 := eq_true c13
     have c13b1 : decide (x4_1.size + t521.size ≤ 9223372036854775807) = true := decide_eq_true c13
     try have c13b2 : (9223372036854775807 < x4_1.size + t521.size) = False := eq_false (Nat.not_lt.2 c13)
     try (have c13b9 := c13b2; simp only [ByteArray.size_append] at c13b9)
     replace H := bsi H; obtain ⟨t522, A14, H⟩ := H; (try dsimp only at H)
     by_cases c15 : (x4_1 ++ t521).size + t522.size ≤ 9223372036854775807
     rotate_left
     ·rw [if_neg c15] at H; exact absurd H (by simp)
     rw [if_pos c15] at H; have c15b0 := eq_true c15
     have c15b1 : decide ((x4_1 ++ t521).size + t522.size ≤ 9223372036854775807) = true := decide_eq_true c15
     try have c15b2 : (9223372036854775807 < (x4_1 ++ t521).size + t522.size) = False := eq_false (Nat.not_lt.2 c15)
     try have c15b8 : (9223372036854775807 < x4_1.size + t521.size + t522.size) = False := eq_false (by have h_ := c15; simp only [ByteArray.size_append, ByteArray.size_extract, decide_eq_true_eq, decide_eq_false_iff_not] at *; omega)
     try (have c15b9 := c15b2; simp only [ByteArray.size_append] at c15b9)
     replace H := bsi H; obtain ⟨t523, A16, H⟩ := H; (try dsimp only at H)
     by_cases c17 : ((x4_1 ++ t521) ++ t522).size + t523.size ≤ 9223372036854775807
     rotate_left
     ·rw [if_neg c17] at H; exact absurd H (by simp)
     rw [if_pos c17] at H; have c17b0 := eq_true c17
     have c17b1 : decide (((x4_1 ++ t521) ++ t522).size + t523.size ≤ 9223372036854775807) = true := decide_eq_true c17
     try have c17b2 : (9223372036854775807 < ((x4_1 ++ t521) ++ t522).size + t523.size) = False := eq_false (Nat.not_lt.2 c17)
     try have c17b8 : (9223372036854775807 < x4_1.size + t521.size + t522.size + t523.size) = False := eq_false (by have h_ := c17; simp only [ByteArray.size_append, ByteArray.size_extract, decide_eq_true_eq, decide_eq_false_iff_not] at *; omega)
     try (have c17b9 := c17b2; simp only [ByteArray.size_append] at c17b9)
     have H' := am H
     clear H; obtain ⟨hcz18_0, hcz18_1⟩ := cl2 BK516.out; obtain ⟨hfz18_0, hfz18_1⟩ := fr2 BK516.out
     have p519 : 0 ≤ (x5_1 : Int) := dga
     have q519 : x5_1 < (l0_0.length : Int) := dga
     obtain ⟨ad519, e519, hx519_0, hx519_1, hx519_2⟩ := at_T83 HR0_0.out x5_1 p519 q519; cases e519; replace hx519_0 := (HB.out.cell (World.block_lt_of_cell? w _ hx519_0)).trans hx519_0; replace hx519_1 := (HB.out.cell (World.block_lt_of_cell? w _ hx519_1)).trans hx519_1; replace hx519_2 := (HB.out.cell (World.block_lt_of_cell? w _ hx519_2)).trans hx519_2; replace p519 := eq_true p519; replace q519 := eq_true q519
     try go_wp2_with (first | ((with_reducible refine gate_dst (N := 6) rfl ?_); refine bx (N := 6) (cs := #[.int .i64 0, .int .i64 0, .string (⟨#[]⟩ : ByteArray)]) (t := 83) ?_; intro gb520 hg w19 hbox hb; have BK520 := am (hbox); have GW520 := am ((bs hg (below_size HB.out))); have GE520 := am ((bs hg (below_size HB.out))); replace HB := am (below_step (te1 HB.out GE516.out) hb); have NB516_520 := am ((nl hg (blk_lt BK516.out))); have NB520_516 := am ((ng hg (blk_lt BK516.out))); replace BK516 := am (bb BK516.out hb); clear hb hbox hg; have hnb20 := NB520_516.out; have hnc20 := NB516_520.out; obtain ⟨hcz21_0, hcz21_1, hcz21_2⟩ := cl3 BK520.out; obtain ⟨hfz21_0, hfz21_1, hfz21_2⟩ := fr3 BK520.out))
     have n0_ : Aside0 ((((w19.setCell ⟨gb520, 0, none⟩ (.int .i64 ((rd_T83 l0_0 x5_1).f0))).setCell ⟨gb520, 1, none⟩ (.int .i64 ((rd_T83 l0_0 x5_1).f1))).setCell ⟨gb520, 2, none⟩ (.string ((rd_T83 l0_0 x5_1).f2))).heap[gb516]? = some (.cells #[.slice (some ad519) l0_0.length c0_0, .slice A0_1 l0_1.length c0_1] 47 (0, 0))) := ⟨(tp1 BK516.out NB516_520.out)⟩
     have n1_ : Aside0 ((((w19.setCell ⟨gb520, 0, none⟩ (.int .i64 ((rd_T83 l0_0 x5_1).f0))).setCell ⟨gb520, 1, none⟩ (.int .i64 ((rd_T83 l0_0 x5_1).f1))).setCell ⟨gb520, 2, none⟩ (.string ((rd_T83 l0_0 x5_1).f2))).heap[gb520]? = some (.cells #[.int .i64 ((rd_T83 l0_0 x5_1).f0), .int .i64 ((rd_T83 l0_0 x5_1).f1), .string ((rd_T83 l0_0 x5_1).f2)] 83 (0, 0))) := ⟨(tp0 BK520.out)⟩
     have n2_ : Aside0 (Below w.heap.size w (((w19.setCell ⟨gb520, 0, none⟩ (.int .i64 ((rd_T83 l0_0 x5_1).f0))).setCell ⟨gb520, 1, none⟩ (.int .i64 ((rd_T83 l0_0 x5_1).f1))).setCell ⟨gb520, 2, none⟩ (.string ((rd_T83 l0_0 x5_1).f2)))) := ⟨(te2 HB.out GE516.out GE520.out)⟩
     (try clear BK516); (try clear BK520); (try clear HB); generalize (((w19.setCell ⟨gb520, 0, none⟩ (.int .i64 ((rd_T83 l0_0 x5_1).f0))).setCell ⟨gb520, 1, none⟩ (.int .i64 ((rd_T83 l0_0 x5_1).f1))).setCell ⟨gb520, 2, none⟩ (.string ((rd_T83 l0_0 x5_1).f2))) = w22 at n0_ n1_ n2_ ⊢; have BK516 := n0_; have BK520 := n1_; have HB := n2_; clear n0_ n1_ n2_; replace BK516 := am (blk_drew BK516.out); replace BK520 := am (blk_drew BK520.out); replace HB := am (below_drew1 HB.out); refine start_ (n := 14) (S := fun w' => w'.cell? ⟨gb520, 0, none⟩ = some (.int .i64 ((rd_T83 l0_0 x5_1).f0)) ∧ w'.cell? ⟨gb520, 1, none⟩ = some (.int .i64 ((rd_T83 l0_0 x5_1).f1)) ∧ w'.cell? ⟨gb520, 2, none⟩ = some (.string ((rd_T83 l0_0 x5_1).f2))) (ds := []) #[false, false, false, false, false, false, false, false, false, false, false, false, false, false] gk_ rfl rfl ⟨(blk_cell BK520.out 0).trans rfl, (blk_cell BK520.out 1).trans rfl, (blk_cell BK520.out 2).trans rfl⟩ (fun hHeld => ?_); refine with_tabW spec_KeepText.tab8 spec_KeepText.bits8 (fun HT_ HW_ => ?_); generalize w22.drew = w23 at BK516 BK520 HB hHeld ⊢; refine pu_ 0 28 HT_ ?_; refine pu_ 1 29 HT_ ?_; refine pu_ 5 33 HT_ ?_; refine pu_ 9 37 HT_ ?_; refine ta_ 2 30 HT_ HW_ hHeld ?_; refine ta_ 6 34 HT_ HW_ hHeld ?_; refine ta_ 10 38 HT_ HW_ hHeld ?_; refine one_ (i := 3) (N := some 31) #[true, true, true, true, false, true, true, false, false, true, true, false, false, false] rfl rfl (one_of HT_.out gk_) (by decide) (fun K hK => ?_); refine goes_ Try.func59 gk_ rfl #[.int .i64 ((rd_T83 l0_0 x5_1).f0)] (by rfl) rfl rfl gm_ ?_
     with_reducible refine (spec_l01Var.calls k1 ((rd_T83 l0_0 x5_1).f0) t521 _ A12.out).mono ?_
     rintro e w24 ⟨rfl, hb⟩; refine ⟨_, rfl, ?_⟩; replace BK516 := am (bb BK516.out hb); replace BK520 := am (bb BK520.out hb); replace HB := am (below_step (te2 HB.out GE516.out GE520.out) hb); (try clear hb); (try clear hb2); (try clear hk); (try clear hi); (try clear hl); refine hK.out _ _ ⟨(blk_cell BK520.out 0).trans rfl, (blk_cell BK520.out 1).trans rfl, (blk_cell BK520.out 2).trans rfl⟩ (fun hHeld => ?_); clear hK K; refine norm_ (a' := ?_) ?_ ?_; rotate_left
     ·show Act.put _ (some 31) _ = _; simp only [Act.put, List.setIfInBounds_toArray, List.set_cons_zero, List.set_cons_succ, i64_w, i32_w]; rfl
     refine pu_ 4 32 HT_ ?_; refine one_ (i := 7) (N := some 35) #[true, true, true, true, true, true, true, true, false, true, true, false, false, false] rfl rfl (one_of HT_.out gk_) (by decide) (fun K hK => ?_); refine goes_ Try.func59 gk_ rfl #[.int .i64 ((rd_T83 l0_0 x5_1).f1)] (by rfl) rfl rfl gm_ ?_
     with_reducible refine (spec_l01Var.calls k1 ((rd_T83 l0_0 x5_1).f1) t522 _ A14.out).mono ?_
     rintro e w25 ⟨rfl, hb⟩; refine ⟨_, rfl, ?_⟩; replace BK516 := am (bb BK516.out hb); replace BK520 := am (bb BK520.out hb); replace HB := am (below_step (te2 HB.out GE516.out GE520.out) hb); (try clear hb); (try clear hb2); (try clear hk); (try clear hi); (try clear hl); refine hK.out _ _ ⟨(blk_cell BK520.out 0).trans rfl, (blk_cell BK520.out 1).trans rfl, (blk_cell BK520.out 2).trans rfl⟩ (fun hHeld => ?_); clear hK K; refine norm_ (a' := ?_) ?_ ?_; rotate_left
     ·show Act.put _ (some 35) _ = _; simp only [Act.put, List.setIfInBounds_toArray, List.set_cons_zero, List.set_cons_succ, i64_w, i32_w]; rfl
     refine pu_ 8 36 HT_ ?_; refine one_ (i := 11) (N := some 39) #[true, true, true, true, true, true, true, true, true, true, true, true, false, false] rfl rfl (one_of HT_.out gk_) (by decide) (fun K hK => ?_); refine goes_ Try.func60 gk_ rfl #[.string ((rd_T83 l0_0 x5_1).f2)] (by rfl) rfl rfl gm_ ?_
     with_reducible refine (spec_l16Short.calls k1 ((rd_T83 l0_0 x5_1).f2) t523 _ A16.out).mono ?_
     rintro e w26 ⟨rfl, hb⟩; refine ⟨_, rfl, ?_⟩; replace BK516 := am (bb BK516.out hb); replace BK520 := am (bb BK520.out hb); replace HB := am (below_step (te2 HB.out GE516.out GE520.out) hb); (try clear hb); (try clear hb2); (try clear hk); (try clear hi); (try clear hl); refine hK.out _ _ ⟨(blk_cell BK520.out 0).trans rfl, (blk_cell BK520.out 1).trans rfl, (blk_cell BK520.out 2).trans rfl⟩ (fun hHeld => ?_); clear hK K; refine norm_ (a' := ?_) ?_ ?_; rotate_left
     ·show Act.put _ (some 39) _ = _; simp only [Act.put, List.setIfInBounds_toArray, List.set_cons_zero, List.set_cons_succ, i64_w, i32_w]; rfl
     refine pu_ 12 40 HT_ ?_; refine pu_ 13 4 HT_ ?_; refine done_ (done_of HT_.out gk_) ?_
     try go_wp2
     go_roundg k1
     case measure => have := HK1.out; omega
     case rel => exact ⟨(((x4_1 ++ t521) ++ t522) ++ t523), (wrap64 (x5_1 + 1)), (be_), (be_), H', ⟨(by have := HK1.out; omega)⟩, ⟨(tb BK516.out)⟩, ⟨(te2 HB.out GE516.out GE520.out)⟩⟩
    ·rw [if_neg c10] at H
     have c10b0 : decide (x5_1 < (l0_0.length : Int)) = false := decide_eq_false c10
     clear c10; replace H := bsi H; obtain ⟨t524, A27, H⟩ := H; (try dsimp only at H)
     by_cases c28 : x4_1.size + t524.size ≤ 9223372036854775807
     rotate_left
     ·rw [if_neg c28] at H; exact absurd H (by simp)
     rw [if_pos c28] at H; have c28b0 := eq_true c28
     have c28b1 : decide (x4_1.size + t524.size ≤ 9223372036854775807) = true := decide_eq_true c28
     try have c28b2 : (9223372036854775807 < x4_1.size + t524.size) = False := eq_false (Nat.not_lt.2 c28)
     try (have c28b9 := c28b2; simp only [ByteArray.size_append] at c28b9)
     have H' := am H
     clear H; obtain ⟨hcz29_0, hcz29_1⟩ := cl2 BK516.out; obtain ⟨hfz29_0, hfz29_1⟩ := fr2 BK516.out
     go_wp2_with (first | ((with_reducible refine gate_callee (f := 59) rfl ?_); refine goesL_ (some 45) rfl rfl Try.func59 gk_ rfl #[.int .i64 (l0_1.length : Int)] rfl gm_ ?_; (with_reducible refine (spec_l01Var.calls k1 (l0_1.length : Int) t524 _ A27.out).mono ?_); rintro e w30 ⟨rfl, hb⟩; refine ⟨_, rfl, ?_⟩; replace BK516 := am (bb BK516.out hb); replace HB := am (below_step (te1 HB.out GE516.out) hb); (try clear hb); (try clear hl)))
     go_loopg [4, 7] k1 (fun kq v4 v7 w' => ∃ (x4_2 : ByteArray) (x7_2 : Int), v4 = .string x4_2 ∧ v7 = .int .i64 x7_2 ∧ Aside0 (spec_KeepText.l1 kq x4_2 x7_2 l0_0 l0_1 = some (r1, r2)) ∧ Aside0 (kq ≤ k1) ∧ Aside0 (w'.heap[gb516]? = some (.cells #[(.slice A0_0 l0_0.length c0_0), (.slice A0_1 l0_1.length c0_1)] 47 (0, 0))) ∧ Aside0 (Below w.heap.size w w'))
     case atStart => exact ⟨(x4_1 ++ t524), (0), (be_), (be_), H', ⟨Nat.le_refl _⟩, ⟨(tb BK516.out)⟩, ⟨(te1 HB.out GE516.out)⟩⟩
     case round =>
      clear H'
      try clear c3
      try clear c10
      try clear c10b0
      try clear c28
      try clear c28b0
      try clear c28b1
      try clear c28b2
      try clear hcz29_0
      try clear hcz29_1
      try clear hcz6_0
      try clear hcz6_1
      try clear hcz8_0
      try clear hcz8_1
      try clear hfz29_0
      try clear hfz29_1
      try clear hfz6_0
      try clear hfz6_1
      try clear hfz8_0
      try clear hfz8_1
      obtain ⟨x4_2, x7_2, rfl, rfl, HA, HK2, BK516, HB⟩ := hrel
      cases gk with
      | zero => exact absurd HA.out (by simp [spec_KeepText.l1])
      | succ k2 =>
       have H := HA.out; clear HA; simp only [spec_KeepText.l1] at H
       by_cases c31 : x7_2 < (l0_1.length : Int)
       ·rw [if_pos c31] at H
        have c31b0 : decide (x7_2 < (l0_1.length : Int)) = true := decide_eq_true c31
        clear c31
        by_cases c32 : 0 ≤ x7_2
        rotate_left
        ·rw [if_neg c32] at H; exact absurd H (by simp)
        rw [if_pos c32] at H
        have c32b0 : decide (0 ≤ x7_2) = true := decide_eq_true c32
        clear c32; replace H := bsi H; obtain ⟨t527, A33, H⟩ := H; (try dsimp only at H)
        by_cases c34 : x4_2.size + t527.size ≤ 9223372036854775807
        rotate_left
        ·rw [if_neg c34] at H; exact absurd H (by simp)
        rw [if_pos c34] at H; have c34b0 := eq_true c34
        have c34b1 : decide (x4_2.size + t527.size ≤ 9223372036854775807) = true := decide_eq_true c34
        try have c34b2 : (9223372036854775807 < x4_2.size + t527.size) = False := eq_false (Nat.not_lt.2 c34)
        try (have c34b9 := c34b2; simp only [ByteArray.size_append] at c34b9)
        replace H := bsi H; obtain ⟨t528, A35, H⟩ := H; (try dsimp only at H)
        by_cases c36 : (x4_2 ++ t527).size + t528.size ≤ 9223372036854775807
        rotate_left
        ·rw [if_neg c36] at H; exact absurd H (by simp)
        rw [if_pos c36] at H; have c36b0 := eq_true c36
        have c36b1 : decide ((x4_2 ++ t527).size + t528.size ≤ 9223372036854775807) = true := decide_eq_true c36
        try have c36b2 : (9223372036854775807 < (x4_2 ++ t527).size + t528.size) = False := eq_false (Nat.not_lt.2 c36)
        try have c36b8 : (9223372036854775807 < x4_2.size + t527.size + t528.size) = False := eq_false (by have h_ := c36; simp only [ByteArray.size_append, ByteArray.size_extract, decide_eq_true_eq, decide_eq_false_iff_not] at *; omega)
        try (have c36b9 := c36b2; simp only [ByteArray.size_append] at c36b9)
        replace H := bsi H; obtain ⟨t529, A37, H⟩ := H; (try dsimp only at H)
        by_cases c38 : ((x4_2 ++ t527) ++ t528).size + t529.size ≤ 9223372036854775807
        rotate_left
        ·rw [if_neg c38] at H; exact absurd H (by simp)
        rw [if_pos c38] at H; have c38b0 := eq_true c38
        have c38b1 : decide (((x4_2 ++ t527) ++ t528).size + t529.size ≤ 9223372036854775807) = true := decide_eq_true c38
        try have c38b2 : (9223372036854775807 < ((x4_2 ++ t527) ++ t528).size + t529.size) = False := eq_false (Nat.not_lt.2 c38)
        try have c38b8 : (9223372036854775807 < x4_2.size + t527.size + t528.size + t529.size) = False := eq_false (by have h_ := c38; simp only [ByteArray.size_append, ByteArray.size_extract, decide_eq_true_eq, decide_eq_false_iff_not] at *; omega)
        try (have c38b9 := c38b2; simp only [ByteArray.size_append] at c38b9)
        have H' := am H
        clear H; obtain ⟨hcz39_0, hcz39_1⟩ := cl2 BK516.out; obtain ⟨hfz39_0, hfz39_1⟩ := fr2 BK516.out
        have p525 : 0 ≤ (x7_2 : Int) := dga
        have q525 : x7_2 < (l0_1.length : Int) := dga
        obtain ⟨ad525, e525, hx525_0, hx525_1, hx525_2⟩ := at_T81 HR0_1.out x7_2 p525 q525; cases e525; replace hx525_0 := (HB.out.cell (World.block_lt_of_cell? w _ hx525_0)).trans hx525_0; replace hx525_1 := (HB.out.cell (World.block_lt_of_cell? w _ hx525_1)).trans hx525_1; replace hx525_2 := (HB.out.cell (World.block_lt_of_cell? w _ hx525_2)).trans hx525_2; replace p525 := eq_true p525; replace q525 := eq_true q525
        try go_wp2_with (first | ((with_reducible refine gate_dst (N := 8) rfl ?_); refine bx (N := 8) (cs := #[.string (⟨#[]⟩ : ByteArray), .string (⟨#[]⟩ : ByteArray), .int .i64 0]) (t := 81) ?_; intro gb526 hg w40 hbox hb; have BK526 := am (hbox); have GW526 := am ((bs hg (below_size HB.out))); have GE526 := am ((bs hg (below_size HB.out))); replace HB := am (below_step (te1 HB.out GE516.out) hb); have NB516_526 := am ((nl hg (blk_lt BK516.out))); have NB526_516 := am ((ng hg (blk_lt BK516.out))); replace BK516 := am (bb BK516.out hb); clear hb hbox hg; have hnb41 := NB526_516.out; have hnc41 := NB516_526.out; obtain ⟨hcz42_0, hcz42_1, hcz42_2⟩ := cl3 BK526.out; obtain ⟨hfz42_0, hfz42_1, hfz42_2⟩ := fr3 BK526.out))
        have n0_ : Aside0 ((((w40.setCell ⟨gb526, 0, none⟩ (.string ((rd_T81 l0_1 x7_2).f0))).setCell ⟨gb526, 1, none⟩ (.string ((rd_T81 l0_1 x7_2).f1))).setCell ⟨gb526, 2, none⟩ (.int .i64 ((rd_T81 l0_1 x7_2).f2))).heap[gb516]? = some (.cells #[.slice A0_0 l0_0.length c0_0, .slice (some ad525) l0_1.length c0_1] 47 (0, 0))) := ⟨(tp1 BK516.out NB516_526.out)⟩
        have n1_ : Aside0 ((((w40.setCell ⟨gb526, 0, none⟩ (.string ((rd_T81 l0_1 x7_2).f0))).setCell ⟨gb526, 1, none⟩ (.string ((rd_T81 l0_1 x7_2).f1))).setCell ⟨gb526, 2, none⟩ (.int .i64 ((rd_T81 l0_1 x7_2).f2))).heap[gb526]? = some (.cells #[.string ((rd_T81 l0_1 x7_2).f0), .string ((rd_T81 l0_1 x7_2).f1), .int .i64 ((rd_T81 l0_1 x7_2).f2)] 81 (0, 0))) := ⟨(tp0 BK526.out)⟩
        have n2_ : Aside0 (Below w.heap.size w (((w40.setCell ⟨gb526, 0, none⟩ (.string ((rd_T81 l0_1 x7_2).f0))).setCell ⟨gb526, 1, none⟩ (.string ((rd_T81 l0_1 x7_2).f1))).setCell ⟨gb526, 2, none⟩ (.int .i64 ((rd_T81 l0_1 x7_2).f2)))) := ⟨(te2 HB.out GE516.out GE526.out)⟩
        (try clear BK516); (try clear BK526); (try clear HB); generalize (((w40.setCell ⟨gb526, 0, none⟩ (.string ((rd_T81 l0_1 x7_2).f0))).setCell ⟨gb526, 1, none⟩ (.string ((rd_T81 l0_1 x7_2).f1))).setCell ⟨gb526, 2, none⟩ (.int .i64 ((rd_T81 l0_1 x7_2).f2))) = w43 at n0_ n1_ n2_ ⊢; have BK516 := n0_; have BK526 := n1_; have HB := n2_; clear n0_ n1_ n2_; replace BK516 := am (blk_drew BK516.out); replace BK526 := am (blk_drew BK526.out); replace HB := am (below_drew1 HB.out); refine start_ (n := 14) (S := fun w' => w'.cell? ⟨gb526, 0, none⟩ = some (.string ((rd_T81 l0_1 x7_2).f0)) ∧ w'.cell? ⟨gb526, 1, none⟩ = some (.string ((rd_T81 l0_1 x7_2).f1)) ∧ w'.cell? ⟨gb526, 2, none⟩ = some (.int .i64 ((rd_T81 l0_1 x7_2).f2))) (ds := []) #[false, false, false, false, false, false, false, false, false, false, false, false, false, false] gk_ rfl rfl ⟨(blk_cell BK526.out 0).trans rfl, (blk_cell BK526.out 1).trans rfl, (blk_cell BK526.out 2).trans rfl⟩ (fun hHeld => ?_); refine with_tabW spec_KeepText.tab14 spec_KeepText.bits14 (fun HT_ HW_ => ?_); generalize w43.drew = w44 at BK516 BK526 HB hHeld ⊢; refine pu_ 0 59 HT_ ?_; refine pu_ 1 60 HT_ ?_; refine pu_ 5 64 HT_ ?_; refine pu_ 9 68 HT_ ?_; refine ta_ 2 61 HT_ HW_ hHeld ?_; refine ta_ 6 65 HT_ HW_ hHeld ?_; refine ta_ 10 69 HT_ HW_ hHeld ?_; refine one_ (i := 3) (N := some 62) #[true, true, true, true, false, true, true, false, false, true, true, false, false, false] rfl rfl (one_of HT_.out gk_) (by decide) (fun K hK => ?_); refine goes_ Try.func60 gk_ rfl #[.string ((rd_T81 l0_1 x7_2).f0)] (by rfl) rfl rfl gm_ ?_
        with_reducible refine (spec_l16Short.calls k2 ((rd_T81 l0_1 x7_2).f0) t527 _ A33.out).mono ?_
        rintro e w45 ⟨rfl, hb⟩; refine ⟨_, rfl, ?_⟩; replace BK516 := am (bb BK516.out hb); replace BK526 := am (bb BK526.out hb); replace HB := am (below_step (te2 HB.out GE516.out GE526.out) hb); (try clear hb); (try clear hb2); (try clear hk); (try clear hi); (try clear hl); refine hK.out _ _ ⟨(blk_cell BK526.out 0).trans rfl, (blk_cell BK526.out 1).trans rfl, (blk_cell BK526.out 2).trans rfl⟩ (fun hHeld => ?_); clear hK K; refine norm_ (a' := ?_) ?_ ?_; rotate_left
        ·show Act.put _ (some 62) _ = _; simp only [Act.put, List.setIfInBounds_toArray, List.set_cons_zero, List.set_cons_succ, i64_w, i32_w]; rfl
        refine pu_ 4 63 HT_ ?_; refine one_ (i := 7) (N := some 66) #[true, true, true, true, true, true, true, true, false, true, true, false, false, false] rfl rfl (one_of HT_.out gk_) (by decide) (fun K hK => ?_); refine goes_ Try.func60 gk_ rfl #[.string ((rd_T81 l0_1 x7_2).f1)] (by rfl) rfl rfl gm_ ?_
        with_reducible refine (spec_l16Short.calls k2 ((rd_T81 l0_1 x7_2).f1) t528 _ A35.out).mono ?_
        rintro e w46 ⟨rfl, hb⟩; refine ⟨_, rfl, ?_⟩; replace BK516 := am (bb BK516.out hb); replace BK526 := am (bb BK526.out hb); replace HB := am (below_step (te2 HB.out GE516.out GE526.out) hb); (try clear hb); (try clear hb2); (try clear hk); (try clear hi); (try clear hl); refine hK.out _ _ ⟨(blk_cell BK526.out 0).trans rfl, (blk_cell BK526.out 1).trans rfl, (blk_cell BK526.out 2).trans rfl⟩ (fun hHeld => ?_); clear hK K; refine norm_ (a' := ?_) ?_ ?_; rotate_left
        ·show Act.put _ (some 66) _ = _; simp only [Act.put, List.setIfInBounds_toArray, List.set_cons_zero, List.set_cons_succ, i64_w, i32_w]; rfl
        refine pu_ 8 67 HT_ ?_; refine one_ (i := 11) (N := some 70) #[true, true, true, true, true, true, true, true, true, true, true, true, false, false] rfl rfl (one_of HT_.out gk_) (by decide) (fun K hK => ?_); refine goes_ Try.func59 gk_ rfl #[.int .i64 ((rd_T81 l0_1 x7_2).f2)] (by rfl) rfl rfl gm_ ?_
        with_reducible refine (spec_l01Var.calls k2 ((rd_T81 l0_1 x7_2).f2) t529 _ A37.out).mono ?_
        rintro e w47 ⟨rfl, hb⟩; refine ⟨_, rfl, ?_⟩; replace BK516 := am (bb BK516.out hb); replace BK526 := am (bb BK526.out hb); replace HB := am (below_step (te2 HB.out GE516.out GE526.out) hb); (try clear hb); (try clear hb2); (try clear hk); (try clear hi); (try clear hl); refine hK.out _ _ ⟨(blk_cell BK526.out 0).trans rfl, (blk_cell BK526.out 1).trans rfl, (blk_cell BK526.out 2).trans rfl⟩ (fun hHeld => ?_); clear hK K; refine norm_ (a' := ?_) ?_ ?_; rotate_left
        ·show Act.put _ (some 70) _ = _; simp only [Act.put, List.setIfInBounds_toArray, List.set_cons_zero, List.set_cons_succ, i64_w, i32_w]; rfl
        refine pu_ 12 71 HT_ ?_; refine pu_ 13 4 HT_ ?_; refine done_ (done_of HT_.out gk_) ?_
        try go_wp2
        go_roundg k2
        case measure => have := HK1.out; have := HK2.out; omega
        case rel => exact ⟨(((x4_2 ++ t527) ++ t528) ++ t529), (wrap64 (x7_2 + 1)), (be_), (be_), H', ⟨(by have := HK1.out; have := HK2.out; omega)⟩, ⟨(tb BK516.out)⟩, ⟨(te2 HB.out GE516.out GE526.out)⟩⟩
       ·rw [if_neg c31] at H
        have c31b0 : decide (x7_2 < (l0_1.length : Int)) = false := decide_eq_false c31
        clear c31; simp only [Option.some.injEq, Prod.mk.injEq] at H; obtain ⟨rfl, rfl⟩ := H; obtain ⟨hcz48_0, hcz48_1⟩ := cl2 BK516.out; obtain ⟨hfz48_0, hfz48_1⟩ := fr2 BK516.out
        go_wp2
        go_ret2
        exact ⟨B19x11_, (te1 HB.out GE516.out)⟩
 ·replace c3 := Bool.eq_false_iff.mpr c3; subst c3; rw [if_neg (show ¬ (false = true) by decide)] at H; simp only [Option.some.injEq, Prod.mk.injEq] at H; obtain ⟨rfl, rfl⟩ := H; go_enter Try.func22, Try.ntmps22
  go_wp2_with (first | ((with_reducible refine gate_dst (N := 1) rfl ?_); refine bx (N := 1) (cs := #[.slice A0_0 l0_0.length c0_0, .slice A0_1 l0_1.length c0_1]) (t := 47) ?_; intro gb516 hg w49 hbox hb; have BK516 := am (hbox); have GW516 := am ((bs hg (below_size HB.out))); have GE516 := am ((bs hg (below_size HB.out))); replace HB := am (below_step (te0 HB.out) hb); clear hb hbox hg; obtain ⟨hcz50_0, hcz50_1⟩ := cl2 BK516.out; obtain ⟨hfz50_0, hfz50_1⟩ := fr2 BK516.out) | ((with_reducible refine gate_callee (f := 28) rfl ?_); refine goesL_ (some 10) rfl rfl Try.func28 gk_ rfl #[.agg #[.slice A0_0 l0_0.length c0_0, .slice A0_1 l0_1.length c0_1]] rfl gm_ ?_; (with_reducible refine (spec_KeepOk.calls k _ _ l0_0 _ _ l0_1 false _ ?side1 ?side2 ?side3 ?side4 A2.out).mono ?_); (case side1 => exact (tc (Kd.C_below HR0_0.out HB.out))); (case side2 => exact HC0_0.out); (case side3 => exact (tc (Kd.C_below HR0_1.out HB.out))); (case side4 => exact HC0_1.out); rintro e w51 ⟨rfl, hb⟩; refine ⟨_, rfl, ?_⟩; replace BK516 := am (bb BK516.out hb); replace HB := am (below_step (te1 HB.out GE516.out) hb); (try clear hb); (try clear hl)))
  go_ret2
  exact ⟨B19x11_, (te1 HB.out GE516.out)⟩

end Go.Proofs.Ytgffdijodnpolaa.QFnSameKeeps
