/- Functions that a law reaches, as functions of Lean, and the walks that show that the calls come to their answers: written by a program of this project out of the translation. No condition. -/
import Derived.Test.YthgjcijcmacpmaaQFnExactReadKeepx0
import Derived.Test.YthgjcijcmacpmaaQFnExactReadKeepx1
import Derived.Test.YthgjcijcmacpmaaVFnExactReadKeephort3
import Derived.Test.YthgjcijcmacpmaaVFnExactReadKeepShort2
import Derived.Test.YthgjcijcmacpmaaVFnExactReadKeepShort
namespace Go.Proofs.Ythgjcijcmacpmaa.QFnExactReadKeep
open Go.RowKit Go.Proofs.YthgjcijcmacpmaaW.PrintWords Go.Proofs.YthgjcijcmacpmaaW.PrintLast Go.Proofs.YthgjcijcmacpmaaW.PrintMore Go.Proofs.Ythgjcijcmacpmaa.Short
attribute [local go_sem] max2_int min2_int max_two min_two max_three min_three max_four min_four   -- for this text's walks alone
set_option linter.unusedVariables false
set_option linter.unusedSimpArgs false

theorem B2x0_ {p : Prop} (h : p := by repeat (first | (with_reducible first | exact HB.out | apply below_alloc | apply pw_below_drewN | apply below_drew1) | exact HB.out)) : p := h
theorem B2x1_ {p : Prop} (h : p := by (try simp only [List.map_toArray, List.map_cons, List.map_nil]); first | done | rfl | (simp only [List.length_drop, List.length_take]; rfl)) : p := h
theorem B2x2_ {p : Prop} (h : p := by first | (with_reducible assumption) | assumption) : p := h
theorem B2x3_ {p : Prop} (h : p := by kernel_rfl) : p := h
theorem B2x4_ {p : Prop} (h : p := by injection e104) : p := h
/-! ### spec_l15Sessions: function 122 -/
def spec_l15Sessions.l0 : Nat → List (S101) → Int → Option (Bool)
 | 0, _, _ => none
 | k + 1, x0, x3 => if x3 < (x0.length : Int) then (if 0 ≤ x3 then ((spec_l01In.f ((rd_T101 x0 x3).f0) 1 1000000).bind fun t103 => (if t103 = true then (if x3 > 0 then (if 0 ≤ (wrap64 (x3 - 1)) then (if (wrap64 (x3 - 1)) < (x0.length : Int) then (if ((rd_T101 x0 (wrap64 (x3 - 1))).f0) ≥ ((rd_T101 x0 x3).f0) then (some false) else ((spec_l01In.f ((rd_T101 x0 x3).f1) 0 1000000).bind fun t105 => (if t105 = true then (if (((rd_T101 x0 x3).f2).size : Int) > 40 then (some false) else (if ((rd_T101 x0 x3).f1) = 0 then (if ((rd_T101 x0 x3).f2).toList = ([] : List UInt8) then (spec_l15Sessions.l0 k x0 (wrap64 (x3 + 1))) else (some false)) else (spec_l15Sessions.l0 k x0 (wrap64 (x3 + 1))))) else (some false)))) else (none)) else (none)) else ((spec_l01In.f ((rd_T101 x0 x3).f1) 0 1000000).bind fun t106 => (if t106 = true then (if (((rd_T101 x0 x3).f2).size : Int) > 40 then (some false) else (if ((rd_T101 x0 x3).f1) = 0 then (if ((rd_T101 x0 x3).f2).toList = ([] : List UInt8) then (spec_l15Sessions.l0 k x0 (wrap64 (x3 + 1))) else (some false)) else (spec_l15Sessions.l0 k x0 (wrap64 (x3 + 1))))) else (some false)))) else (some false))) else (none)) else (some (decide ((x0.length : Int) ≤ 3)))
def spec_l15Sessions.f (k : Nat) (l0 : List (S101)) : Option (Bool) := spec_l15Sessions.l0 k l0 0
theorem spec_l15Sessions.mono_l : ∀ k, (∀ y0 y1, LeO (spec_l15Sessions.l0 k y0 y1) (spec_l15Sessions.l0 (k + 1) y0 y1))
 | 0 => fun _ _ r h => by simp [spec_l15Sessions.l0] at h
 | k + 1 => by
  have ih0 := spec_l15Sessions.mono_l k
  ·intro y0 y1
   unfold spec_l15Sessions.l0
   repeat' first
   | (with_reducible exact ih0 _ _)
   | (with_reducible exact LeO.refl _)
   | (with_reducible exact LeO.none _)
   | (with_reducible refine LeO.ite ?_ ?_)
   | (with_reducible refine LeO.bind ?_ (fun _ => ?_))
   | exact ih0 _ _
   | exact LeO.none _
   | refine LeO.ite ?_ ?_
   | refine LeO.bind ?_ (fun _ => ?_)
theorem spec_l15Sessions.mono : ∀ a0 k, LeO (spec_l15Sessions.f k a0) (spec_l15Sessions.f (k + 1) a0) := by
 intro a0 k
 have ih0 := spec_l15Sessions.mono_l k
 unfold spec_l15Sessions.f
 repeat' first
   | (with_reducible exact ih0 _ _)
   | (with_reducible exact LeO.refl _)
   | (with_reducible exact LeO.none _)
   | (with_reducible refine LeO.ite ?_ ?_)
   | (with_reducible refine LeO.bind ?_ (fun _ => ?_))
   | exact ih0 _ _
   | exact LeO.none _
   | refine LeO.ite ?_ ?_
   | refine LeO.bind ?_ (fun _ => ?_)
def spec_l15Sessions.T5 : Bool × List (List Nat × List Nat) := (true, [([], []), ([0], [0]), ([1], [1]), ([2], [2]), ([3, 2], [3]), ([4], [4]), ([5, 4], [4, 5]), ([6, 4, 4], [4, 6]), ([7], [7]), ([7], [7]), ([9, 7], [7, 9]), ([8, 10, 7], [7, 8, 10]), ([11, 7], [7, 11]), ([12, 7], [7, 12]), ([7], [7]), ([14, 7], [7, 14]), ([13, 15, 7], [7, 13, 15]), ([7, 16, 4], [4, 7, 16]), ([4, 17], [4, 17]), ([18, 7], [18]), ([19], [19]), ([20, 19], [19, 20]), ([21, 19, 19], [19, 21]), ([22, 19], [19, 22]), ([19, 23], [19, 23]), ([24, 22], [24]), ([25], [25]), ([26, 25], [25, 26]), ([27, 25], [25, 27]), ([28, 25], [25, 28]), ([25, 29], [25, 29]), ([30, 25], [30]), ([31], [31]), ([32, 31], [31, 32]), ([33, 31], [31, 33]), ([34, 31, 31], [31, 34]), ([35], [35]), ([36, 35], [35, 36]), ([37, 35], [35, 37]), ([35, 38, 31], [31, 35, 38]), ([31, 39], [31, 39])])
def spec_l15Sessions.B5 : List Nat := [0, 1, 3, 7, 15, 31, 63, 127, 255, 255, 767, 2047, 4095, 8191, 255, 16639, 65535, 131071, 262143, 524287, 1048575, 2097151, 4194303, 8388607, 16777215, 33554431, 67108863, 134217727, 268435455, 536870911, 1073741823, 2147483647, 4294967295, 8589934591, 17179869183, 34359738367, 68719476735, 137438953471, 274877906943, 549755813887, 1099511627775]
theorem spec_l15Sessions.tab5 : rtab .any (opsOf Try.f122 5) = spec_l15Sessions.T5 := by kernel_rfl
theorem spec_l15Sessions.bits5 : waitsOk spec_l15Sessions.T5.2 spec_l15Sessions.B5 = true := by kernel_rfl
set_option maxHeartbeats 8000000 in
set_option maxRecDepth 100000 in
theorem spec_l15Sessions.calls (k : Nat) (A0 : Option Addr) (c0 : Nat) (l0 : List (S101)) (r : Bool) (w : World) (hr0 : Kd.C k101 w A0 l0.length l0) (hc0 : l0.length ≤ c0) (h : spec_l15Sessions.f k l0 = some r) :
  Calls Try.prog 122 #[.slice A0 l0.length c0] w fun e w' => e = .returned (.bool r) ∧ Below w.heap.size w w' := by
 have hu101 := Try.underlying101
 have HR0 := Aside0.mk hr0
 have HC0 := Aside0.mk hc0
 clear hr0 hc0
 have HB := Aside0.mk (Below.refl w.heap.size w)
 have H : (spec_l15Sessions.l0 k l0 0) = some r := h
 clear h
 have H' := Aside0.mk H
 clear H
 go_enter Try.func122, Try.ntmps122
 go_wp2
 go_loopg [3] k (fun kq v3 w' => ∃ (x3_1 : Int), v3 = .int .i64 x3_1 ∧ Aside0 (spec_l15Sessions.l0 kq l0 x3_1 = some r) ∧ Aside0 (kq ≤ k) ∧ Aside0 (Below w.heap.size w w'))
 case atStart => exact ⟨(0), (be_), H', ⟨Nat.le_refl _⟩, ⟨by repeat (first | (with_reducible first | exact HB.out | apply below_alloc | apply pw_below_drewN | apply below_drew1) | exact HB.out)⟩⟩
 case round =>
  clear H'
  try clear c1
  obtain ⟨x3_1, rfl, HA, HK1, HB⟩ := hrel
  cases gk with
  | zero => exact absurd HA.out (by simp [spec_l15Sessions.l0])
  | succ k1 =>
   have H := HA.out
   clear HA
   simp only [spec_l15Sessions.l0] at H
   by_cases c2 : x3_1 < (l0.length : Int)
   ·rw [if_pos c2] at H
    have c2b0 : decide (x3_1 < (l0.length : Int)) = true := decide_eq_true c2
    clear c2
    by_cases c3 : 0 ≤ x3_1
    ·rw [if_pos c3] at H
     have c3b0 : decide (0 ≤ x3_1) = true := decide_eq_true c3
     clear c3
     replace H := Option.bind_eq_some_iff.mp H
     obtain ⟨t103, A40, H⟩ := H
     (try dsimp only at H)
     have A4 := Aside0.mk A40
     clear A40
     by_cases c5 : t103 = true
     ·subst c5
      rw [if_pos rfl] at H
      by_cases c6 : x3_1 > 0
      ·rw [if_pos c6] at H
       have c6b0 : decide (0 < x3_1) = true := decide_eq_true c6
       clear c6
       obtain ⟨ji7, hji7⟩ : ∃ j_ : Int, (wrap64 (x3_1 - 1)) = j_ := ⟨_, rfl⟩
       replace H : (if 0 ≤ (ji7) then (if (ji7) < (l0.length : Int) then (if ((rd_T101 l0 (ji7)).f0) ≥ ((rd_T101 l0 x3_1).f0) then (some false) else ((spec_l01In.f ((rd_T101 l0 x3_1).f1) 0 1000000).bind fun t105 => (if t105 = true then (if (((rd_T101 l0 x3_1).f2).size : Int) > 40 then (some false) else (if ((rd_T101 l0 x3_1).f1) = 0 then (if ((rd_T101 l0 x3_1).f2).toList = ([] : List UInt8) then (spec_l15Sessions.l0 k1 l0 (wrap64 (x3_1 + 1))) else (some false)) else (spec_l15Sessions.l0 k1 l0 (wrap64 (x3_1 + 1))))) else (some false)))) else (none)) else (none)) = some r := by first | (rw [hji7] at H; exact H) | (simp only [hji7] at H ⊢; exact H)
       (try rw [hji7] at A4)
       have hji7w : (IntKind.i64.wrap (x3_1 - 1)) = ji7 := (i64_w _).trans hji7
       by_cases c8 : 0 ≤ (ji7)
       ·rw [if_pos c8] at H
        have c8b0 : decide (0 ≤ (ji7)) = true := decide_eq_true c8
        clear c8
        by_cases c9 : (ji7) < (l0.length : Int)
        ·rw [if_pos c9] at H
         have c9b0 : decide ((ji7) < (l0.length : Int)) = true := decide_eq_true c9
         clear c9
         by_cases c10 : ((rd_T101 l0 (ji7)).f0) ≥ ((rd_T101 l0 x3_1).f0)
         ·rw [if_pos c10] at H
          have c10b0 : decide (((rd_T101 l0 x3_1).f0) ≤ ((rd_T101 l0 (ji7)).f0)) = true := decide_eq_true c10
          clear c10
          obtain rfl := Option.some.inj H
          have p101 : 0 ≤ (x3_1 : Int) := of_decide_eq_true B2x2_
          have q101 : x3_1 < (l0.length : Int) := of_decide_eq_true B2x2_
          obtain ⟨ad101, e101, hx101_0, hx101_1, hx101_2⟩ := at_T101 HR0.out x3_1 p101 q101
          cases e101
          replace hx101_0 := (HB.out.cell (World.block_lt_of_cell? w _ hx101_0)).trans hx101_0
          replace hx101_1 := (HB.out.cell (World.block_lt_of_cell? w _ hx101_1)).trans hx101_1
          replace hx101_2 := (HB.out.cell (World.block_lt_of_cell? w _ hx101_2)).trans hx101_2
          replace p101 := eq_true p101
          replace q101 := eq_true q101
          try go_wp2_with (first | ((with_reducible refine gate_dst (N := 4) rfl ?_); (try (refine gate_guard (by rfl) ?_; dsimp only)); refine box_event ?hg (N := 4) ?hd (cs := #[.int .i64 0, .int .i64 0, .string (⟨#[]⟩ : ByteArray)]) (t := 101) ?hr ?_; (case hd => rfl); (case hg => rfl); (case hr => first | (go_simp; done) | (go_simp; rfl)); intro gb102 hg w11 hbox hb; have n0_ := Aside0.mk (below_step B2x0_ hb); have n1_ := Aside0.mk (hbox); have n2_ := Aside0.mk ((by rw [hg]; exact (below_size B2x0_) : w.heap.size ≤ gb102)); have n3_ := Aside0.mk ((by rw [hg]; exact (below_size B2x0_) : w.heap.size ≤ gb102)); clear HB; have HB := n0_; have BK102 := n1_; have GW102 := n2_; have GE102 := n3_; clear n0_ n1_ n2_ n3_; clear hb hbox hg; obtain ⟨hcz12_0, hcz12_1, hcz12_2⟩ := cl3 BK102.out; obtain ⟨hfz12_0, hfz12_1, hfz12_2⟩ := fr3 BK102.out))
          have n0_ : Aside0 ((((w11.setCell ⟨gb102, 0, none⟩ (.int .i64 ((rd_T101 l0 x3_1).f0))).setCell ⟨gb102, 1, none⟩ (.int .i64 ((rd_T101 l0 x3_1).f1))).setCell ⟨gb102, 2, none⟩ (.string ((rd_T101 l0 x3_1).f2))).heap[gb102]? = some (.cells #[.int .i64 ((rd_T101 l0 x3_1).f0), .int .i64 ((rd_T101 l0 x3_1).f1), .string ((rd_T101 l0 x3_1).f2)] 101 (0, 0))) := ⟨by (with_reducible repeat (first | refine blk_drewN ?_ _ | refine blk_drew ?_ | refine blk_alloc ?_ _)); refine blk_put (cs := #[.int .i64 ((rd_T101 l0 x3_1).f0), .int .i64 ((rd_T101 l0 x3_1).f1), .string (⟨#[]⟩ : ByteArray)]) ?_ 2 _ rfl; (with_reducible repeat (first | refine blk_drewN ?_ _ | refine blk_drew ?_ | refine blk_alloc ?_ _)); refine blk_put (cs := #[.int .i64 ((rd_T101 l0 x3_1).f0), .int .i64 0, .string (⟨#[]⟩ : ByteArray)]) ?_ 1 _ rfl; (with_reducible repeat (first | refine blk_drewN ?_ _ | refine blk_drew ?_ | refine blk_alloc ?_ _)); refine blk_put (cs := #[.int .i64 0, .int .i64 0, .string (⟨#[]⟩ : ByteArray)]) ?_ 0 _ rfl; (with_reducible repeat (first | refine blk_drewN ?_ _ | refine blk_drew ?_ | refine blk_alloc ?_ _)); exact BK102.out⟩
          have n1_ : Aside0 (Below w.heap.size w (((w11.setCell ⟨gb102, 0, none⟩ (.int .i64 ((rd_T101 l0 x3_1).f0))).setCell ⟨gb102, 1, none⟩ (.int .i64 ((rd_T101 l0 x3_1).f1))).setCell ⟨gb102, 2, none⟩ (.string ((rd_T101 l0 x3_1).f2)))) := ⟨by repeat (first | (with_reducible first | exact HB.out | apply below_alloc | apply pw_below_drewN | apply below_drew1 | refine below_set ?_ GE102.out) | exact HB.out)⟩
          (try clear BK102)
          (try clear HB)
          generalize (((w11.setCell ⟨gb102, 0, none⟩ (.int .i64 ((rd_T101 l0 x3_1).f0))).setCell ⟨gb102, 1, none⟩ (.int .i64 ((rd_T101 l0 x3_1).f1))).setCell ⟨gb102, 2, none⟩ (.string ((rd_T101 l0 x3_1).f2))) = w13 at n0_ n1_ ⊢
          have BK102 := n0_
          have HB := n1_
          clear n0_ n1_
          have n0_ := Aside0.mk (blk_drew BK102.out)
          have n1_ := Aside0.mk (below_drew1 HB.out)
          clear BK102
          clear HB
          have BK102 := n0_
          have HB := n1_
          clear n0_ n1_
          have p104 : 0 ≤ ((ji7) : Int) := of_decide_eq_true B2x2_
          have q104 : (ji7) < (l0.length : Int) := of_decide_eq_true B2x2_
          obtain ⟨ad104, e104, hx104_0, hx104_1, hx104_2⟩ := at_T101 HR0.out (ji7) p104 q104
          have hw104_2 := hx104_2
          have hw104_1 := hx104_1
          have hw104_0 := hx104_0
          obtain rfl : ad101 = ad104 := B2x4_
          replace hx104_0 := (HB.out.cell (World.block_lt_of_cell? w _ hx104_0)).trans hx104_0
          replace hx104_1 := (HB.out.cell (World.block_lt_of_cell? w _ hx104_1)).trans hx104_1
          replace hx104_2 := (HB.out.cell (World.block_lt_of_cell? w _ hx104_2)).trans hx104_2
          replace p104 := eq_true p104
          replace q104 := eq_true q104
          refine start_ (n := 41) (S := fun w' => w'.cell? ⟨gb102, 0, none⟩ = some (.int .i64 ((rd_T101 l0 x3_1).f0)) ∧ w'.cell? ⟨gb102, 1, none⟩ = some (.int .i64 ((rd_T101 l0 x3_1).f1)) ∧ w'.cell? ⟨gb102, 2, none⟩ = some (.string ((rd_T101 l0 x3_1).f2)) ∧ w'.cell? (ad101.add (((ji7)).toNat * 3)) = some (.int .i64 ((rd_T101 l0 (ji7)).f0)) ∧ w'.cell? ⟨(ad101.add (((ji7)).toNat * 3)).block, (ad101.add (((ji7)).toNat * 3)).off + 1, none⟩ = some (.int .i64 ((rd_T101 l0 (ji7)).f1)) ∧ w'.cell? ⟨(ad101.add (((ji7)).toNat * 3)).block, (ad101.add (((ji7)).toNat * 3)).off + 2, none⟩ = some (.string ((rd_T101 l0 (ji7)).f2))) (ds := []) #[false, false, false, false, false, false, false, false, false, false, false, false, false, false, false, false, false, false, false, false, false, false, false, false, false, false, false, false, false, false, false, false, false, false, false, false, false, false, false, false, false] B2x3_ rfl rfl ⟨(blk_cell BK102.out 0).trans rfl, (blk_cell BK102.out 1).trans rfl, (blk_cell BK102.out 2).trans rfl, ((HB.out.cell (World.block_lt_of_cell? w _ hw104_0)).trans hw104_0), ((HB.out.cell (World.block_lt_of_cell? w _ hw104_1)).trans hw104_1), ((HB.out.cell (World.block_lt_of_cell? w _ hw104_2)).trans hw104_2)⟩ (fun hHeld => ?_); refine with_tabW spec_l15Sessions.tab5 spec_l15Sessions.bits5 (fun HT_ HW_ => ?_)
          generalize w13.drew = w14 at BK102 HB hx104_0 hx104_1 hx104_2 hHeld ⊢
          refine pu_ 0 15 HT_ ?_
          refine ta_ 1 16 HT_ HW_ hHeld ?_
          refine one_ (i := 2) (N := some 17) #[true, true, true, false, false, false, false, false, false, false, false, false, false, false, false, false, false, false, false, false, false, false, false, false, false, false, false, false, false, false, false, false, false, false, false, false, false, false, false, false, false] rfl rfl (one_of HT_.out B2x3_) (by decide) (fun K hK => ?_)
          refine goes_ Try.func64 B2x3_ rfl #[.int .i64 ((rd_T101 l0 x3_1).f0), .int .i64 1, .int .i64 1000000] (by rfl) rfl rfl B2x1_ ?_
          with_reducible refine (spec_l01In.calls ((rd_T101 l0 x3_1).f0) 1 1000000 true _ A4.out).mono ?_
          rintro e w' ⟨rfl, ⟨nd, rfl⟩⟩
          refine ⟨_, rfl, ?_⟩
          refine hK.out _ _ ⟨(blk_cell BK102.out 0).trans rfl, (blk_cell BK102.out 1).trans rfl, (blk_cell BK102.out 2).trans rfl, ((HB.out.cell (World.block_lt_of_cell? w _ hw104_0)).trans hw104_0), ((HB.out.cell (World.block_lt_of_cell? w _ hw104_1)).trans hw104_1), ((HB.out.cell (World.block_lt_of_cell? w _ hw104_2)).trans hw104_2)⟩ (fun hHeld => ?_)
          clear hK K
          refine norm_ (a' := ?_) ?_ ?_
          rotate_left
          ·show Act.put _ (some 17) _ = _
           simp only [Act.put, List.setIfInBounds_toArray, List.set_cons_zero, List.set_cons_succ, i64_w, i32_w]
           rfl
          refine pu_ 3 18 HT_ ?_
          refine pu_ 4 19 HT_ ?_
          refine pu_ 5 20 HT_ ?_
          refine pu_ 6 21 HT_ ?_
          refine pu_ 7 22 HT_ ?_
          refine pu_ 8 23 HT_ ?_
          refine pu_ 9 24 HT_ ?_
          refine pu_ 10 25 HT_ ?_
          refine pu_ 11 26 HT_ ?_
          refine pu_ 12 27 HT_ ?_
          refine pu_ 14 29 HT_ ?_
          refine ta_ 13 28 HT_ HW_ hHeld ?_
          refine ta_ 15 30 HT_ HW_ hHeld ?_
          refine pu_ 16 31 HT_ ?_
          refine pu_ 17 32 HT_ ?_
          refine pu_ 18 33 HT_ ?_
          refine pu_ 19 34 HT_ ?_
          refine of_ 20 35 HT_ ?_
          refine of_ 21 36 HT_ ?_
          refine of_ 22 37 HT_ ?_
          refine of_ 23 38 HT_ ?_
          refine pu_ 24 39 HT_ ?_
          refine pu_ 25 40 HT_ ?_
          refine of_ 26 41 HT_ ?_
          refine of_ 27 42 HT_ ?_
          refine of_ 28 43 HT_ ?_
          refine of_ 29 44 HT_ ?_
          refine pu_ 30 45 HT_ ?_
          refine pu_ 31 46 HT_ ?_
          refine of_ 32 47 HT_ ?_
          refine of_ 33 48 HT_ ?_
          refine of_ 34 49 HT_ ?_
          refine of_ 35 50 HT_ ?_
          refine of_ 36 51 HT_ ?_
          refine of_ 37 52 HT_ ?_
          refine of_ 38 53 HT_ ?_
          refine of_ 39 54 HT_ ?_
          refine pu_ 40 55 HT_ ?_
          refine done_ (done_of HT_.out B2x3_) ?_
          try go_wp2
          go_ret
          exact ⟨by first | rfl | (simp [errW_none, errW_some] <;> rfl) | (simp only [← hji7]; first | rfl | (simp [errW_none, errW_some] <;> rfl)) | (simp [*, errW_none, errW_some] <;> rfl), by repeat (first | (with_reducible first | exact HB.out | apply below_alloc | apply pw_below_drewN | apply below_drew1 | refine below_set ?_ GE102.out) | exact HB.out)⟩
         ·rw [if_neg c10] at H
          have c10b0 : decide (((rd_T101 l0 x3_1).f0) ≤ ((rd_T101 l0 (ji7)).f0)) = false := decide_eq_false c10
          clear c10
          replace H := Option.bind_eq_some_iff.mp H
          obtain ⟨t105, A150, H⟩ := H
          (try dsimp only at H)
          have A15 := Aside0.mk A150
          clear A150
          by_cases c16 : t105 = true
          ·subst c16
           rw [if_pos rfl] at H
           by_cases c17 : (((rd_T101 l0 x3_1).f2).size : Int) > 40
           ·rw [if_pos c17] at H
            have c17b0 : decide (40 < (((rd_T101 l0 x3_1).f2).size : Int)) = true := decide_eq_true c17
            have c17b1 : decide (40 < ((rd_T101 l0 x3_1).f2).size) = true := decide_eq_true (by omega)
            clear c17
            obtain rfl := Option.some.inj H
            have p101 : 0 ≤ (x3_1 : Int) := of_decide_eq_true B2x2_
            have q101 : x3_1 < (l0.length : Int) := of_decide_eq_true B2x2_
            obtain ⟨ad101, e101, hx101_0, hx101_1, hx101_2⟩ := at_T101 HR0.out x3_1 p101 q101
            cases e101
            replace hx101_0 := (HB.out.cell (World.block_lt_of_cell? w _ hx101_0)).trans hx101_0
            replace hx101_1 := (HB.out.cell (World.block_lt_of_cell? w _ hx101_1)).trans hx101_1
            replace hx101_2 := (HB.out.cell (World.block_lt_of_cell? w _ hx101_2)).trans hx101_2
            replace p101 := eq_true p101
            replace q101 := eq_true q101
            try go_wp2_with (first | ((with_reducible refine gate_dst (N := 4) rfl ?_); (try (refine gate_guard (by rfl) ?_; dsimp only)); refine box_event ?hg (N := 4) ?hd (cs := #[.int .i64 0, .int .i64 0, .string (⟨#[]⟩ : ByteArray)]) (t := 101) ?hr ?_; (case hd => rfl); (case hg => rfl); (case hr => first | (go_simp; done) | (go_simp; rfl)); intro gb102 hg w18 hbox hb; have n0_ := Aside0.mk (below_step B2x0_ hb); have n1_ := Aside0.mk (hbox); have n2_ := Aside0.mk ((by rw [hg]; exact (below_size B2x0_) : w.heap.size ≤ gb102)); have n3_ := Aside0.mk ((by rw [hg]; exact (below_size B2x0_) : w.heap.size ≤ gb102)); clear HB; have HB := n0_; have BK102 := n1_; have GW102 := n2_; have GE102 := n3_; clear n0_ n1_ n2_ n3_; clear hb hbox hg; obtain ⟨hcz19_0, hcz19_1, hcz19_2⟩ := cl3 BK102.out; obtain ⟨hfz19_0, hfz19_1, hfz19_2⟩ := fr3 BK102.out))
            have n0_ : Aside0 ((((w18.setCell ⟨gb102, 0, none⟩ (.int .i64 ((rd_T101 l0 x3_1).f0))).setCell ⟨gb102, 1, none⟩ (.int .i64 ((rd_T101 l0 x3_1).f1))).setCell ⟨gb102, 2, none⟩ (.string ((rd_T101 l0 x3_1).f2))).heap[gb102]? = some (.cells #[.int .i64 ((rd_T101 l0 x3_1).f0), .int .i64 ((rd_T101 l0 x3_1).f1), .string ((rd_T101 l0 x3_1).f2)] 101 (0, 0))) := ⟨by (with_reducible repeat (first | refine blk_drewN ?_ _ | refine blk_drew ?_ | refine blk_alloc ?_ _)); refine blk_put (cs := #[.int .i64 ((rd_T101 l0 x3_1).f0), .int .i64 ((rd_T101 l0 x3_1).f1), .string (⟨#[]⟩ : ByteArray)]) ?_ 2 _ rfl; (with_reducible repeat (first | refine blk_drewN ?_ _ | refine blk_drew ?_ | refine blk_alloc ?_ _)); refine blk_put (cs := #[.int .i64 ((rd_T101 l0 x3_1).f0), .int .i64 0, .string (⟨#[]⟩ : ByteArray)]) ?_ 1 _ rfl; (with_reducible repeat (first | refine blk_drewN ?_ _ | refine blk_drew ?_ | refine blk_alloc ?_ _)); refine blk_put (cs := #[.int .i64 0, .int .i64 0, .string (⟨#[]⟩ : ByteArray)]) ?_ 0 _ rfl; (with_reducible repeat (first | refine blk_drewN ?_ _ | refine blk_drew ?_ | refine blk_alloc ?_ _)); exact BK102.out⟩
            have n1_ : Aside0 (Below w.heap.size w (((w18.setCell ⟨gb102, 0, none⟩ (.int .i64 ((rd_T101 l0 x3_1).f0))).setCell ⟨gb102, 1, none⟩ (.int .i64 ((rd_T101 l0 x3_1).f1))).setCell ⟨gb102, 2, none⟩ (.string ((rd_T101 l0 x3_1).f2)))) := ⟨by repeat (first | (with_reducible first | exact HB.out | apply below_alloc | apply pw_below_drewN | apply below_drew1 | refine below_set ?_ GE102.out) | exact HB.out)⟩
            (try clear BK102)
            (try clear HB)
            generalize (((w18.setCell ⟨gb102, 0, none⟩ (.int .i64 ((rd_T101 l0 x3_1).f0))).setCell ⟨gb102, 1, none⟩ (.int .i64 ((rd_T101 l0 x3_1).f1))).setCell ⟨gb102, 2, none⟩ (.string ((rd_T101 l0 x3_1).f2))) = w20 at n0_ n1_ ⊢
            have BK102 := n0_
            have HB := n1_
            clear n0_ n1_
            have n0_ := Aside0.mk (blk_drew BK102.out)
            have n1_ := Aside0.mk (below_drew1 HB.out)
            clear BK102
            clear HB
            have BK102 := n0_
            have HB := n1_
            clear n0_ n1_
            have p104 : 0 ≤ ((ji7) : Int) := of_decide_eq_true B2x2_
            have q104 : (ji7) < (l0.length : Int) := of_decide_eq_true B2x2_
            obtain ⟨ad104, e104, hx104_0, hx104_1, hx104_2⟩ := at_T101 HR0.out (ji7) p104 q104
            have hw104_2 := hx104_2
            have hw104_1 := hx104_1
            have hw104_0 := hx104_0
            obtain rfl : ad101 = ad104 := B2x4_
            replace hx104_0 := (HB.out.cell (World.block_lt_of_cell? w _ hx104_0)).trans hx104_0
            replace hx104_1 := (HB.out.cell (World.block_lt_of_cell? w _ hx104_1)).trans hx104_1
            replace hx104_2 := (HB.out.cell (World.block_lt_of_cell? w _ hx104_2)).trans hx104_2
            replace p104 := eq_true p104
            replace q104 := eq_true q104
            refine start_ (n := 41) (S := fun w' => w'.cell? ⟨gb102, 0, none⟩ = some (.int .i64 ((rd_T101 l0 x3_1).f0)) ∧ w'.cell? ⟨gb102, 1, none⟩ = some (.int .i64 ((rd_T101 l0 x3_1).f1)) ∧ w'.cell? ⟨gb102, 2, none⟩ = some (.string ((rd_T101 l0 x3_1).f2)) ∧ w'.cell? (ad101.add (((ji7)).toNat * 3)) = some (.int .i64 ((rd_T101 l0 (ji7)).f0)) ∧ w'.cell? ⟨(ad101.add (((ji7)).toNat * 3)).block, (ad101.add (((ji7)).toNat * 3)).off + 1, none⟩ = some (.int .i64 ((rd_T101 l0 (ji7)).f1)) ∧ w'.cell? ⟨(ad101.add (((ji7)).toNat * 3)).block, (ad101.add (((ji7)).toNat * 3)).off + 2, none⟩ = some (.string ((rd_T101 l0 (ji7)).f2))) (ds := []) #[false, false, false, false, false, false, false, false, false, false, false, false, false, false, false, false, false, false, false, false, false, false, false, false, false, false, false, false, false, false, false, false, false, false, false, false, false, false, false, false, false] B2x3_ rfl rfl ⟨(blk_cell BK102.out 0).trans rfl, (blk_cell BK102.out 1).trans rfl, (blk_cell BK102.out 2).trans rfl, ((HB.out.cell (World.block_lt_of_cell? w _ hw104_0)).trans hw104_0), ((HB.out.cell (World.block_lt_of_cell? w _ hw104_1)).trans hw104_1), ((HB.out.cell (World.block_lt_of_cell? w _ hw104_2)).trans hw104_2)⟩ (fun hHeld => ?_); refine with_tabW spec_l15Sessions.tab5 spec_l15Sessions.bits5 (fun HT_ HW_ => ?_)
            generalize w20.drew = w21 at BK102 HB hx104_0 hx104_1 hx104_2 hHeld ⊢
            refine pu_ 0 15 HT_ ?_
            refine ta_ 1 16 HT_ HW_ hHeld ?_
            refine one_ (i := 2) (N := some 17) #[true, true, true, false, false, false, false, false, false, false, false, false, false, false, false, false, false, false, false, false, false, false, false, false, false, false, false, false, false, false, false, false, false, false, false, false, false, false, false, false, false] rfl rfl (one_of HT_.out B2x3_) (by decide) (fun K hK => ?_)
            refine goes_ Try.func64 B2x3_ rfl #[.int .i64 ((rd_T101 l0 x3_1).f0), .int .i64 1, .int .i64 1000000] (by rfl) rfl rfl B2x1_ ?_
            with_reducible refine (spec_l01In.calls ((rd_T101 l0 x3_1).f0) 1 1000000 true _ A4.out).mono ?_
            rintro e w' ⟨rfl, ⟨nd, rfl⟩⟩
            refine ⟨_, rfl, ?_⟩
            refine hK.out _ _ ⟨(blk_cell BK102.out 0).trans rfl, (blk_cell BK102.out 1).trans rfl, (blk_cell BK102.out 2).trans rfl, ((HB.out.cell (World.block_lt_of_cell? w _ hw104_0)).trans hw104_0), ((HB.out.cell (World.block_lt_of_cell? w _ hw104_1)).trans hw104_1), ((HB.out.cell (World.block_lt_of_cell? w _ hw104_2)).trans hw104_2)⟩ (fun hHeld => ?_)
            clear hK K
            refine norm_ (a' := ?_) ?_ ?_
            rotate_left
            ·show Act.put _ (some 17) _ = _
             simp only [Act.put, List.setIfInBounds_toArray, List.set_cons_zero, List.set_cons_succ, i64_w, i32_w]
             rfl
            refine pu_ 3 18 HT_ ?_
            refine pu_ 4 19 HT_ ?_
            refine pu_ 5 20 HT_ ?_
            refine pu_ 6 21 HT_ ?_
            refine pu_ 7 22 HT_ ?_
            refine pu_ 8 23 HT_ ?_
            refine pu_ 9 24 HT_ ?_
            refine pu_ 10 25 HT_ ?_
            refine pu_ 11 26 HT_ ?_
            refine pu_ 12 27 HT_ ?_
            refine pu_ 14 29 HT_ ?_
            refine ta_ 13 28 HT_ HW_ hHeld ?_
            refine ta_ 15 30 HT_ HW_ hHeld ?_
            refine pu_ 16 31 HT_ ?_
            refine pu_ 17 32 HT_ ?_
            refine pu_ 18 33 HT_ ?_
            refine pu_ 19 34 HT_ ?_
            refine pu_ 20 35 HT_ ?_
            refine ta_ 21 36 HT_ HW_ hHeld ?_
            refine one_ (i := 22) (N := some 37) #[true, true, true, true, true, true, true, true, true, true, true, true, true, true, true, true, true, true, true, true, true, true, true, false, false, false, false, false, false, false, false, false, false, false, false, false, false, false, false, false, false] rfl rfl (one_of HT_.out B2x3_) (by decide) (fun K hK => ?_)
            refine goes_ Try.func64 B2x3_ rfl #[.int .i64 ((rd_T101 l0 x3_1).f1), .int .i64 0, .int .i64 1000000] (by rfl) rfl rfl B2x1_ ?_
            with_reducible refine (spec_l01In.calls ((rd_T101 l0 x3_1).f1) 0 1000000 true _ A15.out).mono ?_
            rintro e w' ⟨rfl, ⟨nd, rfl⟩⟩
            refine ⟨_, rfl, ?_⟩
            refine hK.out _ _ ⟨(blk_cell BK102.out 0).trans rfl, (blk_cell BK102.out 1).trans rfl, (blk_cell BK102.out 2).trans rfl, ((HB.out.cell (World.block_lt_of_cell? w _ hw104_0)).trans hw104_0), ((HB.out.cell (World.block_lt_of_cell? w _ hw104_1)).trans hw104_1), ((HB.out.cell (World.block_lt_of_cell? w _ hw104_2)).trans hw104_2)⟩ (fun hHeld => ?_)
            clear hK K
            refine norm_ (a' := ?_) ?_ ?_
            rotate_left
            ·show Act.put _ (some 37) _ = _
             simp only [Act.put, List.setIfInBounds_toArray, List.set_cons_zero, List.set_cons_succ, i64_w, i32_w]
             rfl
            refine pu_ 23 38 HT_ ?_
            refine pu_ 24 39 HT_ ?_
            refine pu_ 25 40 HT_ ?_
            refine pu_ 26 41 HT_ ?_
            refine ta_ 27 42 HT_ HW_ hHeld ?_
            refine pu_ 28 43 HT_ ?_
            refine pu_ 29 44 HT_ ?_
            refine pu_ 30 45 HT_ ?_
            refine pu_ 31 46 HT_ ?_
            refine of_ 32 47 HT_ ?_
            refine of_ 33 48 HT_ ?_
            refine of_ 34 49 HT_ ?_
            refine of_ 35 50 HT_ ?_
            refine of_ 36 51 HT_ ?_
            refine of_ 37 52 HT_ ?_
            refine of_ 38 53 HT_ ?_
            refine of_ 39 54 HT_ ?_
            refine pu_ 40 55 HT_ ?_
            refine done_ (done_of HT_.out B2x3_) ?_
            try go_wp2
            go_ret
            exact ⟨by first | rfl | (simp [errW_none, errW_some] <;> rfl) | (simp only [← hji7]; first | rfl | (simp [errW_none, errW_some] <;> rfl)) | (simp [*, errW_none, errW_some] <;> rfl), by repeat (first | (with_reducible first | exact HB.out | apply below_alloc | apply pw_below_drewN | apply below_drew1 | refine below_set ?_ GE102.out) | exact HB.out)⟩
           ·rw [if_neg c17] at H
            have c17b0 : decide (40 < (((rd_T101 l0 x3_1).f2).size : Int)) = false := decide_eq_false c17
            have c17b1 : decide (40 < ((rd_T101 l0 x3_1).f2).size) = false := decide_eq_false (by omega)
            clear c17
            by_cases c22 : ((rd_T101 l0 x3_1).f1) = 0
            ·rw [if_pos c22] at H
             have c22b0 : (((rd_T101 l0 x3_1).f1) == 0) = true := beq_iff_eq.mpr c22
             have c22b1 : (((rd_T101 l0 x3_1).f1) != 0) = false := bne_eq_false_iff_eq.mpr c22
             clear c22
             by_cases c23 : ((rd_T101 l0 x3_1).f2).toList = ([] : List UInt8)
             ·rw [if_pos c23] at H
              have c23b0 : (((rd_T101 l0 x3_1).f2).toList == ([] : List UInt8)) = true := beq_iff_eq.mpr c23
              have c23b1 : (((rd_T101 l0 x3_1).f2).toList != ([] : List UInt8)) = false := bne_eq_false_iff_eq.mpr c23
              clear c23
              have H' := Aside0.mk H
              clear H
              have p101 : 0 ≤ (x3_1 : Int) := of_decide_eq_true B2x2_
              have q101 : x3_1 < (l0.length : Int) := of_decide_eq_true B2x2_
              obtain ⟨ad101, e101, hx101_0, hx101_1, hx101_2⟩ := at_T101 HR0.out x3_1 p101 q101
              cases e101
              replace hx101_0 := (HB.out.cell (World.block_lt_of_cell? w _ hx101_0)).trans hx101_0
              replace hx101_1 := (HB.out.cell (World.block_lt_of_cell? w _ hx101_1)).trans hx101_1
              replace hx101_2 := (HB.out.cell (World.block_lt_of_cell? w _ hx101_2)).trans hx101_2
              replace p101 := eq_true p101
              replace q101 := eq_true q101
              try go_wp2_with (first | ((with_reducible refine gate_dst (N := 4) rfl ?_); (try (refine gate_guard (by rfl) ?_; dsimp only)); refine box_event ?hg (N := 4) ?hd (cs := #[.int .i64 0, .int .i64 0, .string (⟨#[]⟩ : ByteArray)]) (t := 101) ?hr ?_; (case hd => rfl); (case hg => rfl); (case hr => first | (go_simp; done) | (go_simp; rfl)); intro gb102 hg w24 hbox hb; have n0_ := Aside0.mk (below_step B2x0_ hb); have n1_ := Aside0.mk (hbox); have n2_ := Aside0.mk ((by rw [hg]; exact (below_size B2x0_) : w.heap.size ≤ gb102)); have n3_ := Aside0.mk ((by rw [hg]; exact (below_size B2x0_) : w.heap.size ≤ gb102)); clear HB; have HB := n0_; have BK102 := n1_; have GW102 := n2_; have GE102 := n3_; clear n0_ n1_ n2_ n3_; clear hb hbox hg; obtain ⟨hcz25_0, hcz25_1, hcz25_2⟩ := cl3 BK102.out; obtain ⟨hfz25_0, hfz25_1, hfz25_2⟩ := fr3 BK102.out))
              have n0_ : Aside0 ((((w24.setCell ⟨gb102, 0, none⟩ (.int .i64 ((rd_T101 l0 x3_1).f0))).setCell ⟨gb102, 1, none⟩ (.int .i64 ((rd_T101 l0 x3_1).f1))).setCell ⟨gb102, 2, none⟩ (.string ((rd_T101 l0 x3_1).f2))).heap[gb102]? = some (.cells #[.int .i64 ((rd_T101 l0 x3_1).f0), .int .i64 ((rd_T101 l0 x3_1).f1), .string ((rd_T101 l0 x3_1).f2)] 101 (0, 0))) := ⟨by (with_reducible repeat (first | refine blk_drewN ?_ _ | refine blk_drew ?_ | refine blk_alloc ?_ _)); refine blk_put (cs := #[.int .i64 ((rd_T101 l0 x3_1).f0), .int .i64 ((rd_T101 l0 x3_1).f1), .string (⟨#[]⟩ : ByteArray)]) ?_ 2 _ rfl; (with_reducible repeat (first | refine blk_drewN ?_ _ | refine blk_drew ?_ | refine blk_alloc ?_ _)); refine blk_put (cs := #[.int .i64 ((rd_T101 l0 x3_1).f0), .int .i64 0, .string (⟨#[]⟩ : ByteArray)]) ?_ 1 _ rfl; (with_reducible repeat (first | refine blk_drewN ?_ _ | refine blk_drew ?_ | refine blk_alloc ?_ _)); refine blk_put (cs := #[.int .i64 0, .int .i64 0, .string (⟨#[]⟩ : ByteArray)]) ?_ 0 _ rfl; (with_reducible repeat (first | refine blk_drewN ?_ _ | refine blk_drew ?_ | refine blk_alloc ?_ _)); exact BK102.out⟩
              have n1_ : Aside0 (Below w.heap.size w (((w24.setCell ⟨gb102, 0, none⟩ (.int .i64 ((rd_T101 l0 x3_1).f0))).setCell ⟨gb102, 1, none⟩ (.int .i64 ((rd_T101 l0 x3_1).f1))).setCell ⟨gb102, 2, none⟩ (.string ((rd_T101 l0 x3_1).f2)))) := ⟨by repeat (first | (with_reducible first | exact HB.out | apply below_alloc | apply pw_below_drewN | apply below_drew1 | refine below_set ?_ GE102.out) | exact HB.out)⟩
              (try clear BK102)
              (try clear HB)
              generalize (((w24.setCell ⟨gb102, 0, none⟩ (.int .i64 ((rd_T101 l0 x3_1).f0))).setCell ⟨gb102, 1, none⟩ (.int .i64 ((rd_T101 l0 x3_1).f1))).setCell ⟨gb102, 2, none⟩ (.string ((rd_T101 l0 x3_1).f2))) = w26 at n0_ n1_ ⊢
              have BK102 := n0_
              have HB := n1_
              clear n0_ n1_
              have n0_ := Aside0.mk (blk_drew BK102.out)
              have n1_ := Aside0.mk (below_drew1 HB.out)
              clear BK102
              clear HB
              have BK102 := n0_
              have HB := n1_
              clear n0_ n1_
              have p104 : 0 ≤ ((ji7) : Int) := of_decide_eq_true B2x2_
              have q104 : (ji7) < (l0.length : Int) := of_decide_eq_true B2x2_
              obtain ⟨ad104, e104, hx104_0, hx104_1, hx104_2⟩ := at_T101 HR0.out (ji7) p104 q104
              have hw104_2 := hx104_2
              have hw104_1 := hx104_1
              have hw104_0 := hx104_0
              obtain rfl : ad101 = ad104 := B2x4_
              replace hx104_0 := (HB.out.cell (World.block_lt_of_cell? w _ hx104_0)).trans hx104_0
              replace hx104_1 := (HB.out.cell (World.block_lt_of_cell? w _ hx104_1)).trans hx104_1
              replace hx104_2 := (HB.out.cell (World.block_lt_of_cell? w _ hx104_2)).trans hx104_2
              replace p104 := eq_true p104
              replace q104 := eq_true q104
              refine start_ (n := 41) (S := fun w' => w'.cell? ⟨gb102, 0, none⟩ = some (.int .i64 ((rd_T101 l0 x3_1).f0)) ∧ w'.cell? ⟨gb102, 1, none⟩ = some (.int .i64 ((rd_T101 l0 x3_1).f1)) ∧ w'.cell? ⟨gb102, 2, none⟩ = some (.string ((rd_T101 l0 x3_1).f2)) ∧ w'.cell? (ad101.add (((ji7)).toNat * 3)) = some (.int .i64 ((rd_T101 l0 (ji7)).f0)) ∧ w'.cell? ⟨(ad101.add (((ji7)).toNat * 3)).block, (ad101.add (((ji7)).toNat * 3)).off + 1, none⟩ = some (.int .i64 ((rd_T101 l0 (ji7)).f1)) ∧ w'.cell? ⟨(ad101.add (((ji7)).toNat * 3)).block, (ad101.add (((ji7)).toNat * 3)).off + 2, none⟩ = some (.string ((rd_T101 l0 (ji7)).f2))) (ds := []) #[false, false, false, false, false, false, false, false, false, false, false, false, false, false, false, false, false, false, false, false, false, false, false, false, false, false, false, false, false, false, false, false, false, false, false, false, false, false, false, false, false] B2x3_ rfl rfl ⟨(blk_cell BK102.out 0).trans rfl, (blk_cell BK102.out 1).trans rfl, (blk_cell BK102.out 2).trans rfl, ((HB.out.cell (World.block_lt_of_cell? w _ hw104_0)).trans hw104_0), ((HB.out.cell (World.block_lt_of_cell? w _ hw104_1)).trans hw104_1), ((HB.out.cell (World.block_lt_of_cell? w _ hw104_2)).trans hw104_2)⟩ (fun hHeld => ?_); refine with_tabW spec_l15Sessions.tab5 spec_l15Sessions.bits5 (fun HT_ HW_ => ?_)
              generalize w26.drew = w27 at BK102 HB hx104_0 hx104_1 hx104_2 hHeld ⊢
              refine pu_ 0 15 HT_ ?_
              refine ta_ 1 16 HT_ HW_ hHeld ?_
              refine one_ (i := 2) (N := some 17) #[true, true, true, false, false, false, false, false, false, false, false, false, false, false, false, false, false, false, false, false, false, false, false, false, false, false, false, false, false, false, false, false, false, false, false, false, false, false, false, false, false] rfl rfl (one_of HT_.out B2x3_) (by decide) (fun K hK => ?_)
              refine goes_ Try.func64 B2x3_ rfl #[.int .i64 ((rd_T101 l0 x3_1).f0), .int .i64 1, .int .i64 1000000] (by rfl) rfl rfl B2x1_ ?_
              with_reducible refine (spec_l01In.calls ((rd_T101 l0 x3_1).f0) 1 1000000 true _ A4.out).mono ?_
              rintro e w' ⟨rfl, ⟨nd, rfl⟩⟩
              refine ⟨_, rfl, ?_⟩
              refine hK.out _ _ ⟨(blk_cell BK102.out 0).trans rfl, (blk_cell BK102.out 1).trans rfl, (blk_cell BK102.out 2).trans rfl, ((HB.out.cell (World.block_lt_of_cell? w _ hw104_0)).trans hw104_0), ((HB.out.cell (World.block_lt_of_cell? w _ hw104_1)).trans hw104_1), ((HB.out.cell (World.block_lt_of_cell? w _ hw104_2)).trans hw104_2)⟩ (fun hHeld => ?_)
              clear hK K
              refine norm_ (a' := ?_) ?_ ?_
              rotate_left
              ·show Act.put _ (some 17) _ = _
               simp only [Act.put, List.setIfInBounds_toArray, List.set_cons_zero, List.set_cons_succ, i64_w, i32_w]
               rfl
              refine pu_ 3 18 HT_ ?_
              refine pu_ 4 19 HT_ ?_
              refine pu_ 5 20 HT_ ?_
              refine pu_ 6 21 HT_ ?_
              refine pu_ 7 22 HT_ ?_
              refine pu_ 8 23 HT_ ?_
              refine pu_ 9 24 HT_ ?_
              refine pu_ 10 25 HT_ ?_
              refine pu_ 11 26 HT_ ?_
              refine pu_ 12 27 HT_ ?_
              refine pu_ 14 29 HT_ ?_
              refine ta_ 13 28 HT_ HW_ hHeld ?_
              refine ta_ 15 30 HT_ HW_ hHeld ?_
              refine pu_ 16 31 HT_ ?_
              refine pu_ 17 32 HT_ ?_
              refine pu_ 18 33 HT_ ?_
              refine pu_ 19 34 HT_ ?_
              refine pu_ 20 35 HT_ ?_
              refine ta_ 21 36 HT_ HW_ hHeld ?_
              refine one_ (i := 22) (N := some 37) #[true, true, true, true, true, true, true, true, true, true, true, true, true, true, true, true, true, true, true, true, true, true, true, false, false, false, false, false, false, false, false, false, false, false, false, false, false, false, false, false, false] rfl rfl (one_of HT_.out B2x3_) (by decide) (fun K hK => ?_)
              refine goes_ Try.func64 B2x3_ rfl #[.int .i64 ((rd_T101 l0 x3_1).f1), .int .i64 0, .int .i64 1000000] (by rfl) rfl rfl B2x1_ ?_
              with_reducible refine (spec_l01In.calls ((rd_T101 l0 x3_1).f1) 0 1000000 true _ A15.out).mono ?_
              rintro e w' ⟨rfl, ⟨nd, rfl⟩⟩
              refine ⟨_, rfl, ?_⟩
              refine hK.out _ _ ⟨(blk_cell BK102.out 0).trans rfl, (blk_cell BK102.out 1).trans rfl, (blk_cell BK102.out 2).trans rfl, ((HB.out.cell (World.block_lt_of_cell? w _ hw104_0)).trans hw104_0), ((HB.out.cell (World.block_lt_of_cell? w _ hw104_1)).trans hw104_1), ((HB.out.cell (World.block_lt_of_cell? w _ hw104_2)).trans hw104_2)⟩ (fun hHeld => ?_)
              clear hK K
              refine norm_ (a' := ?_) ?_ ?_
              rotate_left
              ·show Act.put _ (some 37) _ = _
               simp only [Act.put, List.setIfInBounds_toArray, List.set_cons_zero, List.set_cons_succ, i64_w, i32_w]
               rfl
              refine pu_ 23 38 HT_ ?_
              refine pu_ 24 39 HT_ ?_
              refine pu_ 25 40 HT_ ?_
              refine pu_ 26 41 HT_ ?_
              refine ta_ 27 42 HT_ HW_ hHeld ?_
              refine pu_ 28 43 HT_ ?_
              refine pu_ 29 44 HT_ ?_
              refine pu_ 30 45 HT_ ?_
              refine pu_ 31 46 HT_ ?_
              refine pu_ 32 47 HT_ ?_
              refine ta_ 33 48 HT_ HW_ hHeld ?_
              refine pu_ 34 49 HT_ ?_
              refine pu_ 35 50 HT_ ?_
              refine pu_ 36 51 HT_ ?_
              refine ta_ 37 52 HT_ HW_ hHeld ?_
              refine pu_ 38 53 HT_ ?_
              refine pu_ 39 54 HT_ ?_
              refine pu_ 40 55 HT_ ?_
              refine done_ (done_of HT_.out B2x3_) ?_
              try go_wp2
              go_roundg k1
              case measure => have := HK1.out; omega
              case rel => exact ⟨(wrap64 (x3_1 + 1)), (be_), H', ⟨by have := HK1.out; omega⟩, ⟨by repeat (first | (with_reducible first | exact HB.out | apply below_alloc | apply pw_below_drewN | apply below_drew1 | refine below_set ?_ GE102.out) | exact HB.out)⟩⟩
             ·rw [if_neg c23] at H
              have c23b0 : (((rd_T101 l0 x3_1).f2).toList == ([] : List UInt8)) = false := beq_eq_false_iff_ne.mpr c23
              have c23b1 : (((rd_T101 l0 x3_1).f2).toList != ([] : List UInt8)) = true := bne_iff_ne.mpr c23
              obtain rfl := Option.some.inj H
              have p101 : 0 ≤ (x3_1 : Int) := of_decide_eq_true B2x2_
              have q101 : x3_1 < (l0.length : Int) := of_decide_eq_true B2x2_
              obtain ⟨ad101, e101, hx101_0, hx101_1, hx101_2⟩ := at_T101 HR0.out x3_1 p101 q101
              cases e101
              replace hx101_0 := (HB.out.cell (World.block_lt_of_cell? w _ hx101_0)).trans hx101_0
              replace hx101_1 := (HB.out.cell (World.block_lt_of_cell? w _ hx101_1)).trans hx101_1
              replace hx101_2 := (HB.out.cell (World.block_lt_of_cell? w _ hx101_2)).trans hx101_2
              replace p101 := eq_true p101
              replace q101 := eq_true q101
              try go_wp2_with (first | ((with_reducible refine gate_dst (N := 4) rfl ?_); (try (refine gate_guard (by rfl) ?_; dsimp only)); refine box_event ?hg (N := 4) ?hd (cs := #[.int .i64 0, .int .i64 0, .string (⟨#[]⟩ : ByteArray)]) (t := 101) ?hr ?_; (case hd => rfl); (case hg => rfl); (case hr => first | (go_simp; done) | (go_simp; rfl)); intro gb102 hg w28 hbox hb; have n0_ := Aside0.mk (below_step B2x0_ hb); have n1_ := Aside0.mk (hbox); have n2_ := Aside0.mk ((by rw [hg]; exact (below_size B2x0_) : w.heap.size ≤ gb102)); have n3_ := Aside0.mk ((by rw [hg]; exact (below_size B2x0_) : w.heap.size ≤ gb102)); clear HB; have HB := n0_; have BK102 := n1_; have GW102 := n2_; have GE102 := n3_; clear n0_ n1_ n2_ n3_; clear hb hbox hg; obtain ⟨hcz29_0, hcz29_1, hcz29_2⟩ := cl3 BK102.out; obtain ⟨hfz29_0, hfz29_1, hfz29_2⟩ := fr3 BK102.out))
              have n0_ : Aside0 ((((w28.setCell ⟨gb102, 0, none⟩ (.int .i64 ((rd_T101 l0 x3_1).f0))).setCell ⟨gb102, 1, none⟩ (.int .i64 ((rd_T101 l0 x3_1).f1))).setCell ⟨gb102, 2, none⟩ (.string ((rd_T101 l0 x3_1).f2))).heap[gb102]? = some (.cells #[.int .i64 ((rd_T101 l0 x3_1).f0), .int .i64 ((rd_T101 l0 x3_1).f1), .string ((rd_T101 l0 x3_1).f2)] 101 (0, 0))) := ⟨by (with_reducible repeat (first | refine blk_drewN ?_ _ | refine blk_drew ?_ | refine blk_alloc ?_ _)); refine blk_put (cs := #[.int .i64 ((rd_T101 l0 x3_1).f0), .int .i64 ((rd_T101 l0 x3_1).f1), .string (⟨#[]⟩ : ByteArray)]) ?_ 2 _ rfl; (with_reducible repeat (first | refine blk_drewN ?_ _ | refine blk_drew ?_ | refine blk_alloc ?_ _)); refine blk_put (cs := #[.int .i64 ((rd_T101 l0 x3_1).f0), .int .i64 0, .string (⟨#[]⟩ : ByteArray)]) ?_ 1 _ rfl; (with_reducible repeat (first | refine blk_drewN ?_ _ | refine blk_drew ?_ | refine blk_alloc ?_ _)); refine blk_put (cs := #[.int .i64 0, .int .i64 0, .string (⟨#[]⟩ : ByteArray)]) ?_ 0 _ rfl; (with_reducible repeat (first | refine blk_drewN ?_ _ | refine blk_drew ?_ | refine blk_alloc ?_ _)); exact BK102.out⟩
              have n1_ : Aside0 (Below w.heap.size w (((w28.setCell ⟨gb102, 0, none⟩ (.int .i64 ((rd_T101 l0 x3_1).f0))).setCell ⟨gb102, 1, none⟩ (.int .i64 ((rd_T101 l0 x3_1).f1))).setCell ⟨gb102, 2, none⟩ (.string ((rd_T101 l0 x3_1).f2)))) := ⟨by repeat (first | (with_reducible first | exact HB.out | apply below_alloc | apply pw_below_drewN | apply below_drew1 | refine below_set ?_ GE102.out) | exact HB.out)⟩
              (try clear BK102)
              (try clear HB)
              generalize (((w28.setCell ⟨gb102, 0, none⟩ (.int .i64 ((rd_T101 l0 x3_1).f0))).setCell ⟨gb102, 1, none⟩ (.int .i64 ((rd_T101 l0 x3_1).f1))).setCell ⟨gb102, 2, none⟩ (.string ((rd_T101 l0 x3_1).f2))) = w30 at n0_ n1_ ⊢
              have BK102 := n0_
              have HB := n1_
              clear n0_ n1_
              have n0_ := Aside0.mk (blk_drew BK102.out)
              have n1_ := Aside0.mk (below_drew1 HB.out)
              clear BK102
              clear HB
              have BK102 := n0_
              have HB := n1_
              clear n0_ n1_
              have p104 : 0 ≤ ((ji7) : Int) := of_decide_eq_true B2x2_
              have q104 : (ji7) < (l0.length : Int) := of_decide_eq_true B2x2_
              obtain ⟨ad104, e104, hx104_0, hx104_1, hx104_2⟩ := at_T101 HR0.out (ji7) p104 q104
              have hw104_2 := hx104_2
              have hw104_1 := hx104_1
              have hw104_0 := hx104_0
              obtain rfl : ad101 = ad104 := B2x4_
              replace hx104_0 := (HB.out.cell (World.block_lt_of_cell? w _ hx104_0)).trans hx104_0
              replace hx104_1 := (HB.out.cell (World.block_lt_of_cell? w _ hx104_1)).trans hx104_1
              replace hx104_2 := (HB.out.cell (World.block_lt_of_cell? w _ hx104_2)).trans hx104_2
              replace p104 := eq_true p104
              replace q104 := eq_true q104
              refine start_ (n := 41) (S := fun w' => w'.cell? ⟨gb102, 0, none⟩ = some (.int .i64 ((rd_T101 l0 x3_1).f0)) ∧ w'.cell? ⟨gb102, 1, none⟩ = some (.int .i64 ((rd_T101 l0 x3_1).f1)) ∧ w'.cell? ⟨gb102, 2, none⟩ = some (.string ((rd_T101 l0 x3_1).f2)) ∧ w'.cell? (ad101.add (((ji7)).toNat * 3)) = some (.int .i64 ((rd_T101 l0 (ji7)).f0)) ∧ w'.cell? ⟨(ad101.add (((ji7)).toNat * 3)).block, (ad101.add (((ji7)).toNat * 3)).off + 1, none⟩ = some (.int .i64 ((rd_T101 l0 (ji7)).f1)) ∧ w'.cell? ⟨(ad101.add (((ji7)).toNat * 3)).block, (ad101.add (((ji7)).toNat * 3)).off + 2, none⟩ = some (.string ((rd_T101 l0 (ji7)).f2))) (ds := []) #[false, false, false, false, false, false, false, false, false, false, false, false, false, false, false, false, false, false, false, false, false, false, false, false, false, false, false, false, false, false, false, false, false, false, false, false, false, false, false, false, false] B2x3_ rfl rfl ⟨(blk_cell BK102.out 0).trans rfl, (blk_cell BK102.out 1).trans rfl, (blk_cell BK102.out 2).trans rfl, ((HB.out.cell (World.block_lt_of_cell? w _ hw104_0)).trans hw104_0), ((HB.out.cell (World.block_lt_of_cell? w _ hw104_1)).trans hw104_1), ((HB.out.cell (World.block_lt_of_cell? w _ hw104_2)).trans hw104_2)⟩ (fun hHeld => ?_); refine with_tabW spec_l15Sessions.tab5 spec_l15Sessions.bits5 (fun HT_ HW_ => ?_)
              generalize w30.drew = w31 at BK102 HB hx104_0 hx104_1 hx104_2 hHeld ⊢
              refine pu_ 0 15 HT_ ?_
              refine ta_ 1 16 HT_ HW_ hHeld ?_
              refine one_ (i := 2) (N := some 17) #[true, true, true, false, false, false, false, false, false, false, false, false, false, false, false, false, false, false, false, false, false, false, false, false, false, false, false, false, false, false, false, false, false, false, false, false, false, false, false, false, false] rfl rfl (one_of HT_.out B2x3_) (by decide) (fun K hK => ?_)
              refine goes_ Try.func64 B2x3_ rfl #[.int .i64 ((rd_T101 l0 x3_1).f0), .int .i64 1, .int .i64 1000000] (by rfl) rfl rfl B2x1_ ?_
              with_reducible refine (spec_l01In.calls ((rd_T101 l0 x3_1).f0) 1 1000000 true _ A4.out).mono ?_
              rintro e w' ⟨rfl, ⟨nd, rfl⟩⟩
              refine ⟨_, rfl, ?_⟩
              refine hK.out _ _ ⟨(blk_cell BK102.out 0).trans rfl, (blk_cell BK102.out 1).trans rfl, (blk_cell BK102.out 2).trans rfl, ((HB.out.cell (World.block_lt_of_cell? w _ hw104_0)).trans hw104_0), ((HB.out.cell (World.block_lt_of_cell? w _ hw104_1)).trans hw104_1), ((HB.out.cell (World.block_lt_of_cell? w _ hw104_2)).trans hw104_2)⟩ (fun hHeld => ?_)
              clear hK K
              refine norm_ (a' := ?_) ?_ ?_
              rotate_left
              ·show Act.put _ (some 17) _ = _
               simp only [Act.put, List.setIfInBounds_toArray, List.set_cons_zero, List.set_cons_succ, i64_w, i32_w]
               rfl
              refine pu_ 3 18 HT_ ?_
              refine pu_ 4 19 HT_ ?_
              refine pu_ 5 20 HT_ ?_
              refine pu_ 6 21 HT_ ?_
              refine pu_ 7 22 HT_ ?_
              refine pu_ 8 23 HT_ ?_
              refine pu_ 9 24 HT_ ?_
              refine pu_ 10 25 HT_ ?_
              refine pu_ 11 26 HT_ ?_
              refine pu_ 12 27 HT_ ?_
              refine pu_ 14 29 HT_ ?_
              refine ta_ 13 28 HT_ HW_ hHeld ?_
              refine ta_ 15 30 HT_ HW_ hHeld ?_
              refine pu_ 16 31 HT_ ?_
              refine pu_ 17 32 HT_ ?_
              refine pu_ 18 33 HT_ ?_
              refine pu_ 19 34 HT_ ?_
              refine pu_ 20 35 HT_ ?_
              refine ta_ 21 36 HT_ HW_ hHeld ?_
              refine one_ (i := 22) (N := some 37) #[true, true, true, true, true, true, true, true, true, true, true, true, true, true, true, true, true, true, true, true, true, true, true, false, false, false, false, false, false, false, false, false, false, false, false, false, false, false, false, false, false] rfl rfl (one_of HT_.out B2x3_) (by decide) (fun K hK => ?_)
              refine goes_ Try.func64 B2x3_ rfl #[.int .i64 ((rd_T101 l0 x3_1).f1), .int .i64 0, .int .i64 1000000] (by rfl) rfl rfl B2x1_ ?_
              with_reducible refine (spec_l01In.calls ((rd_T101 l0 x3_1).f1) 0 1000000 true _ A15.out).mono ?_
              rintro e w' ⟨rfl, ⟨nd, rfl⟩⟩
              refine ⟨_, rfl, ?_⟩
              refine hK.out _ _ ⟨(blk_cell BK102.out 0).trans rfl, (blk_cell BK102.out 1).trans rfl, (blk_cell BK102.out 2).trans rfl, ((HB.out.cell (World.block_lt_of_cell? w _ hw104_0)).trans hw104_0), ((HB.out.cell (World.block_lt_of_cell? w _ hw104_1)).trans hw104_1), ((HB.out.cell (World.block_lt_of_cell? w _ hw104_2)).trans hw104_2)⟩ (fun hHeld => ?_)
              clear hK K
              refine norm_ (a' := ?_) ?_ ?_
              rotate_left
              ·show Act.put _ (some 37) _ = _
               simp only [Act.put, List.setIfInBounds_toArray, List.set_cons_zero, List.set_cons_succ, i64_w, i32_w]
               rfl
              refine pu_ 23 38 HT_ ?_
              refine pu_ 24 39 HT_ ?_
              refine pu_ 25 40 HT_ ?_
              refine pu_ 26 41 HT_ ?_
              refine ta_ 27 42 HT_ HW_ hHeld ?_
              refine pu_ 28 43 HT_ ?_
              refine pu_ 29 44 HT_ ?_
              refine pu_ 30 45 HT_ ?_
              refine pu_ 31 46 HT_ ?_
              refine pu_ 32 47 HT_ ?_
              refine ta_ 33 48 HT_ HW_ hHeld ?_
              refine pu_ 34 49 HT_ ?_
              refine pu_ 35 50 HT_ ?_
              refine pu_ 36 51 HT_ ?_
              refine ta_ 37 52 HT_ HW_ hHeld ?_
              refine pu_ 38 53 HT_ ?_
              refine pu_ 39 54 HT_ ?_
              refine pu_ 40 55 HT_ ?_
              refine done_ (done_of HT_.out B2x3_) ?_
              try go_wp2
              go_ret
              exact ⟨by first | rfl | (simp [errW_none, errW_some] <;> rfl) | (simp only [← hji7]; first | rfl | (simp [errW_none, errW_some] <;> rfl)) | (simp [*, errW_none, errW_some] <;> rfl), by repeat (first | (with_reducible first | exact HB.out | apply below_alloc | apply pw_below_drewN | apply below_drew1 | refine below_set ?_ GE102.out) | exact HB.out)⟩
            ·rw [if_neg c22] at H
             have c22b0 : (((rd_T101 l0 x3_1).f1) == 0) = false := beq_eq_false_iff_ne.mpr c22
             have c22b1 : (((rd_T101 l0 x3_1).f1) != 0) = true := bne_iff_ne.mpr c22
             have H' := Aside0.mk H
             clear H
             have p101 : 0 ≤ (x3_1 : Int) := of_decide_eq_true B2x2_
             have q101 : x3_1 < (l0.length : Int) := of_decide_eq_true B2x2_
             obtain ⟨ad101, e101, hx101_0, hx101_1, hx101_2⟩ := at_T101 HR0.out x3_1 p101 q101
             cases e101
             replace hx101_0 := (HB.out.cell (World.block_lt_of_cell? w _ hx101_0)).trans hx101_0
             replace hx101_1 := (HB.out.cell (World.block_lt_of_cell? w _ hx101_1)).trans hx101_1
             replace hx101_2 := (HB.out.cell (World.block_lt_of_cell? w _ hx101_2)).trans hx101_2
             replace p101 := eq_true p101
             replace q101 := eq_true q101
             try go_wp2_with (first | ((with_reducible refine gate_dst (N := 4) rfl ?_); (try (refine gate_guard (by rfl) ?_; dsimp only)); refine box_event ?hg (N := 4) ?hd (cs := #[.int .i64 0, .int .i64 0, .string (⟨#[]⟩ : ByteArray)]) (t := 101) ?hr ?_; (case hd => rfl); (case hg => rfl); (case hr => first | (go_simp; done) | (go_simp; rfl)); intro gb102 hg w32 hbox hb; have n0_ := Aside0.mk (below_step B2x0_ hb); have n1_ := Aside0.mk (hbox); have n2_ := Aside0.mk ((by rw [hg]; exact (below_size B2x0_) : w.heap.size ≤ gb102)); have n3_ := Aside0.mk ((by rw [hg]; exact (below_size B2x0_) : w.heap.size ≤ gb102)); clear HB; have HB := n0_; have BK102 := n1_; have GW102 := n2_; have GE102 := n3_; clear n0_ n1_ n2_ n3_; clear hb hbox hg; obtain ⟨hcz33_0, hcz33_1, hcz33_2⟩ := cl3 BK102.out; obtain ⟨hfz33_0, hfz33_1, hfz33_2⟩ := fr3 BK102.out))
             have n0_ : Aside0 ((((w32.setCell ⟨gb102, 0, none⟩ (.int .i64 ((rd_T101 l0 x3_1).f0))).setCell ⟨gb102, 1, none⟩ (.int .i64 ((rd_T101 l0 x3_1).f1))).setCell ⟨gb102, 2, none⟩ (.string ((rd_T101 l0 x3_1).f2))).heap[gb102]? = some (.cells #[.int .i64 ((rd_T101 l0 x3_1).f0), .int .i64 ((rd_T101 l0 x3_1).f1), .string ((rd_T101 l0 x3_1).f2)] 101 (0, 0))) := ⟨by (with_reducible repeat (first | refine blk_drewN ?_ _ | refine blk_drew ?_ | refine blk_alloc ?_ _)); refine blk_put (cs := #[.int .i64 ((rd_T101 l0 x3_1).f0), .int .i64 ((rd_T101 l0 x3_1).f1), .string (⟨#[]⟩ : ByteArray)]) ?_ 2 _ rfl; (with_reducible repeat (first | refine blk_drewN ?_ _ | refine blk_drew ?_ | refine blk_alloc ?_ _)); refine blk_put (cs := #[.int .i64 ((rd_T101 l0 x3_1).f0), .int .i64 0, .string (⟨#[]⟩ : ByteArray)]) ?_ 1 _ rfl; (with_reducible repeat (first | refine blk_drewN ?_ _ | refine blk_drew ?_ | refine blk_alloc ?_ _)); refine blk_put (cs := #[.int .i64 0, .int .i64 0, .string (⟨#[]⟩ : ByteArray)]) ?_ 0 _ rfl; (with_reducible repeat (first | refine blk_drewN ?_ _ | refine blk_drew ?_ | refine blk_alloc ?_ _)); exact BK102.out⟩
             have n1_ : Aside0 (Below w.heap.size w (((w32.setCell ⟨gb102, 0, none⟩ (.int .i64 ((rd_T101 l0 x3_1).f0))).setCell ⟨gb102, 1, none⟩ (.int .i64 ((rd_T101 l0 x3_1).f1))).setCell ⟨gb102, 2, none⟩ (.string ((rd_T101 l0 x3_1).f2)))) := ⟨by repeat (first | (with_reducible first | exact HB.out | apply below_alloc | apply pw_below_drewN | apply below_drew1 | refine below_set ?_ GE102.out) | exact HB.out)⟩
             (try clear BK102)
             (try clear HB)
             generalize (((w32.setCell ⟨gb102, 0, none⟩ (.int .i64 ((rd_T101 l0 x3_1).f0))).setCell ⟨gb102, 1, none⟩ (.int .i64 ((rd_T101 l0 x3_1).f1))).setCell ⟨gb102, 2, none⟩ (.string ((rd_T101 l0 x3_1).f2))) = w34 at n0_ n1_ ⊢
             have BK102 := n0_
             have HB := n1_
             clear n0_ n1_
             have n0_ := Aside0.mk (blk_drew BK102.out)
             have n1_ := Aside0.mk (below_drew1 HB.out)
             clear BK102
             clear HB
             have BK102 := n0_
             have HB := n1_
             clear n0_ n1_
             have p104 : 0 ≤ ((ji7) : Int) := of_decide_eq_true B2x2_
             have q104 : (ji7) < (l0.length : Int) := of_decide_eq_true B2x2_
             obtain ⟨ad104, e104, hx104_0, hx104_1, hx104_2⟩ := at_T101 HR0.out (ji7) p104 q104
             have hw104_2 := hx104_2
             have hw104_1 := hx104_1
             have hw104_0 := hx104_0
             obtain rfl : ad101 = ad104 := B2x4_
             replace hx104_0 := (HB.out.cell (World.block_lt_of_cell? w _ hx104_0)).trans hx104_0
             replace hx104_1 := (HB.out.cell (World.block_lt_of_cell? w _ hx104_1)).trans hx104_1
             replace hx104_2 := (HB.out.cell (World.block_lt_of_cell? w _ hx104_2)).trans hx104_2
             replace p104 := eq_true p104
             replace q104 := eq_true q104
             refine start_ (n := 41) (S := fun w' => w'.cell? ⟨gb102, 0, none⟩ = some (.int .i64 ((rd_T101 l0 x3_1).f0)) ∧ w'.cell? ⟨gb102, 1, none⟩ = some (.int .i64 ((rd_T101 l0 x3_1).f1)) ∧ w'.cell? ⟨gb102, 2, none⟩ = some (.string ((rd_T101 l0 x3_1).f2)) ∧ w'.cell? (ad101.add (((ji7)).toNat * 3)) = some (.int .i64 ((rd_T101 l0 (ji7)).f0)) ∧ w'.cell? ⟨(ad101.add (((ji7)).toNat * 3)).block, (ad101.add (((ji7)).toNat * 3)).off + 1, none⟩ = some (.int .i64 ((rd_T101 l0 (ji7)).f1)) ∧ w'.cell? ⟨(ad101.add (((ji7)).toNat * 3)).block, (ad101.add (((ji7)).toNat * 3)).off + 2, none⟩ = some (.string ((rd_T101 l0 (ji7)).f2))) (ds := []) #[false, false, false, false, false, false, false, false, false, false, false, false, false, false, false, false, false, false, false, false, false, false, false, false, false, false, false, false, false, false, false, false, false, false, false, false, false, false, false, false, false] B2x3_ rfl rfl ⟨(blk_cell BK102.out 0).trans rfl, (blk_cell BK102.out 1).trans rfl, (blk_cell BK102.out 2).trans rfl, ((HB.out.cell (World.block_lt_of_cell? w _ hw104_0)).trans hw104_0), ((HB.out.cell (World.block_lt_of_cell? w _ hw104_1)).trans hw104_1), ((HB.out.cell (World.block_lt_of_cell? w _ hw104_2)).trans hw104_2)⟩ (fun hHeld => ?_); refine with_tabW spec_l15Sessions.tab5 spec_l15Sessions.bits5 (fun HT_ HW_ => ?_)
             generalize w34.drew = w35 at BK102 HB hx104_0 hx104_1 hx104_2 hHeld ⊢
             refine pu_ 0 15 HT_ ?_
             refine ta_ 1 16 HT_ HW_ hHeld ?_
             refine one_ (i := 2) (N := some 17) #[true, true, true, false, false, false, false, false, false, false, false, false, false, false, false, false, false, false, false, false, false, false, false, false, false, false, false, false, false, false, false, false, false, false, false, false, false, false, false, false, false] rfl rfl (one_of HT_.out B2x3_) (by decide) (fun K hK => ?_)
             refine goes_ Try.func64 B2x3_ rfl #[.int .i64 ((rd_T101 l0 x3_1).f0), .int .i64 1, .int .i64 1000000] (by rfl) rfl rfl B2x1_ ?_
             with_reducible refine (spec_l01In.calls ((rd_T101 l0 x3_1).f0) 1 1000000 true _ A4.out).mono ?_
             rintro e w' ⟨rfl, ⟨nd, rfl⟩⟩
             refine ⟨_, rfl, ?_⟩
             refine hK.out _ _ ⟨(blk_cell BK102.out 0).trans rfl, (blk_cell BK102.out 1).trans rfl, (blk_cell BK102.out 2).trans rfl, ((HB.out.cell (World.block_lt_of_cell? w _ hw104_0)).trans hw104_0), ((HB.out.cell (World.block_lt_of_cell? w _ hw104_1)).trans hw104_1), ((HB.out.cell (World.block_lt_of_cell? w _ hw104_2)).trans hw104_2)⟩ (fun hHeld => ?_)
             clear hK K
             refine norm_ (a' := ?_) ?_ ?_
             rotate_left
             ·show Act.put _ (some 17) _ = _
              simp only [Act.put, List.setIfInBounds_toArray, List.set_cons_zero, List.set_cons_succ, i64_w, i32_w]
              rfl
             refine pu_ 3 18 HT_ ?_
             refine pu_ 4 19 HT_ ?_
             refine pu_ 5 20 HT_ ?_
             refine pu_ 6 21 HT_ ?_
             refine pu_ 7 22 HT_ ?_
             refine pu_ 8 23 HT_ ?_
             refine pu_ 9 24 HT_ ?_
             refine pu_ 10 25 HT_ ?_
             refine pu_ 11 26 HT_ ?_
             refine pu_ 12 27 HT_ ?_
             refine pu_ 14 29 HT_ ?_
             refine ta_ 13 28 HT_ HW_ hHeld ?_
             refine ta_ 15 30 HT_ HW_ hHeld ?_
             refine pu_ 16 31 HT_ ?_
             refine pu_ 17 32 HT_ ?_
             refine pu_ 18 33 HT_ ?_
             refine pu_ 19 34 HT_ ?_
             refine pu_ 20 35 HT_ ?_
             refine ta_ 21 36 HT_ HW_ hHeld ?_
             refine one_ (i := 22) (N := some 37) #[true, true, true, true, true, true, true, true, true, true, true, true, true, true, true, true, true, true, true, true, true, true, true, false, false, false, false, false, false, false, false, false, false, false, false, false, false, false, false, false, false] rfl rfl (one_of HT_.out B2x3_) (by decide) (fun K hK => ?_)
             refine goes_ Try.func64 B2x3_ rfl #[.int .i64 ((rd_T101 l0 x3_1).f1), .int .i64 0, .int .i64 1000000] (by rfl) rfl rfl B2x1_ ?_
             with_reducible refine (spec_l01In.calls ((rd_T101 l0 x3_1).f1) 0 1000000 true _ A15.out).mono ?_
             rintro e w' ⟨rfl, ⟨nd, rfl⟩⟩
             refine ⟨_, rfl, ?_⟩
             refine hK.out _ _ ⟨(blk_cell BK102.out 0).trans rfl, (blk_cell BK102.out 1).trans rfl, (blk_cell BK102.out 2).trans rfl, ((HB.out.cell (World.block_lt_of_cell? w _ hw104_0)).trans hw104_0), ((HB.out.cell (World.block_lt_of_cell? w _ hw104_1)).trans hw104_1), ((HB.out.cell (World.block_lt_of_cell? w _ hw104_2)).trans hw104_2)⟩ (fun hHeld => ?_)
             clear hK K
             refine norm_ (a' := ?_) ?_ ?_
             rotate_left
             ·show Act.put _ (some 37) _ = _
              simp only [Act.put, List.setIfInBounds_toArray, List.set_cons_zero, List.set_cons_succ, i64_w, i32_w]
              rfl
             refine pu_ 23 38 HT_ ?_
             refine pu_ 24 39 HT_ ?_
             refine pu_ 25 40 HT_ ?_
             refine pu_ 26 41 HT_ ?_
             refine ta_ 27 42 HT_ HW_ hHeld ?_
             refine pu_ 28 43 HT_ ?_
             refine pu_ 29 44 HT_ ?_
             refine pu_ 30 45 HT_ ?_
             refine pu_ 31 46 HT_ ?_
             refine pu_ 32 47 HT_ ?_
             refine ta_ 33 48 HT_ HW_ hHeld ?_
             refine pu_ 34 49 HT_ ?_
             refine pu_ 35 50 HT_ ?_
             refine of_ 36 51 HT_ ?_
             refine of_ 37 52 HT_ ?_
             refine of_ 38 53 HT_ ?_
             refine pu_ 39 54 HT_ ?_
             refine pu_ 40 55 HT_ ?_
             refine done_ (done_of HT_.out B2x3_) ?_
             try go_wp2
             go_roundg k1
             case measure => have := HK1.out; omega
             case rel => exact ⟨(wrap64 (x3_1 + 1)), (be_), H', ⟨by have := HK1.out; omega⟩, ⟨by repeat (first | (with_reducible first | exact HB.out | apply below_alloc | apply pw_below_drewN | apply below_drew1 | refine below_set ?_ GE102.out) | exact HB.out)⟩⟩
          ·replace c16 := Bool.eq_false_iff.mpr c16
           subst c16
           rw [if_neg (show ¬ (false = true) by decide)] at H
           obtain rfl := Option.some.inj H
           have p101 : 0 ≤ (x3_1 : Int) := of_decide_eq_true B2x2_
           have q101 : x3_1 < (l0.length : Int) := of_decide_eq_true B2x2_
           obtain ⟨ad101, e101, hx101_0, hx101_1, hx101_2⟩ := at_T101 HR0.out x3_1 p101 q101
           cases e101
           replace hx101_0 := (HB.out.cell (World.block_lt_of_cell? w _ hx101_0)).trans hx101_0
           replace hx101_1 := (HB.out.cell (World.block_lt_of_cell? w _ hx101_1)).trans hx101_1
           replace hx101_2 := (HB.out.cell (World.block_lt_of_cell? w _ hx101_2)).trans hx101_2
           replace p101 := eq_true p101
           replace q101 := eq_true q101
           try go_wp2_with (first | ((with_reducible refine gate_dst (N := 4) rfl ?_); (try (refine gate_guard (by rfl) ?_; dsimp only)); refine box_event ?hg (N := 4) ?hd (cs := #[.int .i64 0, .int .i64 0, .string (⟨#[]⟩ : ByteArray)]) (t := 101) ?hr ?_; (case hd => rfl); (case hg => rfl); (case hr => first | (go_simp; done) | (go_simp; rfl)); intro gb102 hg w36 hbox hb; have n0_ := Aside0.mk (below_step B2x0_ hb); have n1_ := Aside0.mk (hbox); have n2_ := Aside0.mk ((by rw [hg]; exact (below_size B2x0_) : w.heap.size ≤ gb102)); have n3_ := Aside0.mk ((by rw [hg]; exact (below_size B2x0_) : w.heap.size ≤ gb102)); clear HB; have HB := n0_; have BK102 := n1_; have GW102 := n2_; have GE102 := n3_; clear n0_ n1_ n2_ n3_; clear hb hbox hg; obtain ⟨hcz37_0, hcz37_1, hcz37_2⟩ := cl3 BK102.out; obtain ⟨hfz37_0, hfz37_1, hfz37_2⟩ := fr3 BK102.out))
           have n0_ : Aside0 ((((w36.setCell ⟨gb102, 0, none⟩ (.int .i64 ((rd_T101 l0 x3_1).f0))).setCell ⟨gb102, 1, none⟩ (.int .i64 ((rd_T101 l0 x3_1).f1))).setCell ⟨gb102, 2, none⟩ (.string ((rd_T101 l0 x3_1).f2))).heap[gb102]? = some (.cells #[.int .i64 ((rd_T101 l0 x3_1).f0), .int .i64 ((rd_T101 l0 x3_1).f1), .string ((rd_T101 l0 x3_1).f2)] 101 (0, 0))) := ⟨by (with_reducible repeat (first | refine blk_drewN ?_ _ | refine blk_drew ?_ | refine blk_alloc ?_ _)); refine blk_put (cs := #[.int .i64 ((rd_T101 l0 x3_1).f0), .int .i64 ((rd_T101 l0 x3_1).f1), .string (⟨#[]⟩ : ByteArray)]) ?_ 2 _ rfl; (with_reducible repeat (first | refine blk_drewN ?_ _ | refine blk_drew ?_ | refine blk_alloc ?_ _)); refine blk_put (cs := #[.int .i64 ((rd_T101 l0 x3_1).f0), .int .i64 0, .string (⟨#[]⟩ : ByteArray)]) ?_ 1 _ rfl; (with_reducible repeat (first | refine blk_drewN ?_ _ | refine blk_drew ?_ | refine blk_alloc ?_ _)); refine blk_put (cs := #[.int .i64 0, .int .i64 0, .string (⟨#[]⟩ : ByteArray)]) ?_ 0 _ rfl; (with_reducible repeat (first | refine blk_drewN ?_ _ | refine blk_drew ?_ | refine blk_alloc ?_ _)); exact BK102.out⟩
           have n1_ : Aside0 (Below w.heap.size w (((w36.setCell ⟨gb102, 0, none⟩ (.int .i64 ((rd_T101 l0 x3_1).f0))).setCell ⟨gb102, 1, none⟩ (.int .i64 ((rd_T101 l0 x3_1).f1))).setCell ⟨gb102, 2, none⟩ (.string ((rd_T101 l0 x3_1).f2)))) := ⟨by repeat (first | (with_reducible first | exact HB.out | apply below_alloc | apply pw_below_drewN | apply below_drew1 | refine below_set ?_ GE102.out) | exact HB.out)⟩
           (try clear BK102)
           (try clear HB)
           generalize (((w36.setCell ⟨gb102, 0, none⟩ (.int .i64 ((rd_T101 l0 x3_1).f0))).setCell ⟨gb102, 1, none⟩ (.int .i64 ((rd_T101 l0 x3_1).f1))).setCell ⟨gb102, 2, none⟩ (.string ((rd_T101 l0 x3_1).f2))) = w38 at n0_ n1_ ⊢
           have BK102 := n0_
           have HB := n1_
           clear n0_ n1_
           have n0_ := Aside0.mk (blk_drew BK102.out)
           have n1_ := Aside0.mk (below_drew1 HB.out)
           clear BK102
           clear HB
           have BK102 := n0_
           have HB := n1_
           clear n0_ n1_
           have p104 : 0 ≤ ((ji7) : Int) := of_decide_eq_true B2x2_
           have q104 : (ji7) < (l0.length : Int) := of_decide_eq_true B2x2_
           obtain ⟨ad104, e104, hx104_0, hx104_1, hx104_2⟩ := at_T101 HR0.out (ji7) p104 q104
           have hw104_2 := hx104_2
           have hw104_1 := hx104_1
           have hw104_0 := hx104_0
           obtain rfl : ad101 = ad104 := B2x4_
           replace hx104_0 := (HB.out.cell (World.block_lt_of_cell? w _ hx104_0)).trans hx104_0
           replace hx104_1 := (HB.out.cell (World.block_lt_of_cell? w _ hx104_1)).trans hx104_1
           replace hx104_2 := (HB.out.cell (World.block_lt_of_cell? w _ hx104_2)).trans hx104_2
           replace p104 := eq_true p104
           replace q104 := eq_true q104
           refine start_ (n := 41) (S := fun w' => w'.cell? ⟨gb102, 0, none⟩ = some (.int .i64 ((rd_T101 l0 x3_1).f0)) ∧ w'.cell? ⟨gb102, 1, none⟩ = some (.int .i64 ((rd_T101 l0 x3_1).f1)) ∧ w'.cell? ⟨gb102, 2, none⟩ = some (.string ((rd_T101 l0 x3_1).f2)) ∧ w'.cell? (ad101.add (((ji7)).toNat * 3)) = some (.int .i64 ((rd_T101 l0 (ji7)).f0)) ∧ w'.cell? ⟨(ad101.add (((ji7)).toNat * 3)).block, (ad101.add (((ji7)).toNat * 3)).off + 1, none⟩ = some (.int .i64 ((rd_T101 l0 (ji7)).f1)) ∧ w'.cell? ⟨(ad101.add (((ji7)).toNat * 3)).block, (ad101.add (((ji7)).toNat * 3)).off + 2, none⟩ = some (.string ((rd_T101 l0 (ji7)).f2))) (ds := []) #[false, false, false, false, false, false, false, false, false, false, false, false, false, false, false, false, false, false, false, false, false, false, false, false, false, false, false, false, false, false, false, false, false, false, false, false, false, false, false, false, false] B2x3_ rfl rfl ⟨(blk_cell BK102.out 0).trans rfl, (blk_cell BK102.out 1).trans rfl, (blk_cell BK102.out 2).trans rfl, ((HB.out.cell (World.block_lt_of_cell? w _ hw104_0)).trans hw104_0), ((HB.out.cell (World.block_lt_of_cell? w _ hw104_1)).trans hw104_1), ((HB.out.cell (World.block_lt_of_cell? w _ hw104_2)).trans hw104_2)⟩ (fun hHeld => ?_); refine with_tabW spec_l15Sessions.tab5 spec_l15Sessions.bits5 (fun HT_ HW_ => ?_)
           generalize w38.drew = w39 at BK102 HB hx104_0 hx104_1 hx104_2 hHeld ⊢
           refine pu_ 0 15 HT_ ?_
           refine ta_ 1 16 HT_ HW_ hHeld ?_
           refine one_ (i := 2) (N := some 17) #[true, true, true, false, false, false, false, false, false, false, false, false, false, false, false, false, false, false, false, false, false, false, false, false, false, false, false, false, false, false, false, false, false, false, false, false, false, false, false, false, false] rfl rfl (one_of HT_.out B2x3_) (by decide) (fun K hK => ?_)
           refine goes_ Try.func64 B2x3_ rfl #[.int .i64 ((rd_T101 l0 x3_1).f0), .int .i64 1, .int .i64 1000000] (by rfl) rfl rfl B2x1_ ?_
           with_reducible refine (spec_l01In.calls ((rd_T101 l0 x3_1).f0) 1 1000000 true _ A4.out).mono ?_
           rintro e w' ⟨rfl, ⟨nd, rfl⟩⟩
           refine ⟨_, rfl, ?_⟩
           refine hK.out _ _ ⟨(blk_cell BK102.out 0).trans rfl, (blk_cell BK102.out 1).trans rfl, (blk_cell BK102.out 2).trans rfl, ((HB.out.cell (World.block_lt_of_cell? w _ hw104_0)).trans hw104_0), ((HB.out.cell (World.block_lt_of_cell? w _ hw104_1)).trans hw104_1), ((HB.out.cell (World.block_lt_of_cell? w _ hw104_2)).trans hw104_2)⟩ (fun hHeld => ?_)
           clear hK K
           refine norm_ (a' := ?_) ?_ ?_
           rotate_left
           ·show Act.put _ (some 17) _ = _
            simp only [Act.put, List.setIfInBounds_toArray, List.set_cons_zero, List.set_cons_succ, i64_w, i32_w]
            rfl
           refine pu_ 3 18 HT_ ?_
           refine pu_ 4 19 HT_ ?_
           refine pu_ 5 20 HT_ ?_
           refine pu_ 6 21 HT_ ?_
           refine pu_ 7 22 HT_ ?_
           refine pu_ 8 23 HT_ ?_
           refine pu_ 9 24 HT_ ?_
           refine pu_ 10 25 HT_ ?_
           refine pu_ 11 26 HT_ ?_
           refine pu_ 12 27 HT_ ?_
           refine pu_ 14 29 HT_ ?_
           refine ta_ 13 28 HT_ HW_ hHeld ?_
           refine ta_ 15 30 HT_ HW_ hHeld ?_
           refine pu_ 16 31 HT_ ?_
           refine pu_ 17 32 HT_ ?_
           refine pu_ 18 33 HT_ ?_
           refine pu_ 19 34 HT_ ?_
           refine pu_ 20 35 HT_ ?_
           refine ta_ 21 36 HT_ HW_ hHeld ?_
           refine one_ (i := 22) (N := some 37) #[true, true, true, true, true, true, true, true, true, true, true, true, true, true, true, true, true, true, true, true, true, true, true, false, false, false, false, false, false, false, false, false, false, false, false, false, false, false, false, false, false] rfl rfl (one_of HT_.out B2x3_) (by decide) (fun K hK => ?_)
           refine goes_ Try.func64 B2x3_ rfl #[.int .i64 ((rd_T101 l0 x3_1).f1), .int .i64 0, .int .i64 1000000] (by rfl) rfl rfl B2x1_ ?_
           with_reducible refine (spec_l01In.calls ((rd_T101 l0 x3_1).f1) 0 1000000 false _ A15.out).mono ?_
           rintro e w' ⟨rfl, ⟨nd, rfl⟩⟩
           refine ⟨_, rfl, ?_⟩
           refine hK.out _ _ ⟨(blk_cell BK102.out 0).trans rfl, (blk_cell BK102.out 1).trans rfl, (blk_cell BK102.out 2).trans rfl, ((HB.out.cell (World.block_lt_of_cell? w _ hw104_0)).trans hw104_0), ((HB.out.cell (World.block_lt_of_cell? w _ hw104_1)).trans hw104_1), ((HB.out.cell (World.block_lt_of_cell? w _ hw104_2)).trans hw104_2)⟩ (fun hHeld => ?_)
           clear hK K
           refine norm_ (a' := ?_) ?_ ?_
           rotate_left
           ·show Act.put _ (some 37) _ = _
            simp only [Act.put, List.setIfInBounds_toArray, List.set_cons_zero, List.set_cons_succ, i64_w, i32_w]
            rfl
           refine pu_ 23 38 HT_ ?_
           refine pu_ 24 39 HT_ ?_
           refine pu_ 25 40 HT_ ?_
           refine of_ 26 41 HT_ ?_
           refine of_ 27 42 HT_ ?_
           refine of_ 28 43 HT_ ?_
           refine of_ 29 44 HT_ ?_
           refine pu_ 30 45 HT_ ?_
           refine pu_ 31 46 HT_ ?_
           refine of_ 32 47 HT_ ?_
           refine of_ 33 48 HT_ ?_
           refine of_ 34 49 HT_ ?_
           refine of_ 35 50 HT_ ?_
           refine of_ 36 51 HT_ ?_
           refine of_ 37 52 HT_ ?_
           refine of_ 38 53 HT_ ?_
           refine of_ 39 54 HT_ ?_
           refine pu_ 40 55 HT_ ?_
           refine done_ (done_of HT_.out B2x3_) ?_
           try go_wp2
           go_ret
           exact ⟨by first | rfl | (simp [errW_none, errW_some] <;> rfl) | (simp only [← hji7]; first | rfl | (simp [errW_none, errW_some] <;> rfl)) | (simp [*, errW_none, errW_some] <;> rfl), by repeat (first | (with_reducible first | exact HB.out | apply below_alloc | apply pw_below_drewN | apply below_drew1 | refine below_set ?_ GE102.out) | exact HB.out)⟩
        ·rw [if_neg c9] at H
         exact absurd H (by simp)
       ·rw [if_neg c8] at H
        exact absurd H (by simp)
      ·rw [if_neg c6] at H
       have c6b0 : decide (0 < x3_1) = false := decide_eq_false c6
       clear c6
       replace H := Option.bind_eq_some_iff.mp H
       obtain ⟨t106, A400, H⟩ := H
       (try dsimp only at H)
       have A40 := Aside0.mk A400
       clear A400
       by_cases c41 : t106 = true
       ·subst c41
        rw [if_pos rfl] at H
        by_cases c42 : (((rd_T101 l0 x3_1).f2).size : Int) > 40
        ·rw [if_pos c42] at H
         have c42b0 : decide (40 < (((rd_T101 l0 x3_1).f2).size : Int)) = true := decide_eq_true c42
         have c42b1 : decide (40 < ((rd_T101 l0 x3_1).f2).size) = true := decide_eq_true (by omega)
         clear c42
         obtain rfl := Option.some.inj H
         have p101 : 0 ≤ (x3_1 : Int) := of_decide_eq_true B2x2_
         have q101 : x3_1 < (l0.length : Int) := of_decide_eq_true B2x2_
         obtain ⟨ad101, e101, hx101_0, hx101_1, hx101_2⟩ := at_T101 HR0.out x3_1 p101 q101
         cases e101
         replace hx101_0 := (HB.out.cell (World.block_lt_of_cell? w _ hx101_0)).trans hx101_0
         replace hx101_1 := (HB.out.cell (World.block_lt_of_cell? w _ hx101_1)).trans hx101_1
         replace hx101_2 := (HB.out.cell (World.block_lt_of_cell? w _ hx101_2)).trans hx101_2
         replace p101 := eq_true p101
         replace q101 := eq_true q101
         try go_wp2_with (first | ((with_reducible refine gate_dst (N := 4) rfl ?_); (try (refine gate_guard (by rfl) ?_; dsimp only)); refine box_event ?hg (N := 4) ?hd (cs := #[.int .i64 0, .int .i64 0, .string (⟨#[]⟩ : ByteArray)]) (t := 101) ?hr ?_; (case hd => rfl); (case hg => rfl); (case hr => first | (go_simp; done) | (go_simp; rfl)); intro gb102 hg w43 hbox hb; have n0_ := Aside0.mk (below_step B2x0_ hb); have n1_ := Aside0.mk (hbox); have n2_ := Aside0.mk ((by rw [hg]; exact (below_size B2x0_) : w.heap.size ≤ gb102)); have n3_ := Aside0.mk ((by rw [hg]; exact (below_size B2x0_) : w.heap.size ≤ gb102)); clear HB; have HB := n0_; have BK102 := n1_; have GW102 := n2_; have GE102 := n3_; clear n0_ n1_ n2_ n3_; clear hb hbox hg; obtain ⟨hcz44_0, hcz44_1, hcz44_2⟩ := cl3 BK102.out; obtain ⟨hfz44_0, hfz44_1, hfz44_2⟩ := fr3 BK102.out))
         have n0_ : Aside0 ((((w43.setCell ⟨gb102, 0, none⟩ (.int .i64 ((rd_T101 l0 x3_1).f0))).setCell ⟨gb102, 1, none⟩ (.int .i64 ((rd_T101 l0 x3_1).f1))).setCell ⟨gb102, 2, none⟩ (.string ((rd_T101 l0 x3_1).f2))).heap[gb102]? = some (.cells #[.int .i64 ((rd_T101 l0 x3_1).f0), .int .i64 ((rd_T101 l0 x3_1).f1), .string ((rd_T101 l0 x3_1).f2)] 101 (0, 0))) := ⟨by (with_reducible repeat (first | refine blk_drewN ?_ _ | refine blk_drew ?_ | refine blk_alloc ?_ _)); refine blk_put (cs := #[.int .i64 ((rd_T101 l0 x3_1).f0), .int .i64 ((rd_T101 l0 x3_1).f1), .string (⟨#[]⟩ : ByteArray)]) ?_ 2 _ rfl; (with_reducible repeat (first | refine blk_drewN ?_ _ | refine blk_drew ?_ | refine blk_alloc ?_ _)); refine blk_put (cs := #[.int .i64 ((rd_T101 l0 x3_1).f0), .int .i64 0, .string (⟨#[]⟩ : ByteArray)]) ?_ 1 _ rfl; (with_reducible repeat (first | refine blk_drewN ?_ _ | refine blk_drew ?_ | refine blk_alloc ?_ _)); refine blk_put (cs := #[.int .i64 0, .int .i64 0, .string (⟨#[]⟩ : ByteArray)]) ?_ 0 _ rfl; (with_reducible repeat (first | refine blk_drewN ?_ _ | refine blk_drew ?_ | refine blk_alloc ?_ _)); exact BK102.out⟩
         have n1_ : Aside0 (Below w.heap.size w (((w43.setCell ⟨gb102, 0, none⟩ (.int .i64 ((rd_T101 l0 x3_1).f0))).setCell ⟨gb102, 1, none⟩ (.int .i64 ((rd_T101 l0 x3_1).f1))).setCell ⟨gb102, 2, none⟩ (.string ((rd_T101 l0 x3_1).f2)))) := ⟨by repeat (first | (with_reducible first | exact HB.out | apply below_alloc | apply pw_below_drewN | apply below_drew1 | refine below_set ?_ GE102.out) | exact HB.out)⟩
         (try clear BK102)
         (try clear HB)
         generalize (((w43.setCell ⟨gb102, 0, none⟩ (.int .i64 ((rd_T101 l0 x3_1).f0))).setCell ⟨gb102, 1, none⟩ (.int .i64 ((rd_T101 l0 x3_1).f1))).setCell ⟨gb102, 2, none⟩ (.string ((rd_T101 l0 x3_1).f2))) = w45 at n0_ n1_ ⊢
         have BK102 := n0_
         have HB := n1_
         clear n0_ n1_
         have n0_ := Aside0.mk (blk_drew BK102.out)
         have n1_ := Aside0.mk (below_drew1 HB.out)
         clear BK102
         clear HB
         have BK102 := n0_
         have HB := n1_
         clear n0_ n1_
         refine start_ (n := 41) (S := fun w' => w'.cell? ⟨gb102, 0, none⟩ = some (.int .i64 ((rd_T101 l0 x3_1).f0)) ∧ w'.cell? ⟨gb102, 1, none⟩ = some (.int .i64 ((rd_T101 l0 x3_1).f1)) ∧ w'.cell? ⟨gb102, 2, none⟩ = some (.string ((rd_T101 l0 x3_1).f2))) (ds := []) #[false, false, false, false, false, false, false, false, false, false, false, false, false, false, false, false, false, false, false, false, false, false, false, false, false, false, false, false, false, false, false, false, false, false, false, false, false, false, false, false, false] B2x3_ rfl rfl ⟨(blk_cell BK102.out 0).trans rfl, (blk_cell BK102.out 1).trans rfl, (blk_cell BK102.out 2).trans rfl⟩ (fun hHeld => ?_); refine with_tabW spec_l15Sessions.tab5 spec_l15Sessions.bits5 (fun HT_ HW_ => ?_)
         generalize w45.drew = w46 at BK102 HB hHeld ⊢
         refine pu_ 0 15 HT_ ?_
         refine ta_ 1 16 HT_ HW_ hHeld ?_
         refine one_ (i := 2) (N := some 17) #[true, true, true, false, false, false, false, false, false, false, false, false, false, false, false, false, false, false, false, false, false, false, false, false, false, false, false, false, false, false, false, false, false, false, false, false, false, false, false, false, false] rfl rfl (one_of HT_.out B2x3_) (by decide) (fun K hK => ?_)
         refine goes_ Try.func64 B2x3_ rfl #[.int .i64 ((rd_T101 l0 x3_1).f0), .int .i64 1, .int .i64 1000000] (by rfl) rfl rfl B2x1_ ?_
         with_reducible refine (spec_l01In.calls ((rd_T101 l0 x3_1).f0) 1 1000000 true _ A4.out).mono ?_
         rintro e w' ⟨rfl, ⟨nd, rfl⟩⟩
         refine ⟨_, rfl, ?_⟩
         refine hK.out _ _ ⟨(blk_cell BK102.out 0).trans rfl, (blk_cell BK102.out 1).trans rfl, (blk_cell BK102.out 2).trans rfl⟩ (fun hHeld => ?_)
         clear hK K
         refine norm_ (a' := ?_) ?_ ?_
         rotate_left
         ·show Act.put _ (some 17) _ = _
          simp only [Act.put, List.setIfInBounds_toArray, List.set_cons_zero, List.set_cons_succ, i64_w, i32_w]
          rfl
         refine pu_ 3 18 HT_ ?_
         refine pu_ 4 19 HT_ ?_
         refine pu_ 5 20 HT_ ?_
         refine pu_ 6 21 HT_ ?_
         refine pu_ 7 22 HT_ ?_
         refine of_ 8 23 HT_ ?_
         refine of_ 9 24 HT_ ?_
         refine of_ 10 25 HT_ ?_
         refine of_ 11 26 HT_ ?_
         refine of_ 12 27 HT_ ?_
         refine of_ 13 28 HT_ ?_
         refine of_ 14 29 HT_ ?_
         refine of_ 15 30 HT_ ?_
         refine of_ 16 31 HT_ ?_
         refine pu_ 17 32 HT_ ?_
         refine pu_ 18 33 HT_ ?_
         refine pu_ 19 34 HT_ ?_
         refine pu_ 20 35 HT_ ?_
         refine ta_ 21 36 HT_ HW_ hHeld ?_
         refine one_ (i := 22) (N := some 37) #[true, true, true, true, true, true, true, true, true, true, true, true, true, true, true, true, true, true, true, true, true, true, true, false, false, false, false, false, false, false, false, false, false, false, false, false, false, false, false, false, false] rfl rfl (one_of HT_.out B2x3_) (by decide) (fun K hK => ?_)
         refine goes_ Try.func64 B2x3_ rfl #[.int .i64 ((rd_T101 l0 x3_1).f1), .int .i64 0, .int .i64 1000000] (by rfl) rfl rfl B2x1_ ?_
         with_reducible refine (spec_l01In.calls ((rd_T101 l0 x3_1).f1) 0 1000000 true _ A40.out).mono ?_
         rintro e w' ⟨rfl, ⟨nd, rfl⟩⟩
         refine ⟨_, rfl, ?_⟩
         refine hK.out _ _ ⟨(blk_cell BK102.out 0).trans rfl, (blk_cell BK102.out 1).trans rfl, (blk_cell BK102.out 2).trans rfl⟩ (fun hHeld => ?_)
         clear hK K
         refine norm_ (a' := ?_) ?_ ?_
         rotate_left
         ·show Act.put _ (some 37) _ = _
          simp only [Act.put, List.setIfInBounds_toArray, List.set_cons_zero, List.set_cons_succ, i64_w, i32_w]
          rfl
         refine pu_ 23 38 HT_ ?_
         refine pu_ 24 39 HT_ ?_
         refine pu_ 25 40 HT_ ?_
         refine pu_ 26 41 HT_ ?_
         refine ta_ 27 42 HT_ HW_ hHeld ?_
         refine pu_ 28 43 HT_ ?_
         refine pu_ 29 44 HT_ ?_
         refine pu_ 30 45 HT_ ?_
         refine pu_ 31 46 HT_ ?_
         refine of_ 32 47 HT_ ?_
         refine of_ 33 48 HT_ ?_
         refine of_ 34 49 HT_ ?_
         refine of_ 35 50 HT_ ?_
         refine of_ 36 51 HT_ ?_
         refine of_ 37 52 HT_ ?_
         refine of_ 38 53 HT_ ?_
         refine of_ 39 54 HT_ ?_
         refine pu_ 40 55 HT_ ?_
         refine done_ (done_of HT_.out B2x3_) ?_
         try go_wp2
         go_ret
         exact ⟨by first | rfl | (simp [errW_none, errW_some] <;> rfl) | (simp [*, errW_none, errW_some] <;> rfl), by repeat (first | (with_reducible first | exact HB.out | apply below_alloc | apply pw_below_drewN | apply below_drew1 | refine below_set ?_ GE102.out) | exact HB.out)⟩
        ·rw [if_neg c42] at H
         have c42b0 : decide (40 < (((rd_T101 l0 x3_1).f2).size : Int)) = false := decide_eq_false c42
         have c42b1 : decide (40 < ((rd_T101 l0 x3_1).f2).size) = false := decide_eq_false (by omega)
         clear c42
         by_cases c47 : ((rd_T101 l0 x3_1).f1) = 0
         ·rw [if_pos c47] at H
          have c47b0 : (((rd_T101 l0 x3_1).f1) == 0) = true := beq_iff_eq.mpr c47
          have c47b1 : (((rd_T101 l0 x3_1).f1) != 0) = false := bne_eq_false_iff_eq.mpr c47
          clear c47
          by_cases c48 : ((rd_T101 l0 x3_1).f2).toList = ([] : List UInt8)
          ·rw [if_pos c48] at H
           have c48b0 : (((rd_T101 l0 x3_1).f2).toList == ([] : List UInt8)) = true := beq_iff_eq.mpr c48
           have c48b1 : (((rd_T101 l0 x3_1).f2).toList != ([] : List UInt8)) = false := bne_eq_false_iff_eq.mpr c48
           clear c48
           have H' := Aside0.mk H
           clear H
           have p101 : 0 ≤ (x3_1 : Int) := of_decide_eq_true B2x2_
           have q101 : x3_1 < (l0.length : Int) := of_decide_eq_true B2x2_
           obtain ⟨ad101, e101, hx101_0, hx101_1, hx101_2⟩ := at_T101 HR0.out x3_1 p101 q101
           cases e101
           replace hx101_0 := (HB.out.cell (World.block_lt_of_cell? w _ hx101_0)).trans hx101_0
           replace hx101_1 := (HB.out.cell (World.block_lt_of_cell? w _ hx101_1)).trans hx101_1
           replace hx101_2 := (HB.out.cell (World.block_lt_of_cell? w _ hx101_2)).trans hx101_2
           replace p101 := eq_true p101
           replace q101 := eq_true q101
           try go_wp2_with (first | ((with_reducible refine gate_dst (N := 4) rfl ?_); (try (refine gate_guard (by rfl) ?_; dsimp only)); refine box_event ?hg (N := 4) ?hd (cs := #[.int .i64 0, .int .i64 0, .string (⟨#[]⟩ : ByteArray)]) (t := 101) ?hr ?_; (case hd => rfl); (case hg => rfl); (case hr => first | (go_simp; done) | (go_simp; rfl)); intro gb102 hg w49 hbox hb; have n0_ := Aside0.mk (below_step B2x0_ hb); have n1_ := Aside0.mk (hbox); have n2_ := Aside0.mk ((by rw [hg]; exact (below_size B2x0_) : w.heap.size ≤ gb102)); have n3_ := Aside0.mk ((by rw [hg]; exact (below_size B2x0_) : w.heap.size ≤ gb102)); clear HB; have HB := n0_; have BK102 := n1_; have GW102 := n2_; have GE102 := n3_; clear n0_ n1_ n2_ n3_; clear hb hbox hg; obtain ⟨hcz50_0, hcz50_1, hcz50_2⟩ := cl3 BK102.out; obtain ⟨hfz50_0, hfz50_1, hfz50_2⟩ := fr3 BK102.out))
           have n0_ : Aside0 ((((w49.setCell ⟨gb102, 0, none⟩ (.int .i64 ((rd_T101 l0 x3_1).f0))).setCell ⟨gb102, 1, none⟩ (.int .i64 ((rd_T101 l0 x3_1).f1))).setCell ⟨gb102, 2, none⟩ (.string ((rd_T101 l0 x3_1).f2))).heap[gb102]? = some (.cells #[.int .i64 ((rd_T101 l0 x3_1).f0), .int .i64 ((rd_T101 l0 x3_1).f1), .string ((rd_T101 l0 x3_1).f2)] 101 (0, 0))) := ⟨by (with_reducible repeat (first | refine blk_drewN ?_ _ | refine blk_drew ?_ | refine blk_alloc ?_ _)); refine blk_put (cs := #[.int .i64 ((rd_T101 l0 x3_1).f0), .int .i64 ((rd_T101 l0 x3_1).f1), .string (⟨#[]⟩ : ByteArray)]) ?_ 2 _ rfl; (with_reducible repeat (first | refine blk_drewN ?_ _ | refine blk_drew ?_ | refine blk_alloc ?_ _)); refine blk_put (cs := #[.int .i64 ((rd_T101 l0 x3_1).f0), .int .i64 0, .string (⟨#[]⟩ : ByteArray)]) ?_ 1 _ rfl; (with_reducible repeat (first | refine blk_drewN ?_ _ | refine blk_drew ?_ | refine blk_alloc ?_ _)); refine blk_put (cs := #[.int .i64 0, .int .i64 0, .string (⟨#[]⟩ : ByteArray)]) ?_ 0 _ rfl; (with_reducible repeat (first | refine blk_drewN ?_ _ | refine blk_drew ?_ | refine blk_alloc ?_ _)); exact BK102.out⟩
           have n1_ : Aside0 (Below w.heap.size w (((w49.setCell ⟨gb102, 0, none⟩ (.int .i64 ((rd_T101 l0 x3_1).f0))).setCell ⟨gb102, 1, none⟩ (.int .i64 ((rd_T101 l0 x3_1).f1))).setCell ⟨gb102, 2, none⟩ (.string ((rd_T101 l0 x3_1).f2)))) := ⟨by repeat (first | (with_reducible first | exact HB.out | apply below_alloc | apply pw_below_drewN | apply below_drew1 | refine below_set ?_ GE102.out) | exact HB.out)⟩
           (try clear BK102)
           (try clear HB)
           generalize (((w49.setCell ⟨gb102, 0, none⟩ (.int .i64 ((rd_T101 l0 x3_1).f0))).setCell ⟨gb102, 1, none⟩ (.int .i64 ((rd_T101 l0 x3_1).f1))).setCell ⟨gb102, 2, none⟩ (.string ((rd_T101 l0 x3_1).f2))) = w51 at n0_ n1_ ⊢
           have BK102 := n0_
           have HB := n1_
           clear n0_ n1_
           have n0_ := Aside0.mk (blk_drew BK102.out)
           have n1_ := Aside0.mk (below_drew1 HB.out)
           clear BK102
           clear HB
           have BK102 := n0_
           have HB := n1_
           clear n0_ n1_
           refine start_ (n := 41) (S := fun w' => w'.cell? ⟨gb102, 0, none⟩ = some (.int .i64 ((rd_T101 l0 x3_1).f0)) ∧ w'.cell? ⟨gb102, 1, none⟩ = some (.int .i64 ((rd_T101 l0 x3_1).f1)) ∧ w'.cell? ⟨gb102, 2, none⟩ = some (.string ((rd_T101 l0 x3_1).f2))) (ds := []) #[false, false, false, false, false, false, false, false, false, false, false, false, false, false, false, false, false, false, false, false, false, false, false, false, false, false, false, false, false, false, false, false, false, false, false, false, false, false, false, false, false] B2x3_ rfl rfl ⟨(blk_cell BK102.out 0).trans rfl, (blk_cell BK102.out 1).trans rfl, (blk_cell BK102.out 2).trans rfl⟩ (fun hHeld => ?_); refine with_tabW spec_l15Sessions.tab5 spec_l15Sessions.bits5 (fun HT_ HW_ => ?_)
           generalize w51.drew = w52 at BK102 HB hHeld ⊢
           refine pu_ 0 15 HT_ ?_
           refine ta_ 1 16 HT_ HW_ hHeld ?_
           refine one_ (i := 2) (N := some 17) #[true, true, true, false, false, false, false, false, false, false, false, false, false, false, false, false, false, false, false, false, false, false, false, false, false, false, false, false, false, false, false, false, false, false, false, false, false, false, false, false, false] rfl rfl (one_of HT_.out B2x3_) (by decide) (fun K hK => ?_)
           refine goes_ Try.func64 B2x3_ rfl #[.int .i64 ((rd_T101 l0 x3_1).f0), .int .i64 1, .int .i64 1000000] (by rfl) rfl rfl B2x1_ ?_
           with_reducible refine (spec_l01In.calls ((rd_T101 l0 x3_1).f0) 1 1000000 true _ A4.out).mono ?_
           rintro e w' ⟨rfl, ⟨nd, rfl⟩⟩
           refine ⟨_, rfl, ?_⟩
           refine hK.out _ _ ⟨(blk_cell BK102.out 0).trans rfl, (blk_cell BK102.out 1).trans rfl, (blk_cell BK102.out 2).trans rfl⟩ (fun hHeld => ?_)
           clear hK K
           refine norm_ (a' := ?_) ?_ ?_
           rotate_left
           ·show Act.put _ (some 17) _ = _
            simp only [Act.put, List.setIfInBounds_toArray, List.set_cons_zero, List.set_cons_succ, i64_w, i32_w]
            rfl
           refine pu_ 3 18 HT_ ?_
           refine pu_ 4 19 HT_ ?_
           refine pu_ 5 20 HT_ ?_
           refine pu_ 6 21 HT_ ?_
           refine pu_ 7 22 HT_ ?_
           refine of_ 8 23 HT_ ?_
           refine of_ 9 24 HT_ ?_
           refine of_ 10 25 HT_ ?_
           refine of_ 11 26 HT_ ?_
           refine of_ 12 27 HT_ ?_
           refine of_ 13 28 HT_ ?_
           refine of_ 14 29 HT_ ?_
           refine of_ 15 30 HT_ ?_
           refine of_ 16 31 HT_ ?_
           refine pu_ 17 32 HT_ ?_
           refine pu_ 18 33 HT_ ?_
           refine pu_ 19 34 HT_ ?_
           refine pu_ 20 35 HT_ ?_
           refine ta_ 21 36 HT_ HW_ hHeld ?_
           refine one_ (i := 22) (N := some 37) #[true, true, true, true, true, true, true, true, true, true, true, true, true, true, true, true, true, true, true, true, true, true, true, false, false, false, false, false, false, false, false, false, false, false, false, false, false, false, false, false, false] rfl rfl (one_of HT_.out B2x3_) (by decide) (fun K hK => ?_)
           refine goes_ Try.func64 B2x3_ rfl #[.int .i64 ((rd_T101 l0 x3_1).f1), .int .i64 0, .int .i64 1000000] (by rfl) rfl rfl B2x1_ ?_
           with_reducible refine (spec_l01In.calls ((rd_T101 l0 x3_1).f1) 0 1000000 true _ A40.out).mono ?_
           rintro e w' ⟨rfl, ⟨nd, rfl⟩⟩
           refine ⟨_, rfl, ?_⟩
           refine hK.out _ _ ⟨(blk_cell BK102.out 0).trans rfl, (blk_cell BK102.out 1).trans rfl, (blk_cell BK102.out 2).trans rfl⟩ (fun hHeld => ?_)
           clear hK K
           refine norm_ (a' := ?_) ?_ ?_
           rotate_left
           ·show Act.put _ (some 37) _ = _
            simp only [Act.put, List.setIfInBounds_toArray, List.set_cons_zero, List.set_cons_succ, i64_w, i32_w]
            rfl
           refine pu_ 23 38 HT_ ?_
           refine pu_ 24 39 HT_ ?_
           refine pu_ 25 40 HT_ ?_
           refine pu_ 26 41 HT_ ?_
           refine ta_ 27 42 HT_ HW_ hHeld ?_
           refine pu_ 28 43 HT_ ?_
           refine pu_ 29 44 HT_ ?_
           refine pu_ 30 45 HT_ ?_
           refine pu_ 31 46 HT_ ?_
           refine pu_ 32 47 HT_ ?_
           refine ta_ 33 48 HT_ HW_ hHeld ?_
           refine pu_ 34 49 HT_ ?_
           refine pu_ 35 50 HT_ ?_
           refine pu_ 36 51 HT_ ?_
           refine ta_ 37 52 HT_ HW_ hHeld ?_
           refine pu_ 38 53 HT_ ?_
           refine pu_ 39 54 HT_ ?_
           refine pu_ 40 55 HT_ ?_
           refine done_ (done_of HT_.out B2x3_) ?_
           try go_wp2
           go_roundg k1
           case measure => have := HK1.out; omega
           case rel => exact ⟨(wrap64 (x3_1 + 1)), (be_), H', ⟨by have := HK1.out; omega⟩, ⟨by repeat (first | (with_reducible first | exact HB.out | apply below_alloc | apply pw_below_drewN | apply below_drew1 | refine below_set ?_ GE102.out) | exact HB.out)⟩⟩
          ·rw [if_neg c48] at H
           have c48b0 : (((rd_T101 l0 x3_1).f2).toList == ([] : List UInt8)) = false := beq_eq_false_iff_ne.mpr c48
           have c48b1 : (((rd_T101 l0 x3_1).f2).toList != ([] : List UInt8)) = true := bne_iff_ne.mpr c48
           obtain rfl := Option.some.inj H
           have p101 : 0 ≤ (x3_1 : Int) := of_decide_eq_true B2x2_
           have q101 : x3_1 < (l0.length : Int) := of_decide_eq_true B2x2_
           obtain ⟨ad101, e101, hx101_0, hx101_1, hx101_2⟩ := at_T101 HR0.out x3_1 p101 q101
           cases e101
           replace hx101_0 := (HB.out.cell (World.block_lt_of_cell? w _ hx101_0)).trans hx101_0
           replace hx101_1 := (HB.out.cell (World.block_lt_of_cell? w _ hx101_1)).trans hx101_1
           replace hx101_2 := (HB.out.cell (World.block_lt_of_cell? w _ hx101_2)).trans hx101_2
           replace p101 := eq_true p101
           replace q101 := eq_true q101
           try go_wp2_with (first | ((with_reducible refine gate_dst (N := 4) rfl ?_); (try (refine gate_guard (by rfl) ?_; dsimp only)); refine box_event ?hg (N := 4) ?hd (cs := #[.int .i64 0, .int .i64 0, .string (⟨#[]⟩ : ByteArray)]) (t := 101) ?hr ?_; (case hd => rfl); (case hg => rfl); (case hr => first | (go_simp; done) | (go_simp; rfl)); intro gb102 hg w53 hbox hb; have n0_ := Aside0.mk (below_step B2x0_ hb); have n1_ := Aside0.mk (hbox); have n2_ := Aside0.mk ((by rw [hg]; exact (below_size B2x0_) : w.heap.size ≤ gb102)); have n3_ := Aside0.mk ((by rw [hg]; exact (below_size B2x0_) : w.heap.size ≤ gb102)); clear HB; have HB := n0_; have BK102 := n1_; have GW102 := n2_; have GE102 := n3_; clear n0_ n1_ n2_ n3_; clear hb hbox hg; obtain ⟨hcz54_0, hcz54_1, hcz54_2⟩ := cl3 BK102.out; obtain ⟨hfz54_0, hfz54_1, hfz54_2⟩ := fr3 BK102.out))
           have n0_ : Aside0 ((((w53.setCell ⟨gb102, 0, none⟩ (.int .i64 ((rd_T101 l0 x3_1).f0))).setCell ⟨gb102, 1, none⟩ (.int .i64 ((rd_T101 l0 x3_1).f1))).setCell ⟨gb102, 2, none⟩ (.string ((rd_T101 l0 x3_1).f2))).heap[gb102]? = some (.cells #[.int .i64 ((rd_T101 l0 x3_1).f0), .int .i64 ((rd_T101 l0 x3_1).f1), .string ((rd_T101 l0 x3_1).f2)] 101 (0, 0))) := ⟨by (with_reducible repeat (first | refine blk_drewN ?_ _ | refine blk_drew ?_ | refine blk_alloc ?_ _)); refine blk_put (cs := #[.int .i64 ((rd_T101 l0 x3_1).f0), .int .i64 ((rd_T101 l0 x3_1).f1), .string (⟨#[]⟩ : ByteArray)]) ?_ 2 _ rfl; (with_reducible repeat (first | refine blk_drewN ?_ _ | refine blk_drew ?_ | refine blk_alloc ?_ _)); refine blk_put (cs := #[.int .i64 ((rd_T101 l0 x3_1).f0), .int .i64 0, .string (⟨#[]⟩ : ByteArray)]) ?_ 1 _ rfl; (with_reducible repeat (first | refine blk_drewN ?_ _ | refine blk_drew ?_ | refine blk_alloc ?_ _)); refine blk_put (cs := #[.int .i64 0, .int .i64 0, .string (⟨#[]⟩ : ByteArray)]) ?_ 0 _ rfl; (with_reducible repeat (first | refine blk_drewN ?_ _ | refine blk_drew ?_ | refine blk_alloc ?_ _)); exact BK102.out⟩
           have n1_ : Aside0 (Below w.heap.size w (((w53.setCell ⟨gb102, 0, none⟩ (.int .i64 ((rd_T101 l0 x3_1).f0))).setCell ⟨gb102, 1, none⟩ (.int .i64 ((rd_T101 l0 x3_1).f1))).setCell ⟨gb102, 2, none⟩ (.string ((rd_T101 l0 x3_1).f2)))) := ⟨by repeat (first | (with_reducible first | exact HB.out | apply below_alloc | apply pw_below_drewN | apply below_drew1 | refine below_set ?_ GE102.out) | exact HB.out)⟩
           (try clear BK102)
           (try clear HB)
           generalize (((w53.setCell ⟨gb102, 0, none⟩ (.int .i64 ((rd_T101 l0 x3_1).f0))).setCell ⟨gb102, 1, none⟩ (.int .i64 ((rd_T101 l0 x3_1).f1))).setCell ⟨gb102, 2, none⟩ (.string ((rd_T101 l0 x3_1).f2))) = w55 at n0_ n1_ ⊢
           have BK102 := n0_
           have HB := n1_
           clear n0_ n1_
           have n0_ := Aside0.mk (blk_drew BK102.out)
           have n1_ := Aside0.mk (below_drew1 HB.out)
           clear BK102
           clear HB
           have BK102 := n0_
           have HB := n1_
           clear n0_ n1_
           refine start_ (n := 41) (S := fun w' => w'.cell? ⟨gb102, 0, none⟩ = some (.int .i64 ((rd_T101 l0 x3_1).f0)) ∧ w'.cell? ⟨gb102, 1, none⟩ = some (.int .i64 ((rd_T101 l0 x3_1).f1)) ∧ w'.cell? ⟨gb102, 2, none⟩ = some (.string ((rd_T101 l0 x3_1).f2))) (ds := []) #[false, false, false, false, false, false, false, false, false, false, false, false, false, false, false, false, false, false, false, false, false, false, false, false, false, false, false, false, false, false, false, false, false, false, false, false, false, false, false, false, false] B2x3_ rfl rfl ⟨(blk_cell BK102.out 0).trans rfl, (blk_cell BK102.out 1).trans rfl, (blk_cell BK102.out 2).trans rfl⟩ (fun hHeld => ?_); refine with_tabW spec_l15Sessions.tab5 spec_l15Sessions.bits5 (fun HT_ HW_ => ?_)
           generalize w55.drew = w56 at BK102 HB hHeld ⊢
           refine pu_ 0 15 HT_ ?_
           refine ta_ 1 16 HT_ HW_ hHeld ?_
           refine one_ (i := 2) (N := some 17) #[true, true, true, false, false, false, false, false, false, false, false, false, false, false, false, false, false, false, false, false, false, false, false, false, false, false, false, false, false, false, false, false, false, false, false, false, false, false, false, false, false] rfl rfl (one_of HT_.out B2x3_) (by decide) (fun K hK => ?_)
           refine goes_ Try.func64 B2x3_ rfl #[.int .i64 ((rd_T101 l0 x3_1).f0), .int .i64 1, .int .i64 1000000] (by rfl) rfl rfl B2x1_ ?_
           with_reducible refine (spec_l01In.calls ((rd_T101 l0 x3_1).f0) 1 1000000 true _ A4.out).mono ?_
           rintro e w' ⟨rfl, ⟨nd, rfl⟩⟩
           refine ⟨_, rfl, ?_⟩
           refine hK.out _ _ ⟨(blk_cell BK102.out 0).trans rfl, (blk_cell BK102.out 1).trans rfl, (blk_cell BK102.out 2).trans rfl⟩ (fun hHeld => ?_)
           clear hK K
           refine norm_ (a' := ?_) ?_ ?_
           rotate_left
           ·show Act.put _ (some 17) _ = _
            simp only [Act.put, List.setIfInBounds_toArray, List.set_cons_zero, List.set_cons_succ, i64_w, i32_w]
            rfl
           refine pu_ 3 18 HT_ ?_
           refine pu_ 4 19 HT_ ?_
           refine pu_ 5 20 HT_ ?_
           refine pu_ 6 21 HT_ ?_
           refine pu_ 7 22 HT_ ?_
           refine of_ 8 23 HT_ ?_
           refine of_ 9 24 HT_ ?_
           refine of_ 10 25 HT_ ?_
           refine of_ 11 26 HT_ ?_
           refine of_ 12 27 HT_ ?_
           refine of_ 13 28 HT_ ?_
           refine of_ 14 29 HT_ ?_
           refine of_ 15 30 HT_ ?_
           refine of_ 16 31 HT_ ?_
           refine pu_ 17 32 HT_ ?_
           refine pu_ 18 33 HT_ ?_
           refine pu_ 19 34 HT_ ?_
           refine pu_ 20 35 HT_ ?_
           refine ta_ 21 36 HT_ HW_ hHeld ?_
           refine one_ (i := 22) (N := some 37) #[true, true, true, true, true, true, true, true, true, true, true, true, true, true, true, true, true, true, true, true, true, true, true, false, false, false, false, false, false, false, false, false, false, false, false, false, false, false, false, false, false] rfl rfl (one_of HT_.out B2x3_) (by decide) (fun K hK => ?_)
           refine goes_ Try.func64 B2x3_ rfl #[.int .i64 ((rd_T101 l0 x3_1).f1), .int .i64 0, .int .i64 1000000] (by rfl) rfl rfl B2x1_ ?_
           with_reducible refine (spec_l01In.calls ((rd_T101 l0 x3_1).f1) 0 1000000 true _ A40.out).mono ?_
           rintro e w' ⟨rfl, ⟨nd, rfl⟩⟩
           refine ⟨_, rfl, ?_⟩
           refine hK.out _ _ ⟨(blk_cell BK102.out 0).trans rfl, (blk_cell BK102.out 1).trans rfl, (blk_cell BK102.out 2).trans rfl⟩ (fun hHeld => ?_)
           clear hK K
           refine norm_ (a' := ?_) ?_ ?_
           rotate_left
           ·show Act.put _ (some 37) _ = _
            simp only [Act.put, List.setIfInBounds_toArray, List.set_cons_zero, List.set_cons_succ, i64_w, i32_w]
            rfl
           refine pu_ 23 38 HT_ ?_
           refine pu_ 24 39 HT_ ?_
           refine pu_ 25 40 HT_ ?_
           refine pu_ 26 41 HT_ ?_
           refine ta_ 27 42 HT_ HW_ hHeld ?_
           refine pu_ 28 43 HT_ ?_
           refine pu_ 29 44 HT_ ?_
           refine pu_ 30 45 HT_ ?_
           refine pu_ 31 46 HT_ ?_
           refine pu_ 32 47 HT_ ?_
           refine ta_ 33 48 HT_ HW_ hHeld ?_
           refine pu_ 34 49 HT_ ?_
           refine pu_ 35 50 HT_ ?_
           refine pu_ 36 51 HT_ ?_
           refine ta_ 37 52 HT_ HW_ hHeld ?_
           refine pu_ 38 53 HT_ ?_
           refine pu_ 39 54 HT_ ?_
           refine pu_ 40 55 HT_ ?_
           refine done_ (done_of HT_.out B2x3_) ?_
           try go_wp2
           go_ret
           exact ⟨by first | rfl | (simp [errW_none, errW_some] <;> rfl) | (simp [*, errW_none, errW_some] <;> rfl), by repeat (first | (with_reducible first | exact HB.out | apply below_alloc | apply pw_below_drewN | apply below_drew1 | refine below_set ?_ GE102.out) | exact HB.out)⟩
         ·rw [if_neg c47] at H
          have c47b0 : (((rd_T101 l0 x3_1).f1) == 0) = false := beq_eq_false_iff_ne.mpr c47
          have c47b1 : (((rd_T101 l0 x3_1).f1) != 0) = true := bne_iff_ne.mpr c47
          have H' := Aside0.mk H
          clear H
          have p101 : 0 ≤ (x3_1 : Int) := of_decide_eq_true B2x2_
          have q101 : x3_1 < (l0.length : Int) := of_decide_eq_true B2x2_
          obtain ⟨ad101, e101, hx101_0, hx101_1, hx101_2⟩ := at_T101 HR0.out x3_1 p101 q101
          cases e101
          replace hx101_0 := (HB.out.cell (World.block_lt_of_cell? w _ hx101_0)).trans hx101_0
          replace hx101_1 := (HB.out.cell (World.block_lt_of_cell? w _ hx101_1)).trans hx101_1
          replace hx101_2 := (HB.out.cell (World.block_lt_of_cell? w _ hx101_2)).trans hx101_2
          replace p101 := eq_true p101
          replace q101 := eq_true q101
          try go_wp2_with (first | ((with_reducible refine gate_dst (N := 4) rfl ?_); (try (refine gate_guard (by rfl) ?_; dsimp only)); refine box_event ?hg (N := 4) ?hd (cs := #[.int .i64 0, .int .i64 0, .string (⟨#[]⟩ : ByteArray)]) (t := 101) ?hr ?_; (case hd => rfl); (case hg => rfl); (case hr => first | (go_simp; done) | (go_simp; rfl)); intro gb102 hg w57 hbox hb; have n0_ := Aside0.mk (below_step B2x0_ hb); have n1_ := Aside0.mk (hbox); have n2_ := Aside0.mk ((by rw [hg]; exact (below_size B2x0_) : w.heap.size ≤ gb102)); have n3_ := Aside0.mk ((by rw [hg]; exact (below_size B2x0_) : w.heap.size ≤ gb102)); clear HB; have HB := n0_; have BK102 := n1_; have GW102 := n2_; have GE102 := n3_; clear n0_ n1_ n2_ n3_; clear hb hbox hg; obtain ⟨hcz58_0, hcz58_1, hcz58_2⟩ := cl3 BK102.out; obtain ⟨hfz58_0, hfz58_1, hfz58_2⟩ := fr3 BK102.out))
          have n0_ : Aside0 ((((w57.setCell ⟨gb102, 0, none⟩ (.int .i64 ((rd_T101 l0 x3_1).f0))).setCell ⟨gb102, 1, none⟩ (.int .i64 ((rd_T101 l0 x3_1).f1))).setCell ⟨gb102, 2, none⟩ (.string ((rd_T101 l0 x3_1).f2))).heap[gb102]? = some (.cells #[.int .i64 ((rd_T101 l0 x3_1).f0), .int .i64 ((rd_T101 l0 x3_1).f1), .string ((rd_T101 l0 x3_1).f2)] 101 (0, 0))) := ⟨by (with_reducible repeat (first | refine blk_drewN ?_ _ | refine blk_drew ?_ | refine blk_alloc ?_ _)); refine blk_put (cs := #[.int .i64 ((rd_T101 l0 x3_1).f0), .int .i64 ((rd_T101 l0 x3_1).f1), .string (⟨#[]⟩ : ByteArray)]) ?_ 2 _ rfl; (with_reducible repeat (first | refine blk_drewN ?_ _ | refine blk_drew ?_ | refine blk_alloc ?_ _)); refine blk_put (cs := #[.int .i64 ((rd_T101 l0 x3_1).f0), .int .i64 0, .string (⟨#[]⟩ : ByteArray)]) ?_ 1 _ rfl; (with_reducible repeat (first | refine blk_drewN ?_ _ | refine blk_drew ?_ | refine blk_alloc ?_ _)); refine blk_put (cs := #[.int .i64 0, .int .i64 0, .string (⟨#[]⟩ : ByteArray)]) ?_ 0 _ rfl; (with_reducible repeat (first | refine blk_drewN ?_ _ | refine blk_drew ?_ | refine blk_alloc ?_ _)); exact BK102.out⟩
          have n1_ : Aside0 (Below w.heap.size w (((w57.setCell ⟨gb102, 0, none⟩ (.int .i64 ((rd_T101 l0 x3_1).f0))).setCell ⟨gb102, 1, none⟩ (.int .i64 ((rd_T101 l0 x3_1).f1))).setCell ⟨gb102, 2, none⟩ (.string ((rd_T101 l0 x3_1).f2)))) := ⟨by repeat (first | (with_reducible first | exact HB.out | apply below_alloc | apply pw_below_drewN | apply below_drew1 | refine below_set ?_ GE102.out) | exact HB.out)⟩
          (try clear BK102)
          (try clear HB)
          generalize (((w57.setCell ⟨gb102, 0, none⟩ (.int .i64 ((rd_T101 l0 x3_1).f0))).setCell ⟨gb102, 1, none⟩ (.int .i64 ((rd_T101 l0 x3_1).f1))).setCell ⟨gb102, 2, none⟩ (.string ((rd_T101 l0 x3_1).f2))) = w59 at n0_ n1_ ⊢
          have BK102 := n0_
          have HB := n1_
          clear n0_ n1_
          have n0_ := Aside0.mk (blk_drew BK102.out)
          have n1_ := Aside0.mk (below_drew1 HB.out)
          clear BK102
          clear HB
          have BK102 := n0_
          have HB := n1_
          clear n0_ n1_
          refine start_ (n := 41) (S := fun w' => w'.cell? ⟨gb102, 0, none⟩ = some (.int .i64 ((rd_T101 l0 x3_1).f0)) ∧ w'.cell? ⟨gb102, 1, none⟩ = some (.int .i64 ((rd_T101 l0 x3_1).f1)) ∧ w'.cell? ⟨gb102, 2, none⟩ = some (.string ((rd_T101 l0 x3_1).f2))) (ds := []) #[false, false, false, false, false, false, false, false, false, false, false, false, false, false, false, false, false, false, false, false, false, false, false, false, false, false, false, false, false, false, false, false, false, false, false, false, false, false, false, false, false] B2x3_ rfl rfl ⟨(blk_cell BK102.out 0).trans rfl, (blk_cell BK102.out 1).trans rfl, (blk_cell BK102.out 2).trans rfl⟩ (fun hHeld => ?_); refine with_tabW spec_l15Sessions.tab5 spec_l15Sessions.bits5 (fun HT_ HW_ => ?_)
          generalize w59.drew = w60 at BK102 HB hHeld ⊢
          refine pu_ 0 15 HT_ ?_
          refine ta_ 1 16 HT_ HW_ hHeld ?_
          refine one_ (i := 2) (N := some 17) #[true, true, true, false, false, false, false, false, false, false, false, false, false, false, false, false, false, false, false, false, false, false, false, false, false, false, false, false, false, false, false, false, false, false, false, false, false, false, false, false, false] rfl rfl (one_of HT_.out B2x3_) (by decide) (fun K hK => ?_)
          refine goes_ Try.func64 B2x3_ rfl #[.int .i64 ((rd_T101 l0 x3_1).f0), .int .i64 1, .int .i64 1000000] (by rfl) rfl rfl B2x1_ ?_
          with_reducible refine (spec_l01In.calls ((rd_T101 l0 x3_1).f0) 1 1000000 true _ A4.out).mono ?_
          rintro e w' ⟨rfl, ⟨nd, rfl⟩⟩
          refine ⟨_, rfl, ?_⟩
          refine hK.out _ _ ⟨(blk_cell BK102.out 0).trans rfl, (blk_cell BK102.out 1).trans rfl, (blk_cell BK102.out 2).trans rfl⟩ (fun hHeld => ?_)
          clear hK K
          refine norm_ (a' := ?_) ?_ ?_
          rotate_left
          ·show Act.put _ (some 17) _ = _
           simp only [Act.put, List.setIfInBounds_toArray, List.set_cons_zero, List.set_cons_succ, i64_w, i32_w]
           rfl
          refine pu_ 3 18 HT_ ?_
          refine pu_ 4 19 HT_ ?_
          refine pu_ 5 20 HT_ ?_
          refine pu_ 6 21 HT_ ?_
          refine pu_ 7 22 HT_ ?_
          refine of_ 8 23 HT_ ?_
          refine of_ 9 24 HT_ ?_
          refine of_ 10 25 HT_ ?_
          refine of_ 11 26 HT_ ?_
          refine of_ 12 27 HT_ ?_
          refine of_ 13 28 HT_ ?_
          refine of_ 14 29 HT_ ?_
          refine of_ 15 30 HT_ ?_
          refine of_ 16 31 HT_ ?_
          refine pu_ 17 32 HT_ ?_
          refine pu_ 18 33 HT_ ?_
          refine pu_ 19 34 HT_ ?_
          refine pu_ 20 35 HT_ ?_
          refine ta_ 21 36 HT_ HW_ hHeld ?_
          refine one_ (i := 22) (N := some 37) #[true, true, true, true, true, true, true, true, true, true, true, true, true, true, true, true, true, true, true, true, true, true, true, false, false, false, false, false, false, false, false, false, false, false, false, false, false, false, false, false, false] rfl rfl (one_of HT_.out B2x3_) (by decide) (fun K hK => ?_)
          refine goes_ Try.func64 B2x3_ rfl #[.int .i64 ((rd_T101 l0 x3_1).f1), .int .i64 0, .int .i64 1000000] (by rfl) rfl rfl B2x1_ ?_
          with_reducible refine (spec_l01In.calls ((rd_T101 l0 x3_1).f1) 0 1000000 true _ A40.out).mono ?_
          rintro e w' ⟨rfl, ⟨nd, rfl⟩⟩
          refine ⟨_, rfl, ?_⟩
          refine hK.out _ _ ⟨(blk_cell BK102.out 0).trans rfl, (blk_cell BK102.out 1).trans rfl, (blk_cell BK102.out 2).trans rfl⟩ (fun hHeld => ?_)
          clear hK K
          refine norm_ (a' := ?_) ?_ ?_
          rotate_left
          ·show Act.put _ (some 37) _ = _
           simp only [Act.put, List.setIfInBounds_toArray, List.set_cons_zero, List.set_cons_succ, i64_w, i32_w]
           rfl
          refine pu_ 23 38 HT_ ?_
          refine pu_ 24 39 HT_ ?_
          refine pu_ 25 40 HT_ ?_
          refine pu_ 26 41 HT_ ?_
          refine ta_ 27 42 HT_ HW_ hHeld ?_
          refine pu_ 28 43 HT_ ?_
          refine pu_ 29 44 HT_ ?_
          refine pu_ 30 45 HT_ ?_
          refine pu_ 31 46 HT_ ?_
          refine pu_ 32 47 HT_ ?_
          refine ta_ 33 48 HT_ HW_ hHeld ?_
          refine pu_ 34 49 HT_ ?_
          refine pu_ 35 50 HT_ ?_
          refine of_ 36 51 HT_ ?_
          refine of_ 37 52 HT_ ?_
          refine of_ 38 53 HT_ ?_
          refine pu_ 39 54 HT_ ?_
          refine pu_ 40 55 HT_ ?_
          refine done_ (done_of HT_.out B2x3_) ?_
          try go_wp2
          go_roundg k1
          case measure => have := HK1.out; omega
          case rel => exact ⟨(wrap64 (x3_1 + 1)), (be_), H', ⟨by have := HK1.out; omega⟩, ⟨by repeat (first | (with_reducible first | exact HB.out | apply below_alloc | apply pw_below_drewN | apply below_drew1 | refine below_set ?_ GE102.out) | exact HB.out)⟩⟩
       ·replace c41 := Bool.eq_false_iff.mpr c41
        subst c41
        rw [if_neg (show ¬ (false = true) by decide)] at H
        obtain rfl := Option.some.inj H
        have p101 : 0 ≤ (x3_1 : Int) := of_decide_eq_true B2x2_
        have q101 : x3_1 < (l0.length : Int) := of_decide_eq_true B2x2_
        obtain ⟨ad101, e101, hx101_0, hx101_1, hx101_2⟩ := at_T101 HR0.out x3_1 p101 q101
        cases e101
        replace hx101_0 := (HB.out.cell (World.block_lt_of_cell? w _ hx101_0)).trans hx101_0
        replace hx101_1 := (HB.out.cell (World.block_lt_of_cell? w _ hx101_1)).trans hx101_1
        replace hx101_2 := (HB.out.cell (World.block_lt_of_cell? w _ hx101_2)).trans hx101_2
        replace p101 := eq_true p101
        replace q101 := eq_true q101
        try go_wp2_with (first | ((with_reducible refine gate_dst (N := 4) rfl ?_); (try (refine gate_guard (by rfl) ?_; dsimp only)); refine box_event ?hg (N := 4) ?hd (cs := #[.int .i64 0, .int .i64 0, .string (⟨#[]⟩ : ByteArray)]) (t := 101) ?hr ?_; (case hd => rfl); (case hg => rfl); (case hr => first | (go_simp; done) | (go_simp; rfl)); intro gb102 hg w61 hbox hb; have n0_ := Aside0.mk (below_step B2x0_ hb); have n1_ := Aside0.mk (hbox); have n2_ := Aside0.mk ((by rw [hg]; exact (below_size B2x0_) : w.heap.size ≤ gb102)); have n3_ := Aside0.mk ((by rw [hg]; exact (below_size B2x0_) : w.heap.size ≤ gb102)); clear HB; have HB := n0_; have BK102 := n1_; have GW102 := n2_; have GE102 := n3_; clear n0_ n1_ n2_ n3_; clear hb hbox hg; obtain ⟨hcz62_0, hcz62_1, hcz62_2⟩ := cl3 BK102.out; obtain ⟨hfz62_0, hfz62_1, hfz62_2⟩ := fr3 BK102.out))
        have n0_ : Aside0 ((((w61.setCell ⟨gb102, 0, none⟩ (.int .i64 ((rd_T101 l0 x3_1).f0))).setCell ⟨gb102, 1, none⟩ (.int .i64 ((rd_T101 l0 x3_1).f1))).setCell ⟨gb102, 2, none⟩ (.string ((rd_T101 l0 x3_1).f2))).heap[gb102]? = some (.cells #[.int .i64 ((rd_T101 l0 x3_1).f0), .int .i64 ((rd_T101 l0 x3_1).f1), .string ((rd_T101 l0 x3_1).f2)] 101 (0, 0))) := ⟨by (with_reducible repeat (first | refine blk_drewN ?_ _ | refine blk_drew ?_ | refine blk_alloc ?_ _)); refine blk_put (cs := #[.int .i64 ((rd_T101 l0 x3_1).f0), .int .i64 ((rd_T101 l0 x3_1).f1), .string (⟨#[]⟩ : ByteArray)]) ?_ 2 _ rfl; (with_reducible repeat (first | refine blk_drewN ?_ _ | refine blk_drew ?_ | refine blk_alloc ?_ _)); refine blk_put (cs := #[.int .i64 ((rd_T101 l0 x3_1).f0), .int .i64 0, .string (⟨#[]⟩ : ByteArray)]) ?_ 1 _ rfl; (with_reducible repeat (first | refine blk_drewN ?_ _ | refine blk_drew ?_ | refine blk_alloc ?_ _)); refine blk_put (cs := #[.int .i64 0, .int .i64 0, .string (⟨#[]⟩ : ByteArray)]) ?_ 0 _ rfl; (with_reducible repeat (first | refine blk_drewN ?_ _ | refine blk_drew ?_ | refine blk_alloc ?_ _)); exact BK102.out⟩
        have n1_ : Aside0 (Below w.heap.size w (((w61.setCell ⟨gb102, 0, none⟩ (.int .i64 ((rd_T101 l0 x3_1).f0))).setCell ⟨gb102, 1, none⟩ (.int .i64 ((rd_T101 l0 x3_1).f1))).setCell ⟨gb102, 2, none⟩ (.string ((rd_T101 l0 x3_1).f2)))) := ⟨by repeat (first | (with_reducible first | exact HB.out | apply below_alloc | apply pw_below_drewN | apply below_drew1 | refine below_set ?_ GE102.out) | exact HB.out)⟩
        (try clear BK102)
        (try clear HB)
        generalize (((w61.setCell ⟨gb102, 0, none⟩ (.int .i64 ((rd_T101 l0 x3_1).f0))).setCell ⟨gb102, 1, none⟩ (.int .i64 ((rd_T101 l0 x3_1).f1))).setCell ⟨gb102, 2, none⟩ (.string ((rd_T101 l0 x3_1).f2))) = w63 at n0_ n1_ ⊢
        have BK102 := n0_
        have HB := n1_
        clear n0_ n1_
        have n0_ := Aside0.mk (blk_drew BK102.out)
        have n1_ := Aside0.mk (below_drew1 HB.out)
        clear BK102
        clear HB
        have BK102 := n0_
        have HB := n1_
        clear n0_ n1_
        refine start_ (n := 41) (S := fun w' => w'.cell? ⟨gb102, 0, none⟩ = some (.int .i64 ((rd_T101 l0 x3_1).f0)) ∧ w'.cell? ⟨gb102, 1, none⟩ = some (.int .i64 ((rd_T101 l0 x3_1).f1)) ∧ w'.cell? ⟨gb102, 2, none⟩ = some (.string ((rd_T101 l0 x3_1).f2))) (ds := []) #[false, false, false, false, false, false, false, false, false, false, false, false, false, false, false, false, false, false, false, false, false, false, false, false, false, false, false, false, false, false, false, false, false, false, false, false, false, false, false, false, false] B2x3_ rfl rfl ⟨(blk_cell BK102.out 0).trans rfl, (blk_cell BK102.out 1).trans rfl, (blk_cell BK102.out 2).trans rfl⟩ (fun hHeld => ?_); refine with_tabW spec_l15Sessions.tab5 spec_l15Sessions.bits5 (fun HT_ HW_ => ?_)
        generalize w63.drew = w64 at BK102 HB hHeld ⊢
        refine pu_ 0 15 HT_ ?_
        refine ta_ 1 16 HT_ HW_ hHeld ?_
        refine one_ (i := 2) (N := some 17) #[true, true, true, false, false, false, false, false, false, false, false, false, false, false, false, false, false, false, false, false, false, false, false, false, false, false, false, false, false, false, false, false, false, false, false, false, false, false, false, false, false] rfl rfl (one_of HT_.out B2x3_) (by decide) (fun K hK => ?_)
        refine goes_ Try.func64 B2x3_ rfl #[.int .i64 ((rd_T101 l0 x3_1).f0), .int .i64 1, .int .i64 1000000] (by rfl) rfl rfl B2x1_ ?_
        with_reducible refine (spec_l01In.calls ((rd_T101 l0 x3_1).f0) 1 1000000 true _ A4.out).mono ?_
        rintro e w' ⟨rfl, ⟨nd, rfl⟩⟩
        refine ⟨_, rfl, ?_⟩
        refine hK.out _ _ ⟨(blk_cell BK102.out 0).trans rfl, (blk_cell BK102.out 1).trans rfl, (blk_cell BK102.out 2).trans rfl⟩ (fun hHeld => ?_)
        clear hK K
        refine norm_ (a' := ?_) ?_ ?_
        rotate_left
        ·show Act.put _ (some 17) _ = _
         simp only [Act.put, List.setIfInBounds_toArray, List.set_cons_zero, List.set_cons_succ, i64_w, i32_w]
         rfl
        refine pu_ 3 18 HT_ ?_
        refine pu_ 4 19 HT_ ?_
        refine pu_ 5 20 HT_ ?_
        refine pu_ 6 21 HT_ ?_
        refine pu_ 7 22 HT_ ?_
        refine of_ 8 23 HT_ ?_
        refine of_ 9 24 HT_ ?_
        refine of_ 10 25 HT_ ?_
        refine of_ 11 26 HT_ ?_
        refine of_ 12 27 HT_ ?_
        refine of_ 13 28 HT_ ?_
        refine of_ 14 29 HT_ ?_
        refine of_ 15 30 HT_ ?_
        refine of_ 16 31 HT_ ?_
        refine pu_ 17 32 HT_ ?_
        refine pu_ 18 33 HT_ ?_
        refine pu_ 19 34 HT_ ?_
        refine pu_ 20 35 HT_ ?_
        refine ta_ 21 36 HT_ HW_ hHeld ?_
        refine one_ (i := 22) (N := some 37) #[true, true, true, true, true, true, true, true, true, true, true, true, true, true, true, true, true, true, true, true, true, true, true, false, false, false, false, false, false, false, false, false, false, false, false, false, false, false, false, false, false] rfl rfl (one_of HT_.out B2x3_) (by decide) (fun K hK => ?_)
        refine goes_ Try.func64 B2x3_ rfl #[.int .i64 ((rd_T101 l0 x3_1).f1), .int .i64 0, .int .i64 1000000] (by rfl) rfl rfl B2x1_ ?_
        with_reducible refine (spec_l01In.calls ((rd_T101 l0 x3_1).f1) 0 1000000 false _ A40.out).mono ?_
        rintro e w' ⟨rfl, ⟨nd, rfl⟩⟩
        refine ⟨_, rfl, ?_⟩
        refine hK.out _ _ ⟨(blk_cell BK102.out 0).trans rfl, (blk_cell BK102.out 1).trans rfl, (blk_cell BK102.out 2).trans rfl⟩ (fun hHeld => ?_)
        clear hK K
        refine norm_ (a' := ?_) ?_ ?_
        rotate_left
        ·show Act.put _ (some 37) _ = _
         simp only [Act.put, List.setIfInBounds_toArray, List.set_cons_zero, List.set_cons_succ, i64_w, i32_w]
         rfl
        refine pu_ 23 38 HT_ ?_
        refine pu_ 24 39 HT_ ?_
        refine pu_ 25 40 HT_ ?_
        refine of_ 26 41 HT_ ?_
        refine of_ 27 42 HT_ ?_
        refine of_ 28 43 HT_ ?_
        refine of_ 29 44 HT_ ?_
        refine pu_ 30 45 HT_ ?_
        refine pu_ 31 46 HT_ ?_
        refine of_ 32 47 HT_ ?_
        refine of_ 33 48 HT_ ?_
        refine of_ 34 49 HT_ ?_
        refine of_ 35 50 HT_ ?_
        refine of_ 36 51 HT_ ?_
        refine of_ 37 52 HT_ ?_
        refine of_ 38 53 HT_ ?_
        refine of_ 39 54 HT_ ?_
        refine pu_ 40 55 HT_ ?_
        refine done_ (done_of HT_.out B2x3_) ?_
        try go_wp2
        go_ret
        exact ⟨by first | rfl | (simp [errW_none, errW_some] <;> rfl) | (simp [*, errW_none, errW_some] <;> rfl), by repeat (first | (with_reducible first | exact HB.out | apply below_alloc | apply pw_below_drewN | apply below_drew1 | refine below_set ?_ GE102.out) | exact HB.out)⟩
     ·replace c5 := Bool.eq_false_iff.mpr c5
      subst c5
      rw [if_neg (show ¬ (false = true) by decide)] at H
      obtain rfl := Option.some.inj H
      have p101 : 0 ≤ (x3_1 : Int) := of_decide_eq_true B2x2_
      have q101 : x3_1 < (l0.length : Int) := of_decide_eq_true B2x2_
      obtain ⟨ad101, e101, hx101_0, hx101_1, hx101_2⟩ := at_T101 HR0.out x3_1 p101 q101
      cases e101
      replace hx101_0 := (HB.out.cell (World.block_lt_of_cell? w _ hx101_0)).trans hx101_0
      replace hx101_1 := (HB.out.cell (World.block_lt_of_cell? w _ hx101_1)).trans hx101_1
      replace hx101_2 := (HB.out.cell (World.block_lt_of_cell? w _ hx101_2)).trans hx101_2
      replace p101 := eq_true p101
      replace q101 := eq_true q101
      try go_wp2_with (first | ((with_reducible refine gate_dst (N := 4) rfl ?_); (try (refine gate_guard (by rfl) ?_; dsimp only)); refine box_event ?hg (N := 4) ?hd (cs := #[.int .i64 0, .int .i64 0, .string (⟨#[]⟩ : ByteArray)]) (t := 101) ?hr ?_; (case hd => rfl); (case hg => rfl); (case hr => first | (go_simp; done) | (go_simp; rfl)); intro gb102 hg w65 hbox hb; have n0_ := Aside0.mk (below_step B2x0_ hb); have n1_ := Aside0.mk (hbox); have n2_ := Aside0.mk ((by rw [hg]; exact (below_size B2x0_) : w.heap.size ≤ gb102)); have n3_ := Aside0.mk ((by rw [hg]; exact (below_size B2x0_) : w.heap.size ≤ gb102)); clear HB; have HB := n0_; have BK102 := n1_; have GW102 := n2_; have GE102 := n3_; clear n0_ n1_ n2_ n3_; clear hb hbox hg; obtain ⟨hcz66_0, hcz66_1, hcz66_2⟩ := cl3 BK102.out; obtain ⟨hfz66_0, hfz66_1, hfz66_2⟩ := fr3 BK102.out))
      have n0_ : Aside0 ((((w65.setCell ⟨gb102, 0, none⟩ (.int .i64 ((rd_T101 l0 x3_1).f0))).setCell ⟨gb102, 1, none⟩ (.int .i64 ((rd_T101 l0 x3_1).f1))).setCell ⟨gb102, 2, none⟩ (.string ((rd_T101 l0 x3_1).f2))).heap[gb102]? = some (.cells #[.int .i64 ((rd_T101 l0 x3_1).f0), .int .i64 ((rd_T101 l0 x3_1).f1), .string ((rd_T101 l0 x3_1).f2)] 101 (0, 0))) := ⟨by (with_reducible repeat (first | refine blk_drewN ?_ _ | refine blk_drew ?_ | refine blk_alloc ?_ _)); refine blk_put (cs := #[.int .i64 ((rd_T101 l0 x3_1).f0), .int .i64 ((rd_T101 l0 x3_1).f1), .string (⟨#[]⟩ : ByteArray)]) ?_ 2 _ rfl; (with_reducible repeat (first | refine blk_drewN ?_ _ | refine blk_drew ?_ | refine blk_alloc ?_ _)); refine blk_put (cs := #[.int .i64 ((rd_T101 l0 x3_1).f0), .int .i64 0, .string (⟨#[]⟩ : ByteArray)]) ?_ 1 _ rfl; (with_reducible repeat (first | refine blk_drewN ?_ _ | refine blk_drew ?_ | refine blk_alloc ?_ _)); refine blk_put (cs := #[.int .i64 0, .int .i64 0, .string (⟨#[]⟩ : ByteArray)]) ?_ 0 _ rfl; (with_reducible repeat (first | refine blk_drewN ?_ _ | refine blk_drew ?_ | refine blk_alloc ?_ _)); exact BK102.out⟩
      have n1_ : Aside0 (Below w.heap.size w (((w65.setCell ⟨gb102, 0, none⟩ (.int .i64 ((rd_T101 l0 x3_1).f0))).setCell ⟨gb102, 1, none⟩ (.int .i64 ((rd_T101 l0 x3_1).f1))).setCell ⟨gb102, 2, none⟩ (.string ((rd_T101 l0 x3_1).f2)))) := ⟨by repeat (first | (with_reducible first | exact HB.out | apply below_alloc | apply pw_below_drewN | apply below_drew1 | refine below_set ?_ GE102.out) | exact HB.out)⟩
      (try clear BK102)
      (try clear HB)
      generalize (((w65.setCell ⟨gb102, 0, none⟩ (.int .i64 ((rd_T101 l0 x3_1).f0))).setCell ⟨gb102, 1, none⟩ (.int .i64 ((rd_T101 l0 x3_1).f1))).setCell ⟨gb102, 2, none⟩ (.string ((rd_T101 l0 x3_1).f2))) = w67 at n0_ n1_ ⊢
      have BK102 := n0_
      have HB := n1_
      clear n0_ n1_
      have n0_ := Aside0.mk (blk_drew BK102.out)
      have n1_ := Aside0.mk (below_drew1 HB.out)
      clear BK102
      clear HB
      have BK102 := n0_
      have HB := n1_
      clear n0_ n1_
      refine start_ (n := 41) (S := fun w' => w'.cell? ⟨gb102, 0, none⟩ = some (.int .i64 ((rd_T101 l0 x3_1).f0)) ∧ w'.cell? ⟨gb102, 1, none⟩ = some (.int .i64 ((rd_T101 l0 x3_1).f1)) ∧ w'.cell? ⟨gb102, 2, none⟩ = some (.string ((rd_T101 l0 x3_1).f2))) (ds := []) #[false, false, false, false, false, false, false, false, false, false, false, false, false, false, false, false, false, false, false, false, false, false, false, false, false, false, false, false, false, false, false, false, false, false, false, false, false, false, false, false, false] B2x3_ rfl rfl ⟨(blk_cell BK102.out 0).trans rfl, (blk_cell BK102.out 1).trans rfl, (blk_cell BK102.out 2).trans rfl⟩ (fun hHeld => ?_); refine with_tabW spec_l15Sessions.tab5 spec_l15Sessions.bits5 (fun HT_ HW_ => ?_)
      generalize w67.drew = w68 at BK102 HB hHeld ⊢
      refine pu_ 0 15 HT_ ?_
      refine ta_ 1 16 HT_ HW_ hHeld ?_
      refine one_ (i := 2) (N := some 17) #[true, true, true, false, false, false, false, false, false, false, false, false, false, false, false, false, false, false, false, false, false, false, false, false, false, false, false, false, false, false, false, false, false, false, false, false, false, false, false, false, false] rfl rfl (one_of HT_.out B2x3_) (by decide) (fun K hK => ?_)
      refine goes_ Try.func64 B2x3_ rfl #[.int .i64 ((rd_T101 l0 x3_1).f0), .int .i64 1, .int .i64 1000000] (by rfl) rfl rfl B2x1_ ?_
      with_reducible refine (spec_l01In.calls ((rd_T101 l0 x3_1).f0) 1 1000000 false _ A4.out).mono ?_
      rintro e w' ⟨rfl, ⟨nd, rfl⟩⟩
      refine ⟨_, rfl, ?_⟩
      refine hK.out _ _ ⟨(blk_cell BK102.out 0).trans rfl, (blk_cell BK102.out 1).trans rfl, (blk_cell BK102.out 2).trans rfl⟩ (fun hHeld => ?_)
      clear hK K
      refine norm_ (a' := ?_) ?_ ?_
      rotate_left
      ·show Act.put _ (some 17) _ = _
       simp only [Act.put, List.setIfInBounds_toArray, List.set_cons_zero, List.set_cons_succ, i64_w, i32_w]
       rfl
      refine pu_ 3 18 HT_ ?_
      refine pu_ 4 19 HT_ ?_
      refine of_ 5 20 HT_ ?_
      refine of_ 6 21 HT_ ?_
      refine of_ 7 22 HT_ ?_
      refine of_ 8 23 HT_ ?_
      refine of_ 9 24 HT_ ?_
      refine of_ 10 25 HT_ ?_
      refine of_ 11 26 HT_ ?_
      refine of_ 12 27 HT_ ?_
      refine of_ 13 28 HT_ ?_
      refine of_ 14 29 HT_ ?_
      refine of_ 15 30 HT_ ?_
      refine of_ 16 31 HT_ ?_
      refine of_ 17 32 HT_ ?_
      refine pu_ 18 33 HT_ ?_
      refine pu_ 19 34 HT_ ?_
      refine of_ 20 35 HT_ ?_
      refine of_ 21 36 HT_ ?_
      refine of_ 22 37 HT_ ?_
      refine of_ 23 38 HT_ ?_
      refine pu_ 24 39 HT_ ?_
      refine pu_ 25 40 HT_ ?_
      refine of_ 26 41 HT_ ?_
      refine of_ 27 42 HT_ ?_
      refine of_ 28 43 HT_ ?_
      refine of_ 29 44 HT_ ?_
      refine pu_ 30 45 HT_ ?_
      refine pu_ 31 46 HT_ ?_
      refine of_ 32 47 HT_ ?_
      refine of_ 33 48 HT_ ?_
      refine of_ 34 49 HT_ ?_
      refine of_ 35 50 HT_ ?_
      refine of_ 36 51 HT_ ?_
      refine of_ 37 52 HT_ ?_
      refine of_ 38 53 HT_ ?_
      refine of_ 39 54 HT_ ?_
      refine pu_ 40 55 HT_ ?_
      refine done_ (done_of HT_.out B2x3_) ?_
      try go_wp2
      go_ret
      exact ⟨by first | rfl | (simp [errW_none, errW_some] <;> rfl) | (simp [*, errW_none, errW_some] <;> rfl), by repeat (first | (with_reducible first | exact HB.out | apply below_alloc | apply pw_below_drewN | apply below_drew1 | refine below_set ?_ GE102.out) | exact HB.out)⟩
    ·rw [if_neg c3] at H
     exact absurd H (by simp)
   ·rw [if_neg c2] at H
    have c2b0 : decide (x3_1 < (l0.length : Int)) = false := decide_eq_false c2
    clear c2
    obtain rfl := Option.some.inj H
    go_wp2
    go_ret
    exact ⟨by first | rfl | (simp [errW_none, errW_some] <;> rfl) | (simp [*, errW_none, errW_some] <;> rfl), by repeat (first | (with_reducible first | exact HB.out | apply below_alloc | apply pw_below_drewN | apply below_drew1) | exact HB.out)⟩

end Go.Proofs.Ythgjcijcmacpmaa.QFnExactReadKeep
