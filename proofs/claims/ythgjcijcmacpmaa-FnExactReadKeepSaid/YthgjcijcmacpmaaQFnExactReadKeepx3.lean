/- Functions that a law reaches, as functions of Lean, and the walks that show that the calls come to their answers: written by a program of this project out of the translation. No condition. -/
import Derived.Test.YthgjcijcmacpmaaQFnExactReadKeepx0
import Derived.Test.YthgjcijcmacpmaaQFnExactReadKeepx1
import Derived.Test.YthgjcijcmacpmaaQFnExactReadKeepx2
import Derived.Laws.Cover1
import Derived.Test.YthgjcijcmacpmaaVFnExactReadKeephort3
import Derived.Test.YthgjcijcmacpmaaVFnExactReadKeepShort2
import Derived.Test.YthgjcijcmacpmaaVFnExactReadKeepShort
namespace Go.Proofs.Ythgjcijcmacpmaa.QFnExactReadKeep
open Go.RowKit Go.Proofs.YthgjcijcmacpmaaW.PrintWords Go.Proofs.YthgjcijcmacpmaaW.PrintLast Go.Proofs.YthgjcijcmacpmaaW.PrintMore Go.Proofs.Ythgjcijcmacpmaa.Short
attribute [local go_sem] max2_int min2_int max_two min_two max_three min_three max_four min_four   -- for this text's walks alone
set_option linter.unusedVariables false
set_option linter.unusedSimpArgs false

theorem B3x0_ {p : Prop} (h : p := by repeat (first | (with_reducible first | exact HB.out | apply below_alloc | apply pw_below_drewN | apply below_drew1 | refine below_set ?_ GE107.out) | exact HB.out)) : p := h
theorem B3x1_ {p : Prop} (h : p := by (with_reducible repeat (first | refine blk_drewN ?_ _ | refine blk_drew ?_ | refine blk_alloc ?_ _)); exact BK107.out) : p := h
theorem B3x2_ {p : Prop} (h : p := by (try simp only [List.map_toArray, List.map_cons, List.map_nil]); first | done | rfl | (simp only [List.length_drop, List.length_take]; rfl)) : p := h
theorem B3x3_ {p : Prop} (h : p := by first | (with_reducible assumption) | assumption) : p := h
theorem B3x4_ {p : Prop} (h : p := by kernel_rfl) : p := h
theorem B3x5_ {p : Prop} (h : p := by repeat (first | (with_reducible first | exact HB.out | apply below_alloc | apply pw_below_drewN | apply below_drew1) | exact HB.out)) : p := h
theorem B3x6_ {p : Prop} (h : p := by injection e112) : p := h
/-! ### spec_KeepOk: function 54 -/
def spec_KeepOk.l0 : Nat → Int → List (S101) → List (S104) → Option (Bool)
 | 0, _, _, _ => none
 | k + 1, x3, x108000, x108001 => if x3 < (x108001.length : Int) then (if 0 ≤ x3 then ((spec_l01In.f (((rd_T104 x108001 x3).f0).size : Int) 1 8).bind fun t111 => (if t111 = true then (if x3 > 0 then (if 0 ≤ (wrap64 (x3 - 1)) then (if (wrap64 (x3 - 1)) < (x108001.length : Int) then (if ((Op.bytesLess (((rd_T104 x108001 (wrap64 (x3 - 1))).f0).toList) (((rd_T104 x108001 x3).f0).toList)) = true) then (if (((rd_T104 x108001 x3).f1).size : Int) > 20 then (some false) else ((spec_l01In.f ((rd_T104 x108001 x3).f2) 1 1000000000).bind fun t113 => (if t113 = true then (spec_KeepOk.l0 k (wrap64 (x3 + 1)) x108000 x108001) else (some false)))) else (some false)) else (none)) else (none)) else (if (((rd_T104 x108001 x3).f1).size : Int) > 20 then (some false) else ((spec_l01In.f ((rd_T104 x108001 x3).f2) 1 1000000000).bind fun t114 => (if t114 = true then (spec_KeepOk.l0 k (wrap64 (x3 + 1)) x108000 x108001) else (some false))))) else (some false))) else (none)) else ((spec_l15Sessions.f k x108000).bind fun t108 => (if t108 = true then (some (decide ((x108001.length : Int) ≤ 8))) else (some false)))
def spec_KeepOk.f (k : Nat) (l0_0 : List (S101)) (l0_1 : List (S104)) : Option (Bool) := spec_KeepOk.l0 k 0 l0_0 l0_1
theorem spec_KeepOk.mono_l : ∀ k, (∀ y0 y1 y2, LeO (spec_KeepOk.l0 k y0 y1 y2) (spec_KeepOk.l0 (k + 1) y0 y1 y2))
 | 0 => fun _ _ _ r h => by simp [spec_KeepOk.l0] at h
 | k + 1 => by
  have ih0 := spec_KeepOk.mono_l k
  ·intro y0 y1 y2
   unfold spec_KeepOk.l0
   repeat' first
   | (with_reducible exact ih0 _ _ _)
   | (with_reducible exact spec_l15Sessions.mono _ _)
   | (with_reducible exact LeO.refl _)
   | (with_reducible exact LeO.none _)
   | (with_reducible refine LeO.ite ?_ ?_)
   | (with_reducible refine LeO.bind ?_ (fun _ => ?_))
   | exact ih0 _ _ _
   | exact spec_l15Sessions.mono _ _
   | exact LeO.none _
   | refine LeO.ite ?_ ?_
   | refine LeO.bind ?_ (fun _ => ?_)
theorem spec_KeepOk.mono : ∀ a0 a1 k, LeO (spec_KeepOk.f k a0 a1) (spec_KeepOk.f (k + 1) a0 a1) := by
 intro a0 a1 k
 have ih0 := spec_KeepOk.mono_l k
 unfold spec_KeepOk.f
 repeat' first
   | (with_reducible exact ih0 _ _ _)
   | (with_reducible exact spec_l15Sessions.mono _ _)
   | (with_reducible exact LeO.refl _)
   | (with_reducible exact LeO.none _)
   | (with_reducible refine LeO.ite ?_ ?_)
   | (with_reducible refine LeO.bind ?_ (fun _ => ?_))
   | exact ih0 _ _ _
   | exact spec_l15Sessions.mono _ _
   | exact LeO.none _
   | refine LeO.ite ?_ ?_
   | refine LeO.bind ?_ (fun _ => ?_)
def spec_KeepOk.T5 : Bool × List (List Nat × List Nat) := (true, [([], []), ([0], [0]), ([1], [1]), ([2], [2]), ([3], [3]), ([4, 3], [4]), ([5], [5]), ([6, 5], [5, 6]), ([7, 5, 5], [5, 7]), ([8], [8]), ([9, 8], [8, 9]), ([8], [8]), ([11, 8], [8, 11]), ([10, 12, 8], [8, 10, 12]), ([13, 8], [8, 13]), ([14, 8], [8, 14]), ([8], [8]), ([16, 8], [8, 16]), ([15, 17, 8], [8, 15, 17]), ([8, 18, 5], [5, 8, 18]), ([5, 19], [5, 19]), ([20, 8], [20]), ([21], [21]), ([22, 21], [21, 22]), ([23, 21], [21, 23]), ([24, 21], [21, 24]), ([21, 25], [21, 25]), ([26, 21], [26]), ([27], [27]), ([28, 27], [27, 28]), ([29, 27, 27], [27, 29]), ([30, 27], [27, 30]), ([27, 31], [27, 31])])
def spec_KeepOk.B5 : List Nat := [0, 1, 3, 7, 15, 31, 63, 127, 255, 511, 1023, 511, 2559, 8191, 16383, 32767, 511, 66047, 262143, 524287, 1048575, 2097151, 4194303, 8388607, 16777215, 33554431, 67108863, 134217727, 268435455, 536870911, 1073741823, 2147483647, 4294967295]
theorem spec_KeepOk.tab5 : rtab .any (opsOf Try.f54 5) = spec_KeepOk.T5 := by kernel_rfl
theorem spec_KeepOk.bits5 : waitsOk spec_KeepOk.T5.2 spec_KeepOk.B5 = true := by kernel_rfl
set_option maxHeartbeats 8000000 in
set_option maxRecDepth 100000 in
theorem spec_KeepOk.calls (k : Nat) (A0_0 : Option Addr) (c0_0 : Nat) (l0_0 : List (S101)) (A0_1 : Option Addr) (c0_1 : Nat) (l0_1 : List (S104)) (r : Bool) (w : World) (hr0_0 : Kd.C k101 w A0_0 l0_0.length l0_0) (hc0_0 : l0_0.length ≤ c0_0) (hr0_1 : Kd.C k104 w A0_1 l0_1.length l0_1) (hc0_1 : l0_1.length ≤ c0_1) (h : spec_KeepOk.f k l0_0 l0_1 = some r) :
  Calls Try.prog 54 #[.agg #[.slice A0_0 l0_0.length c0_0, .slice A0_1 l0_1.length c0_1]] w fun e w' => e = .returned (.bool r) ∧ Below w.heap.size w w' := by
 have hu37 := Try.underlying37
 have hu104 := Try.underlying104
 have HR0_0 := Aside0.mk hr0_0
 have HC0_0 := Aside0.mk hc0_0
 clear hr0_0 hc0_0
 have HR0_1 := Aside0.mk hr0_1
 have HC0_1 := Aside0.mk hc0_1
 clear hr0_1 hc0_1
 have HB := Aside0.mk (Below.refl w.heap.size w)
 have H : (spec_KeepOk.l0 k 0 l0_0 l0_1) = some r := h
 clear h
 have H' := Aside0.mk H
 clear H
 go_enter Try.func54, Try.ntmps54
 go_wp2_with (first | ((with_reducible refine gate_dst (N := 1) rfl ?_); (try (refine gate_guard (by rfl) ?_; dsimp only)); refine box_event ?hg (N := 1) ?hd (cs := #[.slice A0_0 l0_0.length c0_0, .slice A0_1 l0_1.length c0_1]) (t := 37) ?hr ?_; (case hd => rfl); (case hg => rfl); (case hr => first | (go_simp; done) | (go_simp; rfl)); intro gb107 hg w2 hbox hb; have n0_ := Aside0.mk (below_step B3x5_ hb); have n1_ := Aside0.mk (hbox); have n2_ := Aside0.mk ((by rw [hg]; exact (below_size B3x5_) : w.heap.size ≤ gb107)); have n3_ := Aside0.mk ((by rw [hg]; exact (below_size B3x5_) : w.heap.size ≤ gb107)); clear HB; have HB := n0_; have BK107 := n1_; have GW107 := n2_; have GE107 := n3_; clear n0_ n1_ n2_ n3_; clear hb hbox hg))
 go_loopg [3] k (fun kq v3 w' => ∃ (x3_1 : Int), v3 = .int .i64 x3_1 ∧ Aside0 (spec_KeepOk.l0 kq x3_1 l0_0 l0_1 = some r) ∧ Aside0 (kq ≤ k) ∧ Aside0 (w'.heap[gb107]? = some (.cells #[(.slice A0_0 l0_0.length c0_0), (.slice A0_1 l0_1.length c0_1)] 37 (0, 0))) ∧ Aside0 (Below w.heap.size w w'))
 case atStart => exact ⟨(0), (be_), H', ⟨Nat.le_refl _⟩, ⟨by (with_reducible repeat (first | refine blk_drewN ?_ _ | refine blk_drew ?_ | refine blk_alloc ?_ _)); exact BK107.out⟩, ⟨by repeat (first | (with_reducible first | exact HB.out | apply below_alloc | apply pw_below_drewN | apply below_drew1 | refine below_set ?_ GE107.out) | exact HB.out)⟩⟩
 case round =>
  clear H'
  try clear p2
  obtain ⟨x3_1, rfl, HA, HK1, BK107, HB⟩ := hrel
  cases gk with
  | zero => exact absurd HA.out (by simp [spec_KeepOk.l0])
  | succ k1 =>
   have H := HA.out
   clear HA
   simp only [spec_KeepOk.l0] at H
   by_cases c3 : x3_1 < (l0_1.length : Int)
   ·rw [if_pos c3] at H
    have c3b0 : decide (x3_1 < (l0_1.length : Int)) = true := decide_eq_true c3
    clear c3
    by_cases c4 : 0 ≤ x3_1
    ·rw [if_pos c4] at H
     have c4b0 : decide (0 ≤ x3_1) = true := decide_eq_true c4
     clear c4
     replace H := Option.bind_eq_some_iff.mp H
     obtain ⟨t111, A50, H⟩ := H
     (try dsimp only at H)
     have A5 := Aside0.mk A50
     clear A50
     by_cases c6 : t111 = true
     ·subst c6
      rw [if_pos rfl] at H
      by_cases c7 : x3_1 > 0
      ·rw [if_pos c7] at H
       have c7b0 : decide (0 < x3_1) = true := decide_eq_true c7
       clear c7
       obtain ⟨ji8, hji8⟩ : ∃ j_ : Int, (wrap64 (x3_1 - 1)) = j_ := ⟨_, rfl⟩
       replace H : (if 0 ≤ (ji8) then (if (ji8) < (l0_1.length : Int) then (if ((Op.bytesLess (((rd_T104 l0_1 (ji8)).f0).toList) (((rd_T104 l0_1 x3_1).f0).toList)) = true) then (if (((rd_T104 l0_1 x3_1).f1).size : Int) > 20 then (some false) else ((spec_l01In.f ((rd_T104 l0_1 x3_1).f2) 1 1000000000).bind fun t113 => (if t113 = true then (spec_KeepOk.l0 k1 (wrap64 (x3_1 + 1)) l0_0 l0_1) else (some false)))) else (some false)) else (none)) else (none)) = some r := by first | (rw [hji8] at H; exact H) | (simp only [hji8] at H ⊢; exact H)
       (try rw [hji8] at A5)
       have hji8w : (IntKind.i64.wrap (x3_1 - 1)) = ji8 := (i64_w _).trans hji8
       by_cases c9 : 0 ≤ (ji8)
       ·rw [if_pos c9] at H
        have c9b0 : decide (0 ≤ (ji8)) = true := decide_eq_true c9
        clear c9
        by_cases c10 : (ji8) < (l0_1.length : Int)
        ·rw [if_pos c10] at H
         have c10b0 : decide ((ji8) < (l0_1.length : Int)) = true := decide_eq_true c10
         clear c10
         by_cases c11 : ((Op.bytesLess (((rd_T104 l0_1 (ji8)).f0).toList) (((rd_T104 l0_1 x3_1).f0).toList)) = true)
         ·rw [if_pos c11] at H
          have c11b0 : (Op.bytesLess (((rd_T104 l0_1 (ji8)).f0).toList) (((rd_T104 l0_1 x3_1).f0).toList)) = true := c11
          clear c11
          by_cases c12 : (((rd_T104 l0_1 x3_1).f1).size : Int) > 20
          ·rw [if_pos c12] at H
           have c12b0 : decide (20 < (((rd_T104 l0_1 x3_1).f1).size : Int)) = true := decide_eq_true c12
           have c12b1 : decide (20 < ((rd_T104 l0_1 x3_1).f1).size) = true := decide_eq_true (by omega)
           clear c12
           obtain rfl := Option.some.inj H
           obtain ⟨hcz13_0, hcz13_1⟩ := cl2 BK107.out
           obtain ⟨hfz13_0, hfz13_1⟩ := fr2 BK107.out
           have p109 : 0 ≤ (x3_1 : Int) := of_decide_eq_true B3x3_
           have q109 : x3_1 < (l0_1.length : Int) := of_decide_eq_true B3x3_
           obtain ⟨ad109, e109, hx109_0, hx109_1, hx109_2⟩ := at_T104 HR0_1.out x3_1 p109 q109
           cases e109
           replace hx109_0 := (HB.out.cell (World.block_lt_of_cell? w _ hx109_0)).trans hx109_0
           replace hx109_1 := (HB.out.cell (World.block_lt_of_cell? w _ hx109_1)).trans hx109_1
           replace hx109_2 := (HB.out.cell (World.block_lt_of_cell? w _ hx109_2)).trans hx109_2
           replace p109 := eq_true p109
           replace q109 := eq_true q109
           try go_wp2_with (first | ((with_reducible refine gate_dst (N := 4) rfl ?_); (try (refine gate_guard (by rfl) ?_; dsimp only)); refine box_event ?hg (N := 4) ?hd (cs := #[.string (⟨#[]⟩ : ByteArray), .string (⟨#[]⟩ : ByteArray), .int .i64 0]) (t := 104) ?hr ?_; (case hd => rfl); (case hg => rfl); (case hr => first | (go_simp; done) | (go_simp; rfl)); intro gb110 hg w14 hbox hb; have n0_ := Aside0.mk (blk_below (g := gb107) (o := .cells #[.slice A0_0 l0_0.length c0_0, .slice (some ad109) l0_1.length c0_1] 37 (0, 0)) B3x1_ hb); have n1_ := Aside0.mk (below_step B3x0_ hb); have n2_ := Aside0.mk (hbox); have n3_ := Aside0.mk ((by rw [hg]; exact (below_size B3x0_) : w.heap.size ≤ gb110)); have n4_ := Aside0.mk ((by rw [hg]; exact (below_size B3x0_) : w.heap.size ≤ gb110)); have n5_ := Aside0.mk ((by rw [hg]; exact Nat.ne_of_lt (blk_lt (g := gb107) (o := .cells #[.slice A0_0 l0_0.length c0_0, .slice (some ad109) l0_1.length c0_1] 37 (0, 0)) B3x1_) : gb107 ≠ gb110)); have n6_ := Aside0.mk ((by rw [hg]; exact Nat.ne_of_gt (blk_lt (g := gb107) (o := .cells #[.slice A0_0 l0_0.length c0_0, .slice (some ad109) l0_1.length c0_1] 37 (0, 0)) B3x1_) : gb110 ≠ gb107)); clear BK107; clear HB; have BK107 := n0_; have HB := n1_; have BK110 := n2_; have GW110 := n3_; have GE110 := n4_; have NB107_110 := n5_; have NB110_107 := n6_; clear n0_ n1_ n2_ n3_ n4_ n5_ n6_; clear hb hbox hg; have hnb15 := NB110_107.out; have hnc15 := NB107_110.out; obtain ⟨hcz16_0, hcz16_1, hcz16_2⟩ := cl3 BK110.out; obtain ⟨hfz16_0, hfz16_1, hfz16_2⟩ := fr3 BK110.out))
           have n0_ : Aside0 ((((w14.setCell ⟨gb110, 0, none⟩ (.string ((rd_T104 l0_1 x3_1).f0))).setCell ⟨gb110, 1, none⟩ (.string ((rd_T104 l0_1 x3_1).f1))).setCell ⟨gb110, 2, none⟩ (.int .i64 ((rd_T104 l0_1 x3_1).f2))).heap[gb107]? = some (.cells #[.slice A0_0 l0_0.length c0_0, .slice (some ad109) l0_1.length c0_1] 37 (0, 0))) := ⟨by (with_reducible repeat (first | refine blk_drewN ?_ _ | refine blk_drew ?_ | refine blk_alloc ?_ _)); refine blk_far ?_ NB107_110.out _; (with_reducible repeat (first | refine blk_drewN ?_ _ | refine blk_drew ?_ | refine blk_alloc ?_ _)); refine blk_far ?_ NB107_110.out _; (with_reducible repeat (first | refine blk_drewN ?_ _ | refine blk_drew ?_ | refine blk_alloc ?_ _)); refine blk_far ?_ NB107_110.out _; (with_reducible repeat (first | refine blk_drewN ?_ _ | refine blk_drew ?_ | refine blk_alloc ?_ _)); exact BK107.out⟩
           have n1_ : Aside0 ((((w14.setCell ⟨gb110, 0, none⟩ (.string ((rd_T104 l0_1 x3_1).f0))).setCell ⟨gb110, 1, none⟩ (.string ((rd_T104 l0_1 x3_1).f1))).setCell ⟨gb110, 2, none⟩ (.int .i64 ((rd_T104 l0_1 x3_1).f2))).heap[gb110]? = some (.cells #[.string ((rd_T104 l0_1 x3_1).f0), .string ((rd_T104 l0_1 x3_1).f1), .int .i64 ((rd_T104 l0_1 x3_1).f2)] 104 (0, 0))) := ⟨by (with_reducible repeat (first | refine blk_drewN ?_ _ | refine blk_drew ?_ | refine blk_alloc ?_ _)); refine blk_put (cs := #[.string ((rd_T104 l0_1 x3_1).f0), .string ((rd_T104 l0_1 x3_1).f1), .int .i64 0]) ?_ 2 _ rfl; (with_reducible repeat (first | refine blk_drewN ?_ _ | refine blk_drew ?_ | refine blk_alloc ?_ _)); refine blk_put (cs := #[.string ((rd_T104 l0_1 x3_1).f0), .string (⟨#[]⟩ : ByteArray), .int .i64 0]) ?_ 1 _ rfl; (with_reducible repeat (first | refine blk_drewN ?_ _ | refine blk_drew ?_ | refine blk_alloc ?_ _)); refine blk_put (cs := #[.string (⟨#[]⟩ : ByteArray), .string (⟨#[]⟩ : ByteArray), .int .i64 0]) ?_ 0 _ rfl; (with_reducible repeat (first | refine blk_drewN ?_ _ | refine blk_drew ?_ | refine blk_alloc ?_ _)); exact BK110.out⟩
           have n2_ : Aside0 (Below w.heap.size w (((w14.setCell ⟨gb110, 0, none⟩ (.string ((rd_T104 l0_1 x3_1).f0))).setCell ⟨gb110, 1, none⟩ (.string ((rd_T104 l0_1 x3_1).f1))).setCell ⟨gb110, 2, none⟩ (.int .i64 ((rd_T104 l0_1 x3_1).f2)))) := ⟨by repeat (first | (with_reducible first | exact HB.out | apply below_alloc | apply pw_below_drewN | apply below_drew1 | refine below_set ?_ GE107.out | refine below_set ?_ GE110.out) | exact HB.out)⟩
           (try clear BK107)
           (try clear BK110)
           (try clear HB)
           generalize (((w14.setCell ⟨gb110, 0, none⟩ (.string ((rd_T104 l0_1 x3_1).f0))).setCell ⟨gb110, 1, none⟩ (.string ((rd_T104 l0_1 x3_1).f1))).setCell ⟨gb110, 2, none⟩ (.int .i64 ((rd_T104 l0_1 x3_1).f2))) = w17 at n0_ n1_ n2_ ⊢
           have BK107 := n0_
           have BK110 := n1_
           have HB := n2_
           clear n0_ n1_ n2_
           have n0_ := Aside0.mk (blk_drew BK107.out)
           have n1_ := Aside0.mk (blk_drew BK110.out)
           have n2_ := Aside0.mk (below_drew1 HB.out)
           clear BK107
           clear BK110
           clear HB
           have BK107 := n0_
           have BK110 := n1_
           have HB := n2_
           clear n0_ n1_ n2_
           have p112 : 0 ≤ ((ji8) : Int) := of_decide_eq_true B3x3_
           have q112 : (ji8) < (l0_1.length : Int) := of_decide_eq_true B3x3_
           obtain ⟨ad112, e112, hx112_0, hx112_1, hx112_2⟩ := at_T104 HR0_1.out (ji8) p112 q112
           have hw112_2 := hx112_2
           have hw112_1 := hx112_1
           have hw112_0 := hx112_0
           obtain rfl : ad109 = ad112 := B3x6_
           replace hx112_0 := (HB.out.cell (World.block_lt_of_cell? w _ hx112_0)).trans hx112_0
           replace hx112_1 := (HB.out.cell (World.block_lt_of_cell? w _ hx112_1)).trans hx112_1
           replace hx112_2 := (HB.out.cell (World.block_lt_of_cell? w _ hx112_2)).trans hx112_2
           replace p112 := eq_true p112
           replace q112 := eq_true q112
           refine start_ (n := 33) (S := fun w' => w'.cell? ⟨gb110, 0, none⟩ = some (.string ((rd_T104 l0_1 x3_1).f0)) ∧ w'.cell? ⟨gb110, 1, none⟩ = some (.string ((rd_T104 l0_1 x3_1).f1)) ∧ w'.cell? ⟨gb110, 2, none⟩ = some (.int .i64 ((rd_T104 l0_1 x3_1).f2)) ∧ w'.cell? ⟨gb107, 0, none⟩ = some (.slice A0_0 l0_0.length c0_0) ∧ w'.cell? ⟨gb107, 1, none⟩ = some (.slice (some ad109) l0_1.length c0_1) ∧ w'.cell? (ad109.add (((ji8)).toNat * 3)) = some (.string ((rd_T104 l0_1 (ji8)).f0)) ∧ w'.cell? ⟨(ad109.add (((ji8)).toNat * 3)).block, (ad109.add (((ji8)).toNat * 3)).off + 1, none⟩ = some (.string ((rd_T104 l0_1 (ji8)).f1)) ∧ w'.cell? ⟨(ad109.add (((ji8)).toNat * 3)).block, (ad109.add (((ji8)).toNat * 3)).off + 2, none⟩ = some (.int .i64 ((rd_T104 l0_1 (ji8)).f2))) (ds := []) #[false, false, false, false, false, false, false, false, false, false, false, false, false, false, false, false, false, false, false, false, false, false, false, false, false, false, false, false, false, false, false, false, false] B3x4_ rfl rfl ⟨(blk_cell BK110.out 0).trans rfl, (blk_cell BK110.out 1).trans rfl, (blk_cell BK110.out 2).trans rfl, (blk_cell BK107.out 0).trans rfl, (blk_cell BK107.out 1).trans rfl, ((HB.out.cell (World.block_lt_of_cell? w _ hw112_0)).trans hw112_0), ((HB.out.cell (World.block_lt_of_cell? w _ hw112_1)).trans hw112_1), ((HB.out.cell (World.block_lt_of_cell? w _ hw112_2)).trans hw112_2)⟩ (fun hHeld => ?_); refine with_tabW spec_KeepOk.tab5 spec_KeepOk.bits5 (fun HT_ HW_ => ?_)
           generalize w17.drew = w18 at BK107 BK110 HB hx112_0 hx112_1 hx112_2 hHeld ⊢
           refine pu_ 0 17 HT_ ?_
           refine ta_ 1 18 HT_ HW_ hHeld ?_
           refine pu_ 2 19 HT_ ?_
           refine one_ (i := 3) (N := some 20) #[true, true, true, true, false, false, false, false, false, false, false, false, false, false, false, false, false, false, false, false, false, false, false, false, false, false, false, false, false, false, false, false, false] rfl rfl (one_of HT_.out B3x4_) (by decide) (fun K hK => ?_)
           refine goes_ Try.func64 B3x4_ rfl #[.int .i64 (((rd_T104 l0_1 x3_1).f0).size : Int), .int .i64 1, .int .i64 8] (by rfl) rfl rfl B3x2_ ?_
           with_reducible refine (spec_l01In.calls (((rd_T104 l0_1 x3_1).f0).size : Int) 1 8 true _ A5.out).mono ?_
           rintro e w' ⟨rfl, ⟨nd, rfl⟩⟩
           refine ⟨_, rfl, ?_⟩
           refine hK.out _ _ ⟨(blk_cell BK110.out 0).trans rfl, (blk_cell BK110.out 1).trans rfl, (blk_cell BK110.out 2).trans rfl, (blk_cell BK107.out 0).trans rfl, (blk_cell BK107.out 1).trans rfl, ((HB.out.cell (World.block_lt_of_cell? w _ hw112_0)).trans hw112_0), ((HB.out.cell (World.block_lt_of_cell? w _ hw112_1)).trans hw112_1), ((HB.out.cell (World.block_lt_of_cell? w _ hw112_2)).trans hw112_2)⟩ (fun hHeld => ?_)
           clear hK K
           refine norm_ (a' := ?_) ?_ ?_
           rotate_left
           ·show Act.put _ (some 20) _ = _
            simp only [Act.put, List.setIfInBounds_toArray, List.set_cons_zero, List.set_cons_succ, i64_w, i32_w]
            rfl
           refine pu_ 4 21 HT_ ?_
           refine pu_ 5 22 HT_ ?_
           refine pu_ 6 23 HT_ ?_
           refine pu_ 7 24 HT_ ?_
           refine pu_ 8 25 HT_ ?_
           refine pu_ 9 26 HT_ ?_
           refine pu_ 11 28 HT_ ?_
           refine pu_ 12 29 HT_ ?_
           refine pu_ 16 33 HT_ ?_
           refine ta_ 10 27 HT_ HW_ hHeld ?_
           refine pu_ 13 30 HT_ ?_
           refine pu_ 14 31 HT_ ?_
           refine ta_ 15 32 HT_ HW_ hHeld ?_
           refine ta_ 17 34 HT_ HW_ hHeld ?_
           refine pu_ 18 35 HT_ ?_
           refine pu_ 19 36 HT_ ?_
           refine pu_ 20 37 HT_ ?_
           refine pu_ 21 38 HT_ ?_
           refine pu_ 22 39 HT_ ?_
           refine ta_ 23 40 HT_ HW_ hHeld ?_
           refine pu_ 24 41 HT_ ?_
           refine pu_ 25 42 HT_ ?_
           refine pu_ 26 43 HT_ ?_
           refine pu_ 27 44 HT_ ?_
           refine of_ 28 45 HT_ ?_
           refine of_ 29 46 HT_ ?_
           refine of_ 30 47 HT_ ?_
           refine of_ 31 48 HT_ ?_
           refine pu_ 32 49 HT_ ?_
           refine done_ (done_of HT_.out B3x4_) ?_
           try go_wp2
           go_ret
           exact ⟨by first | rfl | (simp [errW_none, errW_some] <;> rfl) | (simp only [← hji8]; first | rfl | (simp [errW_none, errW_some] <;> rfl)) | (simp [*, errW_none, errW_some] <;> rfl), by repeat (first | (with_reducible first | exact HB.out | apply below_alloc | apply pw_below_drewN | apply below_drew1 | refine below_set ?_ GE107.out | refine below_set ?_ GE110.out) | exact HB.out)⟩
          ·rw [if_neg c12] at H
           have c12b0 : decide (20 < (((rd_T104 l0_1 x3_1).f1).size : Int)) = false := decide_eq_false c12
           have c12b1 : decide (20 < ((rd_T104 l0_1 x3_1).f1).size) = false := decide_eq_false (by omega)
           clear c12
           replace H := Option.bind_eq_some_iff.mp H
           obtain ⟨t113, A190, H⟩ := H
           (try dsimp only at H)
           have A19 := Aside0.mk A190
           clear A190
           by_cases c20 : t113 = true
           ·subst c20
            rw [if_pos rfl] at H
            have H' := Aside0.mk H
            clear H
            obtain ⟨hcz21_0, hcz21_1⟩ := cl2 BK107.out
            obtain ⟨hfz21_0, hfz21_1⟩ := fr2 BK107.out
            have p109 : 0 ≤ (x3_1 : Int) := of_decide_eq_true B3x3_
            have q109 : x3_1 < (l0_1.length : Int) := of_decide_eq_true B3x3_
            obtain ⟨ad109, e109, hx109_0, hx109_1, hx109_2⟩ := at_T104 HR0_1.out x3_1 p109 q109
            cases e109
            replace hx109_0 := (HB.out.cell (World.block_lt_of_cell? w _ hx109_0)).trans hx109_0
            replace hx109_1 := (HB.out.cell (World.block_lt_of_cell? w _ hx109_1)).trans hx109_1
            replace hx109_2 := (HB.out.cell (World.block_lt_of_cell? w _ hx109_2)).trans hx109_2
            replace p109 := eq_true p109
            replace q109 := eq_true q109
            try go_wp2_with (first | ((with_reducible refine gate_dst (N := 4) rfl ?_); (try (refine gate_guard (by rfl) ?_; dsimp only)); refine box_event ?hg (N := 4) ?hd (cs := #[.string (⟨#[]⟩ : ByteArray), .string (⟨#[]⟩ : ByteArray), .int .i64 0]) (t := 104) ?hr ?_; (case hd => rfl); (case hg => rfl); (case hr => first | (go_simp; done) | (go_simp; rfl)); intro gb110 hg w22 hbox hb; have n0_ := Aside0.mk (blk_below (g := gb107) (o := .cells #[.slice A0_0 l0_0.length c0_0, .slice (some ad109) l0_1.length c0_1] 37 (0, 0)) B3x1_ hb); have n1_ := Aside0.mk (below_step B3x0_ hb); have n2_ := Aside0.mk (hbox); have n3_ := Aside0.mk ((by rw [hg]; exact (below_size B3x0_) : w.heap.size ≤ gb110)); have n4_ := Aside0.mk ((by rw [hg]; exact (below_size B3x0_) : w.heap.size ≤ gb110)); have n5_ := Aside0.mk ((by rw [hg]; exact Nat.ne_of_lt (blk_lt (g := gb107) (o := .cells #[.slice A0_0 l0_0.length c0_0, .slice (some ad109) l0_1.length c0_1] 37 (0, 0)) B3x1_) : gb107 ≠ gb110)); have n6_ := Aside0.mk ((by rw [hg]; exact Nat.ne_of_gt (blk_lt (g := gb107) (o := .cells #[.slice A0_0 l0_0.length c0_0, .slice (some ad109) l0_1.length c0_1] 37 (0, 0)) B3x1_) : gb110 ≠ gb107)); clear BK107; clear HB; have BK107 := n0_; have HB := n1_; have BK110 := n2_; have GW110 := n3_; have GE110 := n4_; have NB107_110 := n5_; have NB110_107 := n6_; clear n0_ n1_ n2_ n3_ n4_ n5_ n6_; clear hb hbox hg; have hnb23 := NB110_107.out; have hnc23 := NB107_110.out; obtain ⟨hcz24_0, hcz24_1, hcz24_2⟩ := cl3 BK110.out; obtain ⟨hfz24_0, hfz24_1, hfz24_2⟩ := fr3 BK110.out))
            have n0_ : Aside0 ((((w22.setCell ⟨gb110, 0, none⟩ (.string ((rd_T104 l0_1 x3_1).f0))).setCell ⟨gb110, 1, none⟩ (.string ((rd_T104 l0_1 x3_1).f1))).setCell ⟨gb110, 2, none⟩ (.int .i64 ((rd_T104 l0_1 x3_1).f2))).heap[gb107]? = some (.cells #[.slice A0_0 l0_0.length c0_0, .slice (some ad109) l0_1.length c0_1] 37 (0, 0))) := ⟨by (with_reducible repeat (first | refine blk_drewN ?_ _ | refine blk_drew ?_ | refine blk_alloc ?_ _)); refine blk_far ?_ NB107_110.out _; (with_reducible repeat (first | refine blk_drewN ?_ _ | refine blk_drew ?_ | refine blk_alloc ?_ _)); refine blk_far ?_ NB107_110.out _; (with_reducible repeat (first | refine blk_drewN ?_ _ | refine blk_drew ?_ | refine blk_alloc ?_ _)); refine blk_far ?_ NB107_110.out _; (with_reducible repeat (first | refine blk_drewN ?_ _ | refine blk_drew ?_ | refine blk_alloc ?_ _)); exact BK107.out⟩
            have n1_ : Aside0 ((((w22.setCell ⟨gb110, 0, none⟩ (.string ((rd_T104 l0_1 x3_1).f0))).setCell ⟨gb110, 1, none⟩ (.string ((rd_T104 l0_1 x3_1).f1))).setCell ⟨gb110, 2, none⟩ (.int .i64 ((rd_T104 l0_1 x3_1).f2))).heap[gb110]? = some (.cells #[.string ((rd_T104 l0_1 x3_1).f0), .string ((rd_T104 l0_1 x3_1).f1), .int .i64 ((rd_T104 l0_1 x3_1).f2)] 104 (0, 0))) := ⟨by (with_reducible repeat (first | refine blk_drewN ?_ _ | refine blk_drew ?_ | refine blk_alloc ?_ _)); refine blk_put (cs := #[.string ((rd_T104 l0_1 x3_1).f0), .string ((rd_T104 l0_1 x3_1).f1), .int .i64 0]) ?_ 2 _ rfl; (with_reducible repeat (first | refine blk_drewN ?_ _ | refine blk_drew ?_ | refine blk_alloc ?_ _)); refine blk_put (cs := #[.string ((rd_T104 l0_1 x3_1).f0), .string (⟨#[]⟩ : ByteArray), .int .i64 0]) ?_ 1 _ rfl; (with_reducible repeat (first | refine blk_drewN ?_ _ | refine blk_drew ?_ | refine blk_alloc ?_ _)); refine blk_put (cs := #[.string (⟨#[]⟩ : ByteArray), .string (⟨#[]⟩ : ByteArray), .int .i64 0]) ?_ 0 _ rfl; (with_reducible repeat (first | refine blk_drewN ?_ _ | refine blk_drew ?_ | refine blk_alloc ?_ _)); exact BK110.out⟩
            have n2_ : Aside0 (Below w.heap.size w (((w22.setCell ⟨gb110, 0, none⟩ (.string ((rd_T104 l0_1 x3_1).f0))).setCell ⟨gb110, 1, none⟩ (.string ((rd_T104 l0_1 x3_1).f1))).setCell ⟨gb110, 2, none⟩ (.int .i64 ((rd_T104 l0_1 x3_1).f2)))) := ⟨by repeat (first | (with_reducible first | exact HB.out | apply below_alloc | apply pw_below_drewN | apply below_drew1 | refine below_set ?_ GE107.out | refine below_set ?_ GE110.out) | exact HB.out)⟩
            (try clear BK107)
            (try clear BK110)
            (try clear HB)
            generalize (((w22.setCell ⟨gb110, 0, none⟩ (.string ((rd_T104 l0_1 x3_1).f0))).setCell ⟨gb110, 1, none⟩ (.string ((rd_T104 l0_1 x3_1).f1))).setCell ⟨gb110, 2, none⟩ (.int .i64 ((rd_T104 l0_1 x3_1).f2))) = w25 at n0_ n1_ n2_ ⊢
            have BK107 := n0_
            have BK110 := n1_
            have HB := n2_
            clear n0_ n1_ n2_
            have n0_ := Aside0.mk (blk_drew BK107.out)
            have n1_ := Aside0.mk (blk_drew BK110.out)
            have n2_ := Aside0.mk (below_drew1 HB.out)
            clear BK107
            clear BK110
            clear HB
            have BK107 := n0_
            have BK110 := n1_
            have HB := n2_
            clear n0_ n1_ n2_
            have p112 : 0 ≤ ((ji8) : Int) := of_decide_eq_true B3x3_
            have q112 : (ji8) < (l0_1.length : Int) := of_decide_eq_true B3x3_
            obtain ⟨ad112, e112, hx112_0, hx112_1, hx112_2⟩ := at_T104 HR0_1.out (ji8) p112 q112
            have hw112_2 := hx112_2
            have hw112_1 := hx112_1
            have hw112_0 := hx112_0
            obtain rfl : ad109 = ad112 := B3x6_
            replace hx112_0 := (HB.out.cell (World.block_lt_of_cell? w _ hx112_0)).trans hx112_0
            replace hx112_1 := (HB.out.cell (World.block_lt_of_cell? w _ hx112_1)).trans hx112_1
            replace hx112_2 := (HB.out.cell (World.block_lt_of_cell? w _ hx112_2)).trans hx112_2
            replace p112 := eq_true p112
            replace q112 := eq_true q112
            refine start_ (n := 33) (S := fun w' => w'.cell? ⟨gb110, 0, none⟩ = some (.string ((rd_T104 l0_1 x3_1).f0)) ∧ w'.cell? ⟨gb110, 1, none⟩ = some (.string ((rd_T104 l0_1 x3_1).f1)) ∧ w'.cell? ⟨gb110, 2, none⟩ = some (.int .i64 ((rd_T104 l0_1 x3_1).f2)) ∧ w'.cell? ⟨gb107, 0, none⟩ = some (.slice A0_0 l0_0.length c0_0) ∧ w'.cell? ⟨gb107, 1, none⟩ = some (.slice (some ad109) l0_1.length c0_1) ∧ w'.cell? (ad109.add (((ji8)).toNat * 3)) = some (.string ((rd_T104 l0_1 (ji8)).f0)) ∧ w'.cell? ⟨(ad109.add (((ji8)).toNat * 3)).block, (ad109.add (((ji8)).toNat * 3)).off + 1, none⟩ = some (.string ((rd_T104 l0_1 (ji8)).f1)) ∧ w'.cell? ⟨(ad109.add (((ji8)).toNat * 3)).block, (ad109.add (((ji8)).toNat * 3)).off + 2, none⟩ = some (.int .i64 ((rd_T104 l0_1 (ji8)).f2))) (ds := []) #[false, false, false, false, false, false, false, false, false, false, false, false, false, false, false, false, false, false, false, false, false, false, false, false, false, false, false, false, false, false, false, false, false] B3x4_ rfl rfl ⟨(blk_cell BK110.out 0).trans rfl, (blk_cell BK110.out 1).trans rfl, (blk_cell BK110.out 2).trans rfl, (blk_cell BK107.out 0).trans rfl, (blk_cell BK107.out 1).trans rfl, ((HB.out.cell (World.block_lt_of_cell? w _ hw112_0)).trans hw112_0), ((HB.out.cell (World.block_lt_of_cell? w _ hw112_1)).trans hw112_1), ((HB.out.cell (World.block_lt_of_cell? w _ hw112_2)).trans hw112_2)⟩ (fun hHeld => ?_); refine with_tabW spec_KeepOk.tab5 spec_KeepOk.bits5 (fun HT_ HW_ => ?_)
            generalize w25.drew = w26 at BK107 BK110 HB hx112_0 hx112_1 hx112_2 hHeld ⊢
            refine pu_ 0 17 HT_ ?_
            refine ta_ 1 18 HT_ HW_ hHeld ?_
            refine pu_ 2 19 HT_ ?_
            refine one_ (i := 3) (N := some 20) #[true, true, true, true, false, false, false, false, false, false, false, false, false, false, false, false, false, false, false, false, false, false, false, false, false, false, false, false, false, false, false, false, false] rfl rfl (one_of HT_.out B3x4_) (by decide) (fun K hK => ?_)
            refine goes_ Try.func64 B3x4_ rfl #[.int .i64 (((rd_T104 l0_1 x3_1).f0).size : Int), .int .i64 1, .int .i64 8] (by rfl) rfl rfl B3x2_ ?_
            with_reducible refine (spec_l01In.calls (((rd_T104 l0_1 x3_1).f0).size : Int) 1 8 true _ A5.out).mono ?_
            rintro e w' ⟨rfl, ⟨nd, rfl⟩⟩
            refine ⟨_, rfl, ?_⟩
            refine hK.out _ _ ⟨(blk_cell BK110.out 0).trans rfl, (blk_cell BK110.out 1).trans rfl, (blk_cell BK110.out 2).trans rfl, (blk_cell BK107.out 0).trans rfl, (blk_cell BK107.out 1).trans rfl, ((HB.out.cell (World.block_lt_of_cell? w _ hw112_0)).trans hw112_0), ((HB.out.cell (World.block_lt_of_cell? w _ hw112_1)).trans hw112_1), ((HB.out.cell (World.block_lt_of_cell? w _ hw112_2)).trans hw112_2)⟩ (fun hHeld => ?_)
            clear hK K
            refine norm_ (a' := ?_) ?_ ?_
            rotate_left
            ·show Act.put _ (some 20) _ = _
             simp only [Act.put, List.setIfInBounds_toArray, List.set_cons_zero, List.set_cons_succ, i64_w, i32_w]
             rfl
            refine pu_ 4 21 HT_ ?_
            refine pu_ 5 22 HT_ ?_
            refine pu_ 6 23 HT_ ?_
            refine pu_ 7 24 HT_ ?_
            refine pu_ 8 25 HT_ ?_
            refine pu_ 9 26 HT_ ?_
            refine pu_ 11 28 HT_ ?_
            refine pu_ 12 29 HT_ ?_
            refine pu_ 16 33 HT_ ?_
            refine ta_ 10 27 HT_ HW_ hHeld ?_
            refine pu_ 13 30 HT_ ?_
            refine pu_ 14 31 HT_ ?_
            refine ta_ 15 32 HT_ HW_ hHeld ?_
            refine ta_ 17 34 HT_ HW_ hHeld ?_
            refine pu_ 18 35 HT_ ?_
            refine pu_ 19 36 HT_ ?_
            refine pu_ 20 37 HT_ ?_
            refine pu_ 21 38 HT_ ?_
            refine pu_ 22 39 HT_ ?_
            refine ta_ 23 40 HT_ HW_ hHeld ?_
            refine pu_ 24 41 HT_ ?_
            refine pu_ 25 42 HT_ ?_
            refine pu_ 26 43 HT_ ?_
            refine pu_ 27 44 HT_ ?_
            refine pu_ 28 45 HT_ ?_
            refine ta_ 29 46 HT_ HW_ hHeld ?_
            refine one_ (i := 30) (N := some 47) #[true, true, true, true, true, true, true, true, true, true, true, true, true, true, true, true, true, true, true, true, true, true, true, true, true, true, true, true, true, true, true, false, false] rfl rfl (one_of HT_.out B3x4_) (by decide) (fun K hK => ?_)
            refine goes_ Try.func64 B3x4_ rfl #[.int .i64 ((rd_T104 l0_1 x3_1).f2), .int .i64 1, .int .i64 1000000000] (by rfl) rfl rfl B3x2_ ?_
            with_reducible refine (spec_l01In.calls ((rd_T104 l0_1 x3_1).f2) 1 1000000000 true _ A19.out).mono ?_
            rintro e w' ⟨rfl, ⟨nd, rfl⟩⟩
            refine ⟨_, rfl, ?_⟩
            refine hK.out _ _ ⟨(blk_cell BK110.out 0).trans rfl, (blk_cell BK110.out 1).trans rfl, (blk_cell BK110.out 2).trans rfl, (blk_cell BK107.out 0).trans rfl, (blk_cell BK107.out 1).trans rfl, ((HB.out.cell (World.block_lt_of_cell? w _ hw112_0)).trans hw112_0), ((HB.out.cell (World.block_lt_of_cell? w _ hw112_1)).trans hw112_1), ((HB.out.cell (World.block_lt_of_cell? w _ hw112_2)).trans hw112_2)⟩ (fun hHeld => ?_)
            clear hK K
            refine norm_ (a' := ?_) ?_ ?_
            rotate_left
            ·show Act.put _ (some 47) _ = _
             simp only [Act.put, List.setIfInBounds_toArray, List.set_cons_zero, List.set_cons_succ, i64_w, i32_w]
             rfl
            refine pu_ 31 48 HT_ ?_
            refine pu_ 32 49 HT_ ?_
            refine done_ (done_of HT_.out B3x4_) ?_
            try go_wp2
            go_roundg k1
            case measure => have := HK1.out; omega
            case rel => exact ⟨(wrap64 (x3_1 + 1)), (be_), H', ⟨by have := HK1.out; omega⟩, ⟨by (with_reducible repeat (first | refine blk_drewN ?_ _ | refine blk_drew ?_ | refine blk_alloc ?_ _)); exact BK107.out⟩, ⟨by repeat (first | (with_reducible first | exact HB.out | apply below_alloc | apply pw_below_drewN | apply below_drew1 | refine below_set ?_ GE107.out | refine below_set ?_ GE110.out) | exact HB.out)⟩⟩
           ·replace c20 := Bool.eq_false_iff.mpr c20
            subst c20
            rw [if_neg (show ¬ (false = true) by decide)] at H
            obtain rfl := Option.some.inj H
            obtain ⟨hcz27_0, hcz27_1⟩ := cl2 BK107.out
            obtain ⟨hfz27_0, hfz27_1⟩ := fr2 BK107.out
            have p109 : 0 ≤ (x3_1 : Int) := of_decide_eq_true B3x3_
            have q109 : x3_1 < (l0_1.length : Int) := of_decide_eq_true B3x3_
            obtain ⟨ad109, e109, hx109_0, hx109_1, hx109_2⟩ := at_T104 HR0_1.out x3_1 p109 q109
            cases e109
            replace hx109_0 := (HB.out.cell (World.block_lt_of_cell? w _ hx109_0)).trans hx109_0
            replace hx109_1 := (HB.out.cell (World.block_lt_of_cell? w _ hx109_1)).trans hx109_1
            replace hx109_2 := (HB.out.cell (World.block_lt_of_cell? w _ hx109_2)).trans hx109_2
            replace p109 := eq_true p109
            replace q109 := eq_true q109
            try go_wp2_with (first | ((with_reducible refine gate_dst (N := 4) rfl ?_); (try (refine gate_guard (by rfl) ?_; dsimp only)); refine box_event ?hg (N := 4) ?hd (cs := #[.string (⟨#[]⟩ : ByteArray), .string (⟨#[]⟩ : ByteArray), .int .i64 0]) (t := 104) ?hr ?_; (case hd => rfl); (case hg => rfl); (case hr => first | (go_simp; done) | (go_simp; rfl)); intro gb110 hg w28 hbox hb; have n0_ := Aside0.mk (blk_below (g := gb107) (o := .cells #[.slice A0_0 l0_0.length c0_0, .slice (some ad109) l0_1.length c0_1] 37 (0, 0)) B3x1_ hb); have n1_ := Aside0.mk (below_step B3x0_ hb); have n2_ := Aside0.mk (hbox); have n3_ := Aside0.mk ((by rw [hg]; exact (below_size B3x0_) : w.heap.size ≤ gb110)); have n4_ := Aside0.mk ((by rw [hg]; exact (below_size B3x0_) : w.heap.size ≤ gb110)); have n5_ := Aside0.mk ((by rw [hg]; exact Nat.ne_of_lt (blk_lt (g := gb107) (o := .cells #[.slice A0_0 l0_0.length c0_0, .slice (some ad109) l0_1.length c0_1] 37 (0, 0)) B3x1_) : gb107 ≠ gb110)); have n6_ := Aside0.mk ((by rw [hg]; exact Nat.ne_of_gt (blk_lt (g := gb107) (o := .cells #[.slice A0_0 l0_0.length c0_0, .slice (some ad109) l0_1.length c0_1] 37 (0, 0)) B3x1_) : gb110 ≠ gb107)); clear BK107; clear HB; have BK107 := n0_; have HB := n1_; have BK110 := n2_; have GW110 := n3_; have GE110 := n4_; have NB107_110 := n5_; have NB110_107 := n6_; clear n0_ n1_ n2_ n3_ n4_ n5_ n6_; clear hb hbox hg; have hnb29 := NB110_107.out; have hnc29 := NB107_110.out; obtain ⟨hcz30_0, hcz30_1, hcz30_2⟩ := cl3 BK110.out; obtain ⟨hfz30_0, hfz30_1, hfz30_2⟩ := fr3 BK110.out))
            have n0_ : Aside0 ((((w28.setCell ⟨gb110, 0, none⟩ (.string ((rd_T104 l0_1 x3_1).f0))).setCell ⟨gb110, 1, none⟩ (.string ((rd_T104 l0_1 x3_1).f1))).setCell ⟨gb110, 2, none⟩ (.int .i64 ((rd_T104 l0_1 x3_1).f2))).heap[gb107]? = some (.cells #[.slice A0_0 l0_0.length c0_0, .slice (some ad109) l0_1.length c0_1] 37 (0, 0))) := ⟨by (with_reducible repeat (first | refine blk_drewN ?_ _ | refine blk_drew ?_ | refine blk_alloc ?_ _)); refine blk_far ?_ NB107_110.out _; (with_reducible repeat (first | refine blk_drewN ?_ _ | refine blk_drew ?_ | refine blk_alloc ?_ _)); refine blk_far ?_ NB107_110.out _; (with_reducible repeat (first | refine blk_drewN ?_ _ | refine blk_drew ?_ | refine blk_alloc ?_ _)); refine blk_far ?_ NB107_110.out _; (with_reducible repeat (first | refine blk_drewN ?_ _ | refine blk_drew ?_ | refine blk_alloc ?_ _)); exact BK107.out⟩
            have n1_ : Aside0 ((((w28.setCell ⟨gb110, 0, none⟩ (.string ((rd_T104 l0_1 x3_1).f0))).setCell ⟨gb110, 1, none⟩ (.string ((rd_T104 l0_1 x3_1).f1))).setCell ⟨gb110, 2, none⟩ (.int .i64 ((rd_T104 l0_1 x3_1).f2))).heap[gb110]? = some (.cells #[.string ((rd_T104 l0_1 x3_1).f0), .string ((rd_T104 l0_1 x3_1).f1), .int .i64 ((rd_T104 l0_1 x3_1).f2)] 104 (0, 0))) := ⟨by (with_reducible repeat (first | refine blk_drewN ?_ _ | refine blk_drew ?_ | refine blk_alloc ?_ _)); refine blk_put (cs := #[.string ((rd_T104 l0_1 x3_1).f0), .string ((rd_T104 l0_1 x3_1).f1), .int .i64 0]) ?_ 2 _ rfl; (with_reducible repeat (first | refine blk_drewN ?_ _ | refine blk_drew ?_ | refine blk_alloc ?_ _)); refine blk_put (cs := #[.string ((rd_T104 l0_1 x3_1).f0), .string (⟨#[]⟩ : ByteArray), .int .i64 0]) ?_ 1 _ rfl; (with_reducible repeat (first | refine blk_drewN ?_ _ | refine blk_drew ?_ | refine blk_alloc ?_ _)); refine blk_put (cs := #[.string (⟨#[]⟩ : ByteArray), .string (⟨#[]⟩ : ByteArray), .int .i64 0]) ?_ 0 _ rfl; (with_reducible repeat (first | refine blk_drewN ?_ _ | refine blk_drew ?_ | refine blk_alloc ?_ _)); exact BK110.out⟩
            have n2_ : Aside0 (Below w.heap.size w (((w28.setCell ⟨gb110, 0, none⟩ (.string ((rd_T104 l0_1 x3_1).f0))).setCell ⟨gb110, 1, none⟩ (.string ((rd_T104 l0_1 x3_1).f1))).setCell ⟨gb110, 2, none⟩ (.int .i64 ((rd_T104 l0_1 x3_1).f2)))) := ⟨by repeat (first | (with_reducible first | exact HB.out | apply below_alloc | apply pw_below_drewN | apply below_drew1 | refine below_set ?_ GE107.out | refine below_set ?_ GE110.out) | exact HB.out)⟩
            (try clear BK107)
            (try clear BK110)
            (try clear HB)
            generalize (((w28.setCell ⟨gb110, 0, none⟩ (.string ((rd_T104 l0_1 x3_1).f0))).setCell ⟨gb110, 1, none⟩ (.string ((rd_T104 l0_1 x3_1).f1))).setCell ⟨gb110, 2, none⟩ (.int .i64 ((rd_T104 l0_1 x3_1).f2))) = w31 at n0_ n1_ n2_ ⊢
            have BK107 := n0_
            have BK110 := n1_
            have HB := n2_
            clear n0_ n1_ n2_
            have n0_ := Aside0.mk (blk_drew BK107.out)
            have n1_ := Aside0.mk (blk_drew BK110.out)
            have n2_ := Aside0.mk (below_drew1 HB.out)
            clear BK107
            clear BK110
            clear HB
            have BK107 := n0_
            have BK110 := n1_
            have HB := n2_
            clear n0_ n1_ n2_
            have p112 : 0 ≤ ((ji8) : Int) := of_decide_eq_true B3x3_
            have q112 : (ji8) < (l0_1.length : Int) := of_decide_eq_true B3x3_
            obtain ⟨ad112, e112, hx112_0, hx112_1, hx112_2⟩ := at_T104 HR0_1.out (ji8) p112 q112
            have hw112_2 := hx112_2
            have hw112_1 := hx112_1
            have hw112_0 := hx112_0
            obtain rfl : ad109 = ad112 := B3x6_
            replace hx112_0 := (HB.out.cell (World.block_lt_of_cell? w _ hx112_0)).trans hx112_0
            replace hx112_1 := (HB.out.cell (World.block_lt_of_cell? w _ hx112_1)).trans hx112_1
            replace hx112_2 := (HB.out.cell (World.block_lt_of_cell? w _ hx112_2)).trans hx112_2
            replace p112 := eq_true p112
            replace q112 := eq_true q112
            refine start_ (n := 33) (S := fun w' => w'.cell? ⟨gb110, 0, none⟩ = some (.string ((rd_T104 l0_1 x3_1).f0)) ∧ w'.cell? ⟨gb110, 1, none⟩ = some (.string ((rd_T104 l0_1 x3_1).f1)) ∧ w'.cell? ⟨gb110, 2, none⟩ = some (.int .i64 ((rd_T104 l0_1 x3_1).f2)) ∧ w'.cell? ⟨gb107, 0, none⟩ = some (.slice A0_0 l0_0.length c0_0) ∧ w'.cell? ⟨gb107, 1, none⟩ = some (.slice (some ad109) l0_1.length c0_1) ∧ w'.cell? (ad109.add (((ji8)).toNat * 3)) = some (.string ((rd_T104 l0_1 (ji8)).f0)) ∧ w'.cell? ⟨(ad109.add (((ji8)).toNat * 3)).block, (ad109.add (((ji8)).toNat * 3)).off + 1, none⟩ = some (.string ((rd_T104 l0_1 (ji8)).f1)) ∧ w'.cell? ⟨(ad109.add (((ji8)).toNat * 3)).block, (ad109.add (((ji8)).toNat * 3)).off + 2, none⟩ = some (.int .i64 ((rd_T104 l0_1 (ji8)).f2))) (ds := []) #[false, false, false, false, false, false, false, false, false, false, false, false, false, false, false, false, false, false, false, false, false, false, false, false, false, false, false, false, false, false, false, false, false] B3x4_ rfl rfl ⟨(blk_cell BK110.out 0).trans rfl, (blk_cell BK110.out 1).trans rfl, (blk_cell BK110.out 2).trans rfl, (blk_cell BK107.out 0).trans rfl, (blk_cell BK107.out 1).trans rfl, ((HB.out.cell (World.block_lt_of_cell? w _ hw112_0)).trans hw112_0), ((HB.out.cell (World.block_lt_of_cell? w _ hw112_1)).trans hw112_1), ((HB.out.cell (World.block_lt_of_cell? w _ hw112_2)).trans hw112_2)⟩ (fun hHeld => ?_); refine with_tabW spec_KeepOk.tab5 spec_KeepOk.bits5 (fun HT_ HW_ => ?_)
            generalize w31.drew = w32 at BK107 BK110 HB hx112_0 hx112_1 hx112_2 hHeld ⊢
            refine pu_ 0 17 HT_ ?_
            refine ta_ 1 18 HT_ HW_ hHeld ?_
            refine pu_ 2 19 HT_ ?_
            refine one_ (i := 3) (N := some 20) #[true, true, true, true, false, false, false, false, false, false, false, false, false, false, false, false, false, false, false, false, false, false, false, false, false, false, false, false, false, false, false, false, false] rfl rfl (one_of HT_.out B3x4_) (by decide) (fun K hK => ?_)
            refine goes_ Try.func64 B3x4_ rfl #[.int .i64 (((rd_T104 l0_1 x3_1).f0).size : Int), .int .i64 1, .int .i64 8] (by rfl) rfl rfl B3x2_ ?_
            with_reducible refine (spec_l01In.calls (((rd_T104 l0_1 x3_1).f0).size : Int) 1 8 true _ A5.out).mono ?_
            rintro e w' ⟨rfl, ⟨nd, rfl⟩⟩
            refine ⟨_, rfl, ?_⟩
            refine hK.out _ _ ⟨(blk_cell BK110.out 0).trans rfl, (blk_cell BK110.out 1).trans rfl, (blk_cell BK110.out 2).trans rfl, (blk_cell BK107.out 0).trans rfl, (blk_cell BK107.out 1).trans rfl, ((HB.out.cell (World.block_lt_of_cell? w _ hw112_0)).trans hw112_0), ((HB.out.cell (World.block_lt_of_cell? w _ hw112_1)).trans hw112_1), ((HB.out.cell (World.block_lt_of_cell? w _ hw112_2)).trans hw112_2)⟩ (fun hHeld => ?_)
            clear hK K
            refine norm_ (a' := ?_) ?_ ?_
            rotate_left
            ·show Act.put _ (some 20) _ = _
             simp only [Act.put, List.setIfInBounds_toArray, List.set_cons_zero, List.set_cons_succ, i64_w, i32_w]
             rfl
            refine pu_ 4 21 HT_ ?_
            refine pu_ 5 22 HT_ ?_
            refine pu_ 6 23 HT_ ?_
            refine pu_ 7 24 HT_ ?_
            refine pu_ 8 25 HT_ ?_
            refine pu_ 9 26 HT_ ?_
            refine pu_ 11 28 HT_ ?_
            refine pu_ 12 29 HT_ ?_
            refine pu_ 16 33 HT_ ?_
            refine ta_ 10 27 HT_ HW_ hHeld ?_
            refine pu_ 13 30 HT_ ?_
            refine pu_ 14 31 HT_ ?_
            refine ta_ 15 32 HT_ HW_ hHeld ?_
            refine ta_ 17 34 HT_ HW_ hHeld ?_
            refine pu_ 18 35 HT_ ?_
            refine pu_ 19 36 HT_ ?_
            refine pu_ 20 37 HT_ ?_
            refine pu_ 21 38 HT_ ?_
            refine pu_ 22 39 HT_ ?_
            refine ta_ 23 40 HT_ HW_ hHeld ?_
            refine pu_ 24 41 HT_ ?_
            refine pu_ 25 42 HT_ ?_
            refine pu_ 26 43 HT_ ?_
            refine pu_ 27 44 HT_ ?_
            refine pu_ 28 45 HT_ ?_
            refine ta_ 29 46 HT_ HW_ hHeld ?_
            refine one_ (i := 30) (N := some 47) #[true, true, true, true, true, true, true, true, true, true, true, true, true, true, true, true, true, true, true, true, true, true, true, true, true, true, true, true, true, true, true, false, false] rfl rfl (one_of HT_.out B3x4_) (by decide) (fun K hK => ?_)
            refine goes_ Try.func64 B3x4_ rfl #[.int .i64 ((rd_T104 l0_1 x3_1).f2), .int .i64 1, .int .i64 1000000000] (by rfl) rfl rfl B3x2_ ?_
            with_reducible refine (spec_l01In.calls ((rd_T104 l0_1 x3_1).f2) 1 1000000000 false _ A19.out).mono ?_
            rintro e w' ⟨rfl, ⟨nd, rfl⟩⟩
            refine ⟨_, rfl, ?_⟩
            refine hK.out _ _ ⟨(blk_cell BK110.out 0).trans rfl, (blk_cell BK110.out 1).trans rfl, (blk_cell BK110.out 2).trans rfl, (blk_cell BK107.out 0).trans rfl, (blk_cell BK107.out 1).trans rfl, ((HB.out.cell (World.block_lt_of_cell? w _ hw112_0)).trans hw112_0), ((HB.out.cell (World.block_lt_of_cell? w _ hw112_1)).trans hw112_1), ((HB.out.cell (World.block_lt_of_cell? w _ hw112_2)).trans hw112_2)⟩ (fun hHeld => ?_)
            clear hK K
            refine norm_ (a' := ?_) ?_ ?_
            rotate_left
            ·show Act.put _ (some 47) _ = _
             simp only [Act.put, List.setIfInBounds_toArray, List.set_cons_zero, List.set_cons_succ, i64_w, i32_w]
             rfl
            refine pu_ 31 48 HT_ ?_
            refine pu_ 32 49 HT_ ?_
            refine done_ (done_of HT_.out B3x4_) ?_
            try go_wp2
            go_ret
            exact ⟨by first | rfl | (simp [errW_none, errW_some] <;> rfl) | (simp only [← hji8]; first | rfl | (simp [errW_none, errW_some] <;> rfl)) | (simp [*, errW_none, errW_some] <;> rfl), by repeat (first | (with_reducible first | exact HB.out | apply below_alloc | apply pw_below_drewN | apply below_drew1 | refine below_set ?_ GE107.out | refine below_set ?_ GE110.out) | exact HB.out)⟩
         ·rw [if_neg c11] at H
          have c11b0 : (Op.bytesLess (((rd_T104 l0_1 (ji8)).f0).toList) (((rd_T104 l0_1 x3_1).f0).toList)) = false := by simpa using c11
          clear c11
          obtain rfl := Option.some.inj H
          obtain ⟨hcz33_0, hcz33_1⟩ := cl2 BK107.out
          obtain ⟨hfz33_0, hfz33_1⟩ := fr2 BK107.out
          have p109 : 0 ≤ (x3_1 : Int) := of_decide_eq_true B3x3_
          have q109 : x3_1 < (l0_1.length : Int) := of_decide_eq_true B3x3_
          obtain ⟨ad109, e109, hx109_0, hx109_1, hx109_2⟩ := at_T104 HR0_1.out x3_1 p109 q109
          cases e109
          replace hx109_0 := (HB.out.cell (World.block_lt_of_cell? w _ hx109_0)).trans hx109_0
          replace hx109_1 := (HB.out.cell (World.block_lt_of_cell? w _ hx109_1)).trans hx109_1
          replace hx109_2 := (HB.out.cell (World.block_lt_of_cell? w _ hx109_2)).trans hx109_2
          replace p109 := eq_true p109
          replace q109 := eq_true q109
          try go_wp2_with (first | ((with_reducible refine gate_dst (N := 4) rfl ?_); (try (refine gate_guard (by rfl) ?_; dsimp only)); refine box_event ?hg (N := 4) ?hd (cs := #[.string (⟨#[]⟩ : ByteArray), .string (⟨#[]⟩ : ByteArray), .int .i64 0]) (t := 104) ?hr ?_; (case hd => rfl); (case hg => rfl); (case hr => first | (go_simp; done) | (go_simp; rfl)); intro gb110 hg w34 hbox hb; have n0_ := Aside0.mk (blk_below (g := gb107) (o := .cells #[.slice A0_0 l0_0.length c0_0, .slice (some ad109) l0_1.length c0_1] 37 (0, 0)) B3x1_ hb); have n1_ := Aside0.mk (below_step B3x0_ hb); have n2_ := Aside0.mk (hbox); have n3_ := Aside0.mk ((by rw [hg]; exact (below_size B3x0_) : w.heap.size ≤ gb110)); have n4_ := Aside0.mk ((by rw [hg]; exact (below_size B3x0_) : w.heap.size ≤ gb110)); have n5_ := Aside0.mk ((by rw [hg]; exact Nat.ne_of_lt (blk_lt (g := gb107) (o := .cells #[.slice A0_0 l0_0.length c0_0, .slice (some ad109) l0_1.length c0_1] 37 (0, 0)) B3x1_) : gb107 ≠ gb110)); have n6_ := Aside0.mk ((by rw [hg]; exact Nat.ne_of_gt (blk_lt (g := gb107) (o := .cells #[.slice A0_0 l0_0.length c0_0, .slice (some ad109) l0_1.length c0_1] 37 (0, 0)) B3x1_) : gb110 ≠ gb107)); clear BK107; clear HB; have BK107 := n0_; have HB := n1_; have BK110 := n2_; have GW110 := n3_; have GE110 := n4_; have NB107_110 := n5_; have NB110_107 := n6_; clear n0_ n1_ n2_ n3_ n4_ n5_ n6_; clear hb hbox hg; have hnb35 := NB110_107.out; have hnc35 := NB107_110.out; obtain ⟨hcz36_0, hcz36_1, hcz36_2⟩ := cl3 BK110.out; obtain ⟨hfz36_0, hfz36_1, hfz36_2⟩ := fr3 BK110.out))
          have n0_ : Aside0 ((((w34.setCell ⟨gb110, 0, none⟩ (.string ((rd_T104 l0_1 x3_1).f0))).setCell ⟨gb110, 1, none⟩ (.string ((rd_T104 l0_1 x3_1).f1))).setCell ⟨gb110, 2, none⟩ (.int .i64 ((rd_T104 l0_1 x3_1).f2))).heap[gb107]? = some (.cells #[.slice A0_0 l0_0.length c0_0, .slice (some ad109) l0_1.length c0_1] 37 (0, 0))) := ⟨by (with_reducible repeat (first | refine blk_drewN ?_ _ | refine blk_drew ?_ | refine blk_alloc ?_ _)); refine blk_far ?_ NB107_110.out _; (with_reducible repeat (first | refine blk_drewN ?_ _ | refine blk_drew ?_ | refine blk_alloc ?_ _)); refine blk_far ?_ NB107_110.out _; (with_reducible repeat (first | refine blk_drewN ?_ _ | refine blk_drew ?_ | refine blk_alloc ?_ _)); refine blk_far ?_ NB107_110.out _; (with_reducible repeat (first | refine blk_drewN ?_ _ | refine blk_drew ?_ | refine blk_alloc ?_ _)); exact BK107.out⟩
          have n1_ : Aside0 ((((w34.setCell ⟨gb110, 0, none⟩ (.string ((rd_T104 l0_1 x3_1).f0))).setCell ⟨gb110, 1, none⟩ (.string ((rd_T104 l0_1 x3_1).f1))).setCell ⟨gb110, 2, none⟩ (.int .i64 ((rd_T104 l0_1 x3_1).f2))).heap[gb110]? = some (.cells #[.string ((rd_T104 l0_1 x3_1).f0), .string ((rd_T104 l0_1 x3_1).f1), .int .i64 ((rd_T104 l0_1 x3_1).f2)] 104 (0, 0))) := ⟨by (with_reducible repeat (first | refine blk_drewN ?_ _ | refine blk_drew ?_ | refine blk_alloc ?_ _)); refine blk_put (cs := #[.string ((rd_T104 l0_1 x3_1).f0), .string ((rd_T104 l0_1 x3_1).f1), .int .i64 0]) ?_ 2 _ rfl; (with_reducible repeat (first | refine blk_drewN ?_ _ | refine blk_drew ?_ | refine blk_alloc ?_ _)); refine blk_put (cs := #[.string ((rd_T104 l0_1 x3_1).f0), .string (⟨#[]⟩ : ByteArray), .int .i64 0]) ?_ 1 _ rfl; (with_reducible repeat (first | refine blk_drewN ?_ _ | refine blk_drew ?_ | refine blk_alloc ?_ _)); refine blk_put (cs := #[.string (⟨#[]⟩ : ByteArray), .string (⟨#[]⟩ : ByteArray), .int .i64 0]) ?_ 0 _ rfl; (with_reducible repeat (first | refine blk_drewN ?_ _ | refine blk_drew ?_ | refine blk_alloc ?_ _)); exact BK110.out⟩
          have n2_ : Aside0 (Below w.heap.size w (((w34.setCell ⟨gb110, 0, none⟩ (.string ((rd_T104 l0_1 x3_1).f0))).setCell ⟨gb110, 1, none⟩ (.string ((rd_T104 l0_1 x3_1).f1))).setCell ⟨gb110, 2, none⟩ (.int .i64 ((rd_T104 l0_1 x3_1).f2)))) := ⟨by repeat (first | (with_reducible first | exact HB.out | apply below_alloc | apply pw_below_drewN | apply below_drew1 | refine below_set ?_ GE107.out | refine below_set ?_ GE110.out) | exact HB.out)⟩
          (try clear BK107)
          (try clear BK110)
          (try clear HB)
          generalize (((w34.setCell ⟨gb110, 0, none⟩ (.string ((rd_T104 l0_1 x3_1).f0))).setCell ⟨gb110, 1, none⟩ (.string ((rd_T104 l0_1 x3_1).f1))).setCell ⟨gb110, 2, none⟩ (.int .i64 ((rd_T104 l0_1 x3_1).f2))) = w37 at n0_ n1_ n2_ ⊢
          have BK107 := n0_
          have BK110 := n1_
          have HB := n2_
          clear n0_ n1_ n2_
          have n0_ := Aside0.mk (blk_drew BK107.out)
          have n1_ := Aside0.mk (blk_drew BK110.out)
          have n2_ := Aside0.mk (below_drew1 HB.out)
          clear BK107
          clear BK110
          clear HB
          have BK107 := n0_
          have BK110 := n1_
          have HB := n2_
          clear n0_ n1_ n2_
          have p112 : 0 ≤ ((ji8) : Int) := of_decide_eq_true B3x3_
          have q112 : (ji8) < (l0_1.length : Int) := of_decide_eq_true B3x3_
          obtain ⟨ad112, e112, hx112_0, hx112_1, hx112_2⟩ := at_T104 HR0_1.out (ji8) p112 q112
          have hw112_2 := hx112_2
          have hw112_1 := hx112_1
          have hw112_0 := hx112_0
          obtain rfl : ad109 = ad112 := B3x6_
          replace hx112_0 := (HB.out.cell (World.block_lt_of_cell? w _ hx112_0)).trans hx112_0
          replace hx112_1 := (HB.out.cell (World.block_lt_of_cell? w _ hx112_1)).trans hx112_1
          replace hx112_2 := (HB.out.cell (World.block_lt_of_cell? w _ hx112_2)).trans hx112_2
          replace p112 := eq_true p112
          replace q112 := eq_true q112
          refine start_ (n := 33) (S := fun w' => w'.cell? ⟨gb110, 0, none⟩ = some (.string ((rd_T104 l0_1 x3_1).f0)) ∧ w'.cell? ⟨gb110, 1, none⟩ = some (.string ((rd_T104 l0_1 x3_1).f1)) ∧ w'.cell? ⟨gb110, 2, none⟩ = some (.int .i64 ((rd_T104 l0_1 x3_1).f2)) ∧ w'.cell? ⟨gb107, 0, none⟩ = some (.slice A0_0 l0_0.length c0_0) ∧ w'.cell? ⟨gb107, 1, none⟩ = some (.slice (some ad109) l0_1.length c0_1) ∧ w'.cell? (ad109.add (((ji8)).toNat * 3)) = some (.string ((rd_T104 l0_1 (ji8)).f0)) ∧ w'.cell? ⟨(ad109.add (((ji8)).toNat * 3)).block, (ad109.add (((ji8)).toNat * 3)).off + 1, none⟩ = some (.string ((rd_T104 l0_1 (ji8)).f1)) ∧ w'.cell? ⟨(ad109.add (((ji8)).toNat * 3)).block, (ad109.add (((ji8)).toNat * 3)).off + 2, none⟩ = some (.int .i64 ((rd_T104 l0_1 (ji8)).f2))) (ds := []) #[false, false, false, false, false, false, false, false, false, false, false, false, false, false, false, false, false, false, false, false, false, false, false, false, false, false, false, false, false, false, false, false, false] B3x4_ rfl rfl ⟨(blk_cell BK110.out 0).trans rfl, (blk_cell BK110.out 1).trans rfl, (blk_cell BK110.out 2).trans rfl, (blk_cell BK107.out 0).trans rfl, (blk_cell BK107.out 1).trans rfl, ((HB.out.cell (World.block_lt_of_cell? w _ hw112_0)).trans hw112_0), ((HB.out.cell (World.block_lt_of_cell? w _ hw112_1)).trans hw112_1), ((HB.out.cell (World.block_lt_of_cell? w _ hw112_2)).trans hw112_2)⟩ (fun hHeld => ?_); refine with_tabW spec_KeepOk.tab5 spec_KeepOk.bits5 (fun HT_ HW_ => ?_)
          generalize w37.drew = w38 at BK107 BK110 HB hx112_0 hx112_1 hx112_2 hHeld ⊢
          refine pu_ 0 17 HT_ ?_
          refine ta_ 1 18 HT_ HW_ hHeld ?_
          refine pu_ 2 19 HT_ ?_
          refine one_ (i := 3) (N := some 20) #[true, true, true, true, false, false, false, false, false, false, false, false, false, false, false, false, false, false, false, false, false, false, false, false, false, false, false, false, false, false, false, false, false] rfl rfl (one_of HT_.out B3x4_) (by decide) (fun K hK => ?_)
          refine goes_ Try.func64 B3x4_ rfl #[.int .i64 (((rd_T104 l0_1 x3_1).f0).size : Int), .int .i64 1, .int .i64 8] (by rfl) rfl rfl B3x2_ ?_
          with_reducible refine (spec_l01In.calls (((rd_T104 l0_1 x3_1).f0).size : Int) 1 8 true _ A5.out).mono ?_
          rintro e w' ⟨rfl, ⟨nd, rfl⟩⟩
          refine ⟨_, rfl, ?_⟩
          refine hK.out _ _ ⟨(blk_cell BK110.out 0).trans rfl, (blk_cell BK110.out 1).trans rfl, (blk_cell BK110.out 2).trans rfl, (blk_cell BK107.out 0).trans rfl, (blk_cell BK107.out 1).trans rfl, ((HB.out.cell (World.block_lt_of_cell? w _ hw112_0)).trans hw112_0), ((HB.out.cell (World.block_lt_of_cell? w _ hw112_1)).trans hw112_1), ((HB.out.cell (World.block_lt_of_cell? w _ hw112_2)).trans hw112_2)⟩ (fun hHeld => ?_)
          clear hK K
          refine norm_ (a' := ?_) ?_ ?_
          rotate_left
          ·show Act.put _ (some 20) _ = _
           simp only [Act.put, List.setIfInBounds_toArray, List.set_cons_zero, List.set_cons_succ, i64_w, i32_w]
           rfl
          refine pu_ 4 21 HT_ ?_
          refine pu_ 5 22 HT_ ?_
          refine pu_ 6 23 HT_ ?_
          refine pu_ 7 24 HT_ ?_
          refine pu_ 8 25 HT_ ?_
          refine pu_ 9 26 HT_ ?_
          refine pu_ 11 28 HT_ ?_
          refine pu_ 12 29 HT_ ?_
          refine pu_ 16 33 HT_ ?_
          refine ta_ 10 27 HT_ HW_ hHeld ?_
          refine pu_ 13 30 HT_ ?_
          refine pu_ 14 31 HT_ ?_
          refine ta_ 15 32 HT_ HW_ hHeld ?_
          refine ta_ 17 34 HT_ HW_ hHeld ?_
          refine pu_ 18 35 HT_ ?_
          refine pu_ 19 36 HT_ ?_
          refine pu_ 20 37 HT_ ?_
          refine pu_ 21 38 HT_ ?_
          refine of_ 22 39 HT_ ?_
          refine of_ 23 40 HT_ ?_
          refine of_ 24 41 HT_ ?_
          refine of_ 25 42 HT_ ?_
          refine pu_ 26 43 HT_ ?_
          refine pu_ 27 44 HT_ ?_
          refine of_ 28 45 HT_ ?_
          refine of_ 29 46 HT_ ?_
          refine of_ 30 47 HT_ ?_
          refine of_ 31 48 HT_ ?_
          refine pu_ 32 49 HT_ ?_
          refine done_ (done_of HT_.out B3x4_) ?_
          try go_wp2
          go_ret
          exact ⟨by first | rfl | (simp [errW_none, errW_some] <;> rfl) | (simp only [← hji8]; first | rfl | (simp [errW_none, errW_some] <;> rfl)) | (simp [*, errW_none, errW_some] <;> rfl), by repeat (first | (with_reducible first | exact HB.out | apply below_alloc | apply pw_below_drewN | apply below_drew1 | refine below_set ?_ GE107.out | refine below_set ?_ GE110.out) | exact HB.out)⟩
        ·rw [if_neg c10] at H
         exact absurd H (by simp)
       ·rw [if_neg c9] at H
        exact absurd H (by simp)
      ·rw [if_neg c7] at H
       have c7b0 : decide (0 < x3_1) = false := decide_eq_false c7
       clear c7
       by_cases c39 : (((rd_T104 l0_1 x3_1).f1).size : Int) > 20
       ·rw [if_pos c39] at H
        have c39b0 : decide (20 < (((rd_T104 l0_1 x3_1).f1).size : Int)) = true := decide_eq_true c39
        have c39b1 : decide (20 < ((rd_T104 l0_1 x3_1).f1).size) = true := decide_eq_true (by omega)
        clear c39
        obtain rfl := Option.some.inj H
        obtain ⟨hcz40_0, hcz40_1⟩ := cl2 BK107.out
        obtain ⟨hfz40_0, hfz40_1⟩ := fr2 BK107.out
        have p109 : 0 ≤ (x3_1 : Int) := of_decide_eq_true B3x3_
        have q109 : x3_1 < (l0_1.length : Int) := of_decide_eq_true B3x3_
        obtain ⟨ad109, e109, hx109_0, hx109_1, hx109_2⟩ := at_T104 HR0_1.out x3_1 p109 q109
        cases e109
        replace hx109_0 := (HB.out.cell (World.block_lt_of_cell? w _ hx109_0)).trans hx109_0
        replace hx109_1 := (HB.out.cell (World.block_lt_of_cell? w _ hx109_1)).trans hx109_1
        replace hx109_2 := (HB.out.cell (World.block_lt_of_cell? w _ hx109_2)).trans hx109_2
        replace p109 := eq_true p109
        replace q109 := eq_true q109
        try go_wp2_with (first | ((with_reducible refine gate_dst (N := 4) rfl ?_); (try (refine gate_guard (by rfl) ?_; dsimp only)); refine box_event ?hg (N := 4) ?hd (cs := #[.string (⟨#[]⟩ : ByteArray), .string (⟨#[]⟩ : ByteArray), .int .i64 0]) (t := 104) ?hr ?_; (case hd => rfl); (case hg => rfl); (case hr => first | (go_simp; done) | (go_simp; rfl)); intro gb110 hg w41 hbox hb; have n0_ := Aside0.mk (blk_below (g := gb107) (o := .cells #[.slice A0_0 l0_0.length c0_0, .slice (some ad109) l0_1.length c0_1] 37 (0, 0)) B3x1_ hb); have n1_ := Aside0.mk (below_step B3x0_ hb); have n2_ := Aside0.mk (hbox); have n3_ := Aside0.mk ((by rw [hg]; exact (below_size B3x0_) : w.heap.size ≤ gb110)); have n4_ := Aside0.mk ((by rw [hg]; exact (below_size B3x0_) : w.heap.size ≤ gb110)); have n5_ := Aside0.mk ((by rw [hg]; exact Nat.ne_of_lt (blk_lt (g := gb107) (o := .cells #[.slice A0_0 l0_0.length c0_0, .slice (some ad109) l0_1.length c0_1] 37 (0, 0)) B3x1_) : gb107 ≠ gb110)); have n6_ := Aside0.mk ((by rw [hg]; exact Nat.ne_of_gt (blk_lt (g := gb107) (o := .cells #[.slice A0_0 l0_0.length c0_0, .slice (some ad109) l0_1.length c0_1] 37 (0, 0)) B3x1_) : gb110 ≠ gb107)); clear BK107; clear HB; have BK107 := n0_; have HB := n1_; have BK110 := n2_; have GW110 := n3_; have GE110 := n4_; have NB107_110 := n5_; have NB110_107 := n6_; clear n0_ n1_ n2_ n3_ n4_ n5_ n6_; clear hb hbox hg; have hnb42 := NB110_107.out; have hnc42 := NB107_110.out; obtain ⟨hcz43_0, hcz43_1, hcz43_2⟩ := cl3 BK110.out; obtain ⟨hfz43_0, hfz43_1, hfz43_2⟩ := fr3 BK110.out))
        have n0_ : Aside0 ((((w41.setCell ⟨gb110, 0, none⟩ (.string ((rd_T104 l0_1 x3_1).f0))).setCell ⟨gb110, 1, none⟩ (.string ((rd_T104 l0_1 x3_1).f1))).setCell ⟨gb110, 2, none⟩ (.int .i64 ((rd_T104 l0_1 x3_1).f2))).heap[gb107]? = some (.cells #[.slice A0_0 l0_0.length c0_0, .slice (some ad109) l0_1.length c0_1] 37 (0, 0))) := ⟨by (with_reducible repeat (first | refine blk_drewN ?_ _ | refine blk_drew ?_ | refine blk_alloc ?_ _)); refine blk_far ?_ NB107_110.out _; (with_reducible repeat (first | refine blk_drewN ?_ _ | refine blk_drew ?_ | refine blk_alloc ?_ _)); refine blk_far ?_ NB107_110.out _; (with_reducible repeat (first | refine blk_drewN ?_ _ | refine blk_drew ?_ | refine blk_alloc ?_ _)); refine blk_far ?_ NB107_110.out _; (with_reducible repeat (first | refine blk_drewN ?_ _ | refine blk_drew ?_ | refine blk_alloc ?_ _)); exact BK107.out⟩
        have n1_ : Aside0 ((((w41.setCell ⟨gb110, 0, none⟩ (.string ((rd_T104 l0_1 x3_1).f0))).setCell ⟨gb110, 1, none⟩ (.string ((rd_T104 l0_1 x3_1).f1))).setCell ⟨gb110, 2, none⟩ (.int .i64 ((rd_T104 l0_1 x3_1).f2))).heap[gb110]? = some (.cells #[.string ((rd_T104 l0_1 x3_1).f0), .string ((rd_T104 l0_1 x3_1).f1), .int .i64 ((rd_T104 l0_1 x3_1).f2)] 104 (0, 0))) := ⟨by (with_reducible repeat (first | refine blk_drewN ?_ _ | refine blk_drew ?_ | refine blk_alloc ?_ _)); refine blk_put (cs := #[.string ((rd_T104 l0_1 x3_1).f0), .string ((rd_T104 l0_1 x3_1).f1), .int .i64 0]) ?_ 2 _ rfl; (with_reducible repeat (first | refine blk_drewN ?_ _ | refine blk_drew ?_ | refine blk_alloc ?_ _)); refine blk_put (cs := #[.string ((rd_T104 l0_1 x3_1).f0), .string (⟨#[]⟩ : ByteArray), .int .i64 0]) ?_ 1 _ rfl; (with_reducible repeat (first | refine blk_drewN ?_ _ | refine blk_drew ?_ | refine blk_alloc ?_ _)); refine blk_put (cs := #[.string (⟨#[]⟩ : ByteArray), .string (⟨#[]⟩ : ByteArray), .int .i64 0]) ?_ 0 _ rfl; (with_reducible repeat (first | refine blk_drewN ?_ _ | refine blk_drew ?_ | refine blk_alloc ?_ _)); exact BK110.out⟩
        have n2_ : Aside0 (Below w.heap.size w (((w41.setCell ⟨gb110, 0, none⟩ (.string ((rd_T104 l0_1 x3_1).f0))).setCell ⟨gb110, 1, none⟩ (.string ((rd_T104 l0_1 x3_1).f1))).setCell ⟨gb110, 2, none⟩ (.int .i64 ((rd_T104 l0_1 x3_1).f2)))) := ⟨by repeat (first | (with_reducible first | exact HB.out | apply below_alloc | apply pw_below_drewN | apply below_drew1 | refine below_set ?_ GE107.out | refine below_set ?_ GE110.out) | exact HB.out)⟩
        (try clear BK107)
        (try clear BK110)
        (try clear HB)
        generalize (((w41.setCell ⟨gb110, 0, none⟩ (.string ((rd_T104 l0_1 x3_1).f0))).setCell ⟨gb110, 1, none⟩ (.string ((rd_T104 l0_1 x3_1).f1))).setCell ⟨gb110, 2, none⟩ (.int .i64 ((rd_T104 l0_1 x3_1).f2))) = w44 at n0_ n1_ n2_ ⊢
        have BK107 := n0_
        have BK110 := n1_
        have HB := n2_
        clear n0_ n1_ n2_
        have n0_ := Aside0.mk (blk_drew BK107.out)
        have n1_ := Aside0.mk (blk_drew BK110.out)
        have n2_ := Aside0.mk (below_drew1 HB.out)
        clear BK107
        clear BK110
        clear HB
        have BK107 := n0_
        have BK110 := n1_
        have HB := n2_
        clear n0_ n1_ n2_
        refine start_ (n := 33) (S := fun w' => w'.cell? ⟨gb110, 0, none⟩ = some (.string ((rd_T104 l0_1 x3_1).f0)) ∧ w'.cell? ⟨gb110, 1, none⟩ = some (.string ((rd_T104 l0_1 x3_1).f1)) ∧ w'.cell? ⟨gb110, 2, none⟩ = some (.int .i64 ((rd_T104 l0_1 x3_1).f2))) (ds := []) #[false, false, false, false, false, false, false, false, false, false, false, false, false, false, false, false, false, false, false, false, false, false, false, false, false, false, false, false, false, false, false, false, false] B3x4_ rfl rfl ⟨(blk_cell BK110.out 0).trans rfl, (blk_cell BK110.out 1).trans rfl, (blk_cell BK110.out 2).trans rfl⟩ (fun hHeld => ?_); refine with_tabW spec_KeepOk.tab5 spec_KeepOk.bits5 (fun HT_ HW_ => ?_)
        generalize w44.drew = w45 at BK107 BK110 HB hHeld ⊢
        refine pu_ 0 17 HT_ ?_
        refine ta_ 1 18 HT_ HW_ hHeld ?_
        refine pu_ 2 19 HT_ ?_
        refine one_ (i := 3) (N := some 20) #[true, true, true, true, false, false, false, false, false, false, false, false, false, false, false, false, false, false, false, false, false, false, false, false, false, false, false, false, false, false, false, false, false] rfl rfl (one_of HT_.out B3x4_) (by decide) (fun K hK => ?_)
        refine goes_ Try.func64 B3x4_ rfl #[.int .i64 (((rd_T104 l0_1 x3_1).f0).size : Int), .int .i64 1, .int .i64 8] (by rfl) rfl rfl B3x2_ ?_
        with_reducible refine (spec_l01In.calls (((rd_T104 l0_1 x3_1).f0).size : Int) 1 8 true _ A5.out).mono ?_
        rintro e w' ⟨rfl, ⟨nd, rfl⟩⟩
        refine ⟨_, rfl, ?_⟩
        refine hK.out _ _ ⟨(blk_cell BK110.out 0).trans rfl, (blk_cell BK110.out 1).trans rfl, (blk_cell BK110.out 2).trans rfl⟩ (fun hHeld => ?_)
        clear hK K
        refine norm_ (a' := ?_) ?_ ?_
        rotate_left
        ·show Act.put _ (some 20) _ = _
         simp only [Act.put, List.setIfInBounds_toArray, List.set_cons_zero, List.set_cons_succ, i64_w, i32_w]
         rfl
        refine pu_ 4 21 HT_ ?_
        refine pu_ 5 22 HT_ ?_
        refine pu_ 6 23 HT_ ?_
        refine pu_ 7 24 HT_ ?_
        refine pu_ 8 25 HT_ ?_
        refine of_ 9 26 HT_ ?_
        refine of_ 10 27 HT_ ?_
        refine of_ 11 28 HT_ ?_
        refine of_ 12 29 HT_ ?_
        refine of_ 13 30 HT_ ?_
        refine of_ 14 31 HT_ ?_
        refine of_ 15 32 HT_ ?_
        refine of_ 16 33 HT_ ?_
        refine of_ 17 34 HT_ ?_
        refine of_ 18 35 HT_ ?_
        refine pu_ 19 36 HT_ ?_
        refine pu_ 20 37 HT_ ?_
        refine pu_ 21 38 HT_ ?_
        refine pu_ 22 39 HT_ ?_
        refine ta_ 23 40 HT_ HW_ hHeld ?_
        refine pu_ 24 41 HT_ ?_
        refine pu_ 25 42 HT_ ?_
        refine pu_ 26 43 HT_ ?_
        refine pu_ 27 44 HT_ ?_
        refine of_ 28 45 HT_ ?_
        refine of_ 29 46 HT_ ?_
        refine of_ 30 47 HT_ ?_
        refine of_ 31 48 HT_ ?_
        refine pu_ 32 49 HT_ ?_
        refine done_ (done_of HT_.out B3x4_) ?_
        try go_wp2
        go_ret
        exact ⟨by first | rfl | (simp [errW_none, errW_some] <;> rfl) | (simp [*, errW_none, errW_some] <;> rfl), by repeat (first | (with_reducible first | exact HB.out | apply below_alloc | apply pw_below_drewN | apply below_drew1 | refine below_set ?_ GE107.out | refine below_set ?_ GE110.out) | exact HB.out)⟩
       ·rw [if_neg c39] at H
        have c39b0 : decide (20 < (((rd_T104 l0_1 x3_1).f1).size : Int)) = false := decide_eq_false c39
        have c39b1 : decide (20 < ((rd_T104 l0_1 x3_1).f1).size) = false := decide_eq_false (by omega)
        clear c39
        replace H := Option.bind_eq_some_iff.mp H
        obtain ⟨t114, A460, H⟩ := H
        (try dsimp only at H)
        have A46 := Aside0.mk A460
        clear A460
        by_cases c47 : t114 = true
        ·subst c47
         rw [if_pos rfl] at H
         have H' := Aside0.mk H
         clear H
         obtain ⟨hcz48_0, hcz48_1⟩ := cl2 BK107.out
         obtain ⟨hfz48_0, hfz48_1⟩ := fr2 BK107.out
         have p109 : 0 ≤ (x3_1 : Int) := of_decide_eq_true B3x3_
         have q109 : x3_1 < (l0_1.length : Int) := of_decide_eq_true B3x3_
         obtain ⟨ad109, e109, hx109_0, hx109_1, hx109_2⟩ := at_T104 HR0_1.out x3_1 p109 q109
         cases e109
         replace hx109_0 := (HB.out.cell (World.block_lt_of_cell? w _ hx109_0)).trans hx109_0
         replace hx109_1 := (HB.out.cell (World.block_lt_of_cell? w _ hx109_1)).trans hx109_1
         replace hx109_2 := (HB.out.cell (World.block_lt_of_cell? w _ hx109_2)).trans hx109_2
         replace p109 := eq_true p109
         replace q109 := eq_true q109
         try go_wp2_with (first | ((with_reducible refine gate_dst (N := 4) rfl ?_); (try (refine gate_guard (by rfl) ?_; dsimp only)); refine box_event ?hg (N := 4) ?hd (cs := #[.string (⟨#[]⟩ : ByteArray), .string (⟨#[]⟩ : ByteArray), .int .i64 0]) (t := 104) ?hr ?_; (case hd => rfl); (case hg => rfl); (case hr => first | (go_simp; done) | (go_simp; rfl)); intro gb110 hg w49 hbox hb; have n0_ := Aside0.mk (blk_below (g := gb107) (o := .cells #[.slice A0_0 l0_0.length c0_0, .slice (some ad109) l0_1.length c0_1] 37 (0, 0)) B3x1_ hb); have n1_ := Aside0.mk (below_step B3x0_ hb); have n2_ := Aside0.mk (hbox); have n3_ := Aside0.mk ((by rw [hg]; exact (below_size B3x0_) : w.heap.size ≤ gb110)); have n4_ := Aside0.mk ((by rw [hg]; exact (below_size B3x0_) : w.heap.size ≤ gb110)); have n5_ := Aside0.mk ((by rw [hg]; exact Nat.ne_of_lt (blk_lt (g := gb107) (o := .cells #[.slice A0_0 l0_0.length c0_0, .slice (some ad109) l0_1.length c0_1] 37 (0, 0)) B3x1_) : gb107 ≠ gb110)); have n6_ := Aside0.mk ((by rw [hg]; exact Nat.ne_of_gt (blk_lt (g := gb107) (o := .cells #[.slice A0_0 l0_0.length c0_0, .slice (some ad109) l0_1.length c0_1] 37 (0, 0)) B3x1_) : gb110 ≠ gb107)); clear BK107; clear HB; have BK107 := n0_; have HB := n1_; have BK110 := n2_; have GW110 := n3_; have GE110 := n4_; have NB107_110 := n5_; have NB110_107 := n6_; clear n0_ n1_ n2_ n3_ n4_ n5_ n6_; clear hb hbox hg; have hnb50 := NB110_107.out; have hnc50 := NB107_110.out; obtain ⟨hcz51_0, hcz51_1, hcz51_2⟩ := cl3 BK110.out; obtain ⟨hfz51_0, hfz51_1, hfz51_2⟩ := fr3 BK110.out))
         have n0_ : Aside0 ((((w49.setCell ⟨gb110, 0, none⟩ (.string ((rd_T104 l0_1 x3_1).f0))).setCell ⟨gb110, 1, none⟩ (.string ((rd_T104 l0_1 x3_1).f1))).setCell ⟨gb110, 2, none⟩ (.int .i64 ((rd_T104 l0_1 x3_1).f2))).heap[gb107]? = some (.cells #[.slice A0_0 l0_0.length c0_0, .slice (some ad109) l0_1.length c0_1] 37 (0, 0))) := ⟨by (with_reducible repeat (first | refine blk_drewN ?_ _ | refine blk_drew ?_ | refine blk_alloc ?_ _)); refine blk_far ?_ NB107_110.out _; (with_reducible repeat (first | refine blk_drewN ?_ _ | refine blk_drew ?_ | refine blk_alloc ?_ _)); refine blk_far ?_ NB107_110.out _; (with_reducible repeat (first | refine blk_drewN ?_ _ | refine blk_drew ?_ | refine blk_alloc ?_ _)); refine blk_far ?_ NB107_110.out _; (with_reducible repeat (first | refine blk_drewN ?_ _ | refine blk_drew ?_ | refine blk_alloc ?_ _)); exact BK107.out⟩
         have n1_ : Aside0 ((((w49.setCell ⟨gb110, 0, none⟩ (.string ((rd_T104 l0_1 x3_1).f0))).setCell ⟨gb110, 1, none⟩ (.string ((rd_T104 l0_1 x3_1).f1))).setCell ⟨gb110, 2, none⟩ (.int .i64 ((rd_T104 l0_1 x3_1).f2))).heap[gb110]? = some (.cells #[.string ((rd_T104 l0_1 x3_1).f0), .string ((rd_T104 l0_1 x3_1).f1), .int .i64 ((rd_T104 l0_1 x3_1).f2)] 104 (0, 0))) := ⟨by (with_reducible repeat (first | refine blk_drewN ?_ _ | refine blk_drew ?_ | refine blk_alloc ?_ _)); refine blk_put (cs := #[.string ((rd_T104 l0_1 x3_1).f0), .string ((rd_T104 l0_1 x3_1).f1), .int .i64 0]) ?_ 2 _ rfl; (with_reducible repeat (first | refine blk_drewN ?_ _ | refine blk_drew ?_ | refine blk_alloc ?_ _)); refine blk_put (cs := #[.string ((rd_T104 l0_1 x3_1).f0), .string (⟨#[]⟩ : ByteArray), .int .i64 0]) ?_ 1 _ rfl; (with_reducible repeat (first | refine blk_drewN ?_ _ | refine blk_drew ?_ | refine blk_alloc ?_ _)); refine blk_put (cs := #[.string (⟨#[]⟩ : ByteArray), .string (⟨#[]⟩ : ByteArray), .int .i64 0]) ?_ 0 _ rfl; (with_reducible repeat (first | refine blk_drewN ?_ _ | refine blk_drew ?_ | refine blk_alloc ?_ _)); exact BK110.out⟩
         have n2_ : Aside0 (Below w.heap.size w (((w49.setCell ⟨gb110, 0, none⟩ (.string ((rd_T104 l0_1 x3_1).f0))).setCell ⟨gb110, 1, none⟩ (.string ((rd_T104 l0_1 x3_1).f1))).setCell ⟨gb110, 2, none⟩ (.int .i64 ((rd_T104 l0_1 x3_1).f2)))) := ⟨by repeat (first | (with_reducible first | exact HB.out | apply below_alloc | apply pw_below_drewN | apply below_drew1 | refine below_set ?_ GE107.out | refine below_set ?_ GE110.out) | exact HB.out)⟩
         (try clear BK107)
         (try clear BK110)
         (try clear HB)
         generalize (((w49.setCell ⟨gb110, 0, none⟩ (.string ((rd_T104 l0_1 x3_1).f0))).setCell ⟨gb110, 1, none⟩ (.string ((rd_T104 l0_1 x3_1).f1))).setCell ⟨gb110, 2, none⟩ (.int .i64 ((rd_T104 l0_1 x3_1).f2))) = w52 at n0_ n1_ n2_ ⊢
         have BK107 := n0_
         have BK110 := n1_
         have HB := n2_
         clear n0_ n1_ n2_
         have n0_ := Aside0.mk (blk_drew BK107.out)
         have n1_ := Aside0.mk (blk_drew BK110.out)
         have n2_ := Aside0.mk (below_drew1 HB.out)
         clear BK107
         clear BK110
         clear HB
         have BK107 := n0_
         have BK110 := n1_
         have HB := n2_
         clear n0_ n1_ n2_
         refine start_ (n := 33) (S := fun w' => w'.cell? ⟨gb110, 0, none⟩ = some (.string ((rd_T104 l0_1 x3_1).f0)) ∧ w'.cell? ⟨gb110, 1, none⟩ = some (.string ((rd_T104 l0_1 x3_1).f1)) ∧ w'.cell? ⟨gb110, 2, none⟩ = some (.int .i64 ((rd_T104 l0_1 x3_1).f2))) (ds := []) #[false, false, false, false, false, false, false, false, false, false, false, false, false, false, false, false, false, false, false, false, false, false, false, false, false, false, false, false, false, false, false, false, false] B3x4_ rfl rfl ⟨(blk_cell BK110.out 0).trans rfl, (blk_cell BK110.out 1).trans rfl, (blk_cell BK110.out 2).trans rfl⟩ (fun hHeld => ?_); refine with_tabW spec_KeepOk.tab5 spec_KeepOk.bits5 (fun HT_ HW_ => ?_)
         generalize w52.drew = w53 at BK107 BK110 HB hHeld ⊢
         refine pu_ 0 17 HT_ ?_
         refine ta_ 1 18 HT_ HW_ hHeld ?_
         refine pu_ 2 19 HT_ ?_
         refine one_ (i := 3) (N := some 20) #[true, true, true, true, false, false, false, false, false, false, false, false, false, false, false, false, false, false, false, false, false, false, false, false, false, false, false, false, false, false, false, false, false] rfl rfl (one_of HT_.out B3x4_) (by decide) (fun K hK => ?_)
         refine goes_ Try.func64 B3x4_ rfl #[.int .i64 (((rd_T104 l0_1 x3_1).f0).size : Int), .int .i64 1, .int .i64 8] (by rfl) rfl rfl B3x2_ ?_
         with_reducible refine (spec_l01In.calls (((rd_T104 l0_1 x3_1).f0).size : Int) 1 8 true _ A5.out).mono ?_
         rintro e w' ⟨rfl, ⟨nd, rfl⟩⟩
         refine ⟨_, rfl, ?_⟩
         refine hK.out _ _ ⟨(blk_cell BK110.out 0).trans rfl, (blk_cell BK110.out 1).trans rfl, (blk_cell BK110.out 2).trans rfl⟩ (fun hHeld => ?_)
         clear hK K
         refine norm_ (a' := ?_) ?_ ?_
         rotate_left
         ·show Act.put _ (some 20) _ = _
          simp only [Act.put, List.setIfInBounds_toArray, List.set_cons_zero, List.set_cons_succ, i64_w, i32_w]
          rfl
         refine pu_ 4 21 HT_ ?_
         refine pu_ 5 22 HT_ ?_
         refine pu_ 6 23 HT_ ?_
         refine pu_ 7 24 HT_ ?_
         refine pu_ 8 25 HT_ ?_
         refine of_ 9 26 HT_ ?_
         refine of_ 10 27 HT_ ?_
         refine of_ 11 28 HT_ ?_
         refine of_ 12 29 HT_ ?_
         refine of_ 13 30 HT_ ?_
         refine of_ 14 31 HT_ ?_
         refine of_ 15 32 HT_ ?_
         refine of_ 16 33 HT_ ?_
         refine of_ 17 34 HT_ ?_
         refine of_ 18 35 HT_ ?_
         refine pu_ 19 36 HT_ ?_
         refine pu_ 20 37 HT_ ?_
         refine pu_ 21 38 HT_ ?_
         refine pu_ 22 39 HT_ ?_
         refine ta_ 23 40 HT_ HW_ hHeld ?_
         refine pu_ 24 41 HT_ ?_
         refine pu_ 25 42 HT_ ?_
         refine pu_ 26 43 HT_ ?_
         refine pu_ 27 44 HT_ ?_
         refine pu_ 28 45 HT_ ?_
         refine ta_ 29 46 HT_ HW_ hHeld ?_
         refine one_ (i := 30) (N := some 47) #[true, true, true, true, true, true, true, true, true, true, true, true, true, true, true, true, true, true, true, true, true, true, true, true, true, true, true, true, true, true, true, false, false] rfl rfl (one_of HT_.out B3x4_) (by decide) (fun K hK => ?_)
         refine goes_ Try.func64 B3x4_ rfl #[.int .i64 ((rd_T104 l0_1 x3_1).f2), .int .i64 1, .int .i64 1000000000] (by rfl) rfl rfl B3x2_ ?_
         with_reducible refine (spec_l01In.calls ((rd_T104 l0_1 x3_1).f2) 1 1000000000 true _ A46.out).mono ?_
         rintro e w' ⟨rfl, ⟨nd, rfl⟩⟩
         refine ⟨_, rfl, ?_⟩
         refine hK.out _ _ ⟨(blk_cell BK110.out 0).trans rfl, (blk_cell BK110.out 1).trans rfl, (blk_cell BK110.out 2).trans rfl⟩ (fun hHeld => ?_)
         clear hK K
         refine norm_ (a' := ?_) ?_ ?_
         rotate_left
         ·show Act.put _ (some 47) _ = _
          simp only [Act.put, List.setIfInBounds_toArray, List.set_cons_zero, List.set_cons_succ, i64_w, i32_w]
          rfl
         refine pu_ 31 48 HT_ ?_
         refine pu_ 32 49 HT_ ?_
         refine done_ (done_of HT_.out B3x4_) ?_
         try go_wp2
         go_roundg k1
         case measure => have := HK1.out; omega
         case rel => exact ⟨(wrap64 (x3_1 + 1)), (be_), H', ⟨by have := HK1.out; omega⟩, ⟨by (with_reducible repeat (first | refine blk_drewN ?_ _ | refine blk_drew ?_ | refine blk_alloc ?_ _)); exact BK107.out⟩, ⟨by repeat (first | (with_reducible first | exact HB.out | apply below_alloc | apply pw_below_drewN | apply below_drew1 | refine below_set ?_ GE107.out | refine below_set ?_ GE110.out) | exact HB.out)⟩⟩
        ·replace c47 := Bool.eq_false_iff.mpr c47
         subst c47
         rw [if_neg (show ¬ (false = true) by decide)] at H
         obtain rfl := Option.some.inj H
         obtain ⟨hcz54_0, hcz54_1⟩ := cl2 BK107.out
         obtain ⟨hfz54_0, hfz54_1⟩ := fr2 BK107.out
         have p109 : 0 ≤ (x3_1 : Int) := of_decide_eq_true B3x3_
         have q109 : x3_1 < (l0_1.length : Int) := of_decide_eq_true B3x3_
         obtain ⟨ad109, e109, hx109_0, hx109_1, hx109_2⟩ := at_T104 HR0_1.out x3_1 p109 q109
         cases e109
         replace hx109_0 := (HB.out.cell (World.block_lt_of_cell? w _ hx109_0)).trans hx109_0
         replace hx109_1 := (HB.out.cell (World.block_lt_of_cell? w _ hx109_1)).trans hx109_1
         replace hx109_2 := (HB.out.cell (World.block_lt_of_cell? w _ hx109_2)).trans hx109_2
         replace p109 := eq_true p109
         replace q109 := eq_true q109
         try go_wp2_with (first | ((with_reducible refine gate_dst (N := 4) rfl ?_); (try (refine gate_guard (by rfl) ?_; dsimp only)); refine box_event ?hg (N := 4) ?hd (cs := #[.string (⟨#[]⟩ : ByteArray), .string (⟨#[]⟩ : ByteArray), .int .i64 0]) (t := 104) ?hr ?_; (case hd => rfl); (case hg => rfl); (case hr => first | (go_simp; done) | (go_simp; rfl)); intro gb110 hg w55 hbox hb; have n0_ := Aside0.mk (blk_below (g := gb107) (o := .cells #[.slice A0_0 l0_0.length c0_0, .slice (some ad109) l0_1.length c0_1] 37 (0, 0)) B3x1_ hb); have n1_ := Aside0.mk (below_step B3x0_ hb); have n2_ := Aside0.mk (hbox); have n3_ := Aside0.mk ((by rw [hg]; exact (below_size B3x0_) : w.heap.size ≤ gb110)); have n4_ := Aside0.mk ((by rw [hg]; exact (below_size B3x0_) : w.heap.size ≤ gb110)); have n5_ := Aside0.mk ((by rw [hg]; exact Nat.ne_of_lt (blk_lt (g := gb107) (o := .cells #[.slice A0_0 l0_0.length c0_0, .slice (some ad109) l0_1.length c0_1] 37 (0, 0)) B3x1_) : gb107 ≠ gb110)); have n6_ := Aside0.mk ((by rw [hg]; exact Nat.ne_of_gt (blk_lt (g := gb107) (o := .cells #[.slice A0_0 l0_0.length c0_0, .slice (some ad109) l0_1.length c0_1] 37 (0, 0)) B3x1_) : gb110 ≠ gb107)); clear BK107; clear HB; have BK107 := n0_; have HB := n1_; have BK110 := n2_; have GW110 := n3_; have GE110 := n4_; have NB107_110 := n5_; have NB110_107 := n6_; clear n0_ n1_ n2_ n3_ n4_ n5_ n6_; clear hb hbox hg; have hnb56 := NB110_107.out; have hnc56 := NB107_110.out; obtain ⟨hcz57_0, hcz57_1, hcz57_2⟩ := cl3 BK110.out; obtain ⟨hfz57_0, hfz57_1, hfz57_2⟩ := fr3 BK110.out))
         have n0_ : Aside0 ((((w55.setCell ⟨gb110, 0, none⟩ (.string ((rd_T104 l0_1 x3_1).f0))).setCell ⟨gb110, 1, none⟩ (.string ((rd_T104 l0_1 x3_1).f1))).setCell ⟨gb110, 2, none⟩ (.int .i64 ((rd_T104 l0_1 x3_1).f2))).heap[gb107]? = some (.cells #[.slice A0_0 l0_0.length c0_0, .slice (some ad109) l0_1.length c0_1] 37 (0, 0))) := ⟨by (with_reducible repeat (first | refine blk_drewN ?_ _ | refine blk_drew ?_ | refine blk_alloc ?_ _)); refine blk_far ?_ NB107_110.out _; (with_reducible repeat (first | refine blk_drewN ?_ _ | refine blk_drew ?_ | refine blk_alloc ?_ _)); refine blk_far ?_ NB107_110.out _; (with_reducible repeat (first | refine blk_drewN ?_ _ | refine blk_drew ?_ | refine blk_alloc ?_ _)); refine blk_far ?_ NB107_110.out _; (with_reducible repeat (first | refine blk_drewN ?_ _ | refine blk_drew ?_ | refine blk_alloc ?_ _)); exact BK107.out⟩
         have n1_ : Aside0 ((((w55.setCell ⟨gb110, 0, none⟩ (.string ((rd_T104 l0_1 x3_1).f0))).setCell ⟨gb110, 1, none⟩ (.string ((rd_T104 l0_1 x3_1).f1))).setCell ⟨gb110, 2, none⟩ (.int .i64 ((rd_T104 l0_1 x3_1).f2))).heap[gb110]? = some (.cells #[.string ((rd_T104 l0_1 x3_1).f0), .string ((rd_T104 l0_1 x3_1).f1), .int .i64 ((rd_T104 l0_1 x3_1).f2)] 104 (0, 0))) := ⟨by (with_reducible repeat (first | refine blk_drewN ?_ _ | refine blk_drew ?_ | refine blk_alloc ?_ _)); refine blk_put (cs := #[.string ((rd_T104 l0_1 x3_1).f0), .string ((rd_T104 l0_1 x3_1).f1), .int .i64 0]) ?_ 2 _ rfl; (with_reducible repeat (first | refine blk_drewN ?_ _ | refine blk_drew ?_ | refine blk_alloc ?_ _)); refine blk_put (cs := #[.string ((rd_T104 l0_1 x3_1).f0), .string (⟨#[]⟩ : ByteArray), .int .i64 0]) ?_ 1 _ rfl; (with_reducible repeat (first | refine blk_drewN ?_ _ | refine blk_drew ?_ | refine blk_alloc ?_ _)); refine blk_put (cs := #[.string (⟨#[]⟩ : ByteArray), .string (⟨#[]⟩ : ByteArray), .int .i64 0]) ?_ 0 _ rfl; (with_reducible repeat (first | refine blk_drewN ?_ _ | refine blk_drew ?_ | refine blk_alloc ?_ _)); exact BK110.out⟩
         have n2_ : Aside0 (Below w.heap.size w (((w55.setCell ⟨gb110, 0, none⟩ (.string ((rd_T104 l0_1 x3_1).f0))).setCell ⟨gb110, 1, none⟩ (.string ((rd_T104 l0_1 x3_1).f1))).setCell ⟨gb110, 2, none⟩ (.int .i64 ((rd_T104 l0_1 x3_1).f2)))) := ⟨by repeat (first | (with_reducible first | exact HB.out | apply below_alloc | apply pw_below_drewN | apply below_drew1 | refine below_set ?_ GE107.out | refine below_set ?_ GE110.out) | exact HB.out)⟩
         (try clear BK107)
         (try clear BK110)
         (try clear HB)
         generalize (((w55.setCell ⟨gb110, 0, none⟩ (.string ((rd_T104 l0_1 x3_1).f0))).setCell ⟨gb110, 1, none⟩ (.string ((rd_T104 l0_1 x3_1).f1))).setCell ⟨gb110, 2, none⟩ (.int .i64 ((rd_T104 l0_1 x3_1).f2))) = w58 at n0_ n1_ n2_ ⊢
         have BK107 := n0_
         have BK110 := n1_
         have HB := n2_
         clear n0_ n1_ n2_
         have n0_ := Aside0.mk (blk_drew BK107.out)
         have n1_ := Aside0.mk (blk_drew BK110.out)
         have n2_ := Aside0.mk (below_drew1 HB.out)
         clear BK107
         clear BK110
         clear HB
         have BK107 := n0_
         have BK110 := n1_
         have HB := n2_
         clear n0_ n1_ n2_
         refine start_ (n := 33) (S := fun w' => w'.cell? ⟨gb110, 0, none⟩ = some (.string ((rd_T104 l0_1 x3_1).f0)) ∧ w'.cell? ⟨gb110, 1, none⟩ = some (.string ((rd_T104 l0_1 x3_1).f1)) ∧ w'.cell? ⟨gb110, 2, none⟩ = some (.int .i64 ((rd_T104 l0_1 x3_1).f2))) (ds := []) #[false, false, false, false, false, false, false, false, false, false, false, false, false, false, false, false, false, false, false, false, false, false, false, false, false, false, false, false, false, false, false, false, false] B3x4_ rfl rfl ⟨(blk_cell BK110.out 0).trans rfl, (blk_cell BK110.out 1).trans rfl, (blk_cell BK110.out 2).trans rfl⟩ (fun hHeld => ?_); refine with_tabW spec_KeepOk.tab5 spec_KeepOk.bits5 (fun HT_ HW_ => ?_)
         generalize w58.drew = w59 at BK107 BK110 HB hHeld ⊢
         refine pu_ 0 17 HT_ ?_
         refine ta_ 1 18 HT_ HW_ hHeld ?_
         refine pu_ 2 19 HT_ ?_
         refine one_ (i := 3) (N := some 20) #[true, true, true, true, false, false, false, false, false, false, false, false, false, false, false, false, false, false, false, false, false, false, false, false, false, false, false, false, false, false, false, false, false] rfl rfl (one_of HT_.out B3x4_) (by decide) (fun K hK => ?_)
         refine goes_ Try.func64 B3x4_ rfl #[.int .i64 (((rd_T104 l0_1 x3_1).f0).size : Int), .int .i64 1, .int .i64 8] (by rfl) rfl rfl B3x2_ ?_
         with_reducible refine (spec_l01In.calls (((rd_T104 l0_1 x3_1).f0).size : Int) 1 8 true _ A5.out).mono ?_
         rintro e w' ⟨rfl, ⟨nd, rfl⟩⟩
         refine ⟨_, rfl, ?_⟩
         refine hK.out _ _ ⟨(blk_cell BK110.out 0).trans rfl, (blk_cell BK110.out 1).trans rfl, (blk_cell BK110.out 2).trans rfl⟩ (fun hHeld => ?_)
         clear hK K
         refine norm_ (a' := ?_) ?_ ?_
         rotate_left
         ·show Act.put _ (some 20) _ = _
          simp only [Act.put, List.setIfInBounds_toArray, List.set_cons_zero, List.set_cons_succ, i64_w, i32_w]
          rfl
         refine pu_ 4 21 HT_ ?_
         refine pu_ 5 22 HT_ ?_
         refine pu_ 6 23 HT_ ?_
         refine pu_ 7 24 HT_ ?_
         refine pu_ 8 25 HT_ ?_
         refine of_ 9 26 HT_ ?_
         refine of_ 10 27 HT_ ?_
         refine of_ 11 28 HT_ ?_
         refine of_ 12 29 HT_ ?_
         refine of_ 13 30 HT_ ?_
         refine of_ 14 31 HT_ ?_
         refine of_ 15 32 HT_ ?_
         refine of_ 16 33 HT_ ?_
         refine of_ 17 34 HT_ ?_
         refine of_ 18 35 HT_ ?_
         refine pu_ 19 36 HT_ ?_
         refine pu_ 20 37 HT_ ?_
         refine pu_ 21 38 HT_ ?_
         refine pu_ 22 39 HT_ ?_
         refine ta_ 23 40 HT_ HW_ hHeld ?_
         refine pu_ 24 41 HT_ ?_
         refine pu_ 25 42 HT_ ?_
         refine pu_ 26 43 HT_ ?_
         refine pu_ 27 44 HT_ ?_
         refine pu_ 28 45 HT_ ?_
         refine ta_ 29 46 HT_ HW_ hHeld ?_
         refine one_ (i := 30) (N := some 47) #[true, true, true, true, true, true, true, true, true, true, true, true, true, true, true, true, true, true, true, true, true, true, true, true, true, true, true, true, true, true, true, false, false] rfl rfl (one_of HT_.out B3x4_) (by decide) (fun K hK => ?_)
         refine goes_ Try.func64 B3x4_ rfl #[.int .i64 ((rd_T104 l0_1 x3_1).f2), .int .i64 1, .int .i64 1000000000] (by rfl) rfl rfl B3x2_ ?_
         with_reducible refine (spec_l01In.calls ((rd_T104 l0_1 x3_1).f2) 1 1000000000 false _ A46.out).mono ?_
         rintro e w' ⟨rfl, ⟨nd, rfl⟩⟩
         refine ⟨_, rfl, ?_⟩
         refine hK.out _ _ ⟨(blk_cell BK110.out 0).trans rfl, (blk_cell BK110.out 1).trans rfl, (blk_cell BK110.out 2).trans rfl⟩ (fun hHeld => ?_)
         clear hK K
         refine norm_ (a' := ?_) ?_ ?_
         rotate_left
         ·show Act.put _ (some 47) _ = _
          simp only [Act.put, List.setIfInBounds_toArray, List.set_cons_zero, List.set_cons_succ, i64_w, i32_w]
          rfl
         refine pu_ 31 48 HT_ ?_
         refine pu_ 32 49 HT_ ?_
         refine done_ (done_of HT_.out B3x4_) ?_
         try go_wp2
         go_ret
         exact ⟨by first | rfl | (simp [errW_none, errW_some] <;> rfl) | (simp [*, errW_none, errW_some] <;> rfl), by repeat (first | (with_reducible first | exact HB.out | apply below_alloc | apply pw_below_drewN | apply below_drew1 | refine below_set ?_ GE107.out | refine below_set ?_ GE110.out) | exact HB.out)⟩
     ·replace c6 := Bool.eq_false_iff.mpr c6
      subst c6
      rw [if_neg (show ¬ (false = true) by decide)] at H
      obtain rfl := Option.some.inj H
      obtain ⟨hcz60_0, hcz60_1⟩ := cl2 BK107.out
      obtain ⟨hfz60_0, hfz60_1⟩ := fr2 BK107.out
      have p109 : 0 ≤ (x3_1 : Int) := of_decide_eq_true B3x3_
      have q109 : x3_1 < (l0_1.length : Int) := of_decide_eq_true B3x3_
      obtain ⟨ad109, e109, hx109_0, hx109_1, hx109_2⟩ := at_T104 HR0_1.out x3_1 p109 q109
      cases e109
      replace hx109_0 := (HB.out.cell (World.block_lt_of_cell? w _ hx109_0)).trans hx109_0
      replace hx109_1 := (HB.out.cell (World.block_lt_of_cell? w _ hx109_1)).trans hx109_1
      replace hx109_2 := (HB.out.cell (World.block_lt_of_cell? w _ hx109_2)).trans hx109_2
      replace p109 := eq_true p109
      replace q109 := eq_true q109
      try go_wp2_with (first | ((with_reducible refine gate_dst (N := 4) rfl ?_); (try (refine gate_guard (by rfl) ?_; dsimp only)); refine box_event ?hg (N := 4) ?hd (cs := #[.string (⟨#[]⟩ : ByteArray), .string (⟨#[]⟩ : ByteArray), .int .i64 0]) (t := 104) ?hr ?_; (case hd => rfl); (case hg => rfl); (case hr => first | (go_simp; done) | (go_simp; rfl)); intro gb110 hg w61 hbox hb; have n0_ := Aside0.mk (blk_below (g := gb107) (o := .cells #[.slice A0_0 l0_0.length c0_0, .slice (some ad109) l0_1.length c0_1] 37 (0, 0)) B3x1_ hb); have n1_ := Aside0.mk (below_step B3x0_ hb); have n2_ := Aside0.mk (hbox); have n3_ := Aside0.mk ((by rw [hg]; exact (below_size B3x0_) : w.heap.size ≤ gb110)); have n4_ := Aside0.mk ((by rw [hg]; exact (below_size B3x0_) : w.heap.size ≤ gb110)); have n5_ := Aside0.mk ((by rw [hg]; exact Nat.ne_of_lt (blk_lt (g := gb107) (o := .cells #[.slice A0_0 l0_0.length c0_0, .slice (some ad109) l0_1.length c0_1] 37 (0, 0)) B3x1_) : gb107 ≠ gb110)); have n6_ := Aside0.mk ((by rw [hg]; exact Nat.ne_of_gt (blk_lt (g := gb107) (o := .cells #[.slice A0_0 l0_0.length c0_0, .slice (some ad109) l0_1.length c0_1] 37 (0, 0)) B3x1_) : gb110 ≠ gb107)); clear BK107; clear HB; have BK107 := n0_; have HB := n1_; have BK110 := n2_; have GW110 := n3_; have GE110 := n4_; have NB107_110 := n5_; have NB110_107 := n6_; clear n0_ n1_ n2_ n3_ n4_ n5_ n6_; clear hb hbox hg; have hnb62 := NB110_107.out; have hnc62 := NB107_110.out; obtain ⟨hcz63_0, hcz63_1, hcz63_2⟩ := cl3 BK110.out; obtain ⟨hfz63_0, hfz63_1, hfz63_2⟩ := fr3 BK110.out))
      have n0_ : Aside0 ((((w61.setCell ⟨gb110, 0, none⟩ (.string ((rd_T104 l0_1 x3_1).f0))).setCell ⟨gb110, 1, none⟩ (.string ((rd_T104 l0_1 x3_1).f1))).setCell ⟨gb110, 2, none⟩ (.int .i64 ((rd_T104 l0_1 x3_1).f2))).heap[gb107]? = some (.cells #[.slice A0_0 l0_0.length c0_0, .slice (some ad109) l0_1.length c0_1] 37 (0, 0))) := ⟨by (with_reducible repeat (first | refine blk_drewN ?_ _ | refine blk_drew ?_ | refine blk_alloc ?_ _)); refine blk_far ?_ NB107_110.out _; (with_reducible repeat (first | refine blk_drewN ?_ _ | refine blk_drew ?_ | refine blk_alloc ?_ _)); refine blk_far ?_ NB107_110.out _; (with_reducible repeat (first | refine blk_drewN ?_ _ | refine blk_drew ?_ | refine blk_alloc ?_ _)); refine blk_far ?_ NB107_110.out _; (with_reducible repeat (first | refine blk_drewN ?_ _ | refine blk_drew ?_ | refine blk_alloc ?_ _)); exact BK107.out⟩
      have n1_ : Aside0 ((((w61.setCell ⟨gb110, 0, none⟩ (.string ((rd_T104 l0_1 x3_1).f0))).setCell ⟨gb110, 1, none⟩ (.string ((rd_T104 l0_1 x3_1).f1))).setCell ⟨gb110, 2, none⟩ (.int .i64 ((rd_T104 l0_1 x3_1).f2))).heap[gb110]? = some (.cells #[.string ((rd_T104 l0_1 x3_1).f0), .string ((rd_T104 l0_1 x3_1).f1), .int .i64 ((rd_T104 l0_1 x3_1).f2)] 104 (0, 0))) := ⟨by (with_reducible repeat (first | refine blk_drewN ?_ _ | refine blk_drew ?_ | refine blk_alloc ?_ _)); refine blk_put (cs := #[.string ((rd_T104 l0_1 x3_1).f0), .string ((rd_T104 l0_1 x3_1).f1), .int .i64 0]) ?_ 2 _ rfl; (with_reducible repeat (first | refine blk_drewN ?_ _ | refine blk_drew ?_ | refine blk_alloc ?_ _)); refine blk_put (cs := #[.string ((rd_T104 l0_1 x3_1).f0), .string (⟨#[]⟩ : ByteArray), .int .i64 0]) ?_ 1 _ rfl; (with_reducible repeat (first | refine blk_drewN ?_ _ | refine blk_drew ?_ | refine blk_alloc ?_ _)); refine blk_put (cs := #[.string (⟨#[]⟩ : ByteArray), .string (⟨#[]⟩ : ByteArray), .int .i64 0]) ?_ 0 _ rfl; (with_reducible repeat (first | refine blk_drewN ?_ _ | refine blk_drew ?_ | refine blk_alloc ?_ _)); exact BK110.out⟩
      have n2_ : Aside0 (Below w.heap.size w (((w61.setCell ⟨gb110, 0, none⟩ (.string ((rd_T104 l0_1 x3_1).f0))).setCell ⟨gb110, 1, none⟩ (.string ((rd_T104 l0_1 x3_1).f1))).setCell ⟨gb110, 2, none⟩ (.int .i64 ((rd_T104 l0_1 x3_1).f2)))) := ⟨by repeat (first | (with_reducible first | exact HB.out | apply below_alloc | apply pw_below_drewN | apply below_drew1 | refine below_set ?_ GE107.out | refine below_set ?_ GE110.out) | exact HB.out)⟩
      (try clear BK107)
      (try clear BK110)
      (try clear HB)
      generalize (((w61.setCell ⟨gb110, 0, none⟩ (.string ((rd_T104 l0_1 x3_1).f0))).setCell ⟨gb110, 1, none⟩ (.string ((rd_T104 l0_1 x3_1).f1))).setCell ⟨gb110, 2, none⟩ (.int .i64 ((rd_T104 l0_1 x3_1).f2))) = w64 at n0_ n1_ n2_ ⊢
      have BK107 := n0_
      have BK110 := n1_
      have HB := n2_
      clear n0_ n1_ n2_
      have n0_ := Aside0.mk (blk_drew BK107.out)
      have n1_ := Aside0.mk (blk_drew BK110.out)
      have n2_ := Aside0.mk (below_drew1 HB.out)
      clear BK107
      clear BK110
      clear HB
      have BK107 := n0_
      have BK110 := n1_
      have HB := n2_
      clear n0_ n1_ n2_
      refine start_ (n := 33) (S := fun w' => w'.cell? ⟨gb110, 0, none⟩ = some (.string ((rd_T104 l0_1 x3_1).f0)) ∧ w'.cell? ⟨gb110, 1, none⟩ = some (.string ((rd_T104 l0_1 x3_1).f1)) ∧ w'.cell? ⟨gb110, 2, none⟩ = some (.int .i64 ((rd_T104 l0_1 x3_1).f2))) (ds := []) #[false, false, false, false, false, false, false, false, false, false, false, false, false, false, false, false, false, false, false, false, false, false, false, false, false, false, false, false, false, false, false, false, false] B3x4_ rfl rfl ⟨(blk_cell BK110.out 0).trans rfl, (blk_cell BK110.out 1).trans rfl, (blk_cell BK110.out 2).trans rfl⟩ (fun hHeld => ?_); refine with_tabW spec_KeepOk.tab5 spec_KeepOk.bits5 (fun HT_ HW_ => ?_)
      generalize w64.drew = w65 at BK107 BK110 HB hHeld ⊢
      refine pu_ 0 17 HT_ ?_
      refine ta_ 1 18 HT_ HW_ hHeld ?_
      refine pu_ 2 19 HT_ ?_
      refine one_ (i := 3) (N := some 20) #[true, true, true, true, false, false, false, false, false, false, false, false, false, false, false, false, false, false, false, false, false, false, false, false, false, false, false, false, false, false, false, false, false] rfl rfl (one_of HT_.out B3x4_) (by decide) (fun K hK => ?_)
      refine goes_ Try.func64 B3x4_ rfl #[.int .i64 (((rd_T104 l0_1 x3_1).f0).size : Int), .int .i64 1, .int .i64 8] (by rfl) rfl rfl B3x2_ ?_
      with_reducible refine (spec_l01In.calls (((rd_T104 l0_1 x3_1).f0).size : Int) 1 8 false _ A5.out).mono ?_
      rintro e w' ⟨rfl, ⟨nd, rfl⟩⟩
      refine ⟨_, rfl, ?_⟩
      refine hK.out _ _ ⟨(blk_cell BK110.out 0).trans rfl, (blk_cell BK110.out 1).trans rfl, (blk_cell BK110.out 2).trans rfl⟩ (fun hHeld => ?_)
      clear hK K
      refine norm_ (a' := ?_) ?_ ?_
      rotate_left
      ·show Act.put _ (some 20) _ = _
       simp only [Act.put, List.setIfInBounds_toArray, List.set_cons_zero, List.set_cons_succ, i64_w, i32_w]
       rfl
      refine pu_ 4 21 HT_ ?_
      refine pu_ 5 22 HT_ ?_
      refine of_ 6 23 HT_ ?_
      refine of_ 7 24 HT_ ?_
      refine of_ 8 25 HT_ ?_
      refine of_ 9 26 HT_ ?_
      refine of_ 10 27 HT_ ?_
      refine of_ 11 28 HT_ ?_
      refine of_ 12 29 HT_ ?_
      refine of_ 13 30 HT_ ?_
      refine of_ 14 31 HT_ ?_
      refine of_ 15 32 HT_ ?_
      refine of_ 16 33 HT_ ?_
      refine of_ 17 34 HT_ ?_
      refine of_ 18 35 HT_ ?_
      refine of_ 19 36 HT_ ?_
      refine pu_ 20 37 HT_ ?_
      refine pu_ 21 38 HT_ ?_
      refine of_ 22 39 HT_ ?_
      refine of_ 23 40 HT_ ?_
      refine of_ 24 41 HT_ ?_
      refine of_ 25 42 HT_ ?_
      refine pu_ 26 43 HT_ ?_
      refine pu_ 27 44 HT_ ?_
      refine of_ 28 45 HT_ ?_
      refine of_ 29 46 HT_ ?_
      refine of_ 30 47 HT_ ?_
      refine of_ 31 48 HT_ ?_
      refine pu_ 32 49 HT_ ?_
      refine done_ (done_of HT_.out B3x4_) ?_
      try go_wp2
      go_ret
      exact ⟨by first | rfl | (simp [errW_none, errW_some] <;> rfl) | (simp [*, errW_none, errW_some] <;> rfl), by repeat (first | (with_reducible first | exact HB.out | apply below_alloc | apply pw_below_drewN | apply below_drew1 | refine below_set ?_ GE107.out | refine below_set ?_ GE110.out) | exact HB.out)⟩
    ·rw [if_neg c4] at H
     exact absurd H (by simp)
   ·rw [if_neg c3] at H
    have c3b0 : decide (x3_1 < (l0_1.length : Int)) = false := decide_eq_false c3
    clear c3
    replace H := Option.bind_eq_some_iff.mp H
    obtain ⟨t108, A660, H⟩ := H
    (try dsimp only at H)
    have A66 := Aside0.mk A660
    clear A660
    by_cases c67 : t108 = true
    ·subst c67
     rw [if_pos rfl] at H
     obtain rfl := Option.some.inj H
     obtain ⟨hcz68_0, hcz68_1⟩ := cl2 BK107.out
     obtain ⟨hfz68_0, hfz68_1⟩ := fr2 BK107.out
     go_wp2_with (first | ((with_reducible refine gate_callee (f := 122) rfl ?_); refine goesL_ (some 52) rfl rfl Try.func122 B3x4_ rfl #[.slice A0_0 l0_0.length c0_0] rfl B3x2_ ?_; (with_reducible refine (spec_l15Sessions.calls k1 _ _ l0_0 true _ ?side1 ?side2 A66.out).mono ?_); (case side1 => repeat (first | exact (Kd.C_below HR0_0.out HB.out) | (with_reducible refine Kd.C_alloc ?_ _) | (with_reducible refine Kd.C_drewN ?_ _) | (with_reducible refine Kd.C_drew ?_))); (case side2 => exact HC0_0.out); rintro e w69 ⟨rfl, hb⟩; refine ⟨_, rfl, ?_⟩; have n0_ := Aside0.mk (blk_below (g := gb107) (o := .cells #[.slice A0_0 l0_0.length c0_0, .slice A0_1 l0_1.length c0_1] 37 (0, 0)) B3x1_ hb); have n1_ := Aside0.mk (below_step B3x0_ hb); clear BK107; clear HB; have BK107 := n0_; have HB := n1_; clear n0_ n1_; (try clear hb); (try clear hb2); (try clear hk); (try clear hi); obtain ⟨hcz70_0, hcz70_1⟩ := cl2 BK107.out; obtain ⟨hfz70_0, hfz70_1⟩ := fr2 BK107.out))
     go_ret
     exact ⟨by first | rfl | (simp [errW_none, errW_some] <;> rfl) | (simp [*, errW_none, errW_some] <;> rfl), by repeat (first | (with_reducible first | exact HB.out | apply below_alloc | apply pw_below_drewN | apply below_drew1 | refine below_set ?_ GE107.out) | exact HB.out)⟩
    ·replace c67 := Bool.eq_false_iff.mpr c67
     subst c67
     rw [if_neg (show ¬ (false = true) by decide)] at H
     obtain rfl := Option.some.inj H
     obtain ⟨hcz71_0, hcz71_1⟩ := cl2 BK107.out
     obtain ⟨hfz71_0, hfz71_1⟩ := fr2 BK107.out
     go_wp2_with (first | ((with_reducible refine gate_callee (f := 122) rfl ?_); refine goesL_ (some 52) rfl rfl Try.func122 B3x4_ rfl #[.slice A0_0 l0_0.length c0_0] rfl B3x2_ ?_; (with_reducible refine (spec_l15Sessions.calls k1 _ _ l0_0 false _ ?side1 ?side2 A66.out).mono ?_); (case side1 => repeat (first | exact (Kd.C_below HR0_0.out HB.out) | (with_reducible refine Kd.C_alloc ?_ _) | (with_reducible refine Kd.C_drewN ?_ _) | (with_reducible refine Kd.C_drew ?_))); (case side2 => exact HC0_0.out); rintro e w72 ⟨rfl, hb⟩; refine ⟨_, rfl, ?_⟩; have n0_ := Aside0.mk (blk_below (g := gb107) (o := .cells #[.slice A0_0 l0_0.length c0_0, .slice A0_1 l0_1.length c0_1] 37 (0, 0)) B3x1_ hb); have n1_ := Aside0.mk (below_step B3x0_ hb); clear BK107; clear HB; have BK107 := n0_; have HB := n1_; clear n0_ n1_; (try clear hb); (try clear hb2); (try clear hk); (try clear hi)))
     go_ret
     exact ⟨by first | rfl | (simp [errW_none, errW_some] <;> rfl) | (simp [*, errW_none, errW_some] <;> rfl), by repeat (first | (with_reducible first | exact HB.out | apply below_alloc | apply pw_below_drewN | apply below_drew1 | refine below_set ?_ GE107.out) | exact HB.out)⟩

end Go.Proofs.Ythgjcijcmacpmaa.QFnExactReadKeep
