/- Functions that a law reaches, as functions of Lean, and the walks that show that the calls come to their answers: written by a program of this project out of the translation. No condition. -/
import Derived.Test.YtmknnoeggkgkgaaQFnExactJoinBitsx0
import Derived.Test.YtmknnoeggkgkgaaVFnExactJoinBitshort4
import Derived.Test.YtmknnoeggkgkgaaVFnExactJoinBitshort3
import Derived.Test.YtmknnoeggkgkgaaVFnExactJoinBitsShort
namespace Go.Proofs.Ytmknnoeggkgkgaa.QFnExactJoinBits
open Go.RowKit Go.Proofs.YtmknnoeggkgkgaaW.PrintWords Go.Proofs.YtmknnoeggkgkgaaW.PrintLast Go.Proofs.YtmknnoeggkgkgaaW.PrintMore Go.Proofs.Ytmknnoeggkgkgaa.Short
attribute [local go_sem] max2_int min2_int max_two min_two max_three min_three max_four min_four   -- for this text's walks alone
set_option linter.unusedVariables false
set_option linter.unusedSimpArgs false

theorem B9x0_ {p : Prop} (h : p := by repeat (first | (with_reducible first | exact HB.out | apply below_alloc | apply pw_below_drewN | apply below_drew1) | exact HB.out)) : p := h
theorem B9x1_ {p : Prop} (h : p := by repeat (first | (with_reducible first | exact HB.out | apply below_alloc | apply pw_below_drewN | apply below_drew1 | refine below_set ?_ GE304.out | refine below_set ?_ GE305.out) | exact HB.out)) : p := h
theorem B9x2_ {p : Prop} (h : p := by repeat (first | (with_reducible first | exact HB.out | apply below_alloc | apply pw_below_drewN | apply below_drew1 | refine below_set ?_ GE304.out) | exact HB.out)) : p := h
theorem B9x3_ {p : Prop} (h : p := by first | rfl | (simp [errW_none, errW_some] <;> rfl) | (simp [*, errW_none, errW_some] <;> rfl)) : p := h
theorem B9x4_ {p : Prop} (h : p := by first | (go_simp; done) | (go_simp; rfl)) : p := h
theorem B9x5_ {p : Prop} (h : p := by repeat (first | (with_reducible first | exact HB.out | apply below_alloc | apply pw_below_drewN | apply below_drew1 | refine below_set ?_ GE301.out | refine below_set ?_ GE302.out | refine below_set ?_ GE303.out) | exact HB.out)) : p := h
theorem B9x6_ {p : Prop} (h : p := by repeat (first | (with_reducible first | exact HB.out | apply below_alloc | apply pw_below_drewN | apply below_drew1 | refine below_set ?_ GE300.out) | exact HB.out)) : p := h
/-! ### laws_szDgram: function 49 -/
def laws_szDgram.f (a0_0 : Int) (a0_1 : Int) (a0_2 : Int) (a0_3 : Int) (a0_4 : Bool) (a0_5 : ByteArray) (a1 : Int) : Option (Int) := if (wrap64 (a1 - (a0_5.size : Int))) < 0 then (some (-1)) else (some (wrap64 (a1 - (a0_5.size : Int))))
set_option maxHeartbeats 8000000 in
set_option maxRecDepth 100000 in
theorem laws_szDgram.calls (a0_0 : Int) (a0_1 : Int) (a0_2 : Int) (a0_3 : Int) (a0_4 : Bool) (a0_5 : ByteArray) (a1 : Int) (r : Int) (w : World) (h : laws_szDgram.f a0_0 a0_1 a0_2 a0_3 a0_4 a0_5 a1 = some r) :
  Calls Try.prog 49 #[.agg #[.int .i64 a0_0, .int .i64 a0_1, .int .i64 a0_2, .int .i64 a0_3, .bool a0_4, .string a0_5], .int .i64 a1] w fun e w' => e = .returned (.int .i64 r) ∧ Below w.heap.size w w' := by
 have hu83 := Try.underlying83
 have HB := Aside0.mk (Below.refl w.heap.size w)
 have H : (if (wrap64 (a1 - (a0_5.size : Int))) < 0 then (some (-1)) else (some (wrap64 (a1 - (a0_5.size : Int))))) = some r := h
 clear h
 by_cases c3 : (wrap64 (a1 - (a0_5.size : Int))) < 0
 ·rw [if_pos c3] at H
  have c3b0 : decide ((wrap64 (a1 - (a0_5.size : Int))) < 0) = true := decide_eq_true c3
  clear c3
  obtain rfl := Option.some.inj H
  go_enter Try.func49, Try.ntmps49
  go_wp2_with (first | ((with_reducible refine gate_dst (N := 2) rfl ?_); refine box_event ?hg (N := 2) ?hd (cs := #[.int .i64 a0_0, .int .i64 a0_1, .int .i64 a0_2, .int .i64 a0_3, .bool a0_4, .string a0_5]) (t := 83) ?hr ?_; (case hd => rfl); (case hg => rfl); (case hr => exact B9x4_); intro gb300 hg w4 hbox hb; have BK300 := Aside0.mk (hbox); have GW300 := Aside0.mk ((bs hg (below_size HB.out))); have GE300 := Aside0.mk ((bs hg (below_size HB.out))); replace HB := Aside0.mk (below_step B9x0_ hb); clear hb hbox hg; obtain ⟨hcz5_0, hcz5_1, hcz5_2, hcz5_3, hcz5_4, hcz5_5⟩ := cl6 BK300.out; obtain ⟨hfz5_0, hfz5_1, hfz5_2, hfz5_3, hfz5_4, hfz5_5⟩ := fr6 BK300.out))
  go_ret
  exact ⟨B9x3_, B9x6_⟩
 ·rw [if_neg c3] at H
  have c3b0 : decide ((wrap64 (a1 - (a0_5.size : Int))) < 0) = false := decide_eq_false c3
  clear c3
  obtain rfl := Option.some.inj H
  go_enter Try.func49, Try.ntmps49
  go_wp2_with (first | ((with_reducible refine gate_dst (N := 2) rfl ?_); refine box_event ?hg (N := 2) ?hd (cs := #[.int .i64 a0_0, .int .i64 a0_1, .int .i64 a0_2, .int .i64 a0_3, .bool a0_4, .string a0_5]) (t := 83) ?hr ?_; (case hd => rfl); (case hg => rfl); (case hr => exact B9x4_); intro gb300 hg w6 hbox hb; have BK300 := Aside0.mk (hbox); have GW300 := Aside0.mk ((bs hg (below_size HB.out))); have GE300 := Aside0.mk ((bs hg (below_size HB.out))); replace HB := Aside0.mk (below_step B9x0_ hb); clear hb hbox hg; obtain ⟨hcz7_0, hcz7_1, hcz7_2, hcz7_3, hcz7_4, hcz7_5⟩ := cl6 BK300.out; obtain ⟨hfz7_0, hfz7_1, hfz7_2, hfz7_3, hfz7_4, hfz7_5⟩ := fr6 BK300.out))
  go_ret
  exact ⟨B9x3_, B9x6_⟩

/-! ### laws_toDgram: function 50 -/
def laws_toDgram.f (a0_0 : Int) (a0_1 : Int) (a0_2 : Int) (a0_3 : Int) (a0_4 : Bool) (a0_5 : ByteArray) : Option (Int × Int × Int × Int × Bool × ByteArray) := some (a0_0, a0_1, a0_2, a0_3, a0_4, a0_5)
set_option maxHeartbeats 8000000 in
set_option maxRecDepth 100000 in
theorem laws_toDgram.calls (a0_0 : Int) (a0_1 : Int) (a0_2 : Int) (a0_3 : Int) (a0_4 : Bool) (a0_5 : ByteArray) (r1 : Int) (r2 : Int) (r3 : Int) (r4 : Int) (r5 : Bool) (r6 : ByteArray) (w : World) (h : laws_toDgram.f a0_0 a0_1 a0_2 a0_3 a0_4 a0_5 = some (r1, r2, r3, r4, r5, r6)) :
  Calls Try.prog 50 #[.agg #[.int .i64 a0_0, .int .i64 a0_1, .int .i64 a0_2, .int .i64 a0_3, .bool a0_4, .string a0_5]] w fun e w' => e = .returned (.agg #[.int .i64 r1, .int .i64 r2, .int .i64 r3, .int .i64 r4, .bool r5, .string r6]) ∧ Below w.heap.size w w' := by
 have hu83 := Try.underlying83
 have hu62 := Try.underlying62
 have HB := Aside0.mk (Below.refl w.heap.size w)
 have H : (some (a0_0, a0_1, a0_2, a0_3, a0_4, a0_5)) = some (r1, r2, r3, r4, r5, r6) := h
 clear h
 simp only [Option.some.injEq, Prod.mk.injEq] at H
 obtain ⟨rfl, rfl, rfl, rfl, rfl, rfl⟩ := H
 go_enter Try.func50, Try.ntmps50
 go_wp2_with (first | ((with_reducible refine gate_dst (N := 1) rfl ?_); refine box_event ?hg (N := 1) ?hd (cs := #[.int .i64 a0_0, .int .i64 a0_1, .int .i64 a0_2, .int .i64 a0_3, .bool a0_4, .string a0_5]) (t := 83) ?hr ?_; (case hd => rfl); (case hg => rfl); (case hr => exact B9x4_); intro gb301 hg w2 hbox hb; have BK301 := Aside0.mk (hbox); have GW301 := Aside0.mk ((bs hg (below_size HB.out))); have GE301 := Aside0.mk ((bs hg (below_size HB.out))); replace HB := Aside0.mk (below_step B9x0_ hb); clear hb hbox hg) | ((with_reducible refine gate_dst (N := 2) rfl ?_); refine box_event ?hg (N := 2) ?hd (cs := #[.int .i64 0, .int .i64 0, .int .i64 0, .int .i64 0, .bool false, .string (⟨#[]⟩ : ByteArray)]) (t := 62) ?hr ?_; (case hd => rfl); (case hg => rfl); (case hr => exact B9x4_); intro gb302 hg w3 hbox hb; have BK302 := Aside0.mk (hbox); have GW302 := Aside0.mk ((bs hg (below_size HB.out))); have GE302 := Aside0.mk ((bs hg (below_size HB.out))); replace HB := Aside0.mk (below_step (by repeat (first | (with_reducible first | exact HB.out | apply below_alloc | apply pw_below_drewN | apply below_drew1 | refine below_set ?_ GE301.out) | exact HB.out)) hb); have NB301_302 := Aside0.mk ((nl hg (blk_lt BK301.out))); have NB302_301 := Aside0.mk ((ng hg (blk_lt BK301.out))); replace BK301 := Aside0.mk (bb BK301.out hb); clear hb hbox hg) | ((with_reducible refine gate_dst (N := 3) rfl ?_); refine box_event ?hg (N := 3) ?hd (cs := #[.int .i64 0, .int .i64 0, .int .i64 0, .int .i64 0, .bool false, .string (⟨#[]⟩ : ByteArray)]) (t := 62) ?hr ?_; (case hd => rfl); (case hg => rfl); (case hr => exact B9x4_); intro gb303 hg w4 hbox hb; have BK303 := Aside0.mk (hbox); have GW303 := Aside0.mk ((bs hg (below_size HB.out))); have GE303 := Aside0.mk ((bs hg (below_size HB.out))); replace HB := Aside0.mk (below_step (by repeat (first | (with_reducible first | exact HB.out | apply below_alloc | apply pw_below_drewN | apply below_drew1 | refine below_set ?_ GE301.out | refine below_set ?_ GE302.out) | exact HB.out)) hb); have NB301_303 := Aside0.mk ((nl hg (blk_lt BK301.out))); have NB303_301 := Aside0.mk ((ng hg (blk_lt BK301.out))); replace BK301 := Aside0.mk (bb BK301.out hb); have NB302_303 := Aside0.mk ((nl hg (blk_lt BK302.out))); have NB303_302 := Aside0.mk ((ng hg (blk_lt BK302.out))); replace BK302 := Aside0.mk (bb BK302.out hb); clear hb hbox hg; have hnb5 := NB301_302.out; have hnc5 := NB302_301.out; have hnb6 := NB301_303.out; have hnc6 := NB303_301.out; obtain ⟨hcz7_0, hcz7_1, hcz7_2, hcz7_3, hcz7_4, hcz7_5⟩ := cl6 BK301.out; obtain ⟨hfz7_0, hfz7_1, hfz7_2, hfz7_3, hfz7_4, hfz7_5⟩ := fr6 BK301.out; have hnb8 := NB303_302.out; have hnc8 := NB302_303.out; obtain ⟨hcz9_0, hcz9_1, hcz9_2, hcz9_3, hcz9_4, hcz9_5⟩ := cl6 BK303.out; obtain ⟨hfz9_0, hfz9_1, hfz9_2, hfz9_3, hfz9_4, hfz9_5⟩ := fr6 BK303.out) | ((with_reducible refine gate_store (t := 9) (p := 21) rfl ?_); refine store_event (t := 9) (p := 21) (v := ?vo_w10) (w1 := ((((((w4.setCell ⟨gb303, 0, none⟩ (.int .i64 a0_0)).setCell ⟨gb303, 1, none⟩ (.int .i64 a0_1)).setCell ⟨gb303, 2, none⟩ (.int .i64 a0_2)).setCell ⟨gb303, 3, none⟩ (.int .i64 a0_3)).setCell ⟨gb303, 4, none⟩ (.bool a0_4)).setCell ⟨gb303, 5, none⟩ (.string a0_5))) ?hg ?ho ?hn ?hr ?_; (case ho => rfl); (case hg => rfl); (case hn => rfl); (case hr => exact B9x4_); intro w10 hw; replace BK301 : Aside0 (w10.heap[gb301]? = some (.cells #[.int .i64 a0_0, .int .i64 a0_1, .int .i64 a0_2, .int .i64 a0_3, .bool a0_4, .string a0_5] 83 (0, 0))) := ⟨(by rw [hw]; exact (by (repeat (with_reducible (first | exact BK301.out | apply blk_drewN | apply blk_drew | apply blk_alloc | apply blk_put | apply bf NB301_303.out))); repeat (first | exact BK301.out | (simp only [List.setIfInBounds_toArray, List.set_cons_zero, List.set_cons_succ]; with_reducible rfl) | rfl)))⟩; replace BK302 : Aside0 (w10.heap[gb302]? = some (.cells #[.int .i64 0, .int .i64 0, .int .i64 0, .int .i64 0, .bool false, .string (⟨#[]⟩ : ByteArray)] 62 (0, 0))) := ⟨(by rw [hw]; exact (by (repeat (with_reducible (first | exact BK302.out | apply blk_drewN | apply blk_drew | apply blk_alloc | apply blk_put | apply bf NB302_303.out))); repeat (first | exact BK302.out | (simp only [List.setIfInBounds_toArray, List.set_cons_zero, List.set_cons_succ]; with_reducible rfl) | rfl)))⟩; replace BK303 : Aside0 (w10.heap[gb303]? = some (.cells #[.int .i64 a0_0, .int .i64 a0_1, .int .i64 a0_2, .int .i64 a0_3, .bool a0_4, .string a0_5] 62 (0, 0))) := ⟨(by rw [hw]; exact (by (repeat (with_reducible (first | exact BK303.out | apply blk_drewN | apply blk_drew | apply blk_alloc | apply blk_put))); repeat (first | exact BK303.out | (simp only [List.setIfInBounds_toArray, List.set_cons_zero, List.set_cons_succ]; with_reducible rfl) | rfl)))⟩; replace HB : Aside0 (Below w.heap.size w w10) := ⟨(by rw [hw]; exact B9x5_)⟩; clear hw; obtain ⟨hcz11_0, hcz11_1, hcz11_2, hcz11_3, hcz11_4, hcz11_5⟩ := cl6 BK303.out; obtain ⟨hfz11_0, hfz11_1, hfz11_2, hfz11_3, hfz11_4, hfz11_5⟩ := fr6 BK303.out; obtain ⟨hcz12_0, hcz12_1, hcz12_2, hcz12_3, hcz12_4, hcz12_5⟩ := cl6 BK302.out; obtain ⟨hfz12_0, hfz12_1, hfz12_2, hfz12_3, hfz12_4, hfz12_5⟩ := fr6 BK302.out) | ((with_reducible refine gate_store (t := 62) (p := 2) rfl ?_); refine store_event (t := 62) (p := 2) (v := ?vo_w13) (w1 := ((((((w10.setCell ⟨gb302, 0, none⟩ (.int .i64 a0_0)).setCell ⟨gb302, 1, none⟩ (.int .i64 a0_1)).setCell ⟨gb302, 2, none⟩ (.int .i64 a0_2)).setCell ⟨gb302, 3, none⟩ (.int .i64 a0_3)).setCell ⟨gb302, 4, none⟩ (.bool a0_4)).setCell ⟨gb302, 5, none⟩ (.string a0_5))) ?hg ?ho ?hn ?hr ?_; (case ho => rfl); (case hg => rfl); (case hn => rfl); (case hr => exact B9x4_); intro w13 hw; replace BK301 : Aside0 (w13.heap[gb301]? = some (.cells #[.int .i64 a0_0, .int .i64 a0_1, .int .i64 a0_2, .int .i64 a0_3, .bool a0_4, .string a0_5] 83 (0, 0))) := ⟨(by rw [hw]; exact (by (repeat (with_reducible (first | exact BK301.out | apply blk_drewN | apply blk_drew | apply blk_alloc | apply blk_put | apply bf NB301_302.out))); repeat (first | exact BK301.out | (simp only [List.setIfInBounds_toArray, List.set_cons_zero, List.set_cons_succ]; with_reducible rfl) | rfl)))⟩; replace BK302 : Aside0 (w13.heap[gb302]? = some (.cells #[.int .i64 a0_0, .int .i64 a0_1, .int .i64 a0_2, .int .i64 a0_3, .bool a0_4, .string a0_5] 62 (0, 0))) := ⟨(by rw [hw]; exact (by (repeat (with_reducible (first | exact BK302.out | apply blk_drewN | apply blk_drew | apply blk_alloc | apply blk_put))); repeat (first | exact BK302.out | (simp only [List.setIfInBounds_toArray, List.set_cons_zero, List.set_cons_succ]; with_reducible rfl) | rfl)))⟩; replace BK303 : Aside0 (w13.heap[gb303]? = some (.cells #[.int .i64 a0_0, .int .i64 a0_1, .int .i64 a0_2, .int .i64 a0_3, .bool a0_4, .string a0_5] 62 (0, 0))) := ⟨(by rw [hw]; exact (by (repeat (with_reducible (first | exact BK303.out | apply blk_drewN | apply blk_drew | apply blk_alloc | apply blk_put | apply bf NB303_302.out))); repeat (first | exact BK303.out | (simp only [List.setIfInBounds_toArray, List.set_cons_zero, List.set_cons_succ]; with_reducible rfl) | rfl)))⟩; replace HB : Aside0 (Below w.heap.size w w13) := ⟨(by rw [hw]; exact B9x5_)⟩; clear hw))
 refine bodyPost_ret (results_cell_row rfl _ _ gb302 62 #[.int .i64 a0_0, .int .i64 a0_1, .int .i64 a0_2, .int .i64 a0_3, .bool a0_4, .string a0_5] (0, 0) _ rfl (by (with_reducible repeat (first | refine blk_drewN ?_ _ | refine blk_drew ?_ | refine blk_alloc ?_ _)); exact BK302.out) Try.underlying62 rfl (by kernel_rfl)) rfl ?_
 exact ⟨B9x3_, B9x5_⟩

/-! ### laws_eqDgram: function 51 -/
def laws_eqDgram.f (a0_0 : Int) (a0_1 : Int) (a0_2 : Int) (a0_3 : Int) (a0_4 : Bool) (a0_5 : ByteArray) (a1_0 : Int) (a1_1 : Int) (a1_2 : Int) (a1_3 : Int) (a1_4 : Bool) (a1_5 : ByteArray) : Option (Bool) := if a0_0 = a1_0 then (if a0_1 = a1_1 then (if a0_2 = a1_2 then (if a0_3 = a1_3 then (if (a0_4 != a1_4) = true then (some false) else (if a0_5.toList = a1_5.toList then (some true) else (some false))) else (some false)) else (some false)) else (some false)) else (some false)
set_option maxHeartbeats 8000000 in
set_option maxRecDepth 100000 in
theorem laws_eqDgram.calls (a0_0 : Int) (a0_1 : Int) (a0_2 : Int) (a0_3 : Int) (a0_4 : Bool) (a0_5 : ByteArray) (a1_0 : Int) (a1_1 : Int) (a1_2 : Int) (a1_3 : Int) (a1_4 : Bool) (a1_5 : ByteArray) (r : Bool) (w : World) (h : laws_eqDgram.f a0_0 a0_1 a0_2 a0_3 a0_4 a0_5 a1_0 a1_1 a1_2 a1_3 a1_4 a1_5 = some r) :
  Calls Try.prog 51 #[.agg #[.int .i64 a0_0, .int .i64 a0_1, .int .i64 a0_2, .int .i64 a0_3, .bool a0_4, .string a0_5], .agg #[.int .i64 a1_0, .int .i64 a1_1, .int .i64 a1_2, .int .i64 a1_3, .bool a1_4, .string a1_5]] w fun e w' => e = .returned (.bool r) ∧ Below w.heap.size w w' := by
 have hu62 := Try.underlying62
 have HB := Aside0.mk (Below.refl w.heap.size w)
 have H : (if a0_0 = a1_0 then (if a0_1 = a1_1 then (if a0_2 = a1_2 then (if a0_3 = a1_3 then (if (a0_4 != a1_4) = true then (some false) else (if a0_5.toList = a1_5.toList then (some true) else (some false))) else (some false)) else (some false)) else (some false)) else (some false)) = some r := h
 clear h
 by_cases c3 : a0_0 = a1_0
 ·rw [if_pos c3] at H
  have c3b0 := beq_iff_eq.mpr c3
  have c3b1 := bne_eq_false_iff_eq.mpr c3
  clear c3
  by_cases c4 : a0_1 = a1_1
  ·rw [if_pos c4] at H
   have c4b0 := beq_iff_eq.mpr c4
   have c4b1 := bne_eq_false_iff_eq.mpr c4
   clear c4
   by_cases c5 : a0_2 = a1_2
   ·rw [if_pos c5] at H
    have c5b0 := beq_iff_eq.mpr c5
    have c5b1 := bne_eq_false_iff_eq.mpr c5
    clear c5
    by_cases c6 : a0_3 = a1_3
    ·rw [if_pos c6] at H
     have c6b0 := beq_iff_eq.mpr c6
     have c6b1 := bne_eq_false_iff_eq.mpr c6
     clear c6
     by_cases c7 : (a0_4 != a1_4) = true
     ·rw [if_pos c7] at H
      have c7b0 : (a0_4 != a1_4) = true := c7
      (try (have c7b1 : decide (a0_4 = a1_4) = false := by simpa using c7))
      (try (have c7b2 : (a0_4 == a1_4) = false := by simpa using c7))
      (try (have c7b3 : ¬ (a0_4 = a1_4) := by simpa using c7))
      clear c7
      obtain rfl := Option.some.inj H
      go_enter Try.func51, Try.ntmps51
      go_wp2_with (first | ((with_reducible refine gate_dst (N := 2) rfl ?_); refine box_event ?hg (N := 2) ?hd (cs := #[.int .i64 a0_0, .int .i64 a0_1, .int .i64 a0_2, .int .i64 a0_3, .bool a0_4, .string a0_5]) (t := 62) ?hr ?_; (case hd => rfl); (case hg => rfl); (case hr => exact B9x4_); intro gb304 hg w8 hbox hb; have BK304 := Aside0.mk (hbox); have GW304 := Aside0.mk ((bs hg (below_size HB.out))); have GE304 := Aside0.mk ((bs hg (below_size HB.out))); replace HB := Aside0.mk (below_step B9x0_ hb); clear hb hbox hg) | ((with_reducible refine gate_dst (N := 3) rfl ?_); refine box_event ?hg (N := 3) ?hd (cs := #[.int .i64 a1_0, .int .i64 a1_1, .int .i64 a1_2, .int .i64 a1_3, .bool a1_4, .string a1_5]) (t := 62) ?hr ?_; (case hd => rfl); (case hg => rfl); (case hr => exact B9x4_); intro gb305 hg w9 hbox hb; have BK305 := Aside0.mk (hbox); have GW305 := Aside0.mk ((bs hg (below_size HB.out))); have GE305 := Aside0.mk ((bs hg (below_size HB.out))); replace HB := Aside0.mk (below_step B9x2_ hb); have NB304_305 := Aside0.mk ((nl hg (blk_lt BK304.out))); have NB305_304 := Aside0.mk ((ng hg (blk_lt BK304.out))); replace BK304 := Aside0.mk (bb BK304.out hb); clear hb hbox hg; have hnb10 := NB304_305.out; have hnc10 := NB305_304.out; obtain ⟨hcz11_0, hcz11_1, hcz11_2, hcz11_3, hcz11_4, hcz11_5⟩ := cl6 BK304.out; obtain ⟨hfz11_0, hfz11_1, hfz11_2, hfz11_3, hfz11_4, hfz11_5⟩ := fr6 BK304.out; obtain ⟨hcz12_0, hcz12_1, hcz12_2, hcz12_3, hcz12_4, hcz12_5⟩ := cl6 BK305.out; obtain ⟨hfz12_0, hfz12_1, hfz12_2, hfz12_3, hfz12_4, hfz12_5⟩ := fr6 BK305.out))
      go_ret
      exact ⟨B9x3_, B9x1_⟩
     ·rw [if_neg c7] at H
      have c7b0 : (a0_4 != a1_4) = false := by simpa using c7
      (try (have c7b1 : decide (a0_4 = a1_4) = true := by simpa using c7))
      (try (have c7b2 : (a0_4 == a1_4) = true := by simpa using c7))
      clear c7
      by_cases c13 : a0_5.toList = a1_5.toList
      ·rw [if_pos c13] at H
       have c13b0 := beq_iff_eq.mpr c13
       have c13b1 := bne_eq_false_iff_eq.mpr c13
       clear c13
       obtain rfl := Option.some.inj H
       go_enter Try.func51, Try.ntmps51
       go_wp2_with (first | ((with_reducible refine gate_dst (N := 2) rfl ?_); refine box_event ?hg (N := 2) ?hd (cs := #[.int .i64 a0_0, .int .i64 a0_1, .int .i64 a0_2, .int .i64 a0_3, .bool a0_4, .string a0_5]) (t := 62) ?hr ?_; (case hd => rfl); (case hg => rfl); (case hr => exact B9x4_); intro gb304 hg w14 hbox hb; have BK304 := Aside0.mk (hbox); have GW304 := Aside0.mk ((bs hg (below_size HB.out))); have GE304 := Aside0.mk ((bs hg (below_size HB.out))); replace HB := Aside0.mk (below_step B9x0_ hb); clear hb hbox hg) | ((with_reducible refine gate_dst (N := 3) rfl ?_); refine box_event ?hg (N := 3) ?hd (cs := #[.int .i64 a1_0, .int .i64 a1_1, .int .i64 a1_2, .int .i64 a1_3, .bool a1_4, .string a1_5]) (t := 62) ?hr ?_; (case hd => rfl); (case hg => rfl); (case hr => exact B9x4_); intro gb305 hg w15 hbox hb; have BK305 := Aside0.mk (hbox); have GW305 := Aside0.mk ((bs hg (below_size HB.out))); have GE305 := Aside0.mk ((bs hg (below_size HB.out))); replace HB := Aside0.mk (below_step B9x2_ hb); have NB304_305 := Aside0.mk ((nl hg (blk_lt BK304.out))); have NB305_304 := Aside0.mk ((ng hg (blk_lt BK304.out))); replace BK304 := Aside0.mk (bb BK304.out hb); clear hb hbox hg; have hnb16 := NB304_305.out; have hnc16 := NB305_304.out; obtain ⟨hcz17_0, hcz17_1, hcz17_2, hcz17_3, hcz17_4, hcz17_5⟩ := cl6 BK304.out; obtain ⟨hfz17_0, hfz17_1, hfz17_2, hfz17_3, hfz17_4, hfz17_5⟩ := fr6 BK304.out; obtain ⟨hcz18_0, hcz18_1, hcz18_2, hcz18_3, hcz18_4, hcz18_5⟩ := cl6 BK305.out; obtain ⟨hfz18_0, hfz18_1, hfz18_2, hfz18_3, hfz18_4, hfz18_5⟩ := fr6 BK305.out))
       go_ret
       exact ⟨B9x3_, B9x1_⟩
      ·rw [if_neg c13] at H
       have c13b0 := beq_eq_false_iff_ne.mpr c13
       have c13b1 := bne_iff_ne.mpr c13
       obtain rfl := Option.some.inj H
       go_enter Try.func51, Try.ntmps51
       go_wp2_with (first | ((with_reducible refine gate_dst (N := 2) rfl ?_); refine box_event ?hg (N := 2) ?hd (cs := #[.int .i64 a0_0, .int .i64 a0_1, .int .i64 a0_2, .int .i64 a0_3, .bool a0_4, .string a0_5]) (t := 62) ?hr ?_; (case hd => rfl); (case hg => rfl); (case hr => exact B9x4_); intro gb304 hg w19 hbox hb; have BK304 := Aside0.mk (hbox); have GW304 := Aside0.mk ((bs hg (below_size HB.out))); have GE304 := Aside0.mk ((bs hg (below_size HB.out))); replace HB := Aside0.mk (below_step B9x0_ hb); clear hb hbox hg) | ((with_reducible refine gate_dst (N := 3) rfl ?_); refine box_event ?hg (N := 3) ?hd (cs := #[.int .i64 a1_0, .int .i64 a1_1, .int .i64 a1_2, .int .i64 a1_3, .bool a1_4, .string a1_5]) (t := 62) ?hr ?_; (case hd => rfl); (case hg => rfl); (case hr => exact B9x4_); intro gb305 hg w20 hbox hb; have BK305 := Aside0.mk (hbox); have GW305 := Aside0.mk ((bs hg (below_size HB.out))); have GE305 := Aside0.mk ((bs hg (below_size HB.out))); replace HB := Aside0.mk (below_step B9x2_ hb); have NB304_305 := Aside0.mk ((nl hg (blk_lt BK304.out))); have NB305_304 := Aside0.mk ((ng hg (blk_lt BK304.out))); replace BK304 := Aside0.mk (bb BK304.out hb); clear hb hbox hg; have hnb21 := NB304_305.out; have hnc21 := NB305_304.out; obtain ⟨hcz22_0, hcz22_1, hcz22_2, hcz22_3, hcz22_4, hcz22_5⟩ := cl6 BK304.out; obtain ⟨hfz22_0, hfz22_1, hfz22_2, hfz22_3, hfz22_4, hfz22_5⟩ := fr6 BK304.out; obtain ⟨hcz23_0, hcz23_1, hcz23_2, hcz23_3, hcz23_4, hcz23_5⟩ := cl6 BK305.out; obtain ⟨hfz23_0, hfz23_1, hfz23_2, hfz23_3, hfz23_4, hfz23_5⟩ := fr6 BK305.out))
       go_ret
       exact ⟨B9x3_, B9x1_⟩
    ·rw [if_neg c6] at H
     have c6b0 := beq_eq_false_iff_ne.mpr c6
     have c6b1 := bne_iff_ne.mpr c6
     obtain rfl := Option.some.inj H
     go_enter Try.func51, Try.ntmps51
     go_wp2_with (first | ((with_reducible refine gate_dst (N := 2) rfl ?_); refine box_event ?hg (N := 2) ?hd (cs := #[.int .i64 a0_0, .int .i64 a0_1, .int .i64 a0_2, .int .i64 a0_3, .bool a0_4, .string a0_5]) (t := 62) ?hr ?_; (case hd => rfl); (case hg => rfl); (case hr => exact B9x4_); intro gb304 hg w24 hbox hb; have BK304 := Aside0.mk (hbox); have GW304 := Aside0.mk ((bs hg (below_size HB.out))); have GE304 := Aside0.mk ((bs hg (below_size HB.out))); replace HB := Aside0.mk (below_step B9x0_ hb); clear hb hbox hg) | ((with_reducible refine gate_dst (N := 3) rfl ?_); refine box_event ?hg (N := 3) ?hd (cs := #[.int .i64 a1_0, .int .i64 a1_1, .int .i64 a1_2, .int .i64 a1_3, .bool a1_4, .string a1_5]) (t := 62) ?hr ?_; (case hd => rfl); (case hg => rfl); (case hr => exact B9x4_); intro gb305 hg w25 hbox hb; have BK305 := Aside0.mk (hbox); have GW305 := Aside0.mk ((bs hg (below_size HB.out))); have GE305 := Aside0.mk ((bs hg (below_size HB.out))); replace HB := Aside0.mk (below_step B9x2_ hb); have NB304_305 := Aside0.mk ((nl hg (blk_lt BK304.out))); have NB305_304 := Aside0.mk ((ng hg (blk_lt BK304.out))); replace BK304 := Aside0.mk (bb BK304.out hb); clear hb hbox hg; have hnb26 := NB304_305.out; have hnc26 := NB305_304.out; obtain ⟨hcz27_0, hcz27_1, hcz27_2, hcz27_3, hcz27_4, hcz27_5⟩ := cl6 BK304.out; obtain ⟨hfz27_0, hfz27_1, hfz27_2, hfz27_3, hfz27_4, hfz27_5⟩ := fr6 BK304.out; obtain ⟨hcz28_0, hcz28_1, hcz28_2, hcz28_3, hcz28_4, hcz28_5⟩ := cl6 BK305.out; obtain ⟨hfz28_0, hfz28_1, hfz28_2, hfz28_3, hfz28_4, hfz28_5⟩ := fr6 BK305.out))
     go_ret
     exact ⟨B9x3_, B9x1_⟩
   ·rw [if_neg c5] at H
    have c5b0 := beq_eq_false_iff_ne.mpr c5
    have c5b1 := bne_iff_ne.mpr c5
    obtain rfl := Option.some.inj H
    go_enter Try.func51, Try.ntmps51
    go_wp2_with (first | ((with_reducible refine gate_dst (N := 2) rfl ?_); refine box_event ?hg (N := 2) ?hd (cs := #[.int .i64 a0_0, .int .i64 a0_1, .int .i64 a0_2, .int .i64 a0_3, .bool a0_4, .string a0_5]) (t := 62) ?hr ?_; (case hd => rfl); (case hg => rfl); (case hr => exact B9x4_); intro gb304 hg w29 hbox hb; have BK304 := Aside0.mk (hbox); have GW304 := Aside0.mk ((bs hg (below_size HB.out))); have GE304 := Aside0.mk ((bs hg (below_size HB.out))); replace HB := Aside0.mk (below_step B9x0_ hb); clear hb hbox hg) | ((with_reducible refine gate_dst (N := 3) rfl ?_); refine box_event ?hg (N := 3) ?hd (cs := #[.int .i64 a1_0, .int .i64 a1_1, .int .i64 a1_2, .int .i64 a1_3, .bool a1_4, .string a1_5]) (t := 62) ?hr ?_; (case hd => rfl); (case hg => rfl); (case hr => exact B9x4_); intro gb305 hg w30 hbox hb; have BK305 := Aside0.mk (hbox); have GW305 := Aside0.mk ((bs hg (below_size HB.out))); have GE305 := Aside0.mk ((bs hg (below_size HB.out))); replace HB := Aside0.mk (below_step B9x2_ hb); have NB304_305 := Aside0.mk ((nl hg (blk_lt BK304.out))); have NB305_304 := Aside0.mk ((ng hg (blk_lt BK304.out))); replace BK304 := Aside0.mk (bb BK304.out hb); clear hb hbox hg; have hnb31 := NB304_305.out; have hnc31 := NB305_304.out; obtain ⟨hcz32_0, hcz32_1, hcz32_2, hcz32_3, hcz32_4, hcz32_5⟩ := cl6 BK304.out; obtain ⟨hfz32_0, hfz32_1, hfz32_2, hfz32_3, hfz32_4, hfz32_5⟩ := fr6 BK304.out; obtain ⟨hcz33_0, hcz33_1, hcz33_2, hcz33_3, hcz33_4, hcz33_5⟩ := cl6 BK305.out; obtain ⟨hfz33_0, hfz33_1, hfz33_2, hfz33_3, hfz33_4, hfz33_5⟩ := fr6 BK305.out))
    go_ret
    exact ⟨B9x3_, B9x1_⟩
  ·rw [if_neg c4] at H
   have c4b0 := beq_eq_false_iff_ne.mpr c4
   have c4b1 := bne_iff_ne.mpr c4
   obtain rfl := Option.some.inj H
   go_enter Try.func51, Try.ntmps51
   go_wp2_with (first | ((with_reducible refine gate_dst (N := 2) rfl ?_); refine box_event ?hg (N := 2) ?hd (cs := #[.int .i64 a0_0, .int .i64 a0_1, .int .i64 a0_2, .int .i64 a0_3, .bool a0_4, .string a0_5]) (t := 62) ?hr ?_; (case hd => rfl); (case hg => rfl); (case hr => exact B9x4_); intro gb304 hg w34 hbox hb; have BK304 := Aside0.mk (hbox); have GW304 := Aside0.mk ((bs hg (below_size HB.out))); have GE304 := Aside0.mk ((bs hg (below_size HB.out))); replace HB := Aside0.mk (below_step B9x0_ hb); clear hb hbox hg) | ((with_reducible refine gate_dst (N := 3) rfl ?_); refine box_event ?hg (N := 3) ?hd (cs := #[.int .i64 a1_0, .int .i64 a1_1, .int .i64 a1_2, .int .i64 a1_3, .bool a1_4, .string a1_5]) (t := 62) ?hr ?_; (case hd => rfl); (case hg => rfl); (case hr => exact B9x4_); intro gb305 hg w35 hbox hb; have BK305 := Aside0.mk (hbox); have GW305 := Aside0.mk ((bs hg (below_size HB.out))); have GE305 := Aside0.mk ((bs hg (below_size HB.out))); replace HB := Aside0.mk (below_step B9x2_ hb); have NB304_305 := Aside0.mk ((nl hg (blk_lt BK304.out))); have NB305_304 := Aside0.mk ((ng hg (blk_lt BK304.out))); replace BK304 := Aside0.mk (bb BK304.out hb); clear hb hbox hg; have hnb36 := NB304_305.out; have hnc36 := NB305_304.out; obtain ⟨hcz37_0, hcz37_1, hcz37_2, hcz37_3, hcz37_4, hcz37_5⟩ := cl6 BK304.out; obtain ⟨hfz37_0, hfz37_1, hfz37_2, hfz37_3, hfz37_4, hfz37_5⟩ := fr6 BK304.out; obtain ⟨hcz38_0, hcz38_1, hcz38_2, hcz38_3, hcz38_4, hcz38_5⟩ := cl6 BK305.out; obtain ⟨hfz38_0, hfz38_1, hfz38_2, hfz38_3, hfz38_4, hfz38_5⟩ := fr6 BK305.out))
   go_ret
   exact ⟨B9x3_, B9x1_⟩
 ·rw [if_neg c3] at H
  have c3b0 := beq_eq_false_iff_ne.mpr c3
  have c3b1 := bne_iff_ne.mpr c3
  obtain rfl := Option.some.inj H
  go_enter Try.func51, Try.ntmps51
  go_wp2_with (first | ((with_reducible refine gate_dst (N := 2) rfl ?_); refine box_event ?hg (N := 2) ?hd (cs := #[.int .i64 a0_0, .int .i64 a0_1, .int .i64 a0_2, .int .i64 a0_3, .bool a0_4, .string a0_5]) (t := 62) ?hr ?_; (case hd => rfl); (case hg => rfl); (case hr => exact B9x4_); intro gb304 hg w39 hbox hb; have BK304 := Aside0.mk (hbox); have GW304 := Aside0.mk ((bs hg (below_size HB.out))); have GE304 := Aside0.mk ((bs hg (below_size HB.out))); replace HB := Aside0.mk (below_step B9x0_ hb); clear hb hbox hg) | ((with_reducible refine gate_dst (N := 3) rfl ?_); refine box_event ?hg (N := 3) ?hd (cs := #[.int .i64 a1_0, .int .i64 a1_1, .int .i64 a1_2, .int .i64 a1_3, .bool a1_4, .string a1_5]) (t := 62) ?hr ?_; (case hd => rfl); (case hg => rfl); (case hr => exact B9x4_); intro gb305 hg w40 hbox hb; have BK305 := Aside0.mk (hbox); have GW305 := Aside0.mk ((bs hg (below_size HB.out))); have GE305 := Aside0.mk ((bs hg (below_size HB.out))); replace HB := Aside0.mk (below_step B9x2_ hb); have NB304_305 := Aside0.mk ((nl hg (blk_lt BK304.out))); have NB305_304 := Aside0.mk ((ng hg (blk_lt BK304.out))); replace BK304 := Aside0.mk (bb BK304.out hb); clear hb hbox hg; have hnb41 := NB304_305.out; have hnc41 := NB305_304.out; obtain ⟨hcz42_0, hcz42_1, hcz42_2, hcz42_3, hcz42_4, hcz42_5⟩ := cl6 BK304.out; obtain ⟨hfz42_0, hfz42_1, hfz42_2, hfz42_3, hfz42_4, hfz42_5⟩ := fr6 BK304.out; obtain ⟨hcz43_0, hcz43_1, hcz43_2, hcz43_3, hcz43_4, hcz43_5⟩ := cl6 BK305.out; obtain ⟨hfz43_0, hfz43_1, hfz43_2, hfz43_3, hfz43_4, hfz43_5⟩ := fr6 BK305.out))
  go_ret
  exact ⟨B9x3_, B9x1_⟩

end Go.Proofs.Ytmknnoeggkgkgaa.QFnExactJoinBits
