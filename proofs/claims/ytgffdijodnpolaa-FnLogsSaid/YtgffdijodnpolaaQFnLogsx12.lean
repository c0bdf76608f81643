/- Functions that a law reaches, as functions of Lean, and the walks that show that the calls come to their answers: written by a program of this project out of the translation. No condition. -/
import Derived.Test.YtgffdijodnpolaaQFnLogsx0
import Derived.Test.YtgffdijodnpolaaQFnLogsx2
import Derived.Test.YtgffdijodnpolaaQFnLogsx5
import Derived.Test.YtgffdijodnpolaaQFnLogsx8
import Derived.Test.YtgffdijodnpolaaQFnLogsx11
import Derived.Test.YtgffdijodnpolaaVFnLogsShort4
import Derived.Test.YtgffdijodnpolaaVFnLogshort3
import Derived.Test.YtgffdijodnpolaaVFnLogsShort2
import Derived.Test.YtgffdijodnpolaaVFnLogsShort
namespace Go.Proofs.Ytgffdijodnpolaa.QFnLogs
open Go.RowKit Go.Proofs.YtgffdijodnpolaaW.PrintWords Go.Proofs.YtgffdijodnpolaaW.PrintLast Go.Proofs.YtgffdijodnpolaaW.PrintMore Go.Proofs.Ytgffdijodnpolaa.Short
attribute [local go_sem] max2_int min2_int max_two min_two max_three min_three max_four min_four   -- for this text's walks alone
set_option linter.unusedVariables false
set_option linter.unusedSimpArgs false

theorem B12x0_ {p : Prop} (h : p := by (try simp only [List.map_toArray, List.map_cons, List.map_nil]); first | done | rfl | (simp only [List.length_drop, List.length_take]; rfl)) : p := h
theorem B12x1_ {p : Prop} (h : p := by repeat (first | (with_reducible first | exact HB.out | apply below_alloc | apply pw_below_drewN | apply below_drew1) | exact HB.out)) : p := h
theorem B12x2_ {p : Prop} (h : p := by repeat (first | (with_reducible first | exact HB.out | apply below_alloc | apply pw_below_drewN | apply below_drew1 | refine below_set ?_ (IsS107.ge HI473.out)) | exact HB.out)) : p := h
theorem B12x3_ {p : Prop} (h : p := by repeat (first | (with_reducible first | exact HI473.out | apply IsS107.alloc | apply IsS107.drewN | apply IsS107.drew | apply IsS107.set_1 | apply IsS107.set_2) | exact HI473.out)) : p := h
theorem B12x4_ {p : Prop} (h : p := by repeat (first | (with_reducible first | exact HI454.out | apply IsS107.alloc | apply IsS107.drewN | apply IsS107.drew | apply IsS107.set_1 | apply IsS107.set_2 | refine IsS107.far ?_ NB454_449.out _ | refine IsS107.far ?_ NB454_450.out _ | refine IsS107.far ?_ NB454_462.out _) | exact HI454.out)) : p := h
theorem B12x5_ {p : Prop} (h : p := by first | (with_reducible assumption) | assumption) : p := h
theorem B12x6_ {p : Prop} (h : p := by repeat (first | (with_reducible first | exact HB.out | apply below_alloc | apply pw_below_drewN | apply below_drew1 | refine below_set ?_ (IsS107.ge HI454.out) | refine below_set ?_ GE449.out | refine below_set ?_ GE450.out | refine below_set ?_ GE462.out) | exact HB.out)) : p := h
theorem B12x7_ {p : Prop} (h : p := by repeat (first | (with_reducible first | exact HB.out | apply below_alloc | apply pw_below_drewN | apply below_drew1 | refine below_set ?_ GE486.out) | exact HB.out)) : p := h
theorem B12x8_ {p : Prop} (h : p := by repeat (first | (with_reducible first | exact HB.out | apply below_alloc | apply pw_below_drewN | apply below_drew1 | refine below_set ?_ (IsS107.ge HI454.out) | refine below_set ?_ GE449.out | refine below_set ?_ GE450.out) | exact HB.out)) : p := h
theorem B12x9_ {p : Prop} (h : p := by repeat (first | exact Drawn0.refl _ | apply Drawn0.step)) : p := h
theorem B12x10_ {p : Prop} (h : p := by first | (go_simp; done) | (go_simp; rfl)) : p := h
theorem B12x11_ {p : Prop} (h : p := by first | rfl | (simp; done) | (simp [*]; done)) : p := h
theorem B12x12_ {p : Prop} (h : p := by (with_reducible repeat (first | apply Kd.R_alloc | apply Kd.R_drewN | apply Kd.R_drew)); exact HO459.out) : p := h
theorem B12x13_ {p : Prop} (h : p := by repeat (first | (with_reducible first | exact HI454.out | apply IsS107.alloc | apply IsS107.drewN | apply IsS107.drew | apply IsS107.set_1 | apply IsS107.set_2 | refine IsS107.far ?_ NB454_449.out _ | refine IsS107.far ?_ NB454_450.out _) | exact HI454.out)) : p := h
theorem B12x14_ {p : Prop} (h : p := by kernel_rfl) : p := h
theorem B12x15_ {p : Prop} (h : p := by (with_reducible repeat (first | apply Kd.R_alloc | apply Kd.R_drewN | apply Kd.R_drew)); exact HO_4.out) : p := h
theorem B12x16_ {p : Prop} (h : p := by first | rfl | (simp [errW_none, errW_some] <;> rfl) | (simp [*, errW_none, errW_some] <;> rfl)) : p := h
theorem B12x17_ {p : Prop} (h : p := by repeat (first | exact (Kd.R_reads' HO_4.out).2.2 | (with_reducible refine Kd.C_alloc ?_ _) | (with_reducible refine Kd.C_drewN ?_ _) | (with_reducible refine Kd.C_drew ?_))) : p := h
theorem B12x18_ {p : Prop} (h : p := by have := HK1.out; omega) : p := h
/-! ### spec_DrawRightLogs: function 13 -/
def spec_DrawRightLogs.f (k : Nat) (l0 : List Int) : Option (Int × Int × (List (S28)) × Int × Int × (List (S28))) := (spec_l01New.f k l0).bind fun bt451 => ((spec_l06Right.f k bt451.1 bt451.2.1 bt451.2.2).bind fun bt455 => ((spec_l06Next.f k bt451.1 bt455.2.2.2.1 bt455.2.2.2.2 bt455.1 bt455.2.1 bt455.2.2.1).bind fun bt463 => (some (bt455.1, bt455.2.1, bt455.2.2.1, bt463.1, bt463.2.1, bt463.2.2.1))))
theorem spec_DrawRightLogs.mono : ∀ a0 k, LeO (spec_DrawRightLogs.f k a0) (spec_DrawRightLogs.f (k + 1) a0) := by
 intro a0 k
 unfold spec_DrawRightLogs.f
 repeat' first
   | (with_reducible exact spec_l01New.mono _ _)
   | (with_reducible exact spec_l06Next.mono _ _ _ _ _ _ _)
   | (with_reducible exact spec_l06Right.mono _ _ _ _)
   | (with_reducible first | exact LeO.refl _ | exact LeO.none _ | refine LeO.ite ?_ ?_ | refine LeO.bind ?_ (fun _ => ?_))
   | exact spec_l01New.mono _ _
   | exact spec_l06Next.mono _ _ _ _ _ _ _
   | exact spec_l06Right.mono _ _ _ _
set_option maxHeartbeats 8000000 in
set_option maxRecDepth 100000 in
theorem spec_DrawRightLogs.calls (k : Nat) (A0 : Option Addr) (c0 : Nat) (l0 : List Int) (r1 : Int) (r2 : Int) (r3 : List (S28)) (r4 : Int) (r5 : Int) (r6 : List (S28)) (w : World) (hr0 : Kd.C (Kd.int .u8) w A0 l0.length l0) (hc0 : l0.length ≤ c0) (h : spec_DrawRightLogs.f k l0 = some (r1, r2, r3, r4, r5, r6)) :
  Calls Try.prog 13 #[.slice A0 l0.length c0] w fun e w' => ∃ v2_ v5_ : Value, e = .returned (.tuple #[.agg #[.int .i64 r1, .int .i64 r2, v2_], .agg #[.int .i64 r4, .int .i64 r5, v5_]]) ∧ Kd.R k28 28 w' w.heap.size (fun k_ => some k_ ≠ (v5_ : Value).ownBlock) v2_ r3 ∧ Kd.R k28 28 w' w.heap.size (fun k_ => some k_ ≠ (v2_ : Value).ownBlock) v5_ r6 ∧ Below w.heap.size w w' := by
 have hu26 := Try.underlying26
 have HR0 := Aside0.mk hr0
 have HC0 := Aside0.mk hc0
 clear hr0 hc0
 have HB := Aside0.mk (Below.refl w.heap.size w)
 have H : ((spec_l01New.f k l0).bind fun bt451 => ((spec_l06Right.f k bt451.1 bt451.2.1 bt451.2.2).bind fun bt455 => ((spec_l06Next.f k bt451.1 bt455.2.2.2.1 bt455.2.2.2.2 bt455.1 bt455.2.1 bt455.2.2.1).bind fun bt463 => (some (bt455.1, bt455.2.1, bt455.2.2.1, bt463.1, bt463.2.1, bt463.2.2.1))))) = some (r1, r2, r3, r4, r5, r6) := h
 clear h
 replace H := bsi H
 obtain ⟨⟨t451, t452, t453⟩, A2, H⟩ := H
 (try dsimp only at H)
 replace H := bsi H
 obtain ⟨⟨t455, t456, t457, t460, t461⟩, A3, H⟩ := H
 (try dsimp only at H)
 replace H := bsi H
 obtain ⟨⟨t463, t464, t465, t468, t469⟩, A4, H⟩ := H
 (try dsimp only at H)
 simp only [Option.some.injEq, Prod.mk.injEq] at H
 obtain ⟨rfl, rfl, rfl, rfl, rfl, rfl⟩ := H
 go_enter Try.func13, Try.ntmps13
 try go_wp2_with (first | ((with_reducible refine gate_dst (N := 2) rfl ?_); refine box_event ?hg (N := 2) ?hd (cs := #[.int .i64 0, .int .i64 0, .slice none 0 0]) (t := 26) ?hr ?_; (case hd => rfl); (case hg => rfl); (case hr => exact B12x10_); intro gb449 hg w5 hbox hb; have BK449 := Aside0.mk (hbox); have GW449 := Aside0.mk ((bs hg (below_size HB.out))); have GE449 := Aside0.mk ((bs hg (below_size HB.out))); replace HB := Aside0.mk (below_step B12x1_ hb); clear hb hbox hg) | ((with_reducible refine gate_dst (N := 3) rfl ?_); refine box_event ?hg (N := 3) ?hd (cs := #[.int .i64 0, .int .i64 0, .slice none 0 0]) (t := 26) ?hr ?_; (case hd => rfl); (case hg => rfl); (case hr => exact B12x10_); intro gb450 hg w6 hbox hb; have BK450 := Aside0.mk (hbox); have GW450 := Aside0.mk ((bs hg (below_size HB.out))); have GE450 := Aside0.mk ((bs hg (below_size HB.out))); replace HB := Aside0.mk (below_step (by repeat (first | (with_reducible first | exact HB.out | apply below_alloc | apply pw_below_drewN | apply below_drew1 | refine below_set ?_ GE449.out) | exact HB.out)) hb); have NB449_450 := Aside0.mk ((nl hg (blk_lt BK449.out))); have NB450_449 := Aside0.mk ((ng hg (blk_lt BK449.out))); replace BK449 := Aside0.mk (bb BK449.out hb); clear hb hbox hg) | ((with_reducible refine gate_callee (f := 37) rfl ?_); refine goesL_ (some 7) rfl rfl Try.func37 B12x14_ rfl #[.slice A0 l0.length c0] rfl B12x0_ ?_; (with_reducible refine (spec_l01New.calls k _ _ l0 t451 t452 t453 w _ ?side1 ?side2 ?side3 A2.out).mono ?_); (case side1 => repeat (first | (with_reducible first | exact HB.out | apply below_alloc | apply pw_below_drewN | apply below_drew1 | refine below_set ?_ GE449.out | refine below_set ?_ GE450.out) | exact HB.out)); (case side2 => exact HR0.out); (case side3 => exact HC0.out); rintro e w7 ⟨g454, rfl, hi, hb, hb2⟩; refine ⟨_, rfl, ?_⟩; replace HB := Aside0.mk (hb); have HI454 := Aside0.mk (hi); have NB454_449 := Aside0.mk (IsS107.ne_blk hi (bb BK449.out hb2) (by decide)); have NB449_454 := Aside0.mk (Ne.symm (IsS107.ne_blk hi (bb BK449.out hb2) (by decide))); replace BK449 := Aside0.mk (bb BK449.out hb2); have NB454_450 := Aside0.mk (IsS107.ne_blk hi (bb BK450.out hb2) (by decide)); have NB450_454 := Aside0.mk (Ne.symm (IsS107.ne_blk hi (bb BK450.out hb2) (by decide))); replace BK450 := Aside0.mk (bb BK450.out hb2); (try clear hb); (try clear hb2); (try clear hi)) | ((with_reducible refine gate_callee (f := 50) rfl ?_); refine goesL_ (some 9) rfl rfl Try.func50 B12x14_ rfl #[.pointer (some ⟨g454, 0, none⟩)] rfl B12x0_ ?_; (with_reducible refine (spec_l06Right.calls k g454 t451 t452 t453 t455 t456 t457 t460 t461 w _ ?side1 ?side2 A3.out).mono ?_); (case side1 => exact B12x13_); (case side2 => exact B12x8_); rintro e w8 ⟨v458, rfl, ho0, hi, hb, hk⟩; refine ⟨_, rfl, ?_⟩; replace BK449 := Aside0.mk (kb hk BK449.out NB449_454.out); replace BK450 := Aside0.mk (kb hk BK450.out NB450_454.out); have HO459 := Aside0.mk (Kd.R_lower ho0 (below_size B12x8_)); replace HB := Aside0.mk (hb); replace HI454 := Aside0.mk (hi); (try clear hb); (try clear hb2); (try clear hk hi); (try clear ho0)) | ((with_reducible refine gate_dst (N := 5) rfl ?_); refine box_event ?hg (N := 5) ?hd (cs := #[.int .i64 0, .int .i64 0, .slice none 0 0]) (t := 26) ?hr ?_; (case hd => rfl); (case hg => rfl); (case hr => exact B12x10_); intro gb462 hg w9 hbox hb; replace HO459 := Aside0.mk (Kd.R_below B12x12_ hb); have BK462 := Aside0.mk (hbox); have GW462 := Aside0.mk ((bs hg (below_size HB.out))); have GE462 := Aside0.mk ((bs hg (below_size HB.out))); replace HB := Aside0.mk (below_step B12x8_ hb); have NB449_462 := Aside0.mk ((nl hg (blk_lt BK449.out))); have NB462_449 := Aside0.mk ((ng hg (blk_lt BK449.out))); replace BK449 := Aside0.mk (bb BK449.out hb); have NB450_462 := Aside0.mk ((nl hg (blk_lt BK450.out))); have NB462_450 := Aside0.mk ((ng hg (blk_lt BK450.out))); replace BK450 := Aside0.mk (bb BK450.out hb); have NB454_462 := Aside0.mk ((nl hg (IsS107.lt HI454.out))); have NB462_454 := Aside0.mk ((ng hg (IsS107.lt HI454.out))); replace HI454 := Aside0.mk (IsS107.below B12x13_ hb); clear hb hbox hg; have hnb10 := NB462_449.out; have hnc10 := NB449_462.out; have hnb11 := NB462_450.out; have hnc11 := NB450_462.out; have hnb12 := NB462_454.out; have hnc12 := NB454_462.out; obtain ⟨hcz13_0, hcz13_1, hcz13_2⟩ := cl3 BK462.out; obtain ⟨hfz13_0, hfz13_1, hfz13_2⟩ := fr3 BK462.out; obtain ⟨Ao14, co14, eo14⟩ := Kd.R_slice HO459.out; subst eo14))
 have n0_ : Aside0 (Kd.R k28 28 (((w9.setCell ⟨gb462, 0, none⟩ (.int .i64 t455)).setCell ⟨gb462, 1, none⟩ (.int .i64 t456)).setCell ⟨gb462, 2, none⟩ (.slice Ao14 t457.length co14)) w.heap.size (fun _ => True) (.slice Ao14 t457.length co14) t457) := ⟨(by (with_reducible repeat (first | apply Kd.R_alloc | apply Kd.R_drewN | apply Kd.R_drew)); exact Kd.R_mono (Kd.R_far (p := ⟨gb462, 2, none⟩) (Kd.R_far (p := ⟨gb462, 1, none⟩) (Kd.R_far (p := ⟨gb462, 0, none⟩) (Kd.R_types HO459.out BK462.out (by decide)) (fun _ hk => hk.2) (.int .i64 t455)) (fun _ hk => hk.2) (.int .i64 t456)) (fun _ hk => hk.2) (.slice Ao14 t457.length co14)) (fun _ hk => trivial))⟩
 have n1_ : Aside0 ((((w9.setCell ⟨gb462, 0, none⟩ (.int .i64 t455)).setCell ⟨gb462, 1, none⟩ (.int .i64 t456)).setCell ⟨gb462, 2, none⟩ (.slice Ao14 t457.length co14)).heap[gb449]? = some (.cells #[.int .i64 0, .int .i64 0, .slice none 0 0] 26 (0, 0))) := ⟨(by (repeat (with_reducible (first | exact BK449.out | apply blk_drewN | apply blk_drew | apply blk_alloc | apply blk_put | apply bf NB449_462.out))); repeat (first | exact BK449.out | (simp only [List.setIfInBounds_toArray, List.set_cons_zero, List.set_cons_succ]; with_reducible rfl) | rfl))⟩
 have n2_ : Aside0 ((((w9.setCell ⟨gb462, 0, none⟩ (.int .i64 t455)).setCell ⟨gb462, 1, none⟩ (.int .i64 t456)).setCell ⟨gb462, 2, none⟩ (.slice Ao14 t457.length co14)).heap[gb450]? = some (.cells #[.int .i64 0, .int .i64 0, .slice none 0 0] 26 (0, 0))) := ⟨(by (repeat (with_reducible (first | exact BK450.out | apply blk_drewN | apply blk_drew | apply blk_alloc | apply blk_put | apply bf NB450_462.out))); repeat (first | exact BK450.out | (simp only [List.setIfInBounds_toArray, List.set_cons_zero, List.set_cons_succ]; with_reducible rfl) | rfl))⟩
 have n3_ : Aside0 ((((w9.setCell ⟨gb462, 0, none⟩ (.int .i64 t455)).setCell ⟨gb462, 1, none⟩ (.int .i64 t456)).setCell ⟨gb462, 2, none⟩ (.slice Ao14 t457.length co14)).heap[gb462]? = some (.cells #[.int .i64 t455, .int .i64 t456, .slice Ao14 t457.length co14] 26 (0, 0))) := ⟨(by (repeat (with_reducible (first | exact BK462.out | apply blk_drewN | apply blk_drew | apply blk_alloc | apply blk_put))); repeat (first | exact BK462.out | (simp only [List.setIfInBounds_toArray, List.set_cons_zero, List.set_cons_succ]; with_reducible rfl) | rfl))⟩
 have n4_ : Aside0 (IsS107 w (((w9.setCell ⟨gb462, 0, none⟩ (.int .i64 t455)).setCell ⟨gb462, 1, none⟩ (.int .i64 t456)).setCell ⟨gb462, 2, none⟩ (.slice Ao14 t457.length co14)) g454 t451 t460 t461) := ⟨B12x4_⟩
 have n5_ : Aside0 (Below w.heap.size w (((w9.setCell ⟨gb462, 0, none⟩ (.int .i64 t455)).setCell ⟨gb462, 1, none⟩ (.int .i64 t456)).setCell ⟨gb462, 2, none⟩ (.slice Ao14 t457.length co14))) := ⟨B12x6_⟩
 (try clear HO459)
 (try clear BK449)
 (try clear BK450)
 (try clear BK462)
 (try clear HI454)
 (try clear HB)
 generalize (((w9.setCell ⟨gb462, 0, none⟩ (.int .i64 t455)).setCell ⟨gb462, 1, none⟩ (.int .i64 t456)).setCell ⟨gb462, 2, none⟩ (.slice Ao14 t457.length co14)) = w15 at n0_ n1_ n2_ n3_ n4_ n5_ ⊢
 have HO459 := n0_
 have BK449 := n1_
 have BK450 := n2_
 have BK462 := n3_
 have HI454 := n4_
 have HB := n5_
 clear n0_ n1_ n2_ n3_ n4_ n5_
 replace HO459 := Aside0.mk (Kd.R_drew HO459.out)
 replace BK449 := Aside0.mk (blk_drew BK449.out)
 replace BK450 := Aside0.mk (blk_drew BK450.out)
 replace BK462 := Aside0.mk (blk_drew BK462.out)
 replace HI454 := Aside0.mk (IsS107.drew HI454.out)
 replace HB := Aside0.mk (below_drew1 HB.out)
 refine start_ (n := 6) (S := fun w' => w'.cell? ⟨gb462, 0, none⟩ = some (.int .i64 t455) ∧ w'.cell? ⟨gb462, 1, none⟩ = some (.int .i64 t456) ∧ w'.cell? ⟨gb462, 2, none⟩ = some (.slice Ao14 t457.length co14)) (ds := []) #[false, false, false, false, false, false] B12x14_ rfl rfl ⟨(blk_cell BK462.out 0).trans rfl, (blk_cell BK462.out 1).trans rfl, (blk_cell BK462.out 2).trans rfl⟩ (fun hHeld => ?_)
 generalize w15.drew = w16 at HO459 BK449 BK450 BK462 HI454 HB hHeld ⊢
 refine pure_ (i := 1) (N := some 11) (v := ?_) (a' := ?_) #[false, true, false, false, false, false] rfl rfl B12x14_ (fun _ _ _ h => h) (Or.inl ⟨by rfl, ?_⟩) ?_ ?_
 rotate_left
 ·intro w'
  go_simp
  with_reducible rfl
 rotate_left
 ·simp only [Act.put, List.setIfInBounds_toArray, List.set_cons_zero, List.set_cons_succ, i64_w, i32_w]
  rfl
 refine take_ (i := 0) (N := some 10) (v := ?_) (a' := ?_) #[true, true, false, false, false, false] rfl rfl B12x14_ (fun _ _ _ h => h) (Or.inl ⟨by rfl, ?_⟩) hHeld ?_ ?_
 rotate_left
 ·rintro w' ⟨s0, s1, s2⟩
  go_simp
  with_reducible rfl
 rotate_left
 ·simp only [Act.put, List.setIfInBounds_toArray, List.set_cons_zero, List.set_cons_succ, i64_w, i32_w]
  rfl
 refine take_ (i := 2) (N := some 12) (v := ?_) (a' := ?_) #[true, true, true, false, false, false] rfl rfl B12x14_ (fun _ _ _ h => h) (Or.inl ⟨by rfl, ?_⟩) hHeld ?_ ?_
 rotate_left
 ·rintro w' ⟨s0, s1, s2⟩
  go_simp
  with_reducible rfl
 rotate_left
 ·simp only [Act.put, List.setIfInBounds_toArray, List.set_cons_zero, List.set_cons_succ, i64_w, i32_w]
  rfl
 refine one_ (i := 3) (N := some 13) #[true, true, true, true, false, false] rfl rfl B12x14_ (by decide) (fun K hK => ?_)
 refine goes_ Try.func51 B12x14_ rfl #[.pointer (some ⟨g454, 0, none⟩), .agg #[.int .i64 t455, .int .i64 t456, .slice Ao14 t457.length co14]] (by rfl) rfl rfl B12x0_ ?_
 with_reducible refine (spec_l06Next.calls k g454 t451 t460 t461 t455 t456 _ _ t457 t463 t464 t465 t468 t469 w _ ?side1 ?side2 ?side3 ?side4 A4.out).mono ?_
 (case side1 => exact B12x4_)
 (case side2 => exact B12x6_)
 (case side3 => exact Kd.C_foot_own (IsS107.apart (show IsS107 w _ g454 t451 t460 t461 from B12x4_) B12x12_ (by decide)) (fun _ h_ => h_.2))
 (case side4 => exact (Kd.R_reads' HO459.out).2.1)
 rintro e w17 ⟨v466, rfl, ho0, hi, hb, hk⟩
 refine ⟨_, rfl, ?_⟩
 replace BK449 := Aside0.mk (kb hk BK449.out NB449_454.out)
 replace BK450 := Aside0.mk (kb hk BK450.out NB450_454.out)
 replace BK462 := Aside0.mk (kb hk BK462.out NB462_454.out)
 have HO467 := Aside0.mk (Kd.R_lower (Kd.R_new' ho0 (Kd.R_lt B12x12_)) (below_size B12x6_))
 replace HO459 := Aside0.mk (Kd.R_mono (Kd.R_told (Kd.R_oldK (IsS107.apart (show IsS107 w _ g454 t451 t460 t461 from B12x4_) B12x12_ (by decide)) hk) (Kd.R_base ho0)) (fun _ h_ => h_.1))
 replace HB := Aside0.mk (hb)
 replace HI454 := Aside0.mk (hi)
 (try clear hb)
 (try clear hb2)
 (try clear hk)
 (try clear hi)
 (try clear ho0)
 obtain ⟨Ao23, co23, eo23⟩ := Kd.R_slice HO467.out
 (first | subst eo23 | (injection eo23 with f1_ f2_ f3_; have f4_ := f1_.symm; have f5_ := f3_.symm; clear f1_ f2_ f3_; subst f4_; subst f5_))
 refine hK.out _ _ ⟨(blk_cell BK462.out 0).trans rfl, (blk_cell BK462.out 1).trans rfl, (blk_cell BK462.out 2).trans rfl⟩ (fun hHeld => ?_)
 clear hK K
 refine norm_ (a' := ?_) ?_ ?_
 rotate_left
 ·show Act.put _ (some 13) _ = _
  simp only [Act.put, List.setIfInBounds_toArray, List.set_cons_zero, List.set_cons_succ, i64_w, i32_w]
  rfl
 refine one_ (i := 4) (N := none) #[true, true, true, true, true, false] rfl rfl B12x14_ (by decide) (fun K hK => ?_)
 have hs18 : w17.cell? ⟨gb449, 0, none⟩ = some (.int .i64 0) := (blk_cell BK449.out 0).trans rfl
 have hfs18 := blk_frozen BK449.out 0
 have hns18_1 := NB450_449.out
 have hns18_2 := NB462_449.out
 have hms18_1 := NB449_450.out
 have hms18_2 := NB449_462.out
 have hs19 : w17.cell? ⟨gb449, 1, none⟩ = some (.int .i64 0) := (blk_cell BK449.out 1).trans rfl
 have hfs19 := blk_frozen BK449.out 1
 have hns19_1 := NB450_449.out
 have hns19_2 := NB462_449.out
 have hms19_1 := NB449_450.out
 have hms19_2 := NB449_462.out
 have hs20 : w17.cell? ⟨gb449, 2, none⟩ = some (.slice none 0 0) := (blk_cell BK449.out 2).trans rfl
 have hfs20 := blk_frozen BK449.out 2
 have hns20_1 := NB450_449.out
 have hns20_2 := NB462_449.out
 have hms20_1 := NB449_450.out
 have hms20_2 := NB449_462.out
 refine skip_ (w1 := ?_) (by rfl) rfl ?_ ?_
 rotate_left
 ·go_simp
  rfl
 refine hK.out _ _ ⟨((cell_far (p := ⟨gb449, _, none⟩) NB462_449.out _).trans (((cell_far (p := ⟨gb449, _, none⟩) NB462_449.out _).trans (((cell_far (p := ⟨gb449, _, none⟩) NB462_449.out _).trans (hHeld.1)))))), ((cell_far (p := ⟨gb449, _, none⟩) NB462_449.out _).trans (((cell_far (p := ⟨gb449, _, none⟩) NB462_449.out _).trans (((cell_far (p := ⟨gb449, _, none⟩) NB462_449.out _).trans (hHeld.2.1)))))), ((cell_far (p := ⟨gb449, _, none⟩) NB462_449.out _).trans (((cell_far (p := ⟨gb449, _, none⟩) NB462_449.out _).trans (((cell_far (p := ⟨gb449, _, none⟩) NB462_449.out _).trans (hHeld.2.2))))))⟩ (fun hHeld => ?_)
 clear hK K
 refine one_ (i := 5) (N := none) #[true, true, true, true, true, true] rfl rfl B12x14_ (by decide) (fun K hK => ?_)
 have hs21 : w17.cell? ⟨gb450, 0, none⟩ = some (.int .i64 0) := (blk_cell BK450.out 0).trans rfl
 have hfs21 := blk_frozen BK450.out 0
 have hns21_0 := NB449_450.out
 have hns21_2 := NB462_450.out
 have hms21_0 := NB450_449.out
 have hms21_2 := NB450_462.out
 have hs22 : w17.cell? ⟨gb450, 1, none⟩ = some (.int .i64 0) := (blk_cell BK450.out 1).trans rfl
 have hfs22 := blk_frozen BK450.out 1
 have hns22_0 := NB449_450.out
 have hns22_2 := NB462_450.out
 have hms22_0 := NB450_449.out
 have hms22_2 := NB450_462.out
 have hs24 : w17.cell? ⟨gb450, 2, none⟩ = some (.slice none 0 0) := (blk_cell BK450.out 2).trans rfl
 have hfs24 := blk_frozen BK450.out 2
 have hns24_0 := NB449_450.out
 have hns24_2 := NB462_450.out
 have hms24_0 := NB450_449.out
 have hms24_2 := NB450_462.out
 refine skip_ (w1 := ?_) (by rfl) rfl ?_ ?_
 rotate_left
 ·go_simp
  rfl
 refine hK.out _ _ ⟨((cell_far (p := ⟨gb450, _, none⟩) NB462_450.out _).trans (((cell_far (p := ⟨gb450, _, none⟩) NB462_450.out _).trans (((cell_far (p := ⟨gb450, _, none⟩) NB462_450.out _).trans (hHeld.1)))))), ((cell_far (p := ⟨gb450, _, none⟩) NB462_450.out _).trans (((cell_far (p := ⟨gb450, _, none⟩) NB462_450.out _).trans (((cell_far (p := ⟨gb450, _, none⟩) NB462_450.out _).trans (hHeld.2.1)))))), ((cell_far (p := ⟨gb450, _, none⟩) NB462_450.out _).trans (((cell_far (p := ⟨gb450, _, none⟩) NB462_450.out _).trans (((cell_far (p := ⟨gb450, _, none⟩) NB462_450.out _).trans (hHeld.2.2))))))⟩ (fun hHeld => ?_)
 clear hK K
 refine done_ B12x14_ ?_
 try go_wp2
 refine bodyPost_ret (results_cc rfl _ _ gb449 gb450 26 26 #[.int .i64 t455, .int .i64 t456, .slice Ao14 t457.length co14] #[.int .i64 t463, .int .i64 t464, .slice Ao23 t465.length co23] (0, 0) (0, 0) _ _ rfl (by (repeat (with_reducible (first | exact BK449.out | apply blk_drewN | apply blk_drew | apply blk_alloc | apply blk_put | apply bf NB449_450.out))); repeat (first | exact BK449.out | (simp only [List.setIfInBounds_toArray, List.set_cons_zero, List.set_cons_succ]; with_reducible rfl) | rfl)) Try.underlying26 rfl B12x14_ rfl (by (repeat (with_reducible (first | exact BK450.out | apply blk_drewN | apply blk_drew | apply blk_alloc | apply blk_put | apply bf NB450_449.out))); repeat (first | exact BK450.out | (simp only [List.setIfInBounds_toArray, List.set_cons_zero, List.set_cons_succ]; with_reducible rfl) | rfl)) Try.underlying26 rfl B12x14_) rfl ?_
 exact ⟨_, _, by first | rfl | (simp [errW_none, errW_some] <;> rfl) | (simp [*, errW_none, errW_some] <;> rfl), by (with_reducible repeat (first | apply Kd.R_alloc | apply Kd.R_drewN | apply Kd.R_drew)); exact Kd.R_mono (Kd.R_far (p := ⟨gb450, 2, none⟩) (Kd.R_far (p := ⟨gb450, 1, none⟩) (Kd.R_far (p := ⟨gb450, 0, none⟩) (Kd.R_far (p := ⟨gb449, 2, none⟩) (Kd.R_far (p := ⟨gb449, 1, none⟩) (Kd.R_far (p := ⟨gb449, 0, none⟩) (Kd.R_types (Kd.R_types HO459.out BK449.out (by decide)) BK450.out (by decide)) (fun _ hk => hk.1.2) (.int .i64 t455)) (fun _ hk => hk.1.2) (.int .i64 t456)) (fun _ hk => hk.1.2) (.slice Ao14 t457.length co14)) (fun _ hk => hk.2) (.int .i64 t463)) (fun _ hk => hk.2) (.int .i64 t464)) (fun _ hk => hk.2) (.slice Ao23 t465.length co23)) (fun _ hk => hk.1.1.2), by (with_reducible repeat (first | apply Kd.R_alloc | apply Kd.R_drewN | apply Kd.R_drew)); exact Kd.R_mono (Kd.R_far (p := ⟨gb450, 2, none⟩) (Kd.R_far (p := ⟨gb450, 1, none⟩) (Kd.R_far (p := ⟨gb450, 0, none⟩) (Kd.R_far (p := ⟨gb449, 2, none⟩) (Kd.R_far (p := ⟨gb449, 1, none⟩) (Kd.R_far (p := ⟨gb449, 0, none⟩) (Kd.R_types (Kd.R_types HO467.out BK449.out (by decide)) BK450.out (by decide)) (fun _ hk => hk.1.2) (.int .i64 t455)) (fun _ hk => hk.1.2) (.int .i64 t456)) (fun _ hk => hk.1.2) (.slice Ao14 t457.length co14)) (fun _ hk => hk.2) (.int .i64 t463)) (fun _ hk => hk.2) (.int .i64 t464)) (fun _ hk => hk.2) (.slice Ao23 t465.length co23)) (fun _ hk => hk.1.1.2), by repeat (first | (with_reducible first | exact HB.out | apply below_alloc | apply pw_below_drewN | apply below_drew1 | refine below_set ?_ (IsS107.ge HI454.out) | refine below_set ?_ GE449.out | refine below_set ?_ GE450.out | refine below_set ?_ GE462.out) | exact HB.out)⟩

/-! ### spec_DrawPlaces: function 14 -/
def spec_DrawPlaces.l0 : Nat → List Int → Int → List Int → Int → Int → Option (List Int)
 | 0, _, _, _, _, _ => none
 | k + 1, x4, x5, x474000, x474001, x474002 => if x5 < 12 then ((spec_l01Below.f x474000 x474001 x474002 10000).bind fun bt480 => (if x4.length < 17592186044416 then (spec_DrawPlaces.l0 k (x4 ++ [bt480.1]) (wrap64 (x5 + 1)) x474000 bt480.2.1 bt480.2.2) else (none))) else (some x4)
def spec_DrawPlaces.f (k : Nat) (l0 : List Int) : Option (List Int) := (spec_l01New.f k l0).bind fun bt470 => ((spec_l01Byte.f bt470.1 bt470.2.1 bt470.2.2).bind fun bt474 => (spec_DrawPlaces.l0 k (([] : List Int)) 0 bt470.1 bt474.2.1 bt474.2.2))
theorem spec_DrawPlaces.mono_l : ∀ k, (∀ y0 y1 y2 y3 y4, LeO (spec_DrawPlaces.l0 k y0 y1 y2 y3 y4) (spec_DrawPlaces.l0 (k + 1) y0 y1 y2 y3 y4))
 | 0 => fun _ _ _ _ _ r h => by simp [spec_DrawPlaces.l0] at h
 | k + 1 => by
  have ih0 := spec_DrawPlaces.mono_l k
  ·intro y0 y1 y2 y3 y4
   unfold spec_DrawPlaces.l0
   repeat' first
   | (with_reducible exact ih0 _ _ _ _ _)
   | (with_reducible exact spec_l01New.mono _ _)
   | (with_reducible first | exact LeO.refl _ | exact LeO.none _ | refine LeO.ite ?_ ?_ | refine LeO.bind ?_ (fun _ => ?_))
   | exact ih0 _ _ _ _ _
   | exact spec_l01New.mono _ _
theorem spec_DrawPlaces.mono : ∀ a0 k, LeO (spec_DrawPlaces.f k a0) (spec_DrawPlaces.f (k + 1) a0) := by
 intro a0 k
 have ih0 := spec_DrawPlaces.mono_l k
 unfold spec_DrawPlaces.f
 repeat' first
   | (with_reducible exact ih0 _ _ _ _ _)
   | (with_reducible exact spec_l01New.mono _ _)
   | (with_reducible first | exact LeO.refl _ | exact LeO.none _ | refine LeO.ite ?_ ?_ | refine LeO.bind ?_ (fun _ => ?_))
   | exact ih0 _ _ _ _ _
   | exact spec_l01New.mono _ _
set_option maxHeartbeats 8000000 in
set_option maxRecDepth 100000 in
theorem spec_DrawPlaces.calls (k : Nat) (A0 : Option Addr) (c0 : Nat) (l0 : List Int) (r : List Int) (w : World) (hr0 : Kd.C (Kd.int .u8) w A0 l0.length l0) (hc0 : l0.length ≤ c0) (h : spec_DrawPlaces.f k l0 = some r) :
  Calls Try.prog 14 #[.slice A0 l0.length c0] w fun e w' => ∃ v0_ : Value, e = .returned (v0_) ∧ Kd.R (Kd.int .i64) 3 w' w.heap.size (fun _ => True) v0_ r ∧ Below w.heap.size w w' := by
 have HR0 := Aside0.mk hr0
 have HC0 := Aside0.mk hc0
 clear hr0 hc0
 have HB := Aside0.mk (Below.refl w.heap.size w)
 have H : ((spec_l01New.f k l0).bind fun bt470 => ((spec_l01Byte.f bt470.1 bt470.2.1 bt470.2.2).bind fun bt474 => (spec_DrawPlaces.l0 k (([] : List Int)) 0 bt470.1 bt474.2.1 bt474.2.2))) = some r := h
 clear h
 replace H := bsi H
 obtain ⟨⟨t470, t471, t472⟩, A2, H⟩ := H
 (try dsimp only at H)
 replace H := bsi H
 obtain ⟨⟨t474, t475, t476⟩, A3, H⟩ := H
 (try dsimp only at H)
 obtain ⟨y477, hy477⟩ : ∃ y_ : List Int, y_ = (([] : List Int)) := ⟨_, rfl⟩
 replace H : (spec_DrawPlaces.l0 k y477 0 t470 t475 t476) = some r := by first | (rw [hy477]; with_reducible exact H) | (have H2_ := (Option.bind_some _ _).symm.trans H; rw [hy477]; with_reducible exact H2_) | (have H2_ := (Option.bind_some _ _).symm.trans H; with_reducible exact H2_) | with_reducible exact H | (rw [hy477]; exact H) | exact H
 have Ny477 := Aside0.mk hy477
 clear hy477
 have H' := Aside0.mk H
 clear H
 go_enter Try.func14, Try.ntmps14
 go_wp2_with (first | ((with_reducible refine gate_callee (f := 37) rfl ?_); refine goesL_ (some 7) rfl rfl Try.func37 B12x14_ rfl #[.slice A0 l0.length c0] rfl B12x0_ ?_; (with_reducible refine (spec_l01New.calls k _ _ l0 t470 t471 t472 w _ ?side1 ?side2 ?side3 A2.out).mono ?_); (case side1 => exact B12x1_); (case side2 => exact HR0.out); (case side3 => exact HC0.out); rintro e w4 ⟨g473, rfl, hi, hb, hb2⟩; refine ⟨_, rfl, ?_⟩; replace HB := Aside0.mk (hb); have HI473 := Aside0.mk (hi); (try clear hb); (try clear hb2); (try clear hi)) | ((with_reducible refine gate_callee (f := 52) rfl ?_); refine goesL_ (some 9) rfl rfl Try.func52 B12x14_ rfl #[.pointer (some ⟨g473, 0, none⟩)] rfl B12x0_ ?_; (with_reducible refine (spec_l01Byte.calls g473 t470 t471 t472 t474 t475 t476 w _ ?side1 ?side2 A3.out).mono ?_); (case side1 => exact B12x3_); (case side2 => exact B12x2_); rintro e w5 ⟨rfl, hi, hb, hk⟩; refine ⟨_, rfl, ?_⟩; replace HB := Aside0.mk (hb); replace HI473 := Aside0.mk (hi); (try clear hb); (try clear hb2); (try clear hk hi)) | ((with_reducible refine gate_dst (N := 10) rfl ?_); refine Kd.R_lit (Kd.int .i64) _ 3 ?hg (N := 10) ?hd (xs := ([] : List Int)) (inner := []) (ok := fun _ => True) (okp := fun _ => True) ?hr ?hp (fun _ hk => hk) trivial (Below.refl _ _) (Nat.le_refl _) (by simp) ?_; (case hd => rfl); (case hg => rfl); (case hr => exact B12x10_); (case hp => exact (Reps.none _ _)); intro v478 w6 ho7 hb hg_ hnew_; clear hg_ hnew_; (first | rw [← Ny477.out] at ho7 | (simp only [Int.reduceToNat] at ho7; rw [← Ny477.out] at ho7)); have HO479 := Aside0.mk (Kd.R_lower ho7 (below_size B12x2_)); replace HB := Aside0.mk (below_step B12x2_ hb); replace HI473 := Aside0.mk (IsS107.below B12x3_ hb); clear hb ho7))
 go_loopg [4, 5] k (fun kq v4 v5 w' => ∃ (x4_1 : List Int) (x5_1 : Int) (x474001_1 : Int) (x474002_1 : Int), v5 = .int .i64 x5_1 ∧ Aside0 (spec_DrawPlaces.l0 kq x4_1 x5_1 t470 x474001_1 x474002_1 = some r) ∧ Aside0 (kq ≤ k) ∧ Aside0 (Kd.R (Kd.int .i64) 3 w' w.heap.size (fun _ => True) v4 x4_1) ∧ Aside0 (IsS107 w w' g473 t470 x474001_1 x474002_1) ∧ Aside0 (Below w.heap.size w w'))
 case atStart => exact ⟨(y477), (0), (t475), (t476), (be_), H', ⟨Nat.le_refl _⟩, ⟨(by (with_reducible repeat (first | apply Kd.R_alloc | apply Kd.R_drewN | apply Kd.R_drew)); exact HO479.out)⟩, ⟨B12x3_⟩, ⟨B12x2_⟩⟩
 case round =>
  clear H'
  obtain ⟨x4_1, x5_1, x474001_1, x474002_1, rfl, HA, HK1, HO_4, HI473, HB⟩ := hrel
  cases gk with
  | zero => exact absurd HA.out (by simp [spec_DrawPlaces.l0])
  | succ k1 =>
   have H := HA.out
   clear HA
   simp only [spec_DrawPlaces.l0] at H
   by_cases c8 : x5_1 < 12
   ·rw [if_pos c8] at H
    have c8b0 : decide (x5_1 < 12) = true := decide_eq_true c8
    clear c8
    replace H := bsi H
    obtain ⟨⟨t480, t481, t482⟩, A9, H⟩ := H
    (try dsimp only at H)
    by_cases c10 : x4_1.length < 17592186044416
    rotate_left
    ·rw [if_neg c10] at H
     exact absurd H (by simp)
    rw [if_pos c10] at H
    have LMc10 := Aside0.mk c10
    clear c10
    obtain ⟨y483, hy483⟩ : ∃ y_ : List Int, y_ = (x4_1 ++ [t480]) := ⟨_, rfl⟩
    replace H : (spec_DrawPlaces.l0 k1 y483 (wrap64 (x5_1 + 1)) t470 t481 t482) = some r := by first | (rw [hy483]; with_reducible exact H) | (have H2_ := (Option.bind_some _ _).symm.trans H; rw [hy483]; with_reducible exact H2_) | (have H2_ := (Option.bind_some _ _).symm.trans H; with_reducible exact H2_) | with_reducible exact H | (rw [hy483]; exact H) | exact H
    have Ny483 := Aside0.mk hy483
    clear hy483
    have H' := Aside0.mk H
    clear H
    go_wp2_with (first | ((with_reducible refine gate_callee (f := 41) rfl ?_); refine goesL_ (some 17) rfl rfl Try.func41 B12x14_ rfl #[.pointer (some ⟨g473, 0, none⟩), .int .i64 10000] rfl B12x0_ ?_; (with_reducible refine (spec_l01Below.calls g473 t470 x474001_1 x474002_1 10000 t480 t481 t482 w _ ?side1 ?side2 A9.out).mono ?_); (case side1 => exact B12x3_); (case side2 => exact B12x2_); rintro e w11 ⟨rfl, hi, hb, hk⟩; refine ⟨_, rfl, ?_⟩; replace HO_4 := Aside0.mk (Kd.R_mono (Kd.R_keep (IsS107.apart (show IsS107 w _ g473 t470 x474001_1 x474002_1 from B12x3_) B12x15_ (by decide)) hk (fun _ h => h.2)) (fun _ h => h.1)); replace HB := Aside0.mk (hb); replace HI473 := Aside0.mk (hi); (try clear hb); (try clear hb2); (try clear hk hi)) | ((with_reducible refine gate_builtin (b := .append) (xs := #[.tmp 15, .tmp 18]) rfl ?_); at_builtin; refine Kd.R_append (Kd.int .i64) (w0 := w) w.heap.size rfl (.tmp 15) (.tmp 18) 37 3 (.int .i64 0) 8 rfl Try.underlying37 info3 rfl (by decide) (by omega) u4 x4_1 t480 [.int .i64 t480] (fun _ => True) (fun _ => False) rfl rfl ?aP (fun _ hk => hk.elim) ?aF ?aO ?aB ?aS ?aL ?_; (case aP => exact rfl); (case aB => exact B12x2_); (case aF => exact (fun _ _ => trivial)); (case aO => exact B12x15_); (case aS => exact (below_size B12x2_)); (case aL => have := LMc10.out; omega); intro v484 w12 ho hb hg hat; rw [← Ny483.out] at ho; replace HI473 := Aside0.mk (IsS107.grown B12x3_ hg (IsS107.own_ne HI473.out HO_4.out (by decide))); replace HB := Aside0.mk (hb); have HO485 := Aside0.mk (ho); clear HO_4; clear ho hb hg hat))
    go_roundg k1
    case measure => have := HK1.out; omega
    case rel => exact ⟨(y483), (wrap64 (x5_1 + 1)), (t481), (t482), (be_), H', ⟨B12x18_⟩, ⟨(by (with_reducible repeat (first | apply Kd.R_alloc | apply Kd.R_drewN | apply Kd.R_drew)); exact HO485.out)⟩, ⟨B12x3_⟩, ⟨B12x2_⟩⟩
   ·rw [if_neg c8] at H
    have c8b0 : decide (x5_1 < 12) = false := decide_eq_false c8
    clear c8
    obtain rfl := Option.some.inj H
    go_wp2
    go_ret
    exact ⟨_, by first | rfl | (simp [errW_none, errW_some] <;> rfl) | (simp [*, errW_none, errW_some] <;> rfl), by (with_reducible repeat (first | apply Kd.R_alloc | apply Kd.R_drewN | apply Kd.R_drew)); exact HO_4.out, by repeat (first | (with_reducible first | exact HB.out | apply below_alloc | apply pw_below_drewN | apply below_drew1 | refine below_set ?_ (IsS107.ge HI473.out)) | exact HB.out)⟩

/-! ### impl_LogTerm: function 15 -/
def impl_LogTerm.f (a0_0 : Int) (a0_1 : Int) (l0_2 : List (S28)) (a1 : Int) : Option (Int) := if a1 = a0_0 then (some a0_1) else (if a1 > a0_0 then (if (wrap64 (a1 - a0_0)) ≤ (l0_2.length : Int) then (if 0 ≤ (wrap64 ((wrap64 (a1 - a0_0)) - 1)) then (if (wrap64 ((wrap64 (a1 - a0_0)) - 1)) < (l0_2.length : Int) then (some ((rd_T28 l0_2 (wrap64 ((wrap64 (a1 - a0_0)) - 1))).f0)) else (none)) else (none)) else (some (-1))) else (some (-1)))
set_option maxHeartbeats 8000000 in
set_option maxRecDepth 100000 in
theorem impl_LogTerm.calls (a0_0 : Int) (a0_1 : Int) (A0_2 : Option Addr) (c0_2 : Nat) (l0_2 : List (S28)) (a1 : Int) (r : Int) (w : World) (hr0_2 : Kd.C k28 w A0_2 l0_2.length l0_2) (hc0_2 : l0_2.length ≤ c0_2) (h : impl_LogTerm.f a0_0 a0_1 l0_2 a1 = some r) :
  Calls Try.prog 15 #[.agg #[.int .i64 a0_0, .int .i64 a0_1, .slice A0_2 l0_2.length c0_2], .int .i64 a1] w fun e w' => e = .returned (.int .i64 r) ∧ Below w.heap.size w w' := by
 have hu26 := Try.underlying26
 have HR0_2 := Aside0.mk hr0_2
 have HC0_2 := Aside0.mk hc0_2
 clear hr0_2 hc0_2
 have HB := Aside0.mk (Below.refl w.heap.size w)
 have H : (if a1 = a0_0 then (some a0_1) else (if a1 > a0_0 then (if (wrap64 (a1 - a0_0)) ≤ (l0_2.length : Int) then (if 0 ≤ (wrap64 ((wrap64 (a1 - a0_0)) - 1)) then (if (wrap64 ((wrap64 (a1 - a0_0)) - 1)) < (l0_2.length : Int) then (some ((rd_T28 l0_2 (wrap64 ((wrap64 (a1 - a0_0)) - 1))).f0)) else (none)) else (none)) else (some (-1))) else (some (-1)))) = some r := h
 clear h
 by_cases c3 : a1 = a0_0
 ·rw [if_pos c3] at H
  have c3b0 := beq_iff_eq.mpr c3
  have c3b1 := bne_eq_false_iff_eq.mpr c3
  clear c3
  obtain rfl := Option.some.inj H
  go_enter Try.func15, Try.ntmps15
  go_wp2_with (first | ((with_reducible refine gate_dst (N := 2) rfl ?_); (try (refine gate_guard (by rfl) ?_; dsimp only)); refine box_event ?hg (N := 2) ?hd (cs := #[.int .i64 a0_0, .int .i64 a0_1, .slice A0_2 l0_2.length c0_2]) (t := 26) ?hr ?_; (case hd => rfl); (case hg => rfl); (case hr => exact B12x10_); intro gb486 hg w4 hbox hb; have BK486 := Aside0.mk (hbox); have GW486 := Aside0.mk ((bs hg (below_size HB.out))); have GE486 := Aside0.mk ((bs hg (below_size HB.out))); replace HB := Aside0.mk (below_step B12x1_ hb); clear hb hbox hg; obtain ⟨hcz5_0, hcz5_1, hcz5_2⟩ := cl3 BK486.out; obtain ⟨hfz5_0, hfz5_1, hfz5_2⟩ := fr3 BK486.out))
  go_ret
  exact ⟨B12x16_, B12x7_⟩
 ·rw [if_neg c3] at H
  have c3b0 := beq_eq_false_iff_ne.mpr c3
  have c3b1 := bne_iff_ne.mpr c3
  by_cases c6 : a1 > a0_0
  ·rw [if_pos c6] at H
   have c6b0 : decide (a0_0 < a1) = true := decide_eq_true c6
   clear c6
   by_cases c7 : (wrap64 (a1 - a0_0)) ≤ (l0_2.length : Int)
   ·rw [if_pos c7] at H
    have c7b0 : decide ((wrap64 (a1 - a0_0)) ≤ (l0_2.length : Int)) = true := decide_eq_true c7
    clear c7
    obtain ⟨ji8, hji8⟩ : ∃ j_ : Int, (wrap64 ((wrap64 (a1 - a0_0)) - 1)) = j_ := ⟨_, rfl⟩
    replace H : (if 0 ≤ (ji8) then (if (ji8) < (l0_2.length : Int) then (some ((rd_T28 l0_2 (ji8)).f0)) else (none)) else (none)) = some r := by first | (rw [hji8] at H; exact H) | (simp only [hji8] at H ⊢; exact H)
    have hji8w : (IntKind.i64.wrap ((wrap64 (a1 - a0_0)) - 1)) = ji8 := (i64_w _).trans hji8
    by_cases c9 : 0 ≤ (ji8)
    rotate_left
    ·rw [if_neg c9] at H
     exact absurd H (by simp)
    rw [if_pos c9] at H
    have c9b0 : decide (0 ≤ (ji8)) = true := decide_eq_true c9
    clear c9
    by_cases c10 : (ji8) < (l0_2.length : Int)
    rotate_left
    ·rw [if_neg c10] at H
     exact absurd H (by simp)
    rw [if_pos c10] at H
    have c10b0 : decide ((ji8) < (l0_2.length : Int)) = true := decide_eq_true c10
    clear c10
    obtain rfl := Option.some.inj H
    go_enter Try.func15, Try.ntmps15
    go_wp2_with (first | ((with_reducible refine gate_dst (N := 2) rfl ?_); (try (refine gate_guard (by rfl) ?_; dsimp only)); refine box_event ?hg (N := 2) ?hd (cs := #[.int .i64 a0_0, .int .i64 a0_1, .slice A0_2 l0_2.length c0_2]) (t := 26) ?hr ?_; (case hd => rfl); (case hg => rfl); (case hr => exact B12x10_); intro gb486 hg w11 hbox hb; have BK486 := Aside0.mk (hbox); have GW486 := Aside0.mk ((bs hg (below_size HB.out))); have GE486 := Aside0.mk ((bs hg (below_size HB.out))); replace HB := Aside0.mk (below_step B12x1_ hb); clear hb hbox hg; obtain ⟨hcz12_0, hcz12_1, hcz12_2⟩ := cl3 BK486.out; obtain ⟨hfz12_0, hfz12_1, hfz12_2⟩ := fr3 BK486.out; have p487 : 0 ≤ ((ji8) : Int) := of_decide_eq_true B12x5_; have q487 : (ji8) < (l0_2.length : Int) := of_decide_eq_true B12x5_; obtain ⟨ad487, e487, hx487_0, hx487_1, hx487_2⟩ := at_T28 HR0_2.out (ji8) p487 q487; cases e487; replace hx487_0 := (HB.out.cell (World.block_lt_of_cell? w _ hx487_0)).trans hx487_0; replace hx487_1 := (HB.out.cell (World.block_lt_of_cell? w _ hx487_1)).trans hx487_1; replace hx487_2 := (HB.out.cell (World.block_lt_of_cell? w _ hx487_2)).trans hx487_2; replace p487 := eq_true p487; replace q487 := eq_true q487))
    go_ret
    exact ⟨(by first | rfl | (simp [errW_none, errW_some] <;> rfl) | (simp only [← hji8]; first | rfl | (simp [errW_none, errW_some] <;> rfl)) | (simp [*, errW_none, errW_some] <;> rfl)), B12x7_⟩
   ·rw [if_neg c7] at H
    have c7b0 : decide ((wrap64 (a1 - a0_0)) ≤ (l0_2.length : Int)) = false := decide_eq_false c7
    clear c7
    obtain rfl := Option.some.inj H
    go_enter Try.func15, Try.ntmps15
    go_wp2_with (first | ((with_reducible refine gate_dst (N := 2) rfl ?_); (try (refine gate_guard (by rfl) ?_; dsimp only)); refine box_event ?hg (N := 2) ?hd (cs := #[.int .i64 a0_0, .int .i64 a0_1, .slice A0_2 l0_2.length c0_2]) (t := 26) ?hr ?_; (case hd => rfl); (case hg => rfl); (case hr => exact B12x10_); intro gb486 hg w13 hbox hb; have BK486 := Aside0.mk (hbox); have GW486 := Aside0.mk ((bs hg (below_size HB.out))); have GE486 := Aside0.mk ((bs hg (below_size HB.out))); replace HB := Aside0.mk (below_step B12x1_ hb); clear hb hbox hg; obtain ⟨hcz14_0, hcz14_1, hcz14_2⟩ := cl3 BK486.out; obtain ⟨hfz14_0, hfz14_1, hfz14_2⟩ := fr3 BK486.out))
    go_ret
    exact ⟨B12x16_, B12x7_⟩
  ·rw [if_neg c6] at H
   have c6b0 : decide (a0_0 < a1) = false := decide_eq_false c6
   clear c6
   obtain rfl := Option.some.inj H
   go_enter Try.func15, Try.ntmps15
   go_wp2_with (first | ((with_reducible refine gate_dst (N := 2) rfl ?_); (try (refine gate_guard (by rfl) ?_; dsimp only)); refine box_event ?hg (N := 2) ?hd (cs := #[.int .i64 a0_0, .int .i64 a0_1, .slice A0_2 l0_2.length c0_2]) (t := 26) ?hr ?_; (case hd => rfl); (case hg => rfl); (case hr => exact B12x10_); intro gb486 hg w15 hbox hb; have BK486 := Aside0.mk (hbox); have GW486 := Aside0.mk ((bs hg (below_size HB.out))); have GE486 := Aside0.mk ((bs hg (below_size HB.out))); replace HB := Aside0.mk (below_step B12x1_ hb); clear hb hbox hg; obtain ⟨hcz16_0, hcz16_1, hcz16_2⟩ := cl3 BK486.out; obtain ⟨hfz16_0, hfz16_1, hfz16_2⟩ := fr3 BK486.out))
   go_ret
   exact ⟨B12x16_, B12x7_⟩

/-! ### impl_within: function 45 -/
def impl_within.f (a0 : Int) (a1 : Int) (a2 : Int) : Option (Bool) := if a0 ≥ a1 then (some (decide (a0 ≤ a2))) else (some false)
set_option maxHeartbeats 8000000 in
set_option maxRecDepth 100000 in
theorem impl_within.calls (a0 : Int) (a1 : Int) (a2 : Int) (r : Bool) (w : World) (h : impl_within.f a0 a1 a2 = some r) :
  Calls Try.prog 45 #[.int .i64 a0, .int .i64 a1, .int .i64 a2] w fun e w' => e = .returned (.bool r) ∧ Drawn0 w w' := by
 have H : (if a0 ≥ a1 then (some (decide (a0 ≤ a2))) else (some false)) = some r := h
 clear h
 by_cases c4 : a0 ≥ a1
 ·rw [if_pos c4] at H
  have c4b0 : decide (a1 ≤ a0) = true := decide_eq_true c4
  clear c4
  obtain rfl := Option.some.inj H
  go_enter Try.func45, Try.ntmps45
  go_wp2
  go_ret
  exact ⟨B12x11_, B12x9_⟩
 ·rw [if_neg c4] at H
  have c4b0 : decide (a1 ≤ a0) = false := decide_eq_false c4
  clear c4
  obtain rfl := Option.some.inj H
  go_enter Try.func45, Try.ntmps45
  go_wp2
  go_ret
  exact ⟨B12x11_, B12x9_⟩

/-! ### impl_isTerm: function 55 -/
def impl_isTerm.f (a0 : Int) : Option (Bool) := (impl_within.f a0 0 100000).bind fun t488 => (some t488)
set_option maxHeartbeats 8000000 in
set_option maxRecDepth 100000 in
theorem impl_isTerm.calls (a0 : Int) (r : Bool) (w : World) (h : impl_isTerm.f a0 = some r) :
  Calls Try.prog 55 #[.int .i64 a0] w fun e w' => e = .returned (.bool r) ∧ Drawn0 w w' := by
 have H : ((impl_within.f a0 0 100000).bind fun t488 => (some t488)) = some r := h
 clear h
 replace H := bsi H
 obtain ⟨t488, A2, H⟩ := H
 (try dsimp only at H)
 obtain rfl := Option.some.inj H
 go_enter Try.func55, Try.ntmps55
 go_wp2_with (first | ((with_reducible refine gate_callee (f := 45) rfl ?_); refine goesL_ (some 4) rfl rfl Try.func45 B12x14_ rfl #[.int .i64 a0, .int .i64 0, .int .i64 100000] rfl B12x0_ ?_; (with_reducible refine (impl_within.calls a0 0 100000 t488 _ A2.out).mono ?_); rintro e w' ⟨rfl, ⟨nd, rfl⟩⟩; refine ⟨_, rfl, ?_⟩))
 go_ret
 exact ⟨B12x11_, B12x9_⟩

/-! ### impl_isNode: function 112 -/
def impl_isNode.f (a0 : Int) : Option (Bool) := (impl_within.f a0 1 4).bind fun t489 => (some t489)
set_option maxHeartbeats 8000000 in
set_option maxRecDepth 100000 in
theorem impl_isNode.calls (a0 : Int) (r : Bool) (w : World) (h : impl_isNode.f a0 = some r) :
  Calls Try.prog 112 #[.int .i64 a0] w fun e w' => e = .returned (.bool r) ∧ Drawn0 w w' := by
 have H : ((impl_within.f a0 1 4).bind fun t489 => (some t489)) = some r := h
 clear h
 replace H := bsi H
 obtain ⟨t489, A2, H⟩ := H
 (try dsimp only at H)
 obtain rfl := Option.some.inj H
 go_enter Try.func112, Try.ntmps112
 go_wp2_with (first | ((with_reducible refine gate_callee (f := 45) rfl ?_); refine goesL_ (some 4) rfl rfl Try.func45 B12x14_ rfl #[.int .i64 a0, .int .i64 1, .int .i64 4] rfl B12x0_ ?_; (with_reducible refine (impl_within.calls a0 1 4 t489 _ A2.out).mono ?_); rintro e w' ⟨rfl, ⟨nd, rfl⟩⟩; refine ⟨_, rfl, ?_⟩))
 go_ret
 exact ⟨B12x11_, B12x9_⟩

/-! ### impl_nodesOk: function 109 -/
def impl_nodesOk.l0 : Nat → List Int → List Int → Int → Int → Option (Bool)
 | 0, _, _, _, _ => none
 | k + 1, x0, x5, x6, x7 => if x7 < x6 then (if 0 ≤ x7 then (if x7 < (x5.length : Int) then ((impl_isNode.f (rd x5 x7)).bind fun t491 => (if t491 = true then (if x7 > 0 then (if 0 ≤ (wrap64 (x7 - 1)) then (if (wrap64 (x7 - 1)) < (x0.length : Int) then (if (rd x0 (wrap64 (x7 - 1))) ≥ (rd x5 x7) then (some false) else (impl_nodesOk.l0 k x0 x5 x6 (wrap64 (x7 + 1)))) else (none)) else (none)) else (impl_nodesOk.l0 k x0 x5 x6 (wrap64 (x7 + 1)))) else (some false))) else (none)) else (none)) else (some true)
def impl_nodesOk.f (k : Nat) (l0 : List Int) : Option (Bool) := impl_nodesOk.l0 k l0 l0 (l0.length : Int) 0
theorem impl_nodesOk.mono_l : ∀ k, (∀ y0 y1 y2 y3, LeO (impl_nodesOk.l0 k y0 y1 y2 y3) (impl_nodesOk.l0 (k + 1) y0 y1 y2 y3))
 | 0 => fun _ _ _ _ r h => by simp [impl_nodesOk.l0] at h
 | k + 1 => by
  have ih0 := impl_nodesOk.mono_l k
  ·intro y0 y1 y2 y3
   unfold impl_nodesOk.l0
   repeat' first
   | (with_reducible exact ih0 _ _ _ _)
   | (with_reducible first | exact LeO.refl _ | exact LeO.none _ | refine LeO.ite ?_ ?_ | refine LeO.bind ?_ (fun _ => ?_))
   | exact ih0 _ _ _ _
theorem impl_nodesOk.mono : ∀ a0 k, LeO (impl_nodesOk.f k a0) (impl_nodesOk.f (k + 1) a0) := by
 intro a0 k
 have ih0 := impl_nodesOk.mono_l k
 unfold impl_nodesOk.f
 repeat' first
   | (with_reducible exact ih0 _ _ _ _)
   | (with_reducible first | exact LeO.refl _ | exact LeO.none _ | refine LeO.ite ?_ ?_ | refine LeO.bind ?_ (fun _ => ?_))
   | exact ih0 _ _ _ _
set_option maxHeartbeats 8000000 in
set_option maxRecDepth 100000 in
theorem impl_nodesOk.calls (k : Nat) (A0 : Option Addr) (c0 : Nat) (l0 : List Int) (r : Bool) (w : World) (hr0 : Kd.C (Kd.int .i64) w A0 l0.length l0) (hc0 : l0.length ≤ c0) (h : impl_nodesOk.f k l0 = some r) :
  Calls Try.prog 109 #[.slice A0 l0.length c0] w fun e w' => e = .returned (.bool r) ∧ Drawn0 w w' := by
 have HR0 := Aside0.mk hr0
 have HC0 := Aside0.mk hc0
 clear hr0 hc0
 have H : (impl_nodesOk.l0 k l0 l0 (l0.length : Int) 0) = some r := h
 clear h
 have H' := Aside0.mk H
 clear H
 go_enter Try.func109, Try.ntmps109
 go_wp2
 go_loopg [7] k (fun kq v7 w' => ∃ (x7_1 : Int), v7 = .int .i64 x7_1 ∧ Aside0 (impl_nodesOk.l0 kq l0 l0 (l0.length : Int) x7_1 = some r) ∧ Aside0 (kq ≤ k) ∧ Drawn0 w w')
 case atStart => exact ⟨(0), (be_), H', ⟨Nat.le_refl _⟩, by repeat (first | exact Drawn0.refl _ | apply Drawn0.step)⟩
 case round =>
  clear H'
  obtain ⟨x7_1, rfl, HA, HK1, ⟨m1, rfl⟩⟩ := hrel
  cases gk with
  | zero => exact absurd HA.out (by simp [impl_nodesOk.l0])
  | succ k1 =>
   have H := HA.out
   clear HA
   simp only [impl_nodesOk.l0] at H
   by_cases c2 : x7_1 < (l0.length : Int)
   ·rw [if_pos c2] at H
    have c2b0 : decide (x7_1 < (l0.length : Int)) = true := decide_eq_true c2
    clear c2
    by_cases c3 : 0 ≤ x7_1
    rotate_left
    ·rw [if_neg c3] at H
     exact absurd H (by simp)
    rw [if_pos c3] at H
    have c3b0 : decide (0 ≤ x7_1) = true := decide_eq_true c3
    clear c3
    by_cases c4 : x7_1 < (l0.length : Int)
    rotate_left
    ·exact absurd H (by exfalso; (try have h0_ := of_decide_eq_true c2b0); (try have g0_ := c2); omega)
    rw [if_pos c4] at H
    have c4b0 : decide (x7_1 < (l0.length : Int)) = true := decide_eq_true c4
    clear c4
    replace H := bsi H
    obtain ⟨t491, A5, H⟩ := H
    (try dsimp only at H)
    by_cases c6 : t491 = true
    ·subst c6
     rw [if_pos rfl] at H
     by_cases c7 : x7_1 > 0
     ·rw [if_pos c7] at H
      have c7b0 : decide (0 < x7_1) = true := decide_eq_true c7
      clear c7
      obtain ⟨ji8, hji8⟩ : ∃ j_ : Int, (wrap64 (x7_1 - 1)) = j_ := ⟨_, rfl⟩
      replace H : (if 0 ≤ (ji8) then (if (ji8) < (l0.length : Int) then (if (rd l0 (ji8)) ≥ (rd l0 x7_1) then (some false) else (impl_nodesOk.l0 k1 l0 l0 (l0.length : Int) (wrap64 (x7_1 + 1)))) else (none)) else (none)) = some r := by first | (rw [hji8] at H; exact H) | (simp only [hji8] at H ⊢; exact H)
      (try rw [hji8] at A5)
      have hji8w : (IntKind.i64.wrap (x7_1 - 1)) = ji8 := (i64_w _).trans hji8
      by_cases c9 : 0 ≤ (ji8)
      rotate_left
      ·rw [if_neg c9] at H
       exact absurd H (by simp)
      rw [if_pos c9] at H
      have c9b0 : decide (0 ≤ (ji8)) = true := decide_eq_true c9
      clear c9
      by_cases c10 : (ji8) < (l0.length : Int)
      rotate_left
      ·rw [if_neg c10] at H
       exact absurd H (by simp)
      rw [if_pos c10] at H
      have c10b0 : decide ((ji8) < (l0.length : Int)) = true := decide_eq_true c10
      clear c10
      by_cases c11 : (rd l0 (ji8)) ≥ (rd l0 x7_1)
      ·rw [if_pos c11] at H
       have c11b0 : decide ((rd l0 x7_1) ≤ (rd l0 (ji8))) = true := decide_eq_true c11
       clear c11
       obtain rfl := Option.some.inj H
       have p490 : 0 ≤ (x7_1 : Int) := of_decide_eq_true B12x5_
       have q490 : x7_1 < (l0.length : Int) := of_decide_eq_true B12x5_
       obtain ⟨ad490, e490, hx490_0⟩ := Kd.at_int HR0.out x7_1 p490 q490
       cases e490
       replace p490 := eq_true p490
       replace q490 := eq_true q490
       go_wp2_with (first | ((with_reducible refine gate_callee (f := 112) rfl ?_); refine goesL_ (some 13) rfl rfl Try.func112 B12x14_ rfl #[.int .i64 (rd l0 x7_1)] rfl B12x0_ ?_; (with_reducible refine (impl_isNode.calls (rd l0 x7_1) true _ A5.out).mono ?_); rintro e w' ⟨rfl, ⟨nd, rfl⟩⟩; refine ⟨_, rfl, ?_⟩; have p492 : 0 ≤ ((ji8) : Int) := of_decide_eq_true B12x5_; have q492 : (ji8) < (l0.length : Int) := of_decide_eq_true B12x5_; obtain ⟨ad492, e492, hx492_0⟩ := Kd.at_int HR0.out (ji8) p492 q492; obtain rfl : ad490 = ad492 := (by injection e492); replace p492 := eq_true p492; replace q492 := eq_true q492))
       go_ret
       exact ⟨(by first | rfl | (simp; done) | (simp only [← hji8] <;> (first | rfl | simp)) | (simp [*]; done)), B12x9_⟩
      ·rw [if_neg c11] at H
       have c11b0 : decide ((rd l0 x7_1) ≤ (rd l0 (ji8))) = false := decide_eq_false c11
       clear c11
       have H' := Aside0.mk H
       clear H
       have p490 : 0 ≤ (x7_1 : Int) := of_decide_eq_true B12x5_
       have q490 : x7_1 < (l0.length : Int) := of_decide_eq_true B12x5_
       obtain ⟨ad490, e490, hx490_0⟩ := Kd.at_int HR0.out x7_1 p490 q490
       cases e490
       replace p490 := eq_true p490
       replace q490 := eq_true q490
       go_wp2_with (first | ((with_reducible refine gate_callee (f := 112) rfl ?_); refine goesL_ (some 13) rfl rfl Try.func112 B12x14_ rfl #[.int .i64 (rd l0 x7_1)] rfl B12x0_ ?_; (with_reducible refine (impl_isNode.calls (rd l0 x7_1) true _ A5.out).mono ?_); rintro e w' ⟨rfl, ⟨nd, rfl⟩⟩; refine ⟨_, rfl, ?_⟩; have p492 : 0 ≤ ((ji8) : Int) := of_decide_eq_true B12x5_; have q492 : (ji8) < (l0.length : Int) := of_decide_eq_true B12x5_; obtain ⟨ad492, e492, hx492_0⟩ := Kd.at_int HR0.out (ji8) p492 q492; obtain rfl : ad490 = ad492 := (by injection e492); replace p492 := eq_true p492; replace q492 := eq_true q492))
       go_roundg k1
       case measure => have := HK1.out; omega
       case rel => exact ⟨(wrap64 (x7_1 + 1)), (be_), H', ⟨B12x18_⟩, by repeat (first | exact Drawn0.refl _ | apply Drawn0.step)⟩
     ·rw [if_neg c7] at H
      have c7b0 : decide (0 < x7_1) = false := decide_eq_false c7
      clear c7
      have H' := Aside0.mk H
      clear H
      have p490 : 0 ≤ (x7_1 : Int) := of_decide_eq_true B12x5_
      have q490 : x7_1 < (l0.length : Int) := of_decide_eq_true B12x5_
      obtain ⟨ad490, e490, hx490_0⟩ := Kd.at_int HR0.out x7_1 p490 q490
      cases e490
      replace p490 := eq_true p490
      replace q490 := eq_true q490
      go_wp2_with (first | ((with_reducible refine gate_callee (f := 112) rfl ?_); refine goesL_ (some 13) rfl rfl Try.func112 B12x14_ rfl #[.int .i64 (rd l0 x7_1)] rfl B12x0_ ?_; (with_reducible refine (impl_isNode.calls (rd l0 x7_1) true _ A5.out).mono ?_); rintro e w' ⟨rfl, ⟨nd, rfl⟩⟩; refine ⟨_, rfl, ?_⟩))
      go_roundg k1
      case measure => have := HK1.out; omega
      case rel => exact ⟨(wrap64 (x7_1 + 1)), (be_), H', ⟨B12x18_⟩, by repeat (first | exact Drawn0.refl _ | apply Drawn0.step)⟩
    ·replace c6 := Bool.eq_false_iff.mpr c6
     subst c6
     rw [if_neg (show ¬ (false = true) by decide)] at H
     obtain rfl := Option.some.inj H
     have p490 : 0 ≤ (x7_1 : Int) := of_decide_eq_true B12x5_
     have q490 : x7_1 < (l0.length : Int) := of_decide_eq_true B12x5_
     obtain ⟨ad490, e490, hx490_0⟩ := Kd.at_int HR0.out x7_1 p490 q490
     cases e490
     replace p490 := eq_true p490
     replace q490 := eq_true q490
     go_wp2_with (first | ((with_reducible refine gate_callee (f := 112) rfl ?_); refine goesL_ (some 13) rfl rfl Try.func112 B12x14_ rfl #[.int .i64 (rd l0 x7_1)] rfl B12x0_ ?_; (with_reducible refine (impl_isNode.calls (rd l0 x7_1) false _ A5.out).mono ?_); rintro e w' ⟨rfl, ⟨nd, rfl⟩⟩; refine ⟨_, rfl, ?_⟩))
     go_ret
     exact ⟨B12x11_, B12x9_⟩
   ·rw [if_neg c2] at H
    have c2b0 : decide (x7_1 < (l0.length : Int)) = false := decide_eq_false c2
    clear c2
    obtain rfl := Option.some.inj H
    go_wp2
    go_ret
    exact ⟨B12x11_, B12x9_⟩

/-! ### impl_ConfOk: function 103 -/
def impl_ConfOk.f (k : Nat) (l0 : List Int) : Option (Bool) := if (l0.length : Int) > 0 then ((impl_nodesOk.f k l0).bind fun t493 => (some t493)) else (some false)
theorem impl_ConfOk.mono : ∀ a0 k, LeO (impl_ConfOk.f k a0) (impl_ConfOk.f (k + 1) a0) := by
 intro a0 k
 unfold impl_ConfOk.f
 repeat' first
   | (with_reducible exact impl_nodesOk.mono _ _)
   | (with_reducible first | exact LeO.refl _ | exact LeO.none _ | refine LeO.ite ?_ ?_ | refine LeO.bind ?_ (fun _ => ?_))
   | exact impl_nodesOk.mono _ _
set_option maxHeartbeats 8000000 in
set_option maxRecDepth 100000 in
theorem impl_ConfOk.calls (k : Nat) (A0 : Option Addr) (c0 : Nat) (l0 : List Int) (r : Bool) (w : World) (hr0 : Kd.C (Kd.int .i64) w A0 l0.length l0) (hc0 : l0.length ≤ c0) (h : impl_ConfOk.f k l0 = some r) :
  Calls Try.prog 103 #[.slice A0 l0.length c0] w fun e w' => e = .returned (.bool r) ∧ Drawn0 w w' := by
 have HR0 := Aside0.mk hr0
 have HC0 := Aside0.mk hc0
 clear hr0 hc0
 have H : (if (l0.length : Int) > 0 then ((impl_nodesOk.f k l0).bind fun t493 => (some t493)) else (some false)) = some r := h
 clear h
 by_cases c2 : (l0.length : Int) > 0
 ·rw [if_pos c2] at H
  have c2b0 : decide (0 < (l0.length : Int)) = true := decide_eq_true c2
  have c2b1 : decide (0 < l0.length) = true := decide_eq_true (by omega)
  clear c2
  replace H := bsi H
  obtain ⟨t493, A3, H⟩ := H
  (try dsimp only at H)
  obtain rfl := Option.some.inj H
  go_enter Try.func103, Try.ntmps103
  go_wp2_with (first | (go_at_call 109; (with_reducible refine (impl_nodesOk.calls k _ _ l0 t493 _ ?side1 ?side2 A3.out).mono ?_); (case side1 => repeat (first | exact HR0.out | (with_reducible refine Kd.C_alloc ?_ _) | (with_reducible refine Kd.C_drewN ?_ _) | (with_reducible refine Kd.C_drew ?_))); (case side2 => exact HC0.out); rintro e w' ⟨rfl, ⟨nd, rfl⟩⟩))
  go_ret
  exact ⟨B12x11_, B12x9_⟩
 ·rw [if_neg c2] at H
  have c2b0 : decide (0 < (l0.length : Int)) = false := decide_eq_false c2
  have c2b1 : decide (0 < l0.length) = false := decide_eq_false (by omega)
  clear c2
  obtain rfl := Option.some.inj H
  go_enter Try.func103, Try.ntmps103
  go_wp2
  go_ret
  exact ⟨B12x11_, B12x9_⟩

/-! ### impl_ReadConf: function 87 -/
def impl_ReadConf.l0 : Nat → ByteArray → List Int → Int → Option (List Int × Bool)
 | 0, _, _, _ => none
 | k + 1, x0, x4, x5 => if x5 < (x0.size : Int) then (if 0 ≤ x5 then (if x4.length < 17592186044416 then (impl_ReadConf.l0 k x0 (x4 ++ [wrap64 (bt x0 x5)]) (wrap64 (x5 + 1))) else (none)) else (none)) else ((impl_ConfOk.f k x4).bind fun t500 => (if t500 = true then (some (x4, true)) else (some (([] : List Int), false))))
def impl_ReadConf.f (k : Nat) (a0 : ByteArray) : Option (List Int × Bool) := impl_ReadConf.l0 k a0 (([] : List Int)) 0
theorem impl_ReadConf.mono_l : ∀ k, (∀ y0 y1 y2, LeO (impl_ReadConf.l0 k y0 y1 y2) (impl_ReadConf.l0 (k + 1) y0 y1 y2))
 | 0 => fun _ _ _ r h => by simp [impl_ReadConf.l0] at h
 | k + 1 => by
  have ih0 := impl_ReadConf.mono_l k
  ·intro y0 y1 y2
   unfold impl_ReadConf.l0
   repeat' first
   | (with_reducible exact ih0 _ _ _)
   | (with_reducible exact impl_ConfOk.mono _ _)
   | (with_reducible first | exact LeO.refl _ | exact LeO.none _ | refine LeO.ite ?_ ?_ | refine LeO.bind ?_ (fun _ => ?_))
   | exact ih0 _ _ _
   | exact impl_ConfOk.mono _ _
theorem impl_ReadConf.mono : ∀ a0 k, LeO (impl_ReadConf.f k a0) (impl_ReadConf.f (k + 1) a0) := by
 intro a0 k
 have ih0 := impl_ReadConf.mono_l k
 unfold impl_ReadConf.f
 repeat' first
   | (with_reducible exact ih0 _ _ _)
   | (with_reducible exact impl_ConfOk.mono _ _)
   | (with_reducible first | exact LeO.refl _ | exact LeO.none _ | refine LeO.ite ?_ ?_ | refine LeO.bind ?_ (fun _ => ?_))
   | exact ih0 _ _ _
   | exact impl_ConfOk.mono _ _
set_option maxHeartbeats 8000000 in
set_option maxRecDepth 100000 in
theorem impl_ReadConf.calls (k : Nat) (a0 : ByteArray) (r1 : List Int) (r2 : Bool) (w : World) (h : impl_ReadConf.f k a0 = some (r1, r2)) :
  Calls Try.prog 87 #[.string a0] w fun e w' => ∃ v0_ : Value, e = .returned (.tuple #[v0_, .bool r2]) ∧ Kd.R (Kd.int .i64) 3 w' w.heap.size (fun _ => True) v0_ r1 ∧ Below w.heap.size w w' := by
 have HB := Aside0.mk (Below.refl w.heap.size w)
 have H : (impl_ReadConf.l0 k a0 (([] : List Int)) 0) = some (r1, r2) := h
 clear h
 obtain ⟨y494, hy494⟩ : ∃ y_ : List Int, y_ = (([] : List Int)) := ⟨_, rfl⟩
 replace H : (impl_ReadConf.l0 k a0 y494 0) = some (r1, r2) := by first | (rw [hy494]; with_reducible exact H) | (have H2_ := (Option.bind_some _ _).symm.trans H; rw [hy494]; with_reducible exact H2_) | (have H2_ := (Option.bind_some _ _).symm.trans H; with_reducible exact H2_) | with_reducible exact H | (rw [hy494]; exact H) | exact H
 have Ny494 := Aside0.mk hy494
 clear hy494
 have H' := Aside0.mk H
 clear H
 go_enter Try.func87, Try.ntmps87
 go_wp2_with (first | ((with_reducible refine gate_dst (N := 6) rfl ?_); refine Kd.R_lit (Kd.int .i64) _ 3 ?hg (N := 6) ?hd (xs := ([] : List Int)) (inner := []) (ok := fun _ => True) (okp := fun _ => True) ?hr ?hp (fun _ hk => hk) trivial (Below.refl _ _) (Nat.le_refl _) (by simp) ?_; (case hd => rfl); (case hg => rfl); (case hr => exact B12x10_); (case hp => exact (Reps.none _ _)); intro v495 w2 ho3 hb hg_ hnew_; clear hg_ hnew_; (first | rw [← Ny494.out] at ho3 | (simp only [Int.reduceToNat] at ho3; rw [← Ny494.out] at ho3)); have HO496 := Aside0.mk (Kd.R_lower ho3 (below_size B12x1_)); replace HB := Aside0.mk (below_step B12x1_ hb); clear hb ho3))
 go_loopg [4, 5] k (fun kq v4 v5 w' => ∃ (x4_1 : List Int) (x5_1 : Int), v5 = .int .i64 x5_1 ∧ Aside0 (impl_ReadConf.l0 kq a0 x4_1 x5_1 = some (r1, r2)) ∧ Aside0 (kq ≤ k) ∧ Aside0 (Kd.R (Kd.int .i64) 3 w' w.heap.size (fun _ => True) v4 x4_1) ∧ Aside0 (Below w.heap.size w w'))
 case atStart => exact ⟨(y494), (0), (be_), H', ⟨Nat.le_refl _⟩, ⟨(by (with_reducible repeat (first | apply Kd.R_alloc | apply Kd.R_drewN | apply Kd.R_drew)); exact HO496.out)⟩, ⟨B12x1_⟩⟩
 case round =>
  clear H'
  obtain ⟨x4_1, x5_1, rfl, HA, HK1, HO_4, HB⟩ := hrel
  cases gk with
  | zero => exact absurd HA.out (by simp [impl_ReadConf.l0])
  | succ k1 =>
   have H := HA.out
   clear HA
   simp only [impl_ReadConf.l0] at H
   by_cases c4 : x5_1 < (a0.size : Int)
   ·rw [if_pos c4] at H
    have c4b0 : decide (x5_1 < (a0.size : Int)) = true := decide_eq_true c4
    clear c4
    by_cases c5 : 0 ≤ x5_1
    rotate_left
    ·rw [if_neg c5] at H
     exact absurd H (by simp)
    rw [if_pos c5] at H
    have c5b0 : decide (0 ≤ x5_1) = true := decide_eq_true c5
    clear c5
    by_cases c7 : x4_1.length < 17592186044416
    rotate_left
    ·rw [if_neg c7] at H
     exact absurd H (by simp)
    rw [if_pos c7] at H
    have LMc7 := Aside0.mk c7
    clear c7
    obtain ⟨y497, hy497⟩ : ∃ y_ : List Int, y_ = (x4_1 ++ [wrap64 (bt a0 x5_1)]) := ⟨_, rfl⟩
    replace H : (impl_ReadConf.l0 k1 a0 y497 (wrap64 (x5_1 + 1))) = some (r1, r2) := by first | (rw [hy497]; with_reducible exact H) | (have H2_ := (Option.bind_some _ _).symm.trans H; rw [hy497]; with_reducible exact H2_) | (have H2_ := (Option.bind_some _ _).symm.trans H; with_reducible exact H2_) | with_reducible exact H | (rw [hy497]; exact H) | exact H
    have Ny497 := Aside0.mk hy497
    clear hy497
    have H' := Aside0.mk H
    clear H
    have p6 : 0 ≤ (x5_1 : Int) := of_decide_eq_true B12x5_
    have q6 : x5_1 < (a0.size : Int) := of_decide_eq_true B12x5_
    have hx6 := bt_at a0 x5_1
    replace p6 := eq_true p6
    replace q6 := eq_true q6
    go_wp2_with (first | ((with_reducible refine gate_builtin (b := .append) (xs := #[.tmp 13, .tmp 18]) rfl ?_); at_builtin; refine Kd.R_append (Kd.int .i64) (w0 := w) w.heap.size rfl (.tmp 13) (.tmp 18) 37 3 (.int .i64 0) 8 rfl Try.underlying37 info3 rfl (by decide) (by omega) u4 x4_1 (wrap64 (bt a0 x5_1)) [.int .i64 (wrap64 (bt a0 x5_1))] (fun _ => True) (fun _ => False) rfl rfl ?aP (fun _ hk => hk.elim) ?aF ?aO ?aB ?aS ?aL ?_; (case aP => exact rfl); (case aB => exact B12x1_); (case aF => exact (fun _ _ => trivial)); (case aO => exact B12x15_); (case aS => exact (below_size B12x1_)); (case aL => have := LMc7.out; omega); intro v498 w8 ho hb hg hat; rw [← Ny497.out] at ho; replace HB := Aside0.mk (hb); have HO499 := Aside0.mk (ho); clear HO_4; clear ho hb hg hat))
    go_roundg k1
    case measure => have := HK1.out; omega
    case rel => exact ⟨(y497), (wrap64 (x5_1 + 1)), (be_), H', ⟨B12x18_⟩, ⟨(by (with_reducible repeat (first | apply Kd.R_alloc | apply Kd.R_drewN | apply Kd.R_drew)); exact HO499.out)⟩, ⟨B12x1_⟩⟩
   ·rw [if_neg c4] at H
    have c4b0 : decide (x5_1 < (a0.size : Int)) = false := decide_eq_false c4
    clear c4
    replace H := bsi H
    obtain ⟨t500, A9, H⟩ := H
    (try dsimp only at H)
    by_cases c10 : t500 = true
    ·subst c10
     rw [if_pos rfl] at H
     simp only [Option.some.injEq, Prod.mk.injEq] at H
     obtain ⟨rfl, rfl⟩ := H
     obtain ⟨Ao11, co11, eo11⟩ := Kd.R_slice HO_4.out
     subst eo11
     go_wp2_with (first | ((with_reducible refine gate_callee (f := 103) rfl ?_); refine goesL_ (some 21) rfl rfl Try.func103 B12x14_ rfl #[.slice Ao11 x4_1.length co11] rfl B12x0_ ?_; (with_reducible refine (impl_ConfOk.calls k1 _ _ x4_1 true _ ?side1 ?side2 A9.out).mono ?_); (case side1 => exact B12x17_); (case side2 => exact (Kd.R_reads' HO_4.out).2.1); rintro e w' ⟨rfl, ⟨nd, rfl⟩⟩; refine ⟨_, rfl, ?_⟩))
     go_ret2
     exact ⟨_, by first | rfl | (simp [errW_none, errW_some] <;> rfl) | (simp [*, errW_none, errW_some] <;> rfl), by (with_reducible repeat (first | apply Kd.R_alloc | apply Kd.R_drewN | apply Kd.R_drew)); exact HO_4.out, by repeat (first | (with_reducible first | exact HB.out | apply below_alloc | apply pw_below_drewN | apply below_drew1) | exact HB.out)⟩
    ·replace c10 := Bool.eq_false_iff.mpr c10
     subst c10
     rw [if_neg (show ¬ (false = true) by decide)] at H
     simp only [Option.some.injEq, Prod.mk.injEq] at H
     obtain ⟨rfl, rfl⟩ := H
     obtain ⟨Ao12, co12, eo12⟩ := Kd.R_slice HO_4.out
     subst eo12
     go_wp2_with (first | ((with_reducible refine gate_callee (f := 103) rfl ?_); refine goesL_ (some 21) rfl rfl Try.func103 B12x14_ rfl #[.slice Ao12 x4_1.length co12] rfl B12x0_ ?_; (with_reducible refine (impl_ConfOk.calls k1 _ _ x4_1 false _ ?side1 ?side2 A9.out).mono ?_); (case side1 => exact B12x17_); (case side2 => exact (Kd.R_reads' HO_4.out).2.1); rintro e w' ⟨rfl, ⟨nd, rfl⟩⟩; refine ⟨_, rfl, ?_⟩))
     go_ret2
     exact ⟨_, by first | rfl | (simp [errW_none, errW_some] <;> rfl) | (simp [*, errW_none, errW_some] <;> rfl), by first | exact Kd.R_nil _ _ _ _ _ | exact Kd.N_nil _ _ _ _ _ | exact Kd.V_nil _ _ _ _ _ | exact Kd.Q_nil _ _ _ _ _ | exact Kd.S_nil _ _ _ _ _, by repeat (first | (with_reducible first | exact HB.out | apply below_alloc | apply pw_below_drewN | apply below_drew1) | exact HB.out)⟩

end Go.Proofs.Ytgffdijodnpolaa.QFnLogs
