/- Functions that a law reaches, as functions of Lean, and the walks that show that the calls come to their answers: written by a program of this project out of the translation. No condition. -/
import Derived.Test.YthgjcijcmacpmaaQFnEntriesx0
import Derived.Test.YthgjcijcmacpmaaQFnEntriesx1
import Derived.Test.YthgjcijcmacpmaaQFnEntriesx2
import Derived.Test.YthgjcijcmacpmaaQFnEntriesx8
import Derived.Test.YthgjcijcmacpmaaQFnEntriesx10
import Derived.Test.YthgjcijcmacpmaaQFnEntriesx11
import Derived.Test.YthgjcijcmacpmaaQFnEntriesx12
import Derived.Test.YthgjcijcmacpmaaQFnEntriesx13
import Derived.Test.YthgjcijcmacpmaaVFnEntriesShort3
import Derived.Test.YthgjcijcmacpmaaVFnEntriesShort2
import Derived.Test.YthgjcijcmacpmaaVFnEntriesShort
namespace Go.Proofs.Ythgjcijcmacpmaa.QFnEntries
open Go.RowKit Go.Proofs.YthgjcijcmacpmaaW.PrintWords Go.Proofs.YthgjcijcmacpmaaW.PrintLast Go.Proofs.YthgjcijcmacpmaaW.PrintMore Go.Proofs.Ythgjcijcmacpmaa.Short
attribute [local go_sem] max2_int min2_int max_two min_two max_three min_three max_four min_four   -- for this text's walks alone
set_option linter.unusedVariables false
set_option linter.unusedSimpArgs false

attribute [local go_sem high] eqA51
theorem B14x0_ {p : Prop} (h : p := by (try simp only [List.map_toArray, List.map_cons, List.map_nil]); first | done | rfl | (simp only [List.length_drop, List.length_take]; rfl)) : p := h
theorem B14x1_ {p : Prop} (h : p := by repeat (first | (with_reducible first | exact HB.out | apply below_alloc | apply pw_below_drewN | apply below_drew1 | refine below_set ?_ GE527.out | refine below_set ?_ GE537.out) | exact HB.out)) : p := h
theorem B14x2_ {p : Prop} (h : p := by (with_reducible repeat (first | refine blk_drewN ?_ _ | refine blk_drew ?_ | refine blk_alloc ?_ _)); exact BK527.out) : p := h
theorem B14x3_ {p : Prop} (h : p := by repeat (first | (with_reducible first | exact HB.out | apply below_alloc | apply pw_below_drewN | apply below_drew1 | refine below_set ?_ GE527.out) | exact HB.out)) : p := h
theorem B14x4_ {p : Prop} (h : p := by repeat (first | (with_reducible first | exact HB.out | apply below_alloc | apply pw_below_drewN | apply below_drew1) | exact HB.out)) : p := h
theorem B14x5_ {p : Prop} (h : p := by (with_reducible repeat (first | refine blk_drewN ?_ _ | refine blk_drew ?_ | refine blk_alloc ?_ _)); exact BK537.out) : p := h
theorem B14x6_ {p : Prop} (h : p := by (with_reducible repeat (first | apply Kd.R_alloc | apply Kd.R_drewN | apply Kd.R_drew)); exact HO540.out) : p := h
theorem B14x7_ {p : Prop} (h : p := by kernel_rfl) : p := h
theorem B14x8_ {p : Prop} (h : p := by (with_reducible repeat (first | apply Kd.R_alloc | apply Kd.R_drewN | apply Kd.R_drew)); exact HO_12.out) : p := h
/-! ### laws_FnEntries: function 7 -/
mutual
def laws_FnEntries.j0 : Nat → List Int → Bool → Option (Bool)
 | 0, _, _ => none
 | k + 1, x0, x61 => if x61 = true then (some false) else ((spec_DrawConfText.f k x0).bind fun t538 => ((impl_ConfText.f k t538).bind fun bt541 => ((impl_ReadConf.f k bt541.1).bind fun bt543 => ((spec_ConfOk.f k t538).bind fun t547 => (if (bt541.2 != t547) = true then (laws_FnEntries.j1 k t538 bt541.2 true) else (if bt541.2 = true then (if bt543.2 = true then ((laws_sameInts.f k bt543.1 t538).bind fun t548 => (if t548 = true then ((impl_ConfOk.f k t538).bind fun t549 => (laws_FnEntries.j1 k t538 bt541.2 (t549 != bt541.2))) else (laws_FnEntries.j1 k t538 bt541.2 true))) else (laws_FnEntries.j1 k t538 bt541.2 true)) else ((impl_ConfOk.f k t538).bind fun t550 => (laws_FnEntries.j1 k t538 bt541.2 (t550 != bt541.2)))))))))
def laws_FnEntries.j1 : Nat → List Int → Bool → Bool → Option (Bool)
 | 0, _, _, _ => none
 | k + 1, x12, x14, x96 => if x96 = true then (some false) else (if x14 = true then ((impl_Most.f k x12 x12).bind fun t551 => (if t551 = true then ((impl_Most.f k x12 (([] : List Int))).bind fun t555 => (if t555 = true then (some false) else (if 1 ≤ (x12.length : Int) then ((impl_Most.f k x12 (x12.take 1)).bind fun t560 => (some (t560 == ((x12.length : Int) == 1)))) else (none)))) else (some false))) else (some true))
end
def laws_FnEntries.f (k : Nat) (l0 : List Int) : Option (Bool) := (laws_big.f l0).bind fun t522 => (if t522 = true then (some true) else ((spec_DrawEntryText.f k l0).bind fun bt523 => ((impl_EntryText.f k bt523.1 bt523.2.1 bt523.2.2.1 bt523.2.2.2).bind fun bt528 => ((spec_EntryText.f k bt523.1 bt523.2.1 bt523.2.2.1 bt523.2.2.2).bind fun bt530 => ((impl_ReadEntry.f k bt528.1).bind fun bt532 => (if (bt528.2 != bt530.2) = true then (laws_FnEntries.j0 k l0 true) else (if bt528.2 = true then (if bt532.2.2.2.2 = true then (if bt532.1 = bt523.1 then (laws_FnEntries.j0 k l0 (!(bt532.2.1 == bt523.2.1) || (!(bt532.2.2.1 == bt523.2.2.1) || (!(bt532.2.2.2.1.toList == bt523.2.2.2.toList))))) else (laws_FnEntries.j0 k l0 true)) else (laws_FnEntries.j0 k l0 true)) else (laws_FnEntries.j0 k l0 false))))))))
theorem laws_FnEntries.mono_l : ∀ k, (∀ y0 y1, LeO (laws_FnEntries.j0 k y0 y1) (laws_FnEntries.j0 (k + 1) y0 y1)) ∧ (∀ y0 y1 y2, LeO (laws_FnEntries.j1 k y0 y1 y2) (laws_FnEntries.j1 (k + 1) y0 y1 y2))
 | 0 => ⟨fun _ _ r h => by simp [laws_FnEntries.j0] at h, fun _ _ _ r h => by simp [laws_FnEntries.j1] at h⟩
 | k + 1 => by
  obtain ⟨ih0, ih1⟩ := laws_FnEntries.mono_l k
  refine ⟨?_, ?_⟩
  ·intro y0 y1
   unfold laws_FnEntries.j0
   repeat' first
   | (with_reducible exact ih0 _ _)
   | (with_reducible exact ih1 _ _ _)
   | (with_reducible exact impl_ConfOk.mono _ _)
   | (with_reducible exact impl_ConfText.mono _ _)
   | (with_reducible exact impl_EntryText.mono _ _ _ _ _)
   | (with_reducible exact impl_Most.mono _ _ _)
   | (with_reducible exact impl_ReadConf.mono _ _)
   | (with_reducible exact impl_ReadEntry.mono _ _)
   | (with_reducible exact laws_sameInts.mono _ _ _)
   | (with_reducible exact spec_ConfOk.mono _ _)
   | (with_reducible exact spec_DrawConfText.mono _ _)
   | (with_reducible exact spec_DrawEntryText.mono _ _)
   | (with_reducible exact spec_EntryText.mono _ _ _ _ _)
   | (with_reducible exact LeO.refl _)
   | (with_reducible exact LeO.none _)
   | (with_reducible refine LeO.ite ?_ ?_)
   | (with_reducible refine LeO.bind ?_ (fun _ => ?_))
   | exact ih0 _ _
   | exact ih1 _ _ _
   | exact impl_ConfOk.mono _ _
   | exact impl_ConfText.mono _ _
   | exact impl_EntryText.mono _ _ _ _ _
   | exact impl_Most.mono _ _ _
   | exact impl_ReadConf.mono _ _
   | exact impl_ReadEntry.mono _ _
   | exact laws_sameInts.mono _ _ _
   | exact spec_ConfOk.mono _ _
   | exact spec_DrawConfText.mono _ _
   | exact spec_DrawEntryText.mono _ _
   | exact spec_EntryText.mono _ _ _ _ _
   | exact LeO.none _
   | refine LeO.ite ?_ ?_
   | refine LeO.bind ?_ (fun _ => ?_)
  ·intro y0 y1 y2
   unfold laws_FnEntries.j1
   repeat' first
   | (with_reducible exact ih0 _ _)
   | (with_reducible exact ih1 _ _ _)
   | (with_reducible exact impl_ConfOk.mono _ _)
   | (with_reducible exact impl_ConfText.mono _ _)
   | (with_reducible exact impl_EntryText.mono _ _ _ _ _)
   | (with_reducible exact impl_Most.mono _ _ _)
   | (with_reducible exact impl_ReadConf.mono _ _)
   | (with_reducible exact impl_ReadEntry.mono _ _)
   | (with_reducible exact laws_sameInts.mono _ _ _)
   | (with_reducible exact spec_ConfOk.mono _ _)
   | (with_reducible exact spec_DrawConfText.mono _ _)
   | (with_reducible exact spec_DrawEntryText.mono _ _)
   | (with_reducible exact spec_EntryText.mono _ _ _ _ _)
   | (with_reducible exact LeO.refl _)
   | (with_reducible exact LeO.none _)
   | (with_reducible refine LeO.ite ?_ ?_)
   | (with_reducible refine LeO.bind ?_ (fun _ => ?_))
   | exact ih0 _ _
   | exact ih1 _ _ _
   | exact impl_ConfOk.mono _ _
   | exact impl_ConfText.mono _ _
   | exact impl_EntryText.mono _ _ _ _ _
   | exact impl_Most.mono _ _ _
   | exact impl_ReadConf.mono _ _
   | exact impl_ReadEntry.mono _ _
   | exact laws_sameInts.mono _ _ _
   | exact spec_ConfOk.mono _ _
   | exact spec_DrawConfText.mono _ _
   | exact spec_DrawEntryText.mono _ _
   | exact spec_EntryText.mono _ _ _ _ _
   | exact LeO.none _
   | refine LeO.ite ?_ ?_
   | refine LeO.bind ?_ (fun _ => ?_)
theorem laws_FnEntries.mono : ∀ a0 k, LeO (laws_FnEntries.f k a0) (laws_FnEntries.f (k + 1) a0) := by
 intro a0 k
 obtain ⟨ih0, ih1⟩ := laws_FnEntries.mono_l k
 unfold laws_FnEntries.f
 repeat' first
   | (with_reducible exact ih0 _ _)
   | (with_reducible exact ih1 _ _ _)
   | (with_reducible exact impl_ConfOk.mono _ _)
   | (with_reducible exact impl_ConfText.mono _ _)
   | (with_reducible exact impl_EntryText.mono _ _ _ _ _)
   | (with_reducible exact impl_Most.mono _ _ _)
   | (with_reducible exact impl_ReadConf.mono _ _)
   | (with_reducible exact impl_ReadEntry.mono _ _)
   | (with_reducible exact laws_sameInts.mono _ _ _)
   | (with_reducible exact spec_ConfOk.mono _ _)
   | (with_reducible exact spec_DrawConfText.mono _ _)
   | (with_reducible exact spec_DrawEntryText.mono _ _)
   | (with_reducible exact spec_EntryText.mono _ _ _ _ _)
   | (with_reducible exact LeO.refl _)
   | (with_reducible exact LeO.none _)
   | (with_reducible refine LeO.ite ?_ ?_)
   | (with_reducible refine LeO.bind ?_ (fun _ => ?_))
   | exact ih0 _ _
   | exact ih1 _ _ _
   | exact impl_ConfOk.mono _ _
   | exact impl_ConfText.mono _ _
   | exact impl_EntryText.mono _ _ _ _ _
   | exact impl_Most.mono _ _ _
   | exact impl_ReadConf.mono _ _
   | exact impl_ReadEntry.mono _ _
   | exact laws_sameInts.mono _ _ _
   | exact spec_ConfOk.mono _ _
   | exact spec_DrawConfText.mono _ _
   | exact spec_DrawEntryText.mono _ _
   | exact spec_EntryText.mono _ _ _ _ _
   | exact LeO.none _
   | refine LeO.ite ?_ ?_
   | refine LeO.bind ?_ (fun _ => ?_)
set_option maxHeartbeats 8000000 in
set_option maxRecDepth 100000 in
theorem laws_FnEntries.calls (k : Nat) (A0 : Option Addr) (c0 : Nat) (l0 : List Int) (r : Bool) (w : World) (hr0 : Kd.C (Kd.int .u8) w A0 l0.length l0) (hc0 : l0.length ≤ c0) (h : laws_FnEntries.f k l0 = some r) (hr_ : Aside0 (r = true)) :
  Calls Try.prog 7 #[.slice A0 l0.length c0] w fun e w' => e = .returned (.bool r) ∧ Below w.heap.size w w' := by
 have hu51 := Try.underlying51
 have HR0 := Aside0.mk hr0
 have HC0 := Aside0.mk hc0
 clear hr0 hc0
 have HB := Aside0.mk (Below.refl w.heap.size w)
 have H : ((laws_big.f l0).bind fun t522 => (if t522 = true then (some true) else ((spec_DrawEntryText.f k l0).bind fun bt523 => ((impl_EntryText.f k bt523.1 bt523.2.1 bt523.2.2.1 bt523.2.2.2).bind fun bt528 => ((spec_EntryText.f k bt523.1 bt523.2.1 bt523.2.2.1 bt523.2.2.2).bind fun bt530 => ((impl_ReadEntry.f k bt528.1).bind fun bt532 => (if (bt528.2 != bt530.2) = true then (laws_FnEntries.j0 k l0 true) else (if bt528.2 = true then (if bt532.2.2.2.2 = true then (if bt532.1 = bt523.1 then (laws_FnEntries.j0 k l0 (!(bt532.2.1 == bt523.2.1) || (!(bt532.2.2.1 == bt523.2.2.1) || (!(bt532.2.2.2.1.toList == bt523.2.2.2.toList))))) else (laws_FnEntries.j0 k l0 true)) else (laws_FnEntries.j0 k l0 true)) else (laws_FnEntries.j0 k l0 false))))))))) = some r := h
 clear h
 replace H := Option.bind_eq_some_iff.mp H
 obtain ⟨t522, A20, H⟩ := H
 (try dsimp only at H)
 have A2 := Aside0.mk A20
 clear A20
 by_cases c3 : t522 = true
 ·subst c3
  rw [if_pos rfl] at H
  obtain rfl := Option.some.inj H
  go_enter Try.func7, Try.ntmps7
  go_wp2_with (first | ((with_reducible refine gate_callee (f := 21) rfl ?_); refine goesL_ (some 18) rfl rfl Try.func21 B14x7_ rfl #[.slice A0 l0.length c0] rfl B14x0_ ?_; (with_reducible refine (laws_big.calls _ _ l0 true _ ?side1 ?side2 A2.out).mono ?_); (case side1 => repeat (first | exact HR0.out | (with_reducible refine Kd.C_alloc ?_ _) | (with_reducible refine Kd.C_drewN ?_ _) | (with_reducible refine Kd.C_drew ?_))); (case side2 => exact HC0.out); rintro e w' ⟨rfl, ⟨nd, rfl⟩⟩; refine ⟨_, rfl, ?_⟩))
  go_ret
  exact ⟨by first | rfl | (simp [errW_none, errW_some] <;> rfl) | (simp [*, errW_none, errW_some] <;> rfl), by repeat (first | (with_reducible first | exact HB.out | apply below_alloc | apply pw_below_drewN | apply below_drew1) | exact HB.out)⟩
 ·replace c3 := Bool.eq_false_iff.mpr c3
  subst c3
  rw [if_neg (show ¬ (false = true) by decide)] at H
  replace H := Option.bind_eq_some_iff.mp H
  obtain ⟨⟨t523, t524, t525, t526⟩, A40, H⟩ := H
  (try dsimp only at H)
  have A4 := Aside0.mk A40
  clear A40
  replace H := Option.bind_eq_some_iff.mp H
  obtain ⟨⟨t528, t529⟩, A50, H⟩ := H
  (try dsimp only at H)
  have A5 := Aside0.mk A50
  clear A50
  replace H := Option.bind_eq_some_iff.mp H
  obtain ⟨⟨t530, t531⟩, A60, H⟩ := H
  (try dsimp only at H)
  have A6 := Aside0.mk A60
  clear A60
  replace H := Option.bind_eq_some_iff.mp H
  obtain ⟨⟨t532, t533, t534, t535, t536⟩, A70, H⟩ := H
  (try dsimp only at H)
  have A7 := Aside0.mk A70
  clear A70
  have HC8 := Aside0.mk H
  clear H
  go_enter Try.func7, Try.ntmps7
  go_upto_region 7 with (first | ((with_reducible refine gate_callee (f := 21) rfl ?_); refine goesL_ (some 18) rfl rfl Try.func21 B14x7_ rfl #[.slice A0 l0.length c0] rfl B14x0_ ?_; (with_reducible refine (laws_big.calls _ _ l0 false _ ?side1 ?side2 A2.out).mono ?_); (case side1 => repeat (first | exact HR0.out | (with_reducible refine Kd.C_alloc ?_ _) | (with_reducible refine Kd.C_drewN ?_ _) | (with_reducible refine Kd.C_drew ?_))); (case side2 => exact HC0.out); rintro e w' ⟨rfl, ⟨nd, rfl⟩⟩; refine ⟨_, rfl, ?_⟩) | ((with_reducible refine gate_callee (f := 28) rfl ?_); refine goesL_ (some 21) rfl rfl Try.func28 B14x7_ rfl #[.slice A0 l0.length c0] rfl B14x0_ ?_; (with_reducible refine (spec_DrawEntryText.calls k _ _ l0 t523 t524 t525 t526 _ ?side1 ?side2 A4.out).mono ?_); (case side1 => repeat (first | exact HR0.out | (with_reducible refine Kd.C_alloc ?_ _) | (with_reducible refine Kd.C_drewN ?_ _) | (with_reducible refine Kd.C_drew ?_))); (case side2 => exact HC0.out); rintro e w9 ⟨rfl, hb⟩; refine ⟨_, rfl, ?_⟩; have n0_ := Aside0.mk (below_step B14x4_ hb); clear HB; have HB := n0_; clear n0_; (try clear hb); (try clear hb2); (try clear hk); (try clear hi)) | ((with_reducible refine gate_dst (N := 4) rfl ?_); (try (refine gate_guard (by rfl) ?_; dsimp only)); refine box_event ?hg (N := 4) ?hd (cs := #[.int .i64 0, .int .i64 0, .string (⟨#[]⟩ : ByteArray)]) (t := 51) ?hr ?_; (case hd => rfl); (case hg => rfl); (case hr => first | (go_simp; done) | (go_simp; rfl)); intro gb527 hg w10 hbox hb; have n0_ := Aside0.mk (below_step B14x4_ hb); have n1_ := Aside0.mk (hbox); have n2_ := Aside0.mk ((by rw [hg]; exact (below_size B14x4_) : w.heap.size ≤ gb527)); have n3_ := Aside0.mk ((by rw [hg]; exact (below_size B14x4_) : w.heap.size ≤ gb527)); clear HB; have HB := n0_; have BK527 := n1_; have GW527 := n2_; have GE527 := n3_; clear n0_ n1_ n2_ n3_; clear hb hbox hg; obtain ⟨hcz11_0, hcz11_1, hcz11_2⟩ := cl3 BK527.out; obtain ⟨hfz11_0, hfz11_1, hfz11_2⟩ := fr3 BK527.out) | ((with_reducible refine gate_callee (f := 29) rfl ?_); refine goesL_ (some 27) rfl rfl Try.func29 B14x7_ rfl #[.int .i64 t523, .agg #[.int .i64 t524, .int .i64 t525, .string t526]] rfl B14x0_ ?_; (with_reducible refine (impl_EntryText.calls k t523 t524 t525 t526 t528 t529 _ A5.out).mono ?_); rintro e w12 ⟨rfl, hb⟩; refine ⟨_, rfl, ?_⟩; have n0_ := Aside0.mk (blk_below (g := gb527) (o := .cells #[.int .i64 t524, .int .i64 t525, .string t526] 51 (0, 0)) (by (with_reducible repeat (first | refine blk_drewN ?_ _ | refine blk_drew ?_ | refine blk_alloc ?_ _)); refine blk_put (cs := #[.int .i64 t524, .int .i64 t525, .string (⟨#[]⟩ : ByteArray)]) ?_ 2 _ rfl; (with_reducible repeat (first | refine blk_drewN ?_ _ | refine blk_drew ?_ | refine blk_alloc ?_ _)); refine blk_put (cs := #[.int .i64 t524, .int .i64 0, .string (⟨#[]⟩ : ByteArray)]) ?_ 1 _ rfl; (with_reducible repeat (first | refine blk_drewN ?_ _ | refine blk_drew ?_ | refine blk_alloc ?_ _)); refine blk_put (cs := #[.int .i64 0, .int .i64 0, .string (⟨#[]⟩ : ByteArray)]) ?_ 0 _ rfl; (with_reducible repeat (first | refine blk_drewN ?_ _ | refine blk_drew ?_ | refine blk_alloc ?_ _)); exact BK527.out) hb); have n1_ := Aside0.mk (below_step B14x3_ hb); clear BK527; clear HB; have BK527 := n0_; have HB := n1_; clear n0_ n1_; (try clear hb); (try clear hb2); (try clear hk); (try clear hi); obtain ⟨hcz13_0, hcz13_1, hcz13_2⟩ := cl3 BK527.out; obtain ⟨hfz13_0, hfz13_1, hfz13_2⟩ := fr3 BK527.out) | ((with_reducible refine gate_callee (f := 30) rfl ?_); refine goesL_ (some 33) rfl rfl Try.func30 B14x7_ rfl #[.int .i64 t523, .agg #[.int .i64 t524, .int .i64 t525, .string t526]] rfl B14x0_ ?_; (with_reducible refine (spec_EntryText.calls k t523 t524 t525 t526 t530 t531 _ A6.out).mono ?_); rintro e w14 ⟨rfl, hb⟩; refine ⟨_, rfl, ?_⟩; have n0_ := Aside0.mk (blk_below (g := gb527) (o := .cells #[.int .i64 t524, .int .i64 t525, .string t526] 51 (0, 0)) B14x2_ hb); have n1_ := Aside0.mk (below_step B14x3_ hb); clear BK527; clear HB; have BK527 := n0_; have HB := n1_; clear n0_ n1_; (try clear hb); (try clear hb2); (try clear hk); (try clear hi)) | ((with_reducible refine gate_callee (f := 31) rfl ?_); refine goesL_ (some 38) rfl rfl Try.func31 B14x7_ rfl #[.string t528] rfl B14x0_ ?_; (with_reducible refine (impl_ReadEntry.calls k t528 t532 t533 t534 t535 t536 _ A7.out).mono ?_); rintro e w15 ⟨rfl, hb⟩; refine ⟨_, rfl, ?_⟩; have n0_ := Aside0.mk (blk_below (g := gb527) (o := .cells #[.int .i64 t524, .int .i64 t525, .string t526] 51 (0, 0)) B14x2_ hb); have n1_ := Aside0.mk (below_step B14x3_ hb); clear BK527; clear HB; have BK527 := n0_; have HB := n1_; clear n0_ n1_; (try clear hb); (try clear hb2); (try clear hk); (try clear hi)) | ((with_reducible refine gate_dst (N := 10) rfl ?_); (try (refine gate_guard (by rfl) ?_; dsimp only)); refine box_event ?hg (N := 10) ?hd (cs := #[.int .i64 0, .int .i64 0, .string (⟨#[]⟩ : ByteArray)]) (t := 51) ?hr ?_; (case hd => rfl); (case hg => rfl); (case hr => first | (go_simp; done) | (go_simp; rfl)); intro gb537 hg w16 hbox hb; have n0_ := Aside0.mk (blk_below (g := gb527) (o := .cells #[.int .i64 t524, .int .i64 t525, .string t526] 51 (0, 0)) B14x2_ hb); have n1_ := Aside0.mk (below_step B14x3_ hb); have n2_ := Aside0.mk (hbox); have n3_ := Aside0.mk ((by rw [hg]; exact (below_size B14x3_) : w.heap.size ≤ gb537)); have n4_ := Aside0.mk ((by rw [hg]; exact (below_size B14x3_) : w.heap.size ≤ gb537)); have n5_ := Aside0.mk ((by rw [hg]; exact Nat.ne_of_lt (blk_lt (g := gb527) (o := .cells #[.int .i64 t524, .int .i64 t525, .string t526] 51 (0, 0)) B14x2_) : gb527 ≠ gb537)); have n6_ := Aside0.mk ((by rw [hg]; exact Nat.ne_of_gt (blk_lt (g := gb527) (o := .cells #[.int .i64 t524, .int .i64 t525, .string t526] 51 (0, 0)) B14x2_) : gb537 ≠ gb527)); clear BK527; clear HB; have BK527 := n0_; have HB := n1_; have BK537 := n2_; have GW537 := n3_; have GE537 := n4_; have NB527_537 := n5_; have NB537_527 := n6_; clear n0_ n1_ n2_ n3_ n4_ n5_ n6_; clear hb hbox hg; have hnb17 := NB537_527.out; have hnc17 := NB527_537.out; obtain ⟨hcz18_0, hcz18_1, hcz18_2⟩ := cl3 BK537.out; obtain ⟨hfz18_0, hfz18_1, hfz18_2⟩ := fr3 BK537.out))
  (try simp only [Act.put, List.setIfInBounds_toArray, List.set_cons_zero, List.set_cons_succ])
  go_cut [61] (fun v61 wc => ∃ (kq : Nat) (x61_7 : Bool), v61 = .bool x61_7 ∧ Aside0 (laws_FnEntries.j0 kq l0 x61_7 = some r) ∧ Aside0 (kq ≤ k) ∧ Aside0 (wc.heap[gb527]? = some (.cells #[.int .i64 t524, .int .i64 t525, .string t526] 51 (0, 0))) ∧ Aside0 (wc.heap[gb537]? = some (.cells #[.int .i64 t533, .int .i64 t534, .string t535] 51 (0, 0))) ∧ Aside0 (Below w.heap.size w wc))
  case first =>
   have H := HC8.out
   clear HC8
   by_cases c19 : (t529 != t531) = true
   ·rw [if_pos c19] at H
    have c19b0 : (t529 != t531) = true := c19
    (try (have c19b1 : decide (t529 = t531) = false := by simpa using c19))
    (try (have c19b2 : (t529 == t531) = false := by simpa using c19))
    (try (have c19b3 : ¬ (t529 = t531) := by simpa using c19))
    clear c19
    (first | rw [c19b0] | (simp only [i64_w, i32_w]; rw [c19b0]) | skip)
    have H' := Aside0.mk H
    clear H
    go_wp2
    go_meet
    case rel => exact ⟨_, (true), (be_), H', ⟨by first | omega | exact Nat.le_refl _⟩, ⟨by (with_reducible repeat (first | refine blk_drewN ?_ _ | refine blk_drew ?_ | refine blk_alloc ?_ _)); refine blk_far ?_ NB527_537.out _; (with_reducible repeat (first | refine blk_drewN ?_ _ | refine blk_drew ?_ | refine blk_alloc ?_ _)); refine blk_far ?_ NB527_537.out _; (with_reducible repeat (first | refine blk_drewN ?_ _ | refine blk_drew ?_ | refine blk_alloc ?_ _)); refine blk_far ?_ NB527_537.out _; (with_reducible repeat (first | refine blk_drewN ?_ _ | refine blk_drew ?_ | refine blk_alloc ?_ _)); exact BK527.out⟩, ⟨by (with_reducible repeat (first | refine blk_drewN ?_ _ | refine blk_drew ?_ | refine blk_alloc ?_ _)); refine blk_put (cs := #[.int .i64 t533, .int .i64 t534, .string (⟨#[]⟩ : ByteArray)]) ?_ 2 _ rfl; (with_reducible repeat (first | refine blk_drewN ?_ _ | refine blk_drew ?_ | refine blk_alloc ?_ _)); refine blk_put (cs := #[.int .i64 t533, .int .i64 0, .string (⟨#[]⟩ : ByteArray)]) ?_ 1 _ rfl; (with_reducible repeat (first | refine blk_drewN ?_ _ | refine blk_drew ?_ | refine blk_alloc ?_ _)); refine blk_put (cs := #[.int .i64 0, .int .i64 0, .string (⟨#[]⟩ : ByteArray)]) ?_ 0 _ rfl; (with_reducible repeat (first | refine blk_drewN ?_ _ | refine blk_drew ?_ | refine blk_alloc ?_ _)); exact BK537.out⟩, ⟨by repeat (first | (with_reducible first | exact HB.out | apply below_alloc | apply pw_below_drewN | apply below_drew1 | refine below_set ?_ GE527.out | refine below_set ?_ GE537.out) | exact HB.out)⟩⟩
   ·rw [if_neg c19] at H
    have c19b0 : (t529 != t531) = false := by simpa using c19
    (try (have c19b1 : decide (t529 = t531) = true := by simpa using c19))
    (try (have c19b2 : (t529 == t531) = true := by simpa using c19))
    clear c19
    (first | rw [c19b0] | (simp only [i64_w, i32_w]; rw [c19b0]) | skip)
    by_cases c20 : t529 = true
    ·subst c20
     rw [if_pos rfl] at H
     by_cases c21 : t536 = true
     ·subst c21
      rw [if_pos rfl] at H
      by_cases c22 : t532 = t523
      ·rw [if_pos c22] at H
       have c22b0 : (t532 == t523) = true := beq_iff_eq.mpr c22
       have c22b1 : (t532 != t523) = false := bne_eq_false_iff_eq.mpr c22
       clear c22
       have H' := Aside0.mk H
       clear H
       have hnb23 := NB537_527.out
       have hnc23 := NB527_537.out
       obtain ⟨hcz24_0, hcz24_1, hcz24_2⟩ := cl3 BK537.out
       obtain ⟨hfz24_0, hfz24_1, hfz24_2⟩ := fr3 BK537.out
       obtain ⟨hcz25_0, hcz25_1, hcz25_2⟩ := cl3 BK527.out
       obtain ⟨hfz25_0, hfz25_1, hfz25_2⟩ := fr3 BK527.out
       go_wp2
       go_meet
       case rel => exact ⟨_, ((!(t533 == t524) || (!(t534 == t525) || (!(t535.toList == t526.toList))))), (be_), H', ⟨by first | omega | exact Nat.le_refl _⟩, ⟨by (with_reducible repeat (first | refine blk_drewN ?_ _ | refine blk_drew ?_ | refine blk_alloc ?_ _)); refine blk_far ?_ NB527_537.out _; (with_reducible repeat (first | refine blk_drewN ?_ _ | refine blk_drew ?_ | refine blk_alloc ?_ _)); refine blk_far ?_ NB527_537.out _; (with_reducible repeat (first | refine blk_drewN ?_ _ | refine blk_drew ?_ | refine blk_alloc ?_ _)); refine blk_far ?_ NB527_537.out _; (with_reducible repeat (first | refine blk_drewN ?_ _ | refine blk_drew ?_ | refine blk_alloc ?_ _)); exact BK527.out⟩, ⟨by (with_reducible repeat (first | refine blk_drewN ?_ _ | refine blk_drew ?_ | refine blk_alloc ?_ _)); refine blk_put (cs := #[.int .i64 t533, .int .i64 t534, .string (⟨#[]⟩ : ByteArray)]) ?_ 2 _ rfl; (with_reducible repeat (first | refine blk_drewN ?_ _ | refine blk_drew ?_ | refine blk_alloc ?_ _)); refine blk_put (cs := #[.int .i64 t533, .int .i64 0, .string (⟨#[]⟩ : ByteArray)]) ?_ 1 _ rfl; (with_reducible repeat (first | refine blk_drewN ?_ _ | refine blk_drew ?_ | refine blk_alloc ?_ _)); refine blk_put (cs := #[.int .i64 0, .int .i64 0, .string (⟨#[]⟩ : ByteArray)]) ?_ 0 _ rfl; (with_reducible repeat (first | refine blk_drewN ?_ _ | refine blk_drew ?_ | refine blk_alloc ?_ _)); exact BK537.out⟩, ⟨by repeat (first | (with_reducible first | exact HB.out | apply below_alloc | apply pw_below_drewN | apply below_drew1 | refine below_set ?_ GE527.out | refine below_set ?_ GE537.out) | exact HB.out)⟩⟩
      ·rw [if_neg c22] at H
       have c22b0 : (t532 == t523) = false := beq_eq_false_iff_ne.mpr c22
       have c22b1 : (t532 != t523) = true := bne_iff_ne.mpr c22
       have H' := Aside0.mk H
       clear H
       go_wp2
       go_meet
       case rel => exact ⟨_, (true), (be_), H', ⟨by first | omega | exact Nat.le_refl _⟩, ⟨by (with_reducible repeat (first | refine blk_drewN ?_ _ | refine blk_drew ?_ | refine blk_alloc ?_ _)); refine blk_far ?_ NB527_537.out _; (with_reducible repeat (first | refine blk_drewN ?_ _ | refine blk_drew ?_ | refine blk_alloc ?_ _)); refine blk_far ?_ NB527_537.out _; (with_reducible repeat (first | refine blk_drewN ?_ _ | refine blk_drew ?_ | refine blk_alloc ?_ _)); refine blk_far ?_ NB527_537.out _; (with_reducible repeat (first | refine blk_drewN ?_ _ | refine blk_drew ?_ | refine blk_alloc ?_ _)); exact BK527.out⟩, ⟨by (with_reducible repeat (first | refine blk_drewN ?_ _ | refine blk_drew ?_ | refine blk_alloc ?_ _)); refine blk_put (cs := #[.int .i64 t533, .int .i64 t534, .string (⟨#[]⟩ : ByteArray)]) ?_ 2 _ rfl; (with_reducible repeat (first | refine blk_drewN ?_ _ | refine blk_drew ?_ | refine blk_alloc ?_ _)); refine blk_put (cs := #[.int .i64 t533, .int .i64 0, .string (⟨#[]⟩ : ByteArray)]) ?_ 1 _ rfl; (with_reducible repeat (first | refine blk_drewN ?_ _ | refine blk_drew ?_ | refine blk_alloc ?_ _)); refine blk_put (cs := #[.int .i64 0, .int .i64 0, .string (⟨#[]⟩ : ByteArray)]) ?_ 0 _ rfl; (with_reducible repeat (first | refine blk_drewN ?_ _ | refine blk_drew ?_ | refine blk_alloc ?_ _)); exact BK537.out⟩, ⟨by repeat (first | (with_reducible first | exact HB.out | apply below_alloc | apply pw_below_drewN | apply below_drew1 | refine below_set ?_ GE527.out | refine below_set ?_ GE537.out) | exact HB.out)⟩⟩
     ·replace c21 := Bool.eq_false_iff.mpr c21
      subst c21
      rw [if_neg (show ¬ (false = true) by decide)] at H
      have H' := Aside0.mk H
      clear H
      go_wp2
      go_meet
      case rel => exact ⟨_, (true), (be_), H', ⟨by first | omega | exact Nat.le_refl _⟩, ⟨by (with_reducible repeat (first | refine blk_drewN ?_ _ | refine blk_drew ?_ | refine blk_alloc ?_ _)); refine blk_far ?_ NB527_537.out _; (with_reducible repeat (first | refine blk_drewN ?_ _ | refine blk_drew ?_ | refine blk_alloc ?_ _)); refine blk_far ?_ NB527_537.out _; (with_reducible repeat (first | refine blk_drewN ?_ _ | refine blk_drew ?_ | refine blk_alloc ?_ _)); refine blk_far ?_ NB527_537.out _; (with_reducible repeat (first | refine blk_drewN ?_ _ | refine blk_drew ?_ | refine blk_alloc ?_ _)); exact BK527.out⟩, ⟨by (with_reducible repeat (first | refine blk_drewN ?_ _ | refine blk_drew ?_ | refine blk_alloc ?_ _)); refine blk_put (cs := #[.int .i64 t533, .int .i64 t534, .string (⟨#[]⟩ : ByteArray)]) ?_ 2 _ rfl; (with_reducible repeat (first | refine blk_drewN ?_ _ | refine blk_drew ?_ | refine blk_alloc ?_ _)); refine blk_put (cs := #[.int .i64 t533, .int .i64 0, .string (⟨#[]⟩ : ByteArray)]) ?_ 1 _ rfl; (with_reducible repeat (first | refine blk_drewN ?_ _ | refine blk_drew ?_ | refine blk_alloc ?_ _)); refine blk_put (cs := #[.int .i64 0, .int .i64 0, .string (⟨#[]⟩ : ByteArray)]) ?_ 0 _ rfl; (with_reducible repeat (first | refine blk_drewN ?_ _ | refine blk_drew ?_ | refine blk_alloc ?_ _)); exact BK537.out⟩, ⟨by repeat (first | (with_reducible first | exact HB.out | apply below_alloc | apply pw_below_drewN | apply below_drew1 | refine below_set ?_ GE527.out | refine below_set ?_ GE537.out) | exact HB.out)⟩⟩
    ·replace c20 := Bool.eq_false_iff.mpr c20
     subst c20
     rw [if_neg (show ¬ (false = true) by decide)] at H
     have H' := Aside0.mk H
     clear H
     go_wp2
     go_meet
     case rel => exact ⟨_, (false), (be_), H', ⟨by first | omega | exact Nat.le_refl _⟩, ⟨by (with_reducible repeat (first | refine blk_drewN ?_ _ | refine blk_drew ?_ | refine blk_alloc ?_ _)); refine blk_far ?_ NB527_537.out _; (with_reducible repeat (first | refine blk_drewN ?_ _ | refine blk_drew ?_ | refine blk_alloc ?_ _)); refine blk_far ?_ NB527_537.out _; (with_reducible repeat (first | refine blk_drewN ?_ _ | refine blk_drew ?_ | refine blk_alloc ?_ _)); refine blk_far ?_ NB527_537.out _; (with_reducible repeat (first | refine blk_drewN ?_ _ | refine blk_drew ?_ | refine blk_alloc ?_ _)); exact BK527.out⟩, ⟨by (with_reducible repeat (first | refine blk_drewN ?_ _ | refine blk_drew ?_ | refine blk_alloc ?_ _)); refine blk_put (cs := #[.int .i64 t533, .int .i64 t534, .string (⟨#[]⟩ : ByteArray)]) ?_ 2 _ rfl; (with_reducible repeat (first | refine blk_drewN ?_ _ | refine blk_drew ?_ | refine blk_alloc ?_ _)); refine blk_put (cs := #[.int .i64 t533, .int .i64 0, .string (⟨#[]⟩ : ByteArray)]) ?_ 1 _ rfl; (with_reducible repeat (first | refine blk_drewN ?_ _ | refine blk_drew ?_ | refine blk_alloc ?_ _)); refine blk_put (cs := #[.int .i64 0, .int .i64 0, .string (⟨#[]⟩ : ByteArray)]) ?_ 0 _ rfl; (with_reducible repeat (first | refine blk_drewN ?_ _ | refine blk_drew ?_ | refine blk_alloc ?_ _)); exact BK537.out⟩, ⟨by repeat (first | (with_reducible first | exact HB.out | apply below_alloc | apply pw_below_drewN | apply below_drew1 | refine below_set ?_ GE527.out | refine below_set ?_ GE537.out) | exact HB.out)⟩⟩
  case rest =>
   clear HC8
   try clear c1
   try clear c2
   try clear p2
   try clear c3
   try clear c7
   try clear c17
   try clear c19
   try clear c19b0
   try clear c19b1
   try clear c19b2
   try clear c20
   try clear c21
   try clear c22
   try clear c22b0
   try clear c22b1
   try clear c23
   try clear hcz11_0
   try clear hcz11_1
   try clear hcz11_2
   try clear hcz13_0
   try clear hcz13_1
   try clear hcz13_2
   try clear hcz18_0
   try clear hcz18_1
   try clear hcz18_2
   try clear hcz24_0
   try clear hcz24_1
   try clear hcz24_2
   try clear hcz25_0
   try clear hcz25_1
   try clear hcz25_2
   try clear hfz11_0
   try clear hfz11_1
   try clear hfz11_2
   try clear hfz13_0
   try clear hfz13_1
   try clear hfz13_2
   try clear hfz18_0
   try clear hfz18_1
   try clear hfz18_2
   try clear hfz24_0
   try clear hfz24_1
   try clear hfz24_2
   try clear hfz25_0
   try clear hfz25_1
   try clear hfz25_2
   obtain ⟨kq, x61_7, rfl, HA, HJ7, BK527, BK537, HB⟩ := hcut
   cases kq with
   | zero => exact absurd HA.out (by simp [laws_FnEntries.j0])
   | succ kj7 =>
    have H := HA.out
    clear HA
    simp only [laws_FnEntries.j0] at H
    by_cases c26 : x61_7 = true
    ·subst c26
     rw [if_pos rfl] at H
     exact absurd ((Option.some.inj H).trans hr_.out) (by decide)
    ·replace c26 := Bool.eq_false_iff.mpr c26
     subst c26
     rw [if_neg (show ¬ (false = true) by decide)] at H
     replace H := Option.bind_eq_some_iff.mp H
     obtain ⟨t538, A270, H⟩ := H
     (try dsimp only at H)
     have A27 := Aside0.mk A270
     clear A270
     replace H := Option.bind_eq_some_iff.mp H
     obtain ⟨⟨t541, t542⟩, A280, H⟩ := H
     (try dsimp only at H)
     have A28 := Aside0.mk A280
     clear A280
     replace H := Option.bind_eq_some_iff.mp H
     obtain ⟨⟨t543, t544⟩, A290, H⟩ := H
     (try dsimp only at H)
     have A29 := Aside0.mk A290
     clear A290
     have HC30 := Aside0.mk H
     clear H
     go_upto_region 12 with (first | ((with_reducible refine gate_callee (f := 32) rfl ?_); refine goesL_ (some 63) rfl rfl Try.func32 B14x7_ rfl #[.slice A0 l0.length c0] rfl B14x0_ ?_; (with_reducible refine (spec_DrawConfText.calls kj7 _ _ l0 t538 _ ?side1 ?side2 A27.out).mono ?_); (case side1 => repeat (first | exact (Kd.C_below HR0.out HB.out) | (with_reducible refine Kd.C_alloc ?_ _) | (with_reducible refine Kd.C_drewN ?_ _) | (with_reducible refine Kd.C_drew ?_))); (case side2 => exact HC0.out); rintro e w31 ⟨v539, rfl, ho0, hb⟩; refine ⟨_, rfl, ?_⟩; have n0_ := Aside0.mk (Kd.R_lower ho0 (below_size B14x1_)); have n1_ := Aside0.mk (blk_below (g := gb527) (o := .cells #[.int .i64 t524, .int .i64 t525, .string t526] 51 (0, 0)) B14x2_ hb); have n2_ := Aside0.mk (blk_below (g := gb537) (o := .cells #[.int .i64 t533, .int .i64 t534, .string t535] 51 (0, 0)) B14x5_ hb); have n3_ := Aside0.mk (below_step B14x1_ hb); clear BK527; clear BK537; clear HB; have HO540 := n0_; have BK527 := n1_; have BK537 := n2_; have HB := n3_; clear n0_ n1_ n2_ n3_; (try clear hb); (try clear hb2); (try clear hk); (try clear hi); (try clear ho0); obtain ⟨Ao32, co32, eo32⟩ := Kd.R_slice HO540.out; subst eo32) | ((with_reducible refine gate_callee (f := 33) rfl ?_); refine goesL_ (some 66) rfl rfl Try.func33 B14x7_ rfl #[.slice Ao32 t538.length co32] rfl B14x0_ ?_; (with_reducible refine (impl_ConfText.calls kj7 _ _ t538 t541 t542 _ ?side1 ?side2 A28.out).mono ?_); (case side1 => repeat (first | exact (Kd.R_reads' HO540.out).2.2 | (with_reducible refine Kd.C_alloc ?_ _) | (with_reducible refine Kd.C_drewN ?_ _) | (with_reducible refine Kd.C_drew ?_))); (case side2 => exact (Kd.R_reads' HO540.out).2.1); rintro e w33 ⟨rfl, hb⟩; refine ⟨_, rfl, ?_⟩; have n0_ := Aside0.mk (Kd.R_below B14x6_ hb); have n1_ := Aside0.mk (blk_below (g := gb527) (o := .cells #[.int .i64 t524, .int .i64 t525, .string t526] 51 (0, 0)) B14x2_ hb); have n2_ := Aside0.mk (blk_below (g := gb537) (o := .cells #[.int .i64 t533, .int .i64 t534, .string t535] 51 (0, 0)) B14x5_ hb); have n3_ := Aside0.mk (below_step B14x1_ hb); clear HO540; clear BK527; clear BK537; clear HB; have HO540 := n0_; have BK527 := n1_; have BK537 := n2_; have HB := n3_; clear n0_ n1_ n2_ n3_; (try clear hb); (try clear hb2); (try clear hk); (try clear hi)) | ((with_reducible refine gate_callee (f := 34) rfl ?_); refine goesL_ (some 71) rfl rfl Try.func34 B14x7_ rfl #[.string t541] rfl B14x0_ ?_; (with_reducible refine (impl_ReadConf.calls kj7 t541 t543 t544 _ A29.out).mono ?_); rintro e w34 ⟨v545, rfl, ho0, hb⟩; refine ⟨_, rfl, ?_⟩; have n0_ := Aside0.mk (Kd.R_elder' B14x6_ (Kd.R_base ho0) hb); have n1_ := Aside0.mk (Kd.R_lower (Kd.R_new' ho0 (Kd.R_lt B14x6_)) (below_size B14x1_)); have n2_ := Aside0.mk (blk_below (g := gb527) (o := .cells #[.int .i64 t524, .int .i64 t525, .string t526] 51 (0, 0)) B14x2_ hb); have n3_ := Aside0.mk (blk_below (g := gb537) (o := .cells #[.int .i64 t533, .int .i64 t534, .string t535] 51 (0, 0)) B14x5_ hb); have n4_ := Aside0.mk (below_step B14x1_ hb); clear HO540; clear BK527; clear BK537; clear HB; have HO540 := n0_; have HO546 := n1_; have BK527 := n2_; have BK537 := n3_; have HB := n4_; clear n0_ n1_ n2_ n3_ n4_; (try clear hb); (try clear hb2); (try clear hk); (try clear hi); (try clear ho0)))
     (try simp only [Act.put, List.setIfInBounds_toArray, List.set_cons_zero, List.set_cons_succ])
     go_cut [96] (fun v96 wc => ∃ (kq : Nat) (x96_29 : Bool), v96 = .bool x96_29 ∧ Aside0 (laws_FnEntries.j1 kq t538 t542 x96_29 = some r) ∧ Aside0 (kq ≤ kj7) ∧ Aside0 (Kd.R (Kd.int .i64) 3 wc w.heap.size (fun _ => True) (.slice Ao32 t538.length co32) t538) ∧ Aside0 (wc.heap[gb527]? = some (.cells #[.int .i64 t524, .int .i64 t525, .string t526] 51 (0, 0))) ∧ Aside0 (wc.heap[gb537]? = some (.cells #[.int .i64 t533, .int .i64 t534, .string t535] 51 (0, 0))) ∧ Aside0 (Below w.heap.size w wc))
     case first =>
      have H := HC30.out
      clear HC30
      replace H := Option.bind_eq_some_iff.mp H
      obtain ⟨t547, A350, H⟩ := H
      (try dsimp only at H)
      have A35 := Aside0.mk A350
      clear A350
      by_cases c36 : (t542 != t547) = true
      ·rw [if_pos c36] at H
       have c36b0 : (t542 != t547) = true := c36
       (try (have c36b1 : decide (t542 = t547) = false := by simpa using c36))
       (try (have c36b2 : (t542 == t547) = false := by simpa using c36))
       (try (have c36b3 : ¬ (t542 = t547) := by simpa using c36))
       clear c36
       (first | rw [c36b0] | (simp only [i64_w, i32_w]; rw [c36b0]) | skip)
       have H' := Aside0.mk H
       clear H
       go_wp2_with (first | ((with_reducible refine gate_callee (f := 35) rfl ?_); refine goesL_ (some 76) rfl rfl Try.func35 B14x7_ rfl #[.slice Ao32 t538.length co32] rfl B14x0_ ?_; (with_reducible refine (spec_ConfOk.calls kj7 _ _ t538 t547 _ ?side1 ?side2 A35.out).mono ?_); (case side1 => repeat (first | exact (Kd.R_reads' HO540.out).2.2 | (with_reducible refine Kd.C_alloc ?_ _) | (with_reducible refine Kd.C_drewN ?_ _) | (with_reducible refine Kd.C_drew ?_))); (case side2 => exact (Kd.R_reads' HO540.out).2.1); rintro e w' ⟨rfl, ⟨nd, rfl⟩⟩; refine ⟨_, rfl, ?_⟩))
       go_meet
       case rel => exact ⟨_, (true), (be_), H', ⟨by have := HJ7.out; first | omega | exact Nat.le_refl _⟩, ⟨by (with_reducible repeat (first | apply Kd.R_alloc | apply Kd.R_drewN | apply Kd.R_drew)); exact Kd.R_mono HO540.out (fun _ hk => trivial)⟩, ⟨by (with_reducible repeat (first | refine blk_drewN ?_ _ | refine blk_drew ?_ | refine blk_alloc ?_ _)); exact BK527.out⟩, ⟨by (with_reducible repeat (first | refine blk_drewN ?_ _ | refine blk_drew ?_ | refine blk_alloc ?_ _)); exact BK537.out⟩, ⟨by repeat (first | (with_reducible first | exact HB.out | apply below_alloc | apply pw_below_drewN | apply below_drew1 | refine below_set ?_ GE527.out | refine below_set ?_ GE537.out) | exact HB.out)⟩⟩
      ·rw [if_neg c36] at H
       have c36b0 : (t542 != t547) = false := by simpa using c36
       (try (have c36b1 : decide (t542 = t547) = true := by simpa using c36))
       (try (have c36b2 : (t542 == t547) = true := by simpa using c36))
       clear c36
       (first | rw [c36b0] | (simp only [i64_w, i32_w]; rw [c36b0]) | skip)
       by_cases c37 : t542 = true
       ·subst c37
        rw [if_pos rfl] at H
        by_cases c38 : t544 = true
        ·subst c38
         rw [if_pos rfl] at H
         replace H := Option.bind_eq_some_iff.mp H
         obtain ⟨t548, A390, H⟩ := H
         (try dsimp only at H)
         have A39 := Aside0.mk A390
         clear A390
         by_cases c40 : t548 = true
         ·subst c40
          rw [if_pos rfl] at H
          replace H := Option.bind_eq_some_iff.mp H
          obtain ⟨t549, A410, H⟩ := H
          (try dsimp only at H)
          have A41 := Aside0.mk A410
          clear A410
          have H' := Aside0.mk H
          clear H
          go_wp2_with (first | ((with_reducible refine gate_callee (f := 35) rfl ?_); refine goesL_ (some 76) rfl rfl Try.func35 B14x7_ rfl #[.slice Ao32 t538.length co32] rfl B14x0_ ?_; (with_reducible refine (spec_ConfOk.calls kj7 _ _ t538 t547 _ ?side1 ?side2 A35.out).mono ?_); (case side1 => repeat (first | exact (Kd.R_reads' HO540.out).2.2 | (with_reducible refine Kd.C_alloc ?_ _) | (with_reducible refine Kd.C_drewN ?_ _) | (with_reducible refine Kd.C_drew ?_))); (case side2 => exact (Kd.R_reads' HO540.out).2.1); rintro e w' ⟨rfl, ⟨nd, rfl⟩⟩; refine ⟨_, rfl, ?_⟩; obtain ⟨Ao42, co42, eo42⟩ := Kd.R_slice HO546.out; subst eo42) | (go_at_call 36; (with_reducible refine (laws_sameInts.calls kj7 _ _ t543 _ _ t538 true _ ?side1 ?side2 ?side3 ?side4 A39.out).mono ?_); (case side1 => repeat (first | exact (Kd.R_reads' HO546.out).2.2 | (with_reducible refine Kd.C_alloc ?_ _) | (with_reducible refine Kd.C_drewN ?_ _) | (with_reducible refine Kd.C_drew ?_))); (case side2 => exact (Kd.R_reads' HO546.out).2.1); (case side3 => repeat (first | exact (Kd.R_reads' HO540.out).2.2 | (with_reducible refine Kd.C_alloc ?_ _) | (with_reducible refine Kd.C_drewN ?_ _) | (with_reducible refine Kd.C_drew ?_))); (case side4 => exact (Kd.R_reads' HO540.out).2.1); rintro e w' ⟨rfl, ⟨nd, rfl⟩⟩) | (go_at_call 37; (with_reducible refine (impl_ConfOk.calls kj7 _ _ t538 t549 _ ?side1 ?side2 A41.out).mono ?_); (case side1 => repeat (first | exact (Kd.R_reads' HO540.out).2.2 | (with_reducible refine Kd.C_alloc ?_ _) | (with_reducible refine Kd.C_drewN ?_ _) | (with_reducible refine Kd.C_drew ?_))); (case side2 => exact (Kd.R_reads' HO540.out).2.1); rintro e w' ⟨rfl, ⟨nd, rfl⟩⟩))
          go_meet
          case rel => exact ⟨_, ((t549 != true)), (be_), H', ⟨by have := HJ7.out; first | omega | exact Nat.le_refl _⟩, ⟨by (with_reducible repeat (first | apply Kd.R_alloc | apply Kd.R_drewN | apply Kd.R_drew)); exact Kd.R_mono HO540.out (fun _ hk => trivial)⟩, ⟨by (with_reducible repeat (first | refine blk_drewN ?_ _ | refine blk_drew ?_ | refine blk_alloc ?_ _)); exact BK527.out⟩, ⟨by (with_reducible repeat (first | refine blk_drewN ?_ _ | refine blk_drew ?_ | refine blk_alloc ?_ _)); exact BK537.out⟩, ⟨by repeat (first | (with_reducible first | exact HB.out | apply below_alloc | apply pw_below_drewN | apply below_drew1 | refine below_set ?_ GE527.out | refine below_set ?_ GE537.out) | exact HB.out)⟩⟩
         ·replace c40 := Bool.eq_false_iff.mpr c40
          subst c40
          rw [if_neg (show ¬ (false = true) by decide)] at H
          have H' := Aside0.mk H
          clear H
          go_wp2_with (first | ((with_reducible refine gate_callee (f := 35) rfl ?_); refine goesL_ (some 76) rfl rfl Try.func35 B14x7_ rfl #[.slice Ao32 t538.length co32] rfl B14x0_ ?_; (with_reducible refine (spec_ConfOk.calls kj7 _ _ t538 t547 _ ?side1 ?side2 A35.out).mono ?_); (case side1 => repeat (first | exact (Kd.R_reads' HO540.out).2.2 | (with_reducible refine Kd.C_alloc ?_ _) | (with_reducible refine Kd.C_drewN ?_ _) | (with_reducible refine Kd.C_drew ?_))); (case side2 => exact (Kd.R_reads' HO540.out).2.1); rintro e w' ⟨rfl, ⟨nd, rfl⟩⟩; refine ⟨_, rfl, ?_⟩; obtain ⟨Ao43, co43, eo43⟩ := Kd.R_slice HO546.out; subst eo43) | (go_at_call 36; (with_reducible refine (laws_sameInts.calls kj7 _ _ t543 _ _ t538 false _ ?side1 ?side2 ?side3 ?side4 A39.out).mono ?_); (case side1 => repeat (first | exact (Kd.R_reads' HO546.out).2.2 | (with_reducible refine Kd.C_alloc ?_ _) | (with_reducible refine Kd.C_drewN ?_ _) | (with_reducible refine Kd.C_drew ?_))); (case side2 => exact (Kd.R_reads' HO546.out).2.1); (case side3 => repeat (first | exact (Kd.R_reads' HO540.out).2.2 | (with_reducible refine Kd.C_alloc ?_ _) | (with_reducible refine Kd.C_drewN ?_ _) | (with_reducible refine Kd.C_drew ?_))); (case side4 => exact (Kd.R_reads' HO540.out).2.1); rintro e w' ⟨rfl, ⟨nd, rfl⟩⟩))
          go_meet
          case rel => exact ⟨_, (true), (be_), H', ⟨by have := HJ7.out; first | omega | exact Nat.le_refl _⟩, ⟨by (with_reducible repeat (first | apply Kd.R_alloc | apply Kd.R_drewN | apply Kd.R_drew)); exact Kd.R_mono HO540.out (fun _ hk => trivial)⟩, ⟨by (with_reducible repeat (first | refine blk_drewN ?_ _ | refine blk_drew ?_ | refine blk_alloc ?_ _)); exact BK527.out⟩, ⟨by (with_reducible repeat (first | refine blk_drewN ?_ _ | refine blk_drew ?_ | refine blk_alloc ?_ _)); exact BK537.out⟩, ⟨by repeat (first | (with_reducible first | exact HB.out | apply below_alloc | apply pw_below_drewN | apply below_drew1 | refine below_set ?_ GE527.out | refine below_set ?_ GE537.out) | exact HB.out)⟩⟩
        ·replace c38 := Bool.eq_false_iff.mpr c38
         subst c38
         rw [if_neg (show ¬ (false = true) by decide)] at H
         have H' := Aside0.mk H
         clear H
         go_wp2_with (first | ((with_reducible refine gate_callee (f := 35) rfl ?_); refine goesL_ (some 76) rfl rfl Try.func35 B14x7_ rfl #[.slice Ao32 t538.length co32] rfl B14x0_ ?_; (with_reducible refine (spec_ConfOk.calls kj7 _ _ t538 t547 _ ?side1 ?side2 A35.out).mono ?_); (case side1 => repeat (first | exact (Kd.R_reads' HO540.out).2.2 | (with_reducible refine Kd.C_alloc ?_ _) | (with_reducible refine Kd.C_drewN ?_ _) | (with_reducible refine Kd.C_drew ?_))); (case side2 => exact (Kd.R_reads' HO540.out).2.1); rintro e w' ⟨rfl, ⟨nd, rfl⟩⟩; refine ⟨_, rfl, ?_⟩))
         go_meet
         case rel => exact ⟨_, (true), (be_), H', ⟨by have := HJ7.out; first | omega | exact Nat.le_refl _⟩, ⟨by (with_reducible repeat (first | apply Kd.R_alloc | apply Kd.R_drewN | apply Kd.R_drew)); exact Kd.R_mono HO540.out (fun _ hk => trivial)⟩, ⟨by (with_reducible repeat (first | refine blk_drewN ?_ _ | refine blk_drew ?_ | refine blk_alloc ?_ _)); exact BK527.out⟩, ⟨by (with_reducible repeat (first | refine blk_drewN ?_ _ | refine blk_drew ?_ | refine blk_alloc ?_ _)); exact BK537.out⟩, ⟨by repeat (first | (with_reducible first | exact HB.out | apply below_alloc | apply pw_below_drewN | apply below_drew1 | refine below_set ?_ GE527.out | refine below_set ?_ GE537.out) | exact HB.out)⟩⟩
       ·replace c37 := Bool.eq_false_iff.mpr c37
        subst c37
        rw [if_neg (show ¬ (false = true) by decide)] at H
        replace H := Option.bind_eq_some_iff.mp H
        obtain ⟨t550, A440, H⟩ := H
        (try dsimp only at H)
        have A44 := Aside0.mk A440
        clear A440
        have H' := Aside0.mk H
        clear H
        go_wp2_with (first | ((with_reducible refine gate_callee (f := 35) rfl ?_); refine goesL_ (some 76) rfl rfl Try.func35 B14x7_ rfl #[.slice Ao32 t538.length co32] rfl B14x0_ ?_; (with_reducible refine (spec_ConfOk.calls kj7 _ _ t538 t547 _ ?side1 ?side2 A35.out).mono ?_); (case side1 => repeat (first | exact (Kd.R_reads' HO540.out).2.2 | (with_reducible refine Kd.C_alloc ?_ _) | (with_reducible refine Kd.C_drewN ?_ _) | (with_reducible refine Kd.C_drew ?_))); (case side2 => exact (Kd.R_reads' HO540.out).2.1); rintro e w' ⟨rfl, ⟨nd, rfl⟩⟩; refine ⟨_, rfl, ?_⟩) | (go_at_call 37; (with_reducible refine (impl_ConfOk.calls kj7 _ _ t538 t550 _ ?side1 ?side2 A44.out).mono ?_); (case side1 => repeat (first | exact (Kd.R_reads' HO540.out).2.2 | (with_reducible refine Kd.C_alloc ?_ _) | (with_reducible refine Kd.C_drewN ?_ _) | (with_reducible refine Kd.C_drew ?_))); (case side2 => exact (Kd.R_reads' HO540.out).2.1); rintro e w' ⟨rfl, ⟨nd, rfl⟩⟩))
        go_meet
        case rel => exact ⟨_, ((t550 != false)), (be_), H', ⟨by have := HJ7.out; first | omega | exact Nat.le_refl _⟩, ⟨by (with_reducible repeat (first | apply Kd.R_alloc | apply Kd.R_drewN | apply Kd.R_drew)); exact Kd.R_mono HO540.out (fun _ hk => trivial)⟩, ⟨by (with_reducible repeat (first | refine blk_drewN ?_ _ | refine blk_drew ?_ | refine blk_alloc ?_ _)); exact BK527.out⟩, ⟨by (with_reducible repeat (first | refine blk_drewN ?_ _ | refine blk_drew ?_ | refine blk_alloc ?_ _)); exact BK537.out⟩, ⟨by repeat (first | (with_reducible first | exact HB.out | apply below_alloc | apply pw_below_drewN | apply below_drew1 | refine below_set ?_ GE527.out | refine below_set ?_ GE537.out) | exact HB.out)⟩⟩
     case rest =>
      clear HC30
      try clear c1
      try clear c2
      try clear p2
      try clear c3
      try clear c4
      try clear c7
      try clear c17
      try clear c19
      try clear c19b0
      try clear c19b1
      try clear c19b2
      try clear c20
      try clear c21
      try clear c22
      try clear c22b0
      try clear c22b1
      try clear c23
      try clear c26
      try clear c28
      try clear c29
      try clear c30
      try clear c31
      try clear c32
      try clear c33
      try clear c34
      try clear c35
      try clear c36
      try clear c36b0
      try clear c36b1
      try clear c36b2
      try clear c37
      try clear c38
      try clear c40
      try clear hcz11_0
      try clear hcz11_1
      try clear hcz11_2
      try clear hcz13_0
      try clear hcz13_1
      try clear hcz13_2
      try clear hcz18_0
      try clear hcz18_1
      try clear hcz18_2
      try clear hcz24_0
      try clear hcz24_1
      try clear hcz24_2
      try clear hcz25_0
      try clear hcz25_1
      try clear hcz25_2
      try clear hfz11_0
      try clear hfz11_1
      try clear hfz11_2
      try clear hfz13_0
      try clear hfz13_1
      try clear hfz13_2
      try clear hfz18_0
      try clear hfz18_1
      try clear hfz18_2
      try clear hfz24_0
      try clear hfz24_1
      try clear hfz24_2
      try clear hfz25_0
      try clear hfz25_1
      try clear hfz25_2
      try clear p2
      obtain ⟨kq, x96_29, rfl, HA, HJ29, HO_12, BK527, BK537, HB⟩ := hcut
      cases kq with
      | zero => exact absurd HA.out (by simp [laws_FnEntries.j1])
      | succ kj29 =>
       have H := HA.out
       clear HA
       simp only [laws_FnEntries.j1] at H
       by_cases c45 : x96_29 = true
       ·subst c45
        rw [if_pos rfl] at H
        exact absurd ((Option.some.inj H).trans hr_.out) (by decide)
       ·replace c45 := Bool.eq_false_iff.mpr c45
        subst c45
        rw [if_neg (show ¬ (false = true) by decide)] at H
        by_cases c46 : t542 = true
        ·subst c46
         rw [if_pos rfl] at H
         replace H := Option.bind_eq_some_iff.mp H
         obtain ⟨t551, A470, H⟩ := H
         (try dsimp only at H)
         have A47 := Aside0.mk A470
         clear A470
         by_cases c48 : t551 = true
         ·subst c48
          rw [if_pos rfl] at H
          obtain ⟨y552, hy552⟩ : ∃ y_ : List Int, y_ = (([] : List Int)) := ⟨_, rfl⟩
          replace H : ((impl_Most.f kj29 t538 y552).bind fun t555 => (if t555 = true then (some false) else (if 1 ≤ (t538.length : Int) then ((impl_Most.f kj29 t538 (t538.take 1)).bind fun t560 => (some (t560 == ((t538.length : Int) == 1)))) else (none)))) = some r := by first | (rw [hy552]; with_reducible exact H) | (have H2_ := (Option.bind_some _ _).symm.trans H; rw [hy552]; with_reducible exact H2_) | (have H2_ := (Option.bind_some _ _).symm.trans H; with_reducible exact H2_) | with_reducible exact H | (rw [hy552]; exact H) | exact H
          have Ny552 := Aside0.mk hy552
          clear hy552
          replace H := Option.bind_eq_some_iff.mp H
          obtain ⟨t555, A490, H⟩ := H
          (try dsimp only at H)
          have A49 := Aside0.mk A490
          clear A490
          by_cases c50 : t555 = true
          ·subst c50
           rw [if_pos rfl] at H
           exact absurd ((Option.some.inj H).trans hr_.out) (by decide)
          ·replace c50 := Bool.eq_false_iff.mpr c50
           subst c50
           rw [if_neg (show ¬ (false = true) by decide)] at H
           by_cases c51 : 1 ≤ (t538.length : Int)
           ·rw [if_pos c51] at H
            have c51b0 := eq_true c51
            have c51b1 : decide (1 ≤ (t538.length : Int)) = true := decide_eq_true c51
            clear c51
            obtain ⟨y556, hy556⟩ : ∃ y_ : List Int, y_ = (t538.take 1) := ⟨_, rfl⟩
            replace H : ((impl_Most.f kj29 t538 y556).bind fun t560 => (some (t560 == ((t538.length : Int) == 1)))) = some r := by first | (rw [hy556]; with_reducible exact H) | (have H2_ := (Option.bind_some _ _).symm.trans H; rw [hy556]; with_reducible exact H2_) | (have H2_ := (Option.bind_some _ _).symm.trans H; with_reducible exact H2_) | with_reducible exact H | (rw [hy556]; exact H) | exact H
            have Ny556 := Aside0.mk hy556
            clear hy556
            replace H := Option.bind_eq_some_iff.mp H
            obtain ⟨t560, A520, H⟩ := H
            (try dsimp only at H)
            have A52 := Aside0.mk A520
            clear A520
            obtain rfl := Option.some.inj H
            go_wp2_with (first | (go_at_call 38; (with_reducible refine (impl_Most.calls kj29 _ _ t538 _ _ t538 true _ ?side1 ?side2 ?side3 ?side4 A47.out).mono ?_); (case side1 => repeat (first | exact (Kd.R_reads' HO_12.out).2.2 | (with_reducible refine Kd.C_alloc ?_ _) | (with_reducible refine Kd.C_drewN ?_ _) | (with_reducible refine Kd.C_drew ?_))); (case side2 => exact (Kd.R_reads' HO_12.out).2.1); (case side3 => repeat (first | exact (Kd.R_reads' HO_12.out).2.2 | (with_reducible refine Kd.C_alloc ?_ _) | (with_reducible refine Kd.C_drewN ?_ _) | (with_reducible refine Kd.C_drew ?_))); (case side4 => exact (Kd.R_reads' HO_12.out).2.1); rintro e w' ⟨rfl, ⟨nd, rfl⟩⟩) | ((with_reducible refine gate_dst (N := 105) rfl ?_); (try (refine gate_guard (by rfl) ?_; dsimp only)); refine Kd.R_lit (Kd.int .i64) _ 3 ?hg (N := 105) ?hd (xs := ([] : List Int)) (inner := []) (ok := fun _ => True) (okp := fun _ => True) ?hr ?hp (fun _ hk => hk) trivial (Below.refl _ _) (Nat.le_refl _) (by simp) ?_; (case hd => rfl); (case hg => rfl); (case hr => first | (go_simp; done) | (go_simp; rfl)); (case hp => exact (Reps.none _ _)); intro v553 w53 ho54 hb hg_ hnew_; clear hg_ hnew_; (first | rw [← Ny552.out] at ho54 | (simp only [Int.reduceToNat] at ho54; rw [← Ny552.out] at ho54)); have n0_ := Aside0.mk (Kd.R_elder' B14x8_ (Kd.R_base ho54) hb); have n1_ := Aside0.mk (Kd.R_lower (Kd.R_new' ho54 (Kd.R_lt B14x8_)) (below_size B14x1_)); have n2_ := Aside0.mk (blk_below (g := gb527) (o := .cells #[.int .i64 t524, .int .i64 t525, .string t526] 51 (0, 0)) B14x2_ hb); have n3_ := Aside0.mk (blk_below (g := gb537) (o := .cells #[.int .i64 t533, .int .i64 t534, .string t535] 51 (0, 0)) B14x5_ hb); have n4_ := Aside0.mk (below_step B14x1_ hb); clear HO_12; clear BK527; clear BK537; clear HB; have HO_12 := n0_; have HO554 := n1_; have BK527 := n2_; have BK537 := n3_; have HB := n4_; clear n0_ n1_ n2_ n3_ n4_; clear hb ho54; obtain ⟨Ao55, co55, eo55⟩ := Kd.R_slice HO554.out; subst eo55) | (go_at_call 38; (with_reducible refine (impl_Most.calls kj29 _ _ t538 _ _ y552 false _ ?side1 ?side2 ?side3 ?side4 A49.out).mono ?_); (case side1 => repeat (first | exact (Kd.R_reads' HO_12.out).2.2 | (with_reducible refine Kd.C_alloc ?_ _) | (with_reducible refine Kd.C_drewN ?_ _) | (with_reducible refine Kd.C_drew ?_))); (case side2 => exact (Kd.R_reads' HO_12.out).2.1); (case side3 => repeat (first | exact (Kd.R_reads' HO554.out).2.2 | (with_reducible refine Kd.C_alloc ?_ _) | (with_reducible refine Kd.C_drewN ?_ _) | (with_reducible refine Kd.C_drew ?_))); (case side4 => exact (Kd.R_reads' HO554.out).2.1); rintro e w' ⟨rfl, ⟨nd, rfl⟩⟩; have q56 : (1 : Int) ≤ ((t538.length : Int) : Int) := of_decide_eq_true (by first | (with_reducible assumption) | assumption); obtain ⟨i056, hi056, _, hsz56, _⟩ := info_parts info3; have hroom56 : t538.length ≤ co32 := (Kd.R_reads' HO_12.out).2.1; have hC56 : Kd.C (Kd.int .i64) _ Ao32 t538.length t538 := (Kd.R_reads' HO_12.out).2.2; have hcut56 := cut_to (P := Try.prog) 23 3 .i64 Try.underlying23 hi056 Ao32 t538.length co32 1 (by omega) q56 hroom56; have hr56 := Kd.C_take (m := 1) hC56 (by omega); have hy56 : y556.length = (1 : Int).toNat := (by rw [Ny556.out, List.length_take]; omega); rw [← Ny556.out] at hr56; rw [← hy56] at hcut56; have HR559 := Aside0.mk hr56; have HC559 := Aside0.mk (show y556.length ≤ co32 from by omega); clear hr56 hC56 hroom56 hi056 hsz56; have KY56 := Aside0.mk hy56; clear hy56; have KL56 := Aside0.mk (show 1 ≤ t538.length from by omega); replace q56 := eq_true q56) | (go_at_call 38; (with_reducible refine (impl_Most.calls kj29 _ _ t538 _ _ y556 t560 _ ?side1 ?side2 ?side3 ?side4 A52.out).mono ?_); (case side1 => repeat (first | exact (Kd.R_reads' HO_12.out).2.2 | (with_reducible refine Kd.C_alloc ?_ _) | (with_reducible refine Kd.C_drewN ?_ _) | (with_reducible refine Kd.C_drew ?_))); (case side2 => exact (Kd.R_reads' HO_12.out).2.1); (case side3 => repeat (first | exact (by repeat (first | (with_reducible exact HR559.out) | (with_reducible refine Kd.C_alloc ?_ _) | (with_reducible refine Kd.C_drewN ?_ _) | (with_reducible refine Kd.C_drew ?_) | exact HR559.out)) | (with_reducible refine Kd.C_alloc ?_ _) | (with_reducible refine Kd.C_drewN ?_ _) | (with_reducible refine Kd.C_drew ?_))); (case side4 => exact HC559.out); rintro e w' ⟨rfl, ⟨nd, rfl⟩⟩))
            go_ret
            exact ⟨by first | rfl | (simp [errW_none, errW_some] <;> rfl) | (simp [*, errW_none, errW_some] <;> rfl), by repeat (first | (with_reducible first | exact HB.out | apply below_alloc | apply pw_below_drewN | apply below_drew1 | refine below_set ?_ GE527.out | refine below_set ?_ GE537.out) | exact HB.out)⟩
           ·rw [if_neg c51] at H
            exact absurd H (by simp)
         ·replace c48 := Bool.eq_false_iff.mpr c48
          subst c48
          rw [if_neg (show ¬ (false = true) by decide)] at H
          exact absurd ((Option.some.inj H).trans hr_.out) (by decide)
        ·replace c46 := Bool.eq_false_iff.mpr c46
         subst c46
         rw [if_neg (show ¬ (false = true) by decide)] at H
         obtain rfl := Option.some.inj H
         go_wp2
         go_ret
         exact ⟨by first | rfl | (simp [errW_none, errW_some] <;> rfl) | (simp [*, errW_none, errW_some] <;> rfl), by repeat (first | (with_reducible first | exact HB.out | apply below_alloc | apply pw_below_drewN | apply below_drew1 | refine below_set ?_ GE527.out | refine below_set ?_ GE537.out) | exact HB.out)⟩

/-- THE ONE PURE STATEMENT of laws_FnEntries: yours. -/
def laws_FnEntries.Pure : Prop := ∀ (l0 : List Int), l0.length ≤ maxLen → l0.length * 1 ≤ 140737488351232 → (∀ x ∈ l0, (Lit.int .u8 x).wf = true) → ∃ k, laws_FnEntries.f k l0 = some true
theorem laws_FnEntries.walk (P : laws_FnEntries.Pure) (a0 : Option Addr) (len0 cap0 : Nat) (z0 : List Int) (w : World) (w0 : (a0 = none ∧ len0 = 0 ∧ cap0 = 0 ∧ z0 = []) ∨ ∃ x, a0 = some x ∧ len0 ≤ cap0 ∧ cap0 ≤ maxLen ∧ z0.length = cap0 ∧ (∀ i, i < z0.length → w.cell? (x.add i) = some (.int .u8 (z0.getD i 0))) ∧ ∀ n ∈ z0, (Lit.int .u8 n).wf = true) (y0 : len0 * 1 ≤ 140737488351232) :
  Calls Try.prog 7 #[.slice a0 len0 cap0] w fun e w' => e = .returned (.bool true) ∧ Below w.heap.size w w' := by
 obtain ⟨l0, rfl, hr0, hm0, hw0, hc0⟩ := ReadsInt.ofRowC w0
 obtain ⟨k, h⟩ := P l0 hm0 y0 hw0
 refine (laws_FnEntries.calls k _ _ l0 true w (Kd.C_of_reads (d := (0 : Int)) (h1 := fun _ => rfl) hr0) hc0 h ⟨rfl⟩).mono ?_
 rintro e w' ⟨rfl, hd⟩
 exact ⟨rfl, hd⟩

end Go.Proofs.Ythgjcijcmacpmaa.QFnEntries
