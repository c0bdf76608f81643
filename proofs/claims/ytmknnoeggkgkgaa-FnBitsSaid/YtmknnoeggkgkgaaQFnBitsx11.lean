/- Functions that a law reaches, as functions of Lean, and the walks that show that the calls come to their answers: written by a program of this project out of the translation. No condition. -/
import Derived.Test.YtmknnoeggkgkgaaQFnBitsx0
import Derived.Test.YtmknnoeggkgkgaaQFnBitsx1
import Derived.Test.YtmknnoeggkgkgaaQFnBitsx2
import Derived.Test.YtmknnoeggkgkgaaQFnBitsx7
import Derived.Test.YtmknnoeggkgkgaaQFnBitsx9
import Derived.Test.YtmknnoeggkgkgaaVFnBitshort4
import Derived.Test.YtmknnoeggkgkgaaVFnBitshort3
import Derived.Test.YtmknnoeggkgkgaaVFnBitsShort2
import Derived.Test.YtmknnoeggkgkgaaVFnBitsShort
import Derived.Test.YtmknnoeggkgkgaaQFnBitsx10
import Derived.Test.YtmknnoeggkgkgaaSq
import Derived.Test.YtmknnoeggkgkgaaSq2
namespace Go.Proofs.Ytmknnoeggkgkgaa.QFnBits
open Go.RowKit Go.Proofs.YtmknnoeggkgkgaaW.PrintWords Go.Proofs.YtmknnoeggkgkgaaW.PrintLast Go.Proofs.YtmknnoeggkgkgaaW.PrintMore Go.Proofs.Ytmknnoeggkgkgaa.Short Go.Proofs.Ytmknnoeggkgkgaa.Sq
attribute [local go_sem] max2_int min2_int max_two min_two max_three min_three max_four min_four   -- for this text's walks alone
set_option linter.unusedVariables false
set_option linter.unusedSimpArgs false

attribute [local go_sem high] eqA62
theorem B10x0_ {p : Prop} (h : p := by repeat (first | (with_reducible first | exact HB.out | apply below_alloc | apply pw_below_drewN | apply below_drew1 | refine below_set ?_ GE484.out | refine below_set ?_ GE495.out | refine below_set ?_ GE506.out) | exact HB.out)) : p := h
theorem B10x1_ {p : Prop} (h : p := by (with_reducible repeat (first | apply Kd.N_alloc | apply Kd.N_drewN | apply Kd.N_drew)); exact HO476.out) : p := h
theorem B10x2_ {p : Prop} (h : p := by (with_reducible repeat (first | refine blk_drewN ?_ _ | refine blk_drew ?_ | refine blk_alloc ?_ _)); exact BK484.out) : p := h
theorem B10x3_ {p : Prop} (h : p := by (with_reducible repeat (first | refine blk_drewN ?_ _ | refine blk_drew ?_ | refine blk_alloc ?_ _)); exact BK495.out) : p := h
theorem B10x4_ {p : Prop} (h : p := by (try simp only [List.map_toArray, List.map_cons, List.map_nil]); first | done | rfl | (simp only [List.length_drop, List.length_take]; rfl)) : p := h
theorem B10x5_ {p : Prop} (h : p := by repeat (first | (with_reducible first | exact HB.out | apply below_alloc | apply pw_below_drewN | apply below_drew1 | refine below_set ?_ GE484.out | refine below_set ?_ GE495.out) | exact HB.out)) : p := h
theorem B10x6_ {p : Prop} (h : p := by (with_reducible repeat (first | refine blk_drewN ?_ _ | refine blk_drew ?_ | refine blk_alloc ?_ _)); exact BK506.out) : p := h
theorem B10x7_ {p : Prop} (h : p := by (with_reducible repeat (first | apply KQ.N_alloc | apply KQ.N_drewN | apply KQ.N_drew)); exact HO487.out) : p := h
theorem B10x8_ {p : Prop} (h : p := by repeat (first | (with_reducible first | exact HB.out | apply below_alloc | apply pw_below_drewN | apply below_drew1 | refine below_set ?_ GE484.out) | exact HB.out)) : p := h
theorem B10x9_ {p : Prop} (h : p := by repeat (first | (with_reducible first | exact HB.out | apply below_alloc | apply pw_below_drewN | apply below_drew1) | exact HB.out)) : p := h
theorem B10x10_ {p : Prop} (h : p := by first | (with_reducible assumption) | assumption) : p := h
theorem B10x11_ {p : Prop} (h : p := by (with_reducible repeat (first | apply Kd.N_alloc | apply Kd.N_drewN | apply Kd.N_drew)); exact HO_12.out) : p := h
theorem B10x12_ {p : Prop} (h : p := by (with_reducible repeat (first | apply Kd.N_alloc | apply Kd.N_drewN | apply Kd.N_drew)); exact HO_3.out) : p := h
theorem B10x13_ {p : Prop} (h : p := by (with_reducible repeat (first | apply KQ.N_alloc | apply KQ.N_drewN | apply KQ.N_drew)); exact HO_6.out) : p := h
theorem B10x14_ {p : Prop} (h : p := by (with_reducible repeat (first | apply Kd.N_alloc | apply Kd.N_drewN | apply Kd.N_drew)); exact HO_9.out) : p := h
theorem B10x15_ {p : Prop} (h : p := by repeat (first | exact HR0.out | (with_reducible refine Kd.C_alloc ?_ _) | (with_reducible refine Kd.C_drewN ?_ _) | (with_reducible refine Kd.C_drew ?_))) : p := h
theorem B10x16_ {p : Prop} (h : p := by (with_reducible repeat (first | apply Kd.N_alloc | apply Kd.N_drewN | apply Kd.N_drew)); exact HO498.out) : p := h
theorem B10x17_ {p : Prop} (h : p := by first | (go_simp; done) | (go_simp; rfl)) : p := h
theorem B10x18_ {p : Prop} (h : p := by first | rfl | (simp [errW_none, errW_some] <;> rfl) | (simp [*, errW_none, errW_some] <;> rfl)) : p := h
theorem B10x19_ {p : Prop} (h : p := by repeat (first | exact (Kd.N_reads' HO476.out).2.2 | (with_reducible refine Kd.C_alloc ?_ _) | (with_reducible refine Kd.C_drewN ?_ _) | (with_reducible refine Kd.C_drew ?_))) : p := h
theorem B10x20_ {p : Prop} (h : p := by first | exact q510 | exact of_decide_eq_true B10x10_ | (have e_ := (KQ.N_reads' HO_6.out).1; omega)) : p := h
theorem B10x21_ {p : Prop} (h : p := by kernel_rfl) : p := h
/-! ### laws_FnBits: function 8 -/
mutual
def laws_FnBits.l0 : Nat → List (S82) → Int → List (S82) → Bool → List (S82) → Bool → List (S82) → Int → Int → Int → Int → Int → Int → Bool → ByteArray → Int → Int → Int → Int → Bool → ByteArray → Option (Bool)
 | 0, _, _, _, _, _, _, _, _, _, _, _, _, _, _, _, _, _, _, _, _, _ => none
 | k + 1, x3, x5, x6, x8, x9, x11, x12, x13, x14, x496000, x496001, x496002, x496003, x496004, x496005, x507000, x507001, x507002, x507003, x507004, x507005 => if x14 < (x6.length : Int) then (if 0 ≤ x14 then (if ((rd_T82 x6 x14).f5) > (wrap64 (x5 + 5)) then (laws_FnBits.l0 k x3 x5 x6 x8 x9 x11 x12 (wrap64 (x13 + 1)) (wrap64 (x14 + 1)) x496000 x496001 x496002 x496003 x496004 x496005 x507000 x507001 x507002 x507003 x507004 x507005) else (laws_FnBits.l0 k x3 x5 x6 x8 x9 x11 x12 x13 (wrap64 (x14 + 1)) x496000 x496001 x496002 x496003 x496004 x496005 x507000 x507001 x507002 x507003 x507004 x507005)) else (none)) else (laws_FnBits.l1 k x3 x5 x6 x8 x9 x11 x12 x13 0 x496000 x496001 x496002 x496003 x496004 x496005 x507000 x507001 x507002 x507003 x507004 x507005)
def laws_FnBits.l1 : Nat → List (S82) → Int → List (S82) → Bool → List (S82) → Bool → List (S82) → Int → Int → Int → Int → Int → Int → Bool → ByteArray → Int → Int → Int → Int → Bool → ByteArray → Option (Bool)
 | 0, _, _, _, _, _, _, _, _, _, _, _, _, _, _, _, _, _, _, _, _, _ => none
 | k + 1, x3, x5, x6, x8, x9, x11, x12, x13, x15, x496000, x496001, x496002, x496003, x496004, x496005, x507000, x507001, x507002, x507003, x507004, x507005 => if x15 < (x12.length : Int) then (if 0 ≤ x15 then (if ((rd_T82 x12 x15).f5) ≤ (wrap64 (x5 + 5)) then (some false) else (laws_FnBits.l1 k x3 x5 x6 x8 x9 x11 x12 x13 (wrap64 (x15 + 1)) x496000 x496001 x496002 x496003 x496004 x496005 x507000 x507001 x507002 x507003 x507004 x507005)) else (none)) else (if (x8 == x11) = true then (if (x496000 == x507000 && (x496001 == x507001 && (x496002 == x507002 && (x496003 == x507003 && (x496004 == x507004 && (x496005.toList == x507005.toList)))))) = true then (if (x6.length : Int) = (x9.length : Int) then (if (x12.length : Int) = x13 then (if (x6.length : Int) ≤ (wrap64 ((x3.length : Int) + 1)) then (if (x3.length : Int) > 3 then (some true) else (some (decide ((x6.length : Int) ≤ 3)))) else (some false)) else (some false)) else (some false)) else (some false)) else (some false))
end
def laws_FnBits.f (k : Nat) (l0 : List Int) : Option (Bool) := (laws_big.f l0).bind fun t473 => (if t473 = true then (some true) else ((spec_DrawJoinBits.f k l0).bind fun bt474 => ((impl_JoinBits.f k bt474.1 bt474.2.1 bt474.2.2.1 bt474.2.2.2.1 bt474.2.2.2.2.1 bt474.2.2.2.2.2.1 bt474.2.2.2.2.2.2.1 bt474.2.2.2.2.2.2.2).bind fun bt485 => ((spec_JoinBits.f k bt474.1 bt474.2.1 bt474.2.2.1 bt474.2.2.2.1 bt474.2.2.2.2.1 bt474.2.2.2.2.2.1 bt474.2.2.2.2.2.2.1 bt474.2.2.2.2.2.2.2).bind fun bt496 => ((impl_TidyBits.f k bt485.1 (wrap64 (bt474.2.2.2.2.2.2.2 + 5))).bind fun t507 => (laws_FnBits.l0 k bt474.1 bt474.2.2.2.2.2.2.2 bt485.1 bt485.2.2.2.2.2.2.2 bt496.1 bt496.2.2.2.2.2.2.2 t507 0 0 bt485.2.1 bt485.2.2.1 bt485.2.2.2.1 bt485.2.2.2.2.1 bt485.2.2.2.2.2.1 bt485.2.2.2.2.2.2.1 bt496.2.1 bt496.2.2.1 bt496.2.2.2.1 bt496.2.2.2.2.1 bt496.2.2.2.2.2.1 bt496.2.2.2.2.2.2.1))))))
set_option maxHeartbeats 8000000 in
set_option maxRecDepth 100000 in
theorem laws_FnBits.calls (k : Nat) (A0 : Option Addr) (c0 : Nat) (l0 : List Int) (r : Bool) (w : World) (hr0 : Kd.C (Kd.int .u8) w A0 l0.length l0) (hc0 : l0.length ≤ c0) (h : laws_FnBits.f k l0 = some r) (hr_ : Aside0 (r = true)) :
  Calls Try.prog 8 #[.slice A0 l0.length c0] w fun e w' => e = .returned (.bool r) ∧ Below w.heap.size w w' := by
 have hu62 := Try.underlying62
 have HR0 := Aside0.mk hr0
 have HC0 := Aside0.mk hc0
 clear hr0 hc0
 have HB := Aside0.mk (Below.refl w.heap.size w)
 have H : ((laws_big.f l0).bind fun t473 => (if t473 = true then (some true) else ((spec_DrawJoinBits.f k l0).bind fun bt474 => ((impl_JoinBits.f k bt474.1 bt474.2.1 bt474.2.2.1 bt474.2.2.2.1 bt474.2.2.2.2.1 bt474.2.2.2.2.2.1 bt474.2.2.2.2.2.2.1 bt474.2.2.2.2.2.2.2).bind fun bt485 => ((spec_JoinBits.f k bt474.1 bt474.2.1 bt474.2.2.1 bt474.2.2.2.1 bt474.2.2.2.2.1 bt474.2.2.2.2.2.1 bt474.2.2.2.2.2.2.1 bt474.2.2.2.2.2.2.2).bind fun bt496 => ((impl_TidyBits.f k bt485.1 (wrap64 (bt474.2.2.2.2.2.2.2 + 5))).bind fun t507 => (laws_FnBits.l0 k bt474.1 bt474.2.2.2.2.2.2.2 bt485.1 bt485.2.2.2.2.2.2.2 bt496.1 bt496.2.2.2.2.2.2.2 t507 0 0 bt485.2.1 bt485.2.2.1 bt485.2.2.2.1 bt485.2.2.2.2.1 bt485.2.2.2.2.2.1 bt485.2.2.2.2.2.2.1 bt496.2.1 bt496.2.2.1 bt496.2.2.2.1 bt496.2.2.2.2.1 bt496.2.2.2.2.2.1 bt496.2.2.2.2.2.2.1))))))) = some r := h
 clear h
 replace H := bsi H
 obtain ⟨t473, A2, H⟩ := H
 (try dsimp only at H)
 by_cases c3 : t473 = true
 ·subst c3
  rw [if_pos rfl] at H
  obtain rfl := Option.some.inj H
  go_enter Try.func8, Try.ntmps8
  go_wp2_with (first | ((with_reducible refine gate_callee (f := 33) rfl ?_); refine goesL_ (some 17) rfl rfl Try.func33 B10x21_ rfl #[.slice A0 l0.length c0] rfl B10x4_ ?_; (with_reducible refine (laws_big.calls _ _ l0 true _ ?side1 ?side2 A2.out).mono ?_); (case side1 => exact B10x15_); (case side2 => exact HC0.out); rintro e w' ⟨rfl, ⟨nd, rfl⟩⟩; refine ⟨_, rfl, ?_⟩))
  go_ret
  exact ⟨B10x18_, B10x9_⟩
 ·replace c3 := Bool.eq_false_iff.mpr c3
  subst c3
  rw [if_neg (show ¬ (false = true) by decide)] at H
  replace H := bsi H
  obtain ⟨⟨t474, t477, t478, t479, t480, t481, t482, t483⟩, A4, H⟩ := H
  (try dsimp only at H)
  replace H := bsi H
  obtain ⟨⟨t485, t488, t489, t490, t491, t492, t493, t494⟩, A5, H⟩ := H
  (try dsimp only at H)
  replace H := bsi H
  obtain ⟨⟨t496, t499, t500, t501, t502, t503, t504, t505⟩, A6, H⟩ := H
  (try dsimp only at H)
  replace H := bsi H
  obtain ⟨t507, A7, H⟩ := H
  (try dsimp only at H)
  have H' := Aside0.mk H
  clear H
  go_enter Try.func8, Try.ntmps8
  go_wp2_with (first | ((with_reducible refine gate_callee (f := 33) rfl ?_); refine goesL_ (some 17) rfl rfl Try.func33 B10x21_ rfl #[.slice A0 l0.length c0] rfl B10x4_ ?_; (with_reducible refine (laws_big.calls _ _ l0 false _ ?side1 ?side2 A2.out).mono ?_); (case side1 => exact B10x15_); (case side2 => exact HC0.out); rintro e w' ⟨rfl, ⟨nd, rfl⟩⟩; refine ⟨_, rfl, ?_⟩) | ((with_reducible refine gate_callee (f := 47) rfl ?_); refine goesL_ (some 20) rfl rfl Try.func47 B10x21_ rfl #[.slice A0 l0.length c0] rfl B10x4_ ?_; (with_reducible refine (spec_DrawJoinBits.calls k _ _ l0 t474 t477 t478 t479 t480 t481 t482 t483 _ ?side1 ?side2 A4.out).mono ?_); (case side1 => exact B10x15_); (case side2 => exact HC0.out); rintro e w8 ⟨v475, rfl, ho0, hb⟩; refine ⟨_, rfl, ?_⟩; have HO476 := Aside0.mk (Kd.N_lower (Kd.N_mono (ok' := fun k_ => True) ho0 (fun k_ hk_ => trivial)) (below_size B10x9_)); replace HB := Aside0.mk (below_step B10x9_ hb); (try clear hb); (try clear hl); (try clear ho0)) | ((with_reducible refine gate_dst (N := 4) rfl ?_); (try (refine gate_guard (by rfl) ?_; dsimp only)); refine box_event ?hg (N := 4) ?hd (cs := #[.int .i64 0, .int .i64 0, .int .i64 0, .int .i64 0, .bool false, .string (⟨#[]⟩ : ByteArray)]) (t := 62) ?hr ?_; (case hd => rfl); (case hg => rfl); (case hr => exact B10x17_); intro gb484 hg w9 hbox hb; replace HO476 := Aside0.mk (Kd.N_below (Kd.N_elderB B10x1_ gb484 (Nat.le_of_eq hg.symm)) hb); have BK484 := Aside0.mk (hbox); have GW484 := Aside0.mk ((bs hg (below_size HB.out))); have GE484 := Aside0.mk ((bs hg (below_size HB.out))); replace HB := Aside0.mk (below_step B10x9_ hb); clear hb hbox hg; obtain ⟨hcz10_0, hcz10_1, hcz10_2, hcz10_3, hcz10_4, hcz10_5⟩ := cl6 BK484.out; obtain ⟨hfz10_0, hfz10_1, hfz10_2, hfz10_3, hfz10_4, hfz10_5⟩ := fr6 BK484.out) | ((with_reducible refine gate_store (t := 62) (p := 4) rfl ?_); refine store_event (t := 62) (p := 4) (v := ?vo_w11) (w1 := ((((((w9.setCell ⟨gb484, 0, none⟩ (.int .i64 t477)).setCell ⟨gb484, 1, none⟩ (.int .i64 t478)).setCell ⟨gb484, 2, none⟩ (.int .i64 t479)).setCell ⟨gb484, 3, none⟩ (.int .i64 t480)).setCell ⟨gb484, 4, none⟩ (.bool t481)).setCell ⟨gb484, 5, none⟩ (.string t482))) ?hg ?ho ?hn ?hr ?_; (case ho => rfl); (case hg => rfl); (case hn => rfl); (case hr => exact B10x17_); intro w11 hw; replace HO476 : Aside0 (Kd.N k82 82 w11 w.heap.size (fun k_ => k_ ≠ gb484) v475 t474) := ⟨(by rw [hw]; exact (by (with_reducible repeat (first | apply Kd.N_alloc | apply Kd.N_drewN | apply Kd.N_drew)); exact Kd.N_mono (Kd.N_far (p := ⟨gb484, 5, none⟩) (Kd.N_far (p := ⟨gb484, 4, none⟩) (Kd.N_far (p := ⟨gb484, 3, none⟩) (Kd.N_far (p := ⟨gb484, 2, none⟩) (Kd.N_far (p := ⟨gb484, 1, none⟩) (Kd.N_far (p := ⟨gb484, 0, none⟩) (Kd.N_mono HO476.out (fun k_ hk => (⟨hk, hk.2⟩ : _ ∧ k_ ≠ gb484))) (fun _ hk => hk.2) (.int .i64 t477)) (fun _ hk => hk.2) (.int .i64 t478)) (fun _ hk => hk.2) (.int .i64 t479)) (fun _ hk => hk.2) (.int .i64 t480)) (fun _ hk => hk.2) (.bool t481)) (fun _ hk => hk.2) (.string t482)) (fun _ hk => hk.1.2)))⟩; replace BK484 : Aside0 (w11.heap[gb484]? = some (.cells #[.int .i64 t477, .int .i64 t478, .int .i64 t479, .int .i64 t480, .bool t481, .string t482] 62 (0, 0))) := ⟨(by rw [hw]; exact (by (repeat (with_reducible (first | exact BK484.out | apply blk_drewN | apply blk_drew | apply blk_alloc | apply blk_put))); repeat (first | exact BK484.out | (simp only [List.setIfInBounds_toArray, List.set_cons_zero, List.set_cons_succ]; with_reducible rfl) | rfl)))⟩; replace HB : Aside0 (Below w.heap.size w w11) := ⟨(by rw [hw]; exact B10x8_)⟩; clear hw; obtain ⟨hcz12_0, hcz12_1, hcz12_2, hcz12_3, hcz12_4, hcz12_5⟩ := cl6 BK484.out; obtain ⟨hfz12_0, hfz12_1, hfz12_2, hfz12_3, hfz12_4, hfz12_5⟩ := fr6 BK484.out; obtain ⟨Ao13, co13, eo13⟩ := Kd.N_slice HO476.out; subst eo13) | ((with_reducible refine gate_callee (f := 39) rfl ?_); refine goesL_ (some 28) rfl rfl Try.func39 B10x21_ rfl #[.slice Ao13 t474.length co13, .agg #[.int .i64 t477, .int .i64 t478, .int .i64 t479, .int .i64 t480, .bool t481, .string t482], .int .i64 t483] rfl B10x4_ ?_; (with_reducible refine (impl_JoinBits.calls k _ _ t474 t477 t478 t479 t480 t481 t482 t483 t485 t488 t489 t490 t491 t492 t493 t494 _ ?side1 ?side2 A5.out).mono ?_); (case side1 => exact B10x19_); (case side2 => exact (Kd.N_reads' HO476.out).2.1); rintro e w14 ⟨v486, rfl, ho0, hb⟩; refine ⟨_, rfl, ?_⟩; have HO487 := Aside0.mk (KQ.N_lower (KQ.N_mono (ok' := fun k_ => some k_ ≠ (.slice Ao13 t474.length co13 : Value).ownBlock ∧ k_ ≠ gb484) (KQ.S_N (KQ.S_bound ho0)) (fun k_ hk_ => ⟨(Kd.fresh' (Kd.N_lt B10x1_) k_ hk_.2.1), (Kd.freshB (g := gb484) (o := .cells #[.int .i64 t477, .int .i64 t478, .int .i64 t479, .int .i64 t480, .bool t481, .string t482] 62 (0, 0)) B10x2_ k_ hk_.2.1)⟩)) (below_size B10x8_)); replace HO476 := Aside0.mk (Kd.N_elder' B10x1_ (KQ.S_base ho0) hb); replace BK484 := Aside0.mk (bb BK484.out hb); replace HB := Aside0.mk (below_step B10x8_ hb); (try clear hb); (try clear hl); (try clear ho0)) | ((with_reducible refine gate_dst (N := 7) rfl ?_); (try (refine gate_guard (by rfl) ?_; dsimp only)); refine box_event ?hg (N := 7) ?hd (cs := #[.int .i64 0, .int .i64 0, .int .i64 0, .int .i64 0, .bool false, .string (⟨#[]⟩ : ByteArray)]) (t := 62) ?hr ?_; (case hd => rfl); (case hg => rfl); (case hr => exact B10x17_); intro gb495 hg w15 hbox hb; replace HO476 := Aside0.mk (Kd.N_below (Kd.N_elderB B10x1_ gb495 (Nat.le_of_eq hg.symm)) hb); replace HO487 := Aside0.mk (KQ.N_below (KQ.N_elderB B10x7_ gb495 (Nat.le_of_eq hg.symm)) hb); have BK495 := Aside0.mk (hbox); have GW495 := Aside0.mk ((bs hg (below_size HB.out))); have GE495 := Aside0.mk ((bs hg (below_size HB.out))); replace HB := Aside0.mk (below_step B10x8_ hb); have NB484_495 := Aside0.mk ((nl hg (blk_lt BK484.out))); have NB495_484 := Aside0.mk ((ng hg (blk_lt BK484.out))); replace BK484 := Aside0.mk (bb BK484.out hb); clear hb hbox hg; have hnb16 := NB495_484.out; have hnc16 := NB484_495.out; obtain ⟨hcz17_0, hcz17_1, hcz17_2, hcz17_3, hcz17_4, hcz17_5⟩ := cl6 BK495.out; obtain ⟨hfz17_0, hfz17_1, hfz17_2, hfz17_3, hfz17_4, hfz17_5⟩ := fr6 BK495.out) | ((with_reducible refine gate_store (t := 62) (p := 7) rfl ?_); refine store_event (t := 62) (p := 7) (v := ?vo_w18) (w1 := ((((((w15.setCell ⟨gb495, 0, none⟩ (.int .i64 t488)).setCell ⟨gb495, 1, none⟩ (.int .i64 t489)).setCell ⟨gb495, 2, none⟩ (.int .i64 t490)).setCell ⟨gb495, 3, none⟩ (.int .i64 t491)).setCell ⟨gb495, 4, none⟩ (.bool t492)).setCell ⟨gb495, 5, none⟩ (.string t493))) ?hg ?ho ?hn ?hr ?_; (case ho => rfl); (case hg => rfl); (case hn => rfl); (case hr => exact B10x17_); intro w18 hw; replace HO476 : Aside0 (Kd.N k82 82 w18 w.heap.size (fun k_ => some k_ ≠ (v486 : Value).ownBlock ∧ k_ ≠ gb484 ∧ k_ ≠ gb495) (.slice Ao13 t474.length co13) t474) := ⟨(by rw [hw]; exact (by (with_reducible repeat (first | apply Kd.N_alloc | apply Kd.N_drewN | apply Kd.N_drew)); exact Kd.N_mono (Kd.N_far (p := ⟨gb495, 5, none⟩) (Kd.N_far (p := ⟨gb495, 4, none⟩) (Kd.N_far (p := ⟨gb495, 3, none⟩) (Kd.N_far (p := ⟨gb495, 2, none⟩) (Kd.N_far (p := ⟨gb495, 1, none⟩) (Kd.N_far (p := ⟨gb495, 0, none⟩) (Kd.N_mono HO476.out (fun k_ hk => (⟨hk, hk.2⟩ : _ ∧ k_ ≠ gb495))) (fun _ hk => hk.2) (.int .i64 t488)) (fun _ hk => hk.2) (.int .i64 t489)) (fun _ hk => hk.2) (.int .i64 t490)) (fun _ hk => hk.2) (.int .i64 t491)) (fun _ hk => hk.2) (.bool t492)) (fun _ hk => hk.2) (.string t493)) (fun _ hk => ⟨hk.1.1.2, ⟨hk.1.1.1, hk.1.2⟩⟩)))⟩; replace HO487 : Aside0 (KQ.N k82 82 w18 w.heap.size (fun k_ => some k_ ≠ (.slice Ao13 t474.length co13 : Value).ownBlock ∧ k_ ≠ gb484 ∧ k_ ≠ gb495) v486 t485) := ⟨(by rw [hw]; exact (by (with_reducible repeat (first | apply Kd.N_alloc | apply Kd.N_drewN | apply Kd.N_drew)); exact KQ.N_mono (KQ.N_far (p := ⟨gb495, 5, none⟩) (KQ.N_far (p := ⟨gb495, 4, none⟩) (KQ.N_far (p := ⟨gb495, 3, none⟩) (KQ.N_far (p := ⟨gb495, 2, none⟩) (KQ.N_far (p := ⟨gb495, 1, none⟩) (KQ.N_far (p := ⟨gb495, 0, none⟩) (KQ.N_mono HO487.out (fun k_ hk => (⟨hk, hk.2⟩ : _ ∧ k_ ≠ gb495))) (fun _ hk => hk.2) (.int .i64 t488)) (fun _ hk => hk.2) (.int .i64 t489)) (fun _ hk => hk.2) (.int .i64 t490)) (fun _ hk => hk.2) (.int .i64 t491)) (fun _ hk => hk.2) (.bool t492)) (fun _ hk => hk.2) (.string t493)) (fun _ hk => ⟨hk.1.1.1, ⟨hk.1.1.2, hk.1.2⟩⟩)))⟩; replace BK484 : Aside0 (w18.heap[gb484]? = some (.cells #[.int .i64 t477, .int .i64 t478, .int .i64 t479, .int .i64 t480, .bool t481, .string t482] 62 (0, 0))) := ⟨(by rw [hw]; exact (by (repeat (with_reducible (first | exact BK484.out | apply blk_drewN | apply blk_drew | apply blk_alloc | apply blk_put | apply bf NB484_495.out))); repeat (first | exact BK484.out | (simp only [List.setIfInBounds_toArray, List.set_cons_zero, List.set_cons_succ]; with_reducible rfl) | rfl)))⟩; replace BK495 : Aside0 (w18.heap[gb495]? = some (.cells #[.int .i64 t488, .int .i64 t489, .int .i64 t490, .int .i64 t491, .bool t492, .string t493] 62 (0, 0))) := ⟨(by rw [hw]; exact (by (repeat (with_reducible (first | exact BK495.out | apply blk_drewN | apply blk_drew | apply blk_alloc | apply blk_put))); repeat (first | exact BK495.out | (simp only [List.setIfInBounds_toArray, List.set_cons_zero, List.set_cons_succ]; with_reducible rfl) | rfl)))⟩; replace HB : Aside0 (Below w.heap.size w w18) := ⟨(by rw [hw]; exact B10x5_)⟩; clear hw; obtain ⟨hcz19_0, hcz19_1, hcz19_2, hcz19_3, hcz19_4, hcz19_5⟩ := cl6 BK484.out; obtain ⟨hfz19_0, hfz19_1, hfz19_2, hfz19_3, hfz19_4, hfz19_5⟩ := fr6 BK484.out) | ((with_reducible refine gate_callee (f := 48) rfl ?_); refine goesL_ (some 36) rfl rfl Try.func48 B10x21_ rfl #[.slice Ao13 t474.length co13, .agg #[.int .i64 t477, .int .i64 t478, .int .i64 t479, .int .i64 t480, .bool t481, .string t482], .int .i64 t483] rfl B10x4_ ?_; (with_reducible refine (spec_JoinBits.calls k _ _ t474 t477 t478 t479 t480 t481 t482 t483 t496 t499 t500 t501 t502 t503 t504 t505 _ ?side1 ?side2 A6.out).mono ?_); (case side1 => exact B10x19_); (case side2 => exact (Kd.N_reads' HO476.out).2.1); rintro e w20 ⟨v497, rfl, ho0, hb⟩; refine ⟨_, rfl, ?_⟩; have HO498 := Aside0.mk (Kd.N_lower (Kd.N_mono (ok' := fun k_ => some k_ ≠ (.slice Ao13 t474.length co13 : Value).ownBlock ∧ some k_ ≠ (v486 : Value).ownBlock ∧ k_ ≠ gb484 ∧ k_ ≠ gb495) ho0 (fun k_ hk_ => ⟨(Kd.fresh' (Kd.N_lt B10x1_) k_ hk_), (Kd.fresh' (KQ.N_lt B10x7_) k_ hk_), (Kd.freshB (g := gb484) (o := .cells #[.int .i64 t477, .int .i64 t478, .int .i64 t479, .int .i64 t480, .bool t481, .string t482] 62 (0, 0)) B10x2_ k_ hk_), (Kd.freshB (g := gb495) (o := .cells #[.int .i64 t488, .int .i64 t489, .int .i64 t490, .int .i64 t491, .bool t492, .string t493] 62 (0, 0)) B10x3_ k_ hk_)⟩)) (below_size B10x5_)); replace HO476 := Aside0.mk (Kd.N_elder' B10x1_ (Kd.N_base ho0) hb); replace HO487 := Aside0.mk (KQ.N_elder' B10x7_ (Kd.N_base ho0) hb); replace BK484 := Aside0.mk (bb BK484.out hb); replace BK495 := Aside0.mk (bb BK495.out hb); replace HB := Aside0.mk (below_step B10x5_ hb); (try clear hb); (try clear hl); (try clear ho0)) | ((with_reducible refine gate_dst (N := 10) rfl ?_); (try (refine gate_guard (by rfl) ?_; dsimp only)); refine box_event ?hg (N := 10) ?hd (cs := #[.int .i64 0, .int .i64 0, .int .i64 0, .int .i64 0, .bool false, .string (⟨#[]⟩ : ByteArray)]) (t := 62) ?hr ?_; (case hd => rfl); (case hg => rfl); (case hr => exact B10x17_); intro gb506 hg w21 hbox hb; replace HO476 := Aside0.mk (Kd.N_below (Kd.N_elderB B10x1_ gb506 (Nat.le_of_eq hg.symm)) hb); replace HO487 := Aside0.mk (KQ.N_below (KQ.N_elderB B10x7_ gb506 (Nat.le_of_eq hg.symm)) hb); replace HO498 := Aside0.mk (Kd.N_below (Kd.N_elderB B10x16_ gb506 (Nat.le_of_eq hg.symm)) hb); have BK506 := Aside0.mk (hbox); have GW506 := Aside0.mk ((bs hg (below_size HB.out))); have GE506 := Aside0.mk ((bs hg (below_size HB.out))); replace HB := Aside0.mk (below_step B10x5_ hb); have NB484_506 := Aside0.mk ((nl hg (blk_lt BK484.out))); have NB506_484 := Aside0.mk ((ng hg (blk_lt BK484.out))); replace BK484 := Aside0.mk (bb BK484.out hb); have NB495_506 := Aside0.mk ((nl hg (blk_lt BK495.out))); have NB506_495 := Aside0.mk ((ng hg (blk_lt BK495.out))); replace BK495 := Aside0.mk (bb BK495.out hb); clear hb hbox hg; have hnb22 := NB506_484.out; have hnc22 := NB484_506.out; have hnb23 := NB506_495.out; have hnc23 := NB495_506.out; obtain ⟨hcz24_0, hcz24_1, hcz24_2, hcz24_3, hcz24_4, hcz24_5⟩ := cl6 BK506.out; obtain ⟨hfz24_0, hfz24_1, hfz24_2, hfz24_3, hfz24_4, hfz24_5⟩ := fr6 BK506.out) | ((with_reducible refine gate_store (t := 62) (p := 10) rfl ?_); refine store_event (t := 62) (p := 10) (v := ?vo_w25) (w1 := ((((((w21.setCell ⟨gb506, 0, none⟩ (.int .i64 t499)).setCell ⟨gb506, 1, none⟩ (.int .i64 t500)).setCell ⟨gb506, 2, none⟩ (.int .i64 t501)).setCell ⟨gb506, 3, none⟩ (.int .i64 t502)).setCell ⟨gb506, 4, none⟩ (.bool t503)).setCell ⟨gb506, 5, none⟩ (.string t504))) ?hg ?ho ?hn ?hr ?_; (case ho => rfl); (case hg => rfl); (case hn => rfl); (case hr => exact B10x17_); intro w25 hw; replace HO476 : Aside0 (Kd.N k82 82 w25 w.heap.size (fun k_ => some k_ ≠ (v486 : Value).ownBlock ∧ some k_ ≠ (v497 : Value).ownBlock ∧ k_ ≠ gb484 ∧ k_ ≠ gb495 ∧ k_ ≠ gb506) (.slice Ao13 t474.length co13) t474) := ⟨(by rw [hw]; exact (by (with_reducible repeat (first | apply Kd.N_alloc | apply Kd.N_drewN | apply Kd.N_drew)); exact Kd.N_mono (Kd.N_far (p := ⟨gb506, 5, none⟩) (Kd.N_far (p := ⟨gb506, 4, none⟩) (Kd.N_far (p := ⟨gb506, 3, none⟩) (Kd.N_far (p := ⟨gb506, 2, none⟩) (Kd.N_far (p := ⟨gb506, 1, none⟩) (Kd.N_far (p := ⟨gb506, 0, none⟩) (Kd.N_mono HO476.out (fun k_ hk => (⟨hk, hk.2⟩ : _ ∧ k_ ≠ gb506))) (fun _ hk => hk.2) (.int .i64 t499)) (fun _ hk => hk.2) (.int .i64 t500)) (fun _ hk => hk.2) (.int .i64 t501)) (fun _ hk => hk.2) (.int .i64 t502)) (fun _ hk => hk.2) (.bool t503)) (fun _ hk => hk.2) (.string t504)) (fun _ hk => ⟨hk.1.1.1.1, ⟨hk.1.1.2, ⟨hk.1.1.1.2.1, ⟨hk.1.1.1.2.2, hk.1.2⟩⟩⟩⟩)))⟩; replace HO487 : Aside0 (KQ.N k82 82 w25 w.heap.size (fun k_ => some k_ ≠ (.slice Ao13 t474.length co13 : Value).ownBlock ∧ some k_ ≠ (v497 : Value).ownBlock ∧ k_ ≠ gb484 ∧ k_ ≠ gb495 ∧ k_ ≠ gb506) v486 t485) := ⟨(by rw [hw]; exact (by (with_reducible repeat (first | apply Kd.N_alloc | apply Kd.N_drewN | apply Kd.N_drew)); exact KQ.N_mono (KQ.N_far (p := ⟨gb506, 5, none⟩) (KQ.N_far (p := ⟨gb506, 4, none⟩) (KQ.N_far (p := ⟨gb506, 3, none⟩) (KQ.N_far (p := ⟨gb506, 2, none⟩) (KQ.N_far (p := ⟨gb506, 1, none⟩) (KQ.N_far (p := ⟨gb506, 0, none⟩) (KQ.N_mono HO487.out (fun k_ hk => (⟨hk, hk.2⟩ : _ ∧ k_ ≠ gb506))) (fun _ hk => hk.2) (.int .i64 t499)) (fun _ hk => hk.2) (.int .i64 t500)) (fun _ hk => hk.2) (.int .i64 t501)) (fun _ hk => hk.2) (.int .i64 t502)) (fun _ hk => hk.2) (.bool t503)) (fun _ hk => hk.2) (.string t504)) (fun _ hk => ⟨hk.1.1.1.1, ⟨hk.1.1.2, ⟨hk.1.1.1.2.1, ⟨hk.1.1.1.2.2, hk.1.2⟩⟩⟩⟩)))⟩; replace HO498 : Aside0 (Kd.N k82 82 w25 w.heap.size (fun k_ => some k_ ≠ (.slice Ao13 t474.length co13 : Value).ownBlock ∧ some k_ ≠ (v486 : Value).ownBlock ∧ k_ ≠ gb484 ∧ k_ ≠ gb495 ∧ k_ ≠ gb506) v497 t496) := ⟨(by rw [hw]; exact (by (with_reducible repeat (first | apply Kd.N_alloc | apply Kd.N_drewN | apply Kd.N_drew)); exact Kd.N_mono (Kd.N_far (p := ⟨gb506, 5, none⟩) (Kd.N_far (p := ⟨gb506, 4, none⟩) (Kd.N_far (p := ⟨gb506, 3, none⟩) (Kd.N_far (p := ⟨gb506, 2, none⟩) (Kd.N_far (p := ⟨gb506, 1, none⟩) (Kd.N_far (p := ⟨gb506, 0, none⟩) (Kd.N_mono HO498.out (fun k_ hk => (⟨hk, hk.2⟩ : _ ∧ k_ ≠ gb506))) (fun _ hk => hk.2) (.int .i64 t499)) (fun _ hk => hk.2) (.int .i64 t500)) (fun _ hk => hk.2) (.int .i64 t501)) (fun _ hk => hk.2) (.int .i64 t502)) (fun _ hk => hk.2) (.bool t503)) (fun _ hk => hk.2) (.string t504)) (fun _ hk => ⟨hk.1.1.1, ⟨hk.1.1.2.1, ⟨hk.1.1.2.2.1, ⟨hk.1.1.2.2.2, hk.1.2⟩⟩⟩⟩)))⟩; replace BK484 : Aside0 (w25.heap[gb484]? = some (.cells #[.int .i64 t477, .int .i64 t478, .int .i64 t479, .int .i64 t480, .bool t481, .string t482] 62 (0, 0))) := ⟨(by rw [hw]; exact (by (repeat (with_reducible (first | exact BK484.out | apply blk_drewN | apply blk_drew | apply blk_alloc | apply blk_put | apply bf NB484_506.out))); repeat (first | exact BK484.out | (simp only [List.setIfInBounds_toArray, List.set_cons_zero, List.set_cons_succ]; with_reducible rfl) | rfl)))⟩; replace BK495 : Aside0 (w25.heap[gb495]? = some (.cells #[.int .i64 t488, .int .i64 t489, .int .i64 t490, .int .i64 t491, .bool t492, .string t493] 62 (0, 0))) := ⟨(by rw [hw]; exact (by (repeat (with_reducible (first | exact BK495.out | apply blk_drewN | apply blk_drew | apply blk_alloc | apply blk_put | apply bf NB495_506.out))); repeat (first | exact BK495.out | (simp only [List.setIfInBounds_toArray, List.set_cons_zero, List.set_cons_succ]; with_reducible rfl) | rfl)))⟩; replace BK506 : Aside0 (w25.heap[gb506]? = some (.cells #[.int .i64 t499, .int .i64 t500, .int .i64 t501, .int .i64 t502, .bool t503, .string t504] 62 (0, 0))) := ⟨(by rw [hw]; exact (by (repeat (with_reducible (first | exact BK506.out | apply blk_drewN | apply blk_drew | apply blk_alloc | apply blk_put))); repeat (first | exact BK506.out | (simp only [List.setIfInBounds_toArray, List.set_cons_zero, List.set_cons_succ]; with_reducible rfl) | rfl)))⟩; replace HB : Aside0 (Below w.heap.size w w25) := ⟨(by rw [hw]; exact B10x0_)⟩; clear hw; obtain ⟨Ao26, co26, eo26⟩ := KQ.N_slice HO487.out; subst eo26) | ((with_reducible refine gate_callee (f := 43) rfl ?_); refine goesL_ (some 43) rfl rfl Try.func43 B10x21_ rfl #[.slice Ao26 t485.length co26, .int .i64 (wrap64 (t483 + 5))] rfl B10x4_ ?_; (with_reducible refine (impl_TidyBits.calls k _ _ t485 (wrap64 (t483 + 5)) t507 _ ?side1 ?side2 A7.out).mono ?_); (case side1 => repeat (first | exact (KQ.N_reads' HO487.out).2.2 | (with_reducible refine Kd.C_alloc ?_ _) | (with_reducible refine Kd.C_drewN ?_ _) | (with_reducible refine Kd.C_drew ?_))); (case side2 => exact (KQ.N_reads' HO487.out).2.1); rintro e w27 ⟨v508, rfl, ho0, hb⟩; refine ⟨_, rfl, ?_⟩; have HO509 := Aside0.mk (Kd.N_lower (Kd.N_mono (ok' := fun k_ => some k_ ≠ (.slice Ao13 t474.length co13 : Value).ownBlock ∧ some k_ ≠ (.slice Ao26 t485.length co26 : Value).ownBlock ∧ some k_ ≠ (v497 : Value).ownBlock ∧ k_ ≠ gb484 ∧ k_ ≠ gb495 ∧ k_ ≠ gb506) (Kd.S_N (Kd.S_bound ho0)) (fun k_ hk_ => ⟨(Kd.fresh' (Kd.N_lt B10x1_) k_ hk_.2.1), (Kd.fresh' (KQ.N_lt B10x7_) k_ hk_.2.1), (Kd.fresh' (Kd.N_lt B10x16_) k_ hk_.2.1), (Kd.freshB (g := gb484) (o := .cells #[.int .i64 t477, .int .i64 t478, .int .i64 t479, .int .i64 t480, .bool t481, .string t482] 62 (0, 0)) B10x2_ k_ hk_.2.1), (Kd.freshB (g := gb495) (o := .cells #[.int .i64 t488, .int .i64 t489, .int .i64 t490, .int .i64 t491, .bool t492, .string t493] 62 (0, 0)) B10x3_ k_ hk_.2.1), (Kd.freshB (g := gb506) (o := .cells #[.int .i64 t499, .int .i64 t500, .int .i64 t501, .int .i64 t502, .bool t503, .string t504] 62 (0, 0)) B10x6_ k_ hk_.2.1)⟩)) (below_size B10x0_)); replace HO476 := Aside0.mk (Kd.N_elder' B10x1_ (Kd.S_base ho0) hb); replace HO487 := Aside0.mk (KQ.N_elder' B10x7_ (Kd.S_base ho0) hb); replace HO498 := Aside0.mk (Kd.N_elder' B10x16_ (Kd.S_base ho0) hb); replace BK484 := Aside0.mk (bb BK484.out hb); replace BK495 := Aside0.mk (bb BK495.out hb); replace BK506 := Aside0.mk (bb BK506.out hb); replace HB := Aside0.mk (below_step B10x0_ hb); (try clear hb); (try clear hl); (try clear ho0)))
  go_loopg [13, 14] k (fun kq v13 v14 w' => ∃ (x13_1 : Int) (x14_1 : Int), v13 = .int .i64 x13_1 ∧ v14 = .int .i64 x14_1 ∧ Aside0 (laws_FnBits.l0 kq t474 t483 t485 t494 t496 t505 t507 x13_1 x14_1 t488 t489 t490 t491 t492 t493 t499 t500 t501 t502 t503 t504 = some r) ∧ Aside0 (kq ≤ k) ∧ Aside0 (Kd.N k82 82 w' w.heap.size (fun k_ => some k_ ≠ ((.slice Ao26 t485.length co26) : Value).ownBlock ∧ some k_ ≠ (v497 : Value).ownBlock ∧ some k_ ≠ (v508 : Value).ownBlock ∧ k_ ≠ gb484 ∧ k_ ≠ gb495 ∧ k_ ≠ gb506) (.slice Ao13 t474.length co13) t474) ∧ Aside0 (KQ.N k82 82 w' w.heap.size (fun k_ => some k_ ≠ ((.slice Ao13 t474.length co13) : Value).ownBlock ∧ some k_ ≠ (v497 : Value).ownBlock ∧ some k_ ≠ (v508 : Value).ownBlock ∧ k_ ≠ gb484 ∧ k_ ≠ gb495 ∧ k_ ≠ gb506) (.slice Ao26 t485.length co26) t485) ∧ Aside0 (Kd.N k82 82 w' w.heap.size (fun k_ => some k_ ≠ ((.slice Ao13 t474.length co13) : Value).ownBlock ∧ some k_ ≠ ((.slice Ao26 t485.length co26) : Value).ownBlock ∧ some k_ ≠ (v508 : Value).ownBlock ∧ k_ ≠ gb484 ∧ k_ ≠ gb495 ∧ k_ ≠ gb506) v497 t496) ∧ Aside0 (Kd.N k82 82 w' w.heap.size (fun k_ => some k_ ≠ ((.slice Ao13 t474.length co13) : Value).ownBlock ∧ some k_ ≠ ((.slice Ao26 t485.length co26) : Value).ownBlock ∧ some k_ ≠ (v497 : Value).ownBlock ∧ k_ ≠ gb484 ∧ k_ ≠ gb495 ∧ k_ ≠ gb506) v508 t507) ∧ Aside0 (w'.heap[gb484]? = some (.cells #[.int .i64 t477, .int .i64 t478, .int .i64 t479, .int .i64 t480, .bool t481, .string t482] 62 (0, 0))) ∧ Aside0 (w'.heap[gb495]? = some (.cells #[.int .i64 t488, .int .i64 t489, .int .i64 t490, .int .i64 t491, .bool t492, .string t493] 62 (0, 0))) ∧ Aside0 (w'.heap[gb506]? = some (.cells #[.int .i64 t499, .int .i64 t500, .int .i64 t501, .int .i64 t502, .bool t503, .string t504] 62 (0, 0))) ∧ Aside0 (Below w.heap.size w w'))
  case atStart => exact ⟨(0), (0), (be_), (be_), H', ⟨Nat.le_refl _⟩, ⟨(by (with_reducible repeat (first | apply Kd.N_alloc | apply Kd.N_drewN | apply Kd.N_drew)); exact Kd.N_mono HO476.out (fun _ hk => ⟨hk.1.1, ⟨hk.1.2.1, ⟨hk.2, ⟨hk.1.2.2.1, ⟨hk.1.2.2.2.1, hk.1.2.2.2.2⟩⟩⟩⟩⟩))⟩, ⟨(by (with_reducible repeat (first | apply Kd.N_alloc | apply Kd.N_drewN | apply Kd.N_drew)); exact KQ.N_mono HO487.out (fun _ hk => ⟨hk.1.1, ⟨hk.1.2.1, ⟨hk.2, ⟨hk.1.2.2.1, ⟨hk.1.2.2.2.1, hk.1.2.2.2.2⟩⟩⟩⟩⟩))⟩, ⟨(by (with_reducible repeat (first | apply Kd.N_alloc | apply Kd.N_drewN | apply Kd.N_drew)); exact Kd.N_mono HO498.out (fun _ hk => ⟨hk.1.1, ⟨hk.1.2.1, ⟨hk.2, ⟨hk.1.2.2.1, ⟨hk.1.2.2.2.1, hk.1.2.2.2.2⟩⟩⟩⟩⟩))⟩, ⟨(by (with_reducible repeat (first | apply Kd.N_alloc | apply Kd.N_drewN | apply Kd.N_drew)); exact HO509.out)⟩, ⟨B10x2_⟩, ⟨B10x3_⟩, ⟨B10x6_⟩, ⟨B10x0_⟩⟩
  case round =>
   clear H'
   try clear c3
   try clear hcz10_0
   try clear hcz10_1
   try clear hcz10_2
   try clear hcz10_3
   try clear hcz10_4
   try clear hcz10_5
   try clear hcz12_0
   try clear hcz12_1
   try clear hcz12_2
   try clear hcz12_3
   try clear hcz12_4
   try clear hcz12_5
   try clear hcz17_0
   try clear hcz17_1
   try clear hcz17_2
   try clear hcz17_3
   try clear hcz17_4
   try clear hcz17_5
   try clear hcz19_0
   try clear hcz19_1
   try clear hcz19_2
   try clear hcz19_3
   try clear hcz19_4
   try clear hcz19_5
   try clear hcz24_0
   try clear hcz24_1
   try clear hcz24_2
   try clear hcz24_3
   try clear hcz24_4
   try clear hcz24_5
   try clear hfz10_0
   try clear hfz10_1
   try clear hfz10_2
   try clear hfz10_3
   try clear hfz10_4
   try clear hfz10_5
   try clear hfz12_0
   try clear hfz12_1
   try clear hfz12_2
   try clear hfz12_3
   try clear hfz12_4
   try clear hfz12_5
   try clear hfz17_0
   try clear hfz17_1
   try clear hfz17_2
   try clear hfz17_3
   try clear hfz17_4
   try clear hfz17_5
   try clear hfz19_0
   try clear hfz19_1
   try clear hfz19_2
   try clear hfz19_3
   try clear hfz19_4
   try clear hfz19_5
   try clear hfz24_0
   try clear hfz24_1
   try clear hfz24_2
   try clear hfz24_3
   try clear hfz24_4
   try clear hfz24_5
   obtain ⟨x13_1, x14_1, rfl, rfl, HA, HK1, HO_3, HO_6, HO_9, HO_12, BK484, BK495, BK506, HB⟩ := hrel
   cases gk with
   | zero => exact absurd HA.out (by simp [laws_FnBits.l0])
   | succ k1 =>
    have H := HA.out
    clear HA
    simp only [laws_FnBits.l0] at H
    by_cases c28 : x14_1 < (t485.length : Int)
    ·rw [if_pos c28] at H
     have c28b0 : decide (x14_1 < (t485.length : Int)) = true := decide_eq_true c28
     clear c28
     by_cases c29 : 0 ≤ x14_1
     rotate_left
     ·rw [if_neg c29] at H
      exact absurd H (by simp)
     rw [if_pos c29] at H
     have c29b0 : decide (0 ≤ x14_1) = true := decide_eq_true c29
     clear c29
     by_cases c30 : ((rd_T82 t485 x14_1).f5) > (wrap64 (t483 + 5))
     ·rw [if_pos c30] at H
      have c30b0 : decide ((wrap64 (t483 + 5)) < ((rd_T82 t485 x14_1).f5)) = true := decide_eq_true c30
      clear c30
      have H' := Aside0.mk H
      clear H
      have p510 : 0 ≤ (x14_1 : Int) := of_decide_eq_true B10x10_
      have q510 : x14_1 < (t485.length : Int) := of_decide_eq_true B10x10_
      obtain ⟨ad510, A510_2, c510_2, A510_3, c510_3, e510, hx510_0, hx510_1, hx510_2, hx510_3, hx510_4, hx510_5, hl510_2, hi510_2, hl510_3, hi510_3⟩ := at_T82 (KQ.N_reads' HO_6.out).2.2 x14_1 p510 q510
      cases e510
      obtain ⟨ce510, hce510, hMe510, hcc510⟩ := KQ.N_get HO_6.out z82 x14_1 p510 B10x20_
      obtain ⟨ua510_2, uc510_2, ua510_3, uc510_3, rfl, ul510_2, ge510_2, ul510_3, ge510_3⟩ := k82_openF hMe510
      have hv510_2 := hcc510 2 _ rfl
      rw [add_field _ _ 2 (by omega)] at hv510_2
      replace hv510_2 := Option.some.inj (hv510_2.symm.trans hx510_2)
      injection hv510_2 with hva_ hvn_ hvc_
      rw [hva_] at ge510_2
      rw [hvc_] at ul510_2
      have HL510_2 := Aside0.mk (show Kd.V Kd.string 9 _ w.heap.size _ _ ((rd_T82 t485 x14_1).f2) from Kd.V_mk ul510_2 ge510_2)
      clear hva_ hvn_ hvc_ ge510_2 ul510_2
      have hv510_3 := hcc510 3 _ rfl
      rw [add_field _ _ 3 (by omega)] at hv510_3
      replace hv510_3 := Option.some.inj (hv510_3.symm.trans hx510_3)
      injection hv510_3 with hva_ hvn_ hvc_
      rw [hva_] at ge510_3
      rw [hvc_] at ul510_3
      have HL510_3 := Aside0.mk (show Kd.V (Kd.int .i64) 3 _ w.heap.size _ _ ((rd_T82 t485 x14_1).f3) from Kd.V_mk ul510_3 ge510_3)
      clear hva_ hvn_ hvc_ ge510_3 ul510_3
      clear hcc510 hce510
      have HR510_2 := Aside0.mk hi510_2
      have HC510_2 := Aside0.mk hl510_2
      clear hi510_2 hl510_2
      have HR510_3 := Aside0.mk hi510_3
      have HC510_3 := Aside0.mk hl510_3
      clear hi510_3 hl510_3
      replace p510 := eq_true p510
      replace q510 := eq_true q510
      go_wp2
      go_roundg k1
      case measure => have := HK1.out; omega
      case rel => exact ⟨(wrap64 (x13_1 + 1)), (wrap64 (x14_1 + 1)), (be_), (be_), H', ⟨(by have := HK1.out; omega)⟩, ⟨B10x12_⟩, ⟨B10x13_⟩, ⟨B10x14_⟩, ⟨B10x11_⟩, ⟨B10x2_⟩, ⟨B10x3_⟩, ⟨B10x6_⟩, ⟨B10x0_⟩⟩
     ·rw [if_neg c30] at H
      have c30b0 : decide ((wrap64 (t483 + 5)) < ((rd_T82 t485 x14_1).f5)) = false := decide_eq_false c30
      clear c30
      have H' := Aside0.mk H
      clear H
      have p510 : 0 ≤ (x14_1 : Int) := of_decide_eq_true B10x10_
      have q510 : x14_1 < (t485.length : Int) := of_decide_eq_true B10x10_
      obtain ⟨ad510, A510_2, c510_2, A510_3, c510_3, e510, hx510_0, hx510_1, hx510_2, hx510_3, hx510_4, hx510_5, hl510_2, hi510_2, hl510_3, hi510_3⟩ := at_T82 (KQ.N_reads' HO_6.out).2.2 x14_1 p510 q510
      cases e510
      obtain ⟨ce510, hce510, hMe510, hcc510⟩ := KQ.N_get HO_6.out z82 x14_1 p510 B10x20_
      obtain ⟨ua510_2, uc510_2, ua510_3, uc510_3, rfl, ul510_2, ge510_2, ul510_3, ge510_3⟩ := k82_openF hMe510
      have hv510_2 := hcc510 2 _ rfl
      rw [add_field _ _ 2 (by omega)] at hv510_2
      replace hv510_2 := Option.some.inj (hv510_2.symm.trans hx510_2)
      injection hv510_2 with hva_ hvn_ hvc_
      rw [hva_] at ge510_2
      rw [hvc_] at ul510_2
      have HL510_2 := Aside0.mk (show Kd.V Kd.string 9 _ w.heap.size _ _ ((rd_T82 t485 x14_1).f2) from Kd.V_mk ul510_2 ge510_2)
      clear hva_ hvn_ hvc_ ge510_2 ul510_2
      have hv510_3 := hcc510 3 _ rfl
      rw [add_field _ _ 3 (by omega)] at hv510_3
      replace hv510_3 := Option.some.inj (hv510_3.symm.trans hx510_3)
      injection hv510_3 with hva_ hvn_ hvc_
      rw [hva_] at ge510_3
      rw [hvc_] at ul510_3
      have HL510_3 := Aside0.mk (show Kd.V (Kd.int .i64) 3 _ w.heap.size _ _ ((rd_T82 t485 x14_1).f3) from Kd.V_mk ul510_3 ge510_3)
      clear hva_ hvn_ hvc_ ge510_3 ul510_3
      clear hcc510 hce510
      have HR510_2 := Aside0.mk hi510_2
      have HC510_2 := Aside0.mk hl510_2
      clear hi510_2 hl510_2
      have HR510_3 := Aside0.mk hi510_3
      have HC510_3 := Aside0.mk hl510_3
      clear hi510_3 hl510_3
      replace p510 := eq_true p510
      replace q510 := eq_true q510
      go_wp2
      go_roundg k1
      case measure => have := HK1.out; omega
      case rel => exact ⟨(x13_1), (wrap64 (x14_1 + 1)), (be_), (be_), H', ⟨(by have := HK1.out; omega)⟩, ⟨B10x12_⟩, ⟨B10x13_⟩, ⟨B10x14_⟩, ⟨B10x11_⟩, ⟨B10x2_⟩, ⟨B10x3_⟩, ⟨B10x6_⟩, ⟨B10x0_⟩⟩
    ·rw [if_neg c28] at H
     have c28b0 : decide (x14_1 < (t485.length : Int)) = false := decide_eq_false c28
     clear c28
     have H' := Aside0.mk H
     clear H
     go_wp2
     go_loopg [15] k1 (fun kq v15 w' => ∃ (x15_2 : Int), v15 = .int .i64 x15_2 ∧ Aside0 (laws_FnBits.l1 kq t474 t483 t485 t494 t496 t505 t507 x13_1 x15_2 t488 t489 t490 t491 t492 t493 t499 t500 t501 t502 t503 t504 = some r) ∧ Aside0 (kq ≤ k1) ∧ Aside0 (Kd.N k82 82 w' w.heap.size (fun k_ => some k_ ≠ ((.slice Ao26 t485.length co26) : Value).ownBlock ∧ some k_ ≠ (v497 : Value).ownBlock ∧ some k_ ≠ (v508 : Value).ownBlock ∧ k_ ≠ gb484 ∧ k_ ≠ gb495 ∧ k_ ≠ gb506) (.slice Ao13 t474.length co13) t474) ∧ Aside0 (KQ.N k82 82 w' w.heap.size (fun k_ => some k_ ≠ ((.slice Ao13 t474.length co13) : Value).ownBlock ∧ some k_ ≠ (v497 : Value).ownBlock ∧ some k_ ≠ (v508 : Value).ownBlock ∧ k_ ≠ gb484 ∧ k_ ≠ gb495 ∧ k_ ≠ gb506) (.slice Ao26 t485.length co26) t485) ∧ Aside0 (Kd.N k82 82 w' w.heap.size (fun k_ => some k_ ≠ ((.slice Ao13 t474.length co13) : Value).ownBlock ∧ some k_ ≠ ((.slice Ao26 t485.length co26) : Value).ownBlock ∧ some k_ ≠ (v508 : Value).ownBlock ∧ k_ ≠ gb484 ∧ k_ ≠ gb495 ∧ k_ ≠ gb506) v497 t496) ∧ Aside0 (Kd.N k82 82 w' w.heap.size (fun k_ => some k_ ≠ ((.slice Ao13 t474.length co13) : Value).ownBlock ∧ some k_ ≠ ((.slice Ao26 t485.length co26) : Value).ownBlock ∧ some k_ ≠ (v497 : Value).ownBlock ∧ k_ ≠ gb484 ∧ k_ ≠ gb495 ∧ k_ ≠ gb506) v508 t507) ∧ Aside0 (w'.heap[gb484]? = some (.cells #[.int .i64 t477, .int .i64 t478, .int .i64 t479, .int .i64 t480, .bool t481, .string t482] 62 (0, 0))) ∧ Aside0 (w'.heap[gb495]? = some (.cells #[.int .i64 t488, .int .i64 t489, .int .i64 t490, .int .i64 t491, .bool t492, .string t493] 62 (0, 0))) ∧ Aside0 (w'.heap[gb506]? = some (.cells #[.int .i64 t499, .int .i64 t500, .int .i64 t501, .int .i64 t502, .bool t503, .string t504] 62 (0, 0))) ∧ Aside0 (Below w.heap.size w w'))
     case atStart => exact ⟨(0), (be_), H', ⟨Nat.le_refl _⟩, ⟨B10x12_⟩, ⟨B10x13_⟩, ⟨B10x14_⟩, ⟨B10x11_⟩, ⟨B10x2_⟩, ⟨B10x3_⟩, ⟨B10x6_⟩, ⟨B10x0_⟩⟩
     case round =>
      clear H'
      try clear c3
      try clear c28
      try clear c28b0
      try clear hcz10_0
      try clear hcz10_1
      try clear hcz10_2
      try clear hcz10_3
      try clear hcz10_4
      try clear hcz10_5
      try clear hcz12_0
      try clear hcz12_1
      try clear hcz12_2
      try clear hcz12_3
      try clear hcz12_4
      try clear hcz12_5
      try clear hcz17_0
      try clear hcz17_1
      try clear hcz17_2
      try clear hcz17_3
      try clear hcz17_4
      try clear hcz17_5
      try clear hcz19_0
      try clear hcz19_1
      try clear hcz19_2
      try clear hcz19_3
      try clear hcz19_4
      try clear hcz19_5
      try clear hcz24_0
      try clear hcz24_1
      try clear hcz24_2
      try clear hcz24_3
      try clear hcz24_4
      try clear hcz24_5
      try clear hfz10_0
      try clear hfz10_1
      try clear hfz10_2
      try clear hfz10_3
      try clear hfz10_4
      try clear hfz10_5
      try clear hfz12_0
      try clear hfz12_1
      try clear hfz12_2
      try clear hfz12_3
      try clear hfz12_4
      try clear hfz12_5
      try clear hfz17_0
      try clear hfz17_1
      try clear hfz17_2
      try clear hfz17_3
      try clear hfz17_4
      try clear hfz17_5
      try clear hfz19_0
      try clear hfz19_1
      try clear hfz19_2
      try clear hfz19_3
      try clear hfz19_4
      try clear hfz19_5
      try clear hfz24_0
      try clear hfz24_1
      try clear hfz24_2
      try clear hfz24_3
      try clear hfz24_4
      try clear hfz24_5
      obtain ⟨x15_2, rfl, HA, HK2, HO_3, HO_6, HO_9, HO_12, BK484, BK495, BK506, HB⟩ := hrel
      cases gk with
      | zero => exact absurd HA.out (by simp [laws_FnBits.l1])
      | succ k2 =>
       have H := HA.out
       clear HA
       simp only [laws_FnBits.l1] at H
       by_cases c31 : x15_2 < (t507.length : Int)
       ·rw [if_pos c31] at H
        have c31b0 : decide (x15_2 < (t507.length : Int)) = true := decide_eq_true c31
        clear c31
        by_cases c32 : 0 ≤ x15_2
        rotate_left
        ·rw [if_neg c32] at H
         exact absurd H (by simp)
        rw [if_pos c32] at H
        have c32b0 : decide (0 ≤ x15_2) = true := decide_eq_true c32
        clear c32
        by_cases c33 : ((rd_T82 t507 x15_2).f5) ≤ (wrap64 (t483 + 5))
        ·rw [if_pos c33] at H
         have c33b0 : decide (((rd_T82 t507 x15_2).f5) ≤ (wrap64 (t483 + 5))) = true := decide_eq_true c33
         clear c33
         exact absurd ((Option.some.inj H).trans hr_.out) (by decide)
        rw [if_neg c33] at H
        have c33b0 : decide (((rd_T82 t507 x15_2).f5) ≤ (wrap64 (t483 + 5))) = false := decide_eq_false c33
        clear c33
        have H' := Aside0.mk H
        clear H
        obtain ⟨Ao34, co34, eo34⟩ := Kd.N_slice HO_12.out
        subst eo34
        have p511 : 0 ≤ (x15_2 : Int) := of_decide_eq_true B10x10_
        have q511 : x15_2 < (t507.length : Int) := of_decide_eq_true B10x10_
        obtain ⟨ad511, A511_2, c511_2, A511_3, c511_3, e511, hx511_0, hx511_1, hx511_2, hx511_3, hx511_4, hx511_5, hl511_2, hi511_2, hl511_3, hi511_3⟩ := at_T82 (Kd.N_reads' HO_12.out).2.2 x15_2 p511 q511
        cases e511
        obtain ⟨ce511, hce511, hMe511, hcc511⟩ := Kd.N_get HO_12.out z82 x15_2 p511 (by first | exact q511 | exact of_decide_eq_true B10x10_ | (have e_ := (Kd.N_reads' HO_12.out).1; omega))
        obtain ⟨ua511_2, uc511_2, ua511_3, uc511_3, rfl, ul511_2, ge511_2, ul511_3, ge511_3⟩ := k82_openF hMe511
        have hv511_2 := hcc511 2 _ rfl
        rw [add_field _ _ 2 (by omega)] at hv511_2
        replace hv511_2 := Option.some.inj (hv511_2.symm.trans hx511_2)
        injection hv511_2 with hva_ hvn_ hvc_
        rw [hva_] at ge511_2
        rw [hvc_] at ul511_2
        have HL511_2 := Aside0.mk (show Kd.V Kd.string 9 _ w.heap.size _ _ ((rd_T82 t507 x15_2).f2) from Kd.V_mk ul511_2 ge511_2)
        clear hva_ hvn_ hvc_ ge511_2 ul511_2
        have hv511_3 := hcc511 3 _ rfl
        rw [add_field _ _ 3 (by omega)] at hv511_3
        replace hv511_3 := Option.some.inj (hv511_3.symm.trans hx511_3)
        injection hv511_3 with hva_ hvn_ hvc_
        rw [hva_] at ge511_3
        rw [hvc_] at ul511_3
        have HL511_3 := Aside0.mk (show Kd.V (Kd.int .i64) 3 _ w.heap.size _ _ ((rd_T82 t507 x15_2).f3) from Kd.V_mk ul511_3 ge511_3)
        clear hva_ hvn_ hvc_ ge511_3 ul511_3
        clear hcc511 hce511
        have HR511_2 := Aside0.mk hi511_2
        have HC511_2 := Aside0.mk hl511_2
        clear hi511_2 hl511_2
        have HR511_3 := Aside0.mk hi511_3
        have HC511_3 := Aside0.mk hl511_3
        clear hi511_3 hl511_3
        replace p511 := eq_true p511
        replace q511 := eq_true q511
        go_wp2
        go_roundg k2
        case measure => have := HK1.out; have := HK2.out; omega
        case rel => exact ⟨(wrap64 (x15_2 + 1)), (be_), H', ⟨(by have := HK1.out; have := HK2.out; omega)⟩, ⟨B10x12_⟩, ⟨B10x13_⟩, ⟨B10x14_⟩, ⟨B10x11_⟩, ⟨B10x2_⟩, ⟨B10x3_⟩, ⟨B10x6_⟩, ⟨B10x0_⟩⟩
       ·rw [if_neg c31] at H
        have c31b0 : decide (x15_2 < (t507.length : Int)) = false := decide_eq_false c31
        clear c31
        by_cases c35 : (t494 == t505) = true
        ·rw [if_pos c35] at H
         have c35b0 : (t494 == t505) = true := c35
         (try (have c35b1 : decide (t494 = t505) = true := by simpa using c35))
         (try (have c35b2 : (t494 == t505) = true := by simpa using c35))
         clear c35
         by_cases c36 : (t488 == t499 && (t489 == t500 && (t490 == t501 && (t491 == t502 && (t492 == t503 && (t493.toList == t504.toList)))))) = true
         ·rw [if_pos c36] at H
          have c36b0 : (t488 == t499 && (t489 == t500 && (t490 == t501 && (t491 == t502 && (t492 == t503 && (t493.toList == t504.toList)))))) = true := c36
          (try (have c36b1 : decide (t488 = t499 && (t489 == t500 && (t490 == t501 && (t491 == t502 && (t492 == t503 && (t493.toList == t504.toList)))))) = true := by simpa using c36))
          (try (have c36b2 : (t488 == t499 && (t489 == t500 && (t490 == t501 && (t491 == t502 && (t492 == t503 && (t493.toList == t504.toList)))))) = true := by simpa using c36))
          clear c36
          by_cases c37 : (t485.length : Int) = (t496.length : Int)
          rotate_left
          ·rw [if_neg c37] at H
           have c37b0 := beq_eq_false_iff_ne.mpr c37
           have c37b1 := bne_iff_ne.mpr c37
           have c37b2 : (t485.length == t496.length) = false := by first | simpa using c37 | (simp at c37 ⊢; omega)
           exact absurd ((Option.some.inj H).trans hr_.out) (by decide)
          rw [if_pos c37] at H
          have c37b0 := beq_iff_eq.mpr c37
          have c37b1 := bne_eq_false_iff_eq.mpr c37
          have c37b2 : (t485.length == t496.length) = true := by first | simpa using c37 | (simp at c37 ⊢; omega)
          clear c37
          by_cases c38 : (t507.length : Int) = x13_1
          rotate_left
          ·rw [if_neg c38] at H
           have c38b0 := beq_eq_false_iff_ne.mpr c38
           have c38b1 := bne_iff_ne.mpr c38
           exact absurd ((Option.some.inj H).trans hr_.out) (by decide)
          rw [if_pos c38] at H
          have c38b0 := beq_iff_eq.mpr c38
          have c38b1 := bne_eq_false_iff_eq.mpr c38
          clear c38
          by_cases c39 : (t485.length : Int) ≤ (wrap64 ((t474.length : Int) + 1))
          rotate_left
          ·rw [if_neg c39] at H
           have c39b0 : decide ((t485.length : Int) ≤ (wrap64 ((t474.length : Int) + 1))) = false := decide_eq_false c39
           clear c39
           exact absurd ((Option.some.inj H).trans hr_.out) (by decide)
          rw [if_pos c39] at H
          have c39b0 : decide ((t485.length : Int) ≤ (wrap64 ((t474.length : Int) + 1))) = true := decide_eq_true c39
          clear c39
          have HL_415 := Aside0.mk H
          clear H
          obtain ⟨Ao41, co41, eo41⟩ := Kd.N_slice HO_12.out
          subst eo41
          have hnb42 := NB495_484.out
          have hnc42 := NB484_495.out
          have hnb43 := NB495_506.out
          have hnc43 := NB506_495.out
          obtain ⟨hcz44_0, hcz44_1, hcz44_2, hcz44_3, hcz44_4, hcz44_5⟩ := cl6 BK495.out
          obtain ⟨hfz44_0, hfz44_1, hfz44_2, hfz44_3, hfz44_4, hfz44_5⟩ := fr6 BK495.out
          have hnb45 := NB506_484.out
          have hnc45 := NB484_506.out
          obtain ⟨hcz46_0, hcz46_1, hcz46_2, hcz46_3, hcz46_4, hcz46_5⟩ := cl6 BK506.out
          obtain ⟨hfz46_0, hfz46_1, hfz46_2, hfz46_3, hfz46_4, hfz46_5⟩ := fr6 BK506.out
          obtain ⟨Ao47, co47, eo47⟩ := Kd.N_slice HO_9.out
          subst eo47
          go_wp2
          all_goals
           have H := HL_415.out
           clear HL_415
           by_cases c40 : (t474.length : Int) > 3
           ·rw [if_pos c40] at H
            have c40b0 : decide (3 < (t474.length : Int)) = true := decide_eq_true c40
            have c40b1 : decide (3 < t474.length) = true := decide_eq_true (by omega)
            obtain rfl := Option.some.inj H
            go_ret
            first | exact ⟨B10x18_, B10x0_⟩ | (exfalso; omega)
           ·rw [if_neg c40] at H
            have c40b0 : decide (3 < (t474.length : Int)) = false := decide_eq_false c40
            have c40b1 : decide (3 < t474.length) = false := decide_eq_false (by omega)
            obtain rfl := Option.some.inj H
            go_ret
            first | exact ⟨B10x18_, B10x0_⟩ | (exfalso; omega)
         ·rw [if_neg c36] at H
          have c36b0 : (t488 == t499 && (t489 == t500 && (t490 == t501 && (t491 == t502 && (t492 == t503 && (t493.toList == t504.toList)))))) = false := by simpa using c36
          (try (have c36b1 : decide (t488 = t499 && (t489 == t500 && (t490 == t501 && (t491 == t502 && (t492 == t503 && (t493.toList == t504.toList)))))) = false := by simpa using c36))
          (try (have c36b2 : (t488 == t499 && (t489 == t500 && (t490 == t501 && (t491 == t502 && (t492 == t503 && (t493.toList == t504.toList)))))) = false := by simpa using c36))
          (try (have c36b3 : ¬ (t488 = t499 && (t489 == t500 && (t490 == t501 && (t491 == t502 && (t492 == t503 && (t493.toList == t504.toList)))))) := by simpa using c36))
          clear c36
          exact absurd ((Option.some.inj H).trans hr_.out) (by decide)
        ·rw [if_neg c35] at H
         have c35b0 : (t494 == t505) = false := by simpa using c35
         (try (have c35b1 : decide (t494 = t505) = false := by simpa using c35))
         (try (have c35b2 : (t494 == t505) = false := by simpa using c35))
         (try (have c35b3 : ¬ (t494 = t505) := by simpa using c35))
         clear c35
         exact absurd ((Option.some.inj H).trans hr_.out) (by decide)

/-- THE ONE PURE STATEMENT of laws_FnBits: yours. -/
def laws_FnBits.Pure : Prop := ∀ (l0 : List Int), l0.length ≤ maxLen → l0.length * 1 ≤ 140737488351232 → (∀ x ∈ l0, (Lit.int .u8 x).wf = true) → ∃ k, laws_FnBits.f k l0 = some true
theorem laws_FnBits.walk (P : laws_FnBits.Pure) (a0 : Option Addr) (len0 cap0 : Nat) (z0 : List Int) (w : World) (w0 : (a0 = none ∧ len0 = 0 ∧ cap0 = 0 ∧ z0 = []) ∨ ∃ x, a0 = some x ∧ len0 ≤ cap0 ∧ cap0 ≤ maxLen ∧ z0.length = cap0 ∧ (∀ i, i < z0.length → w.cell? (x.add i) = some (.int .u8 (z0.getD i 0))) ∧ ∀ n ∈ z0, (Lit.int .u8 n).wf = true) (y0 : len0 * 1 ≤ 140737488351232) :
  Calls Try.prog 8 #[.slice a0 len0 cap0] w fun e w' => e = .returned (.bool true) ∧ Below w.heap.size w w' := by
 obtain ⟨l0, rfl, hr0, hm0, hw0, hc0⟩ := ReadsInt.ofRowC w0
 obtain ⟨k, h⟩ := P l0 hm0 y0 hw0
 refine (laws_FnBits.calls k _ _ l0 true w (Kd.C_of_reads (d := (0 : Int)) (h1 := fun _ => rfl) hr0) hc0 h ⟨rfl⟩).mono ?_
 rintro e w' ⟨rfl, hd⟩
 exact ⟨rfl, hd⟩

end Go.Proofs.Ytmknnoeggkgkgaa.QFnBits
