/- Functions that a law reaches, as functions of Lean, and the walks that show that the calls come to their answers: written by a program of this project out of the translation. No condition. -/
import Derived.Test.YthgjcijcmacpmaaQFnExactReadKeepx0
import Derived.Test.YthgjcijcmacpmaaQFnExactReadKeepx9
import Derived.Test.YthgjcijcmacpmaaQFnExactReadKeepx12
import Derived.Test.YthgjcijcmacpmaaQFnExactReadKeepx13
import Derived.Test.YthgjcijcmacpmaaQFnExactReadKeepx14
import Derived.Test.YthgjcijcmacpmaaQFnExactReadKeepx15
import Derived.Test.YthgjcijcmacpmaaVFnExactReadKeephort3
import Derived.Test.YthgjcijcmacpmaaVFnExactReadKeepShort2
import Derived.Test.YthgjcijcmacpmaaVFnExactReadKeepShort
namespace Go.Proofs.Ythgjcijcmacpmaa.QFnExactReadKeep
open Go.RowKit Go.Proofs.YthgjcijcmacpmaaW.PrintWords Go.Proofs.YthgjcijcmacpmaaW.PrintLast Go.Proofs.YthgjcijcmacpmaaW.PrintMore Go.Proofs.Ythgjcijcmacpmaa.Short
attribute [local go_sem] max2_int min2_int max_two min_two max_three min_three max_four min_four   -- for this text's walks alone
set_option linter.unusedVariables false
set_option linter.unusedSimpArgs false

theorem B16x0_ {p : Prop} (h : p := by repeat (first | (with_reducible first | exact HB.out | apply below_alloc | apply pw_below_drewN | apply below_drew1) | exact HB.out)) : p := h
theorem B16x1_ {p : Prop} (h : p := by (try simp only [List.map_toArray, List.map_cons, List.map_nil]); first | done | rfl | (simp only [List.length_drop, List.length_take]; rfl)) : p := h
theorem B16x2_ {p : Prop} (h : p := by repeat (first | (with_reducible first | exact HB.out | apply below_alloc | apply pw_below_drewN | apply below_drew1 | refine below_set ?_ GE321.out | refine below_set ?_ GE329.out) | exact HB.out)) : p := h
theorem B16x3_ {p : Prop} (h : p := by (with_reducible repeat (first | refine blk_drewN ?_ _ | refine blk_drew ?_ | refine blk_alloc ?_ _)); exact BK321.out) : p := h
theorem B16x4_ {p : Prop} (h : p := by (with_reducible repeat (first | apply Kd.R_alloc | apply Kd.R_drewN | apply Kd.R_drew)); exact (Kd.R_mono (Kd.R_far (p := ⟨gb342, 1, none⟩) (Kd.R_far (p := ⟨gb342, 0, none⟩) (Kd.R_types HO_322000.out BK342.out (by decide)) (fun _ hk => hk.2) (.slice Ao41 t335.length co41)) (fun _ hk => hk.2) (.slice Ao45 t338.length co45)) (fun _ h_ => h_.1))) : p := h
theorem B16x5_ {p : Prop} (h : p := by (with_reducible repeat (first | apply Kd.R_alloc | apply Kd.R_drewN | apply Kd.R_drew)); exact (Kd.R_mono (Kd.R_far (p := ⟨gb342, 1, none⟩) (Kd.R_far (p := ⟨gb342, 0, none⟩) (Kd.R_types HO_322001.out BK342.out (by decide)) (fun _ hk => hk.2) (.slice Ao41 t335.length co41)) (fun _ hk => hk.2) (.slice Ao45 t338.length co45)) (fun _ h_ => h_.1))) : p := h
theorem B16x6_ {p : Prop} (h : p := by (with_reducible repeat (first | apply Kd.R_alloc | apply Kd.R_drewN | apply Kd.R_drew)); exact (Kd.R_mono (Kd.R_far (p := ⟨gb329, 1, none⟩) (Kd.R_far (p := ⟨gb329, 0, none⟩) (Kd.R_types HO316.out BK329.out (by decide)) (fun _ hk => hk.2) (.slice Ao13 t322.length co13)) (fun _ hk => hk.2) (.slice Ao16 t325.length co16)) (fun _ h_ => h_.1))) : p := h
theorem B16x7_ {p : Prop} (h : p := by (with_reducible repeat (first | apply Kd.R_alloc | apply Kd.R_drewN | apply Kd.R_drew)); exact (Kd.R_mono (Kd.R_far (p := ⟨gb329, 1, none⟩) (Kd.R_far (p := ⟨gb329, 0, none⟩) (Kd.R_types HO319.out BK329.out (by decide)) (fun _ hk => hk.2) (.slice Ao13 t322.length co13)) (fun _ hk => hk.2) (.slice Ao16 t325.length co16)) (fun _ h_ => h_.1))) : p := h
theorem B16x8_ {p : Prop} (h : p := by (with_reducible repeat (first | apply Kd.R_alloc | apply Kd.R_drewN | apply Kd.R_drew)); exact (Kd.R_mono (Kd.R_far (p := ⟨gb329, 1, none⟩) (Kd.R_far (p := ⟨gb329, 0, none⟩) (Kd.R_types HO324.out BK329.out (by decide)) (fun _ hk => hk.2) (.slice Ao13 t322.length co13)) (fun _ hk => hk.2) (.slice Ao16 t325.length co16)) (fun _ h_ => h_.1))) : p := h
theorem B16x9_ {p : Prop} (h : p := by (with_reducible repeat (first | apply Kd.R_alloc | apply Kd.R_drewN | apply Kd.R_drew)); exact (Kd.R_mono (Kd.R_far (p := ⟨gb329, 1, none⟩) (Kd.R_far (p := ⟨gb329, 0, none⟩) (Kd.R_types HO327.out BK329.out (by decide)) (fun _ hk => hk.2) (.slice Ao13 t322.length co13)) (fun _ hk => hk.2) (.slice Ao16 t325.length co16)) (fun _ h_ => h_.1))) : p := h
theorem B16x10_ {p : Prop} (h : p := by (with_reducible repeat (first | apply Kd.R_alloc | apply Kd.R_drewN | apply Kd.R_drew)); exact (Kd.R_mono (Kd.R_far (p := ⟨gb342, 1, none⟩) (Kd.R_far (p := ⟨gb342, 0, none⟩) (Kd.R_types HO337.out BK342.out (by decide)) (fun _ hk => hk.2) (.slice Ao41 t335.length co41)) (fun _ hk => hk.2) (.slice Ao45 t338.length co45)) (fun _ h_ => h_.1))) : p := h
theorem B16x11_ {p : Prop} (h : p := by (with_reducible repeat (first | apply Kd.R_alloc | apply Kd.R_drewN | apply Kd.R_drew)); exact (Kd.R_mono (Kd.R_far (p := ⟨gb342, 1, none⟩) (Kd.R_far (p := ⟨gb342, 0, none⟩) (Kd.R_types HO340.out BK342.out (by decide)) (fun _ hk => hk.2) (.slice Ao41 t335.length co41)) (fun _ hk => hk.2) (.slice Ao45 t338.length co45)) (fun _ h_ => h_.1))) : p := h
theorem B16x12_ {p : Prop} (h : p := by repeat (first | (with_reducible first | exact HB.out | apply below_alloc | apply pw_below_drewN | apply below_drew1 | refine below_set ?_ GE321.out) | exact HB.out)) : p := h
theorem B16x13_ {p : Prop} (h : p := by (with_reducible repeat (first | refine blk_drewN ?_ _ | refine blk_drew ?_ | refine blk_alloc ?_ _)); exact BK329.out) : p := h
theorem B16x14_ {p : Prop} (h : p := by repeat (first | (with_reducible first | exact HB.out | apply below_alloc | apply pw_below_drewN | apply below_drew1 | refine below_set ?_ GE311.out) | exact HB.out)) : p := h
theorem B16x15_ {p : Prop} (h : p := by (with_reducible repeat (first | refine blk_drewN ?_ _ | refine blk_drew ?_ | refine blk_alloc ?_ _)); refine blk_put (cs := #[.slice Ao13 t322.length co13, .slice none 0 0]) ?_ 1 _ rfl; (with_reducible repeat (first | refine blk_drewN ?_ _ | refine blk_drew ?_ | refine blk_alloc ?_ _)); refine blk_put (cs := #[.slice none 0 0, .slice none 0 0]) ?_ 0 _ rfl; (with_reducible repeat (first | refine blk_drewN ?_ _ | refine blk_drew ?_ | refine blk_alloc ?_ _)); exact BK329.out) : p := h
theorem B16x16_ {p : Prop} (h : p := by (with_reducible repeat (first | refine blk_drewN ?_ _ | refine blk_drew ?_ | refine blk_alloc ?_ _)); refine blk_put (cs := #[.slice Ao41 t335.length co41, .slice none 0 0]) ?_ 1 _ rfl; (with_reducible repeat (first | refine blk_drewN ?_ _ | refine blk_drew ?_ | refine blk_alloc ?_ _)); refine blk_put (cs := #[.slice none 0 0, .slice none 0 0]) ?_ 0 _ rfl; (with_reducible repeat (first | refine blk_drewN ?_ _ | refine blk_drew ?_ | refine blk_alloc ?_ _)); exact BK342.out) : p := h
theorem B16x17_ {p : Prop} (h : p := by (with_reducible repeat (first | refine blk_drewN ?_ _ | refine blk_drew ?_ | refine blk_alloc ?_ _)); exact BK311.out) : p := h
theorem B16x18_ {p : Prop} (h : p := by repeat (first | (with_reducible first | exact HB.out | apply below_alloc | apply pw_below_drewN | apply below_drew1 | refine below_set ?_ GE321.out | refine below_set ?_ GE329.out | refine below_set ?_ GE342.out) | exact HB.out)) : p := h
theorem B16x19_ {p : Prop} (h : p := by (with_reducible repeat (first | apply Kd.R_alloc | apply Kd.R_drewN | apply Kd.R_drew)); exact HO_322000.out) : p := h
theorem B16x20_ {p : Prop} (h : p := by (with_reducible repeat (first | apply Kd.R_alloc | apply Kd.R_drewN | apply Kd.R_drew)); exact HO_322001.out) : p := h
theorem B16x21_ {p : Prop} (h : p := by (with_reducible repeat (first | apply Kd.R_alloc | apply Kd.R_drewN | apply Kd.R_drew)); exact HO_330000.out) : p := h
theorem B16x22_ {p : Prop} (h : p := by (with_reducible repeat (first | apply Kd.R_alloc | apply Kd.R_drewN | apply Kd.R_drew)); exact HO_330001.out) : p := h
theorem B16x23_ {p : Prop} (h : p := by (with_reducible repeat (first | refine blk_drewN ?_ _ | refine blk_drew ?_ | refine blk_alloc ?_ _)); refine blk_far ?_ NB321_329.out _; (with_reducible repeat (first | refine blk_drewN ?_ _ | refine blk_drew ?_ | refine blk_alloc ?_ _)); refine blk_far ?_ NB321_329.out _; (with_reducible repeat (first | refine blk_drewN ?_ _ | refine blk_drew ?_ | refine blk_alloc ?_ _)); exact BK321.out) : p := h
theorem B16x24_ {p : Prop} (h : p := by (with_reducible repeat (first | refine blk_drewN ?_ _ | refine blk_drew ?_ | refine blk_alloc ?_ _)); refine blk_far ?_ NB321_342.out _; (with_reducible repeat (first | refine blk_drewN ?_ _ | refine blk_drew ?_ | refine blk_alloc ?_ _)); refine blk_far ?_ NB321_342.out _; (with_reducible repeat (first | refine blk_drewN ?_ _ | refine blk_drew ?_ | refine blk_alloc ?_ _)); exact BK321.out) : p := h
theorem B16x25_ {p : Prop} (h : p := by (with_reducible repeat (first | refine blk_drewN ?_ _ | refine blk_drew ?_ | refine blk_alloc ?_ _)); refine blk_far ?_ NB329_342.out _; (with_reducible repeat (first | refine blk_drewN ?_ _ | refine blk_drew ?_ | refine blk_alloc ?_ _)); refine blk_far ?_ NB329_342.out _; (with_reducible repeat (first | refine blk_drewN ?_ _ | refine blk_drew ?_ | refine blk_alloc ?_ _)); exact BK329.out) : p := h
theorem B16x26_ {p : Prop} (h : p := by (with_reducible repeat (first | apply Kd.R_alloc | apply Kd.R_drewN | apply Kd.R_drew)); exact (Kd.R_mono (Kd.R_far (p := ⟨gb342, 1, none⟩) (Kd.R_far (p := ⟨gb342, 0, none⟩) (Kd.R_types HO_330000.out BK342.out (by decide)) (fun _ hk => hk.2) (.slice Ao41 t335.length co41)) (fun _ hk => hk.2) (.slice Ao45 t338.length co45)) (fun _ h_ => h_.1))) : p := h
theorem B16x27_ {p : Prop} (h : p := by (with_reducible repeat (first | apply Kd.R_alloc | apply Kd.R_drewN | apply Kd.R_drew)); exact (Kd.R_mono (Kd.R_far (p := ⟨gb342, 1, none⟩) (Kd.R_far (p := ⟨gb342, 0, none⟩) (Kd.R_types HO_330001.out BK342.out (by decide)) (fun _ hk => hk.2) (.slice Ao41 t335.length co41)) (fun _ hk => hk.2) (.slice Ao45 t338.length co45)) (fun _ h_ => h_.1))) : p := h
theorem B16x28_ {p : Prop} (h : p := by (with_reducible repeat (first | apply Kd.R_alloc | apply Kd.R_drewN | apply Kd.R_drew)); exact (Kd.R_mono (Kd.R_far (p := ⟨gb321, 1, none⟩) (Kd.R_far (p := ⟨gb321, 0, none⟩) (Kd.R_types HO316.out BK321.out (by decide)) (fun _ hk => hk.2) (.slice Ao8 t314.length co8)) (fun _ hk => hk.2) (.slice Ao10 t317.length co10)) (fun _ h_ => h_.1))) : p := h
theorem B16x29_ {p : Prop} (h : p := by (with_reducible repeat (first | apply Kd.R_alloc | apply Kd.R_drewN | apply Kd.R_drew)); exact (Kd.R_mono (Kd.R_far (p := ⟨gb321, 1, none⟩) (Kd.R_far (p := ⟨gb321, 0, none⟩) (Kd.R_types HO319.out BK321.out (by decide)) (fun _ hk => hk.2) (.slice Ao8 t314.length co8)) (fun _ hk => hk.2) (.slice Ao10 t317.length co10)) (fun _ h_ => h_.1))) : p := h
theorem B16x30_ {p : Prop} (h : p := by kernel_rfl) : p := h
theorem B16x31_ {p : Prop} (h : p := by (with_reducible repeat (first | apply Kd.R_alloc | apply Kd.R_drewN | apply Kd.R_drew)); exact HO316.out) : p := h
theorem B16x32_ {p : Prop} (h : p := by (with_reducible repeat (first | apply Kd.R_alloc | apply Kd.R_drewN | apply Kd.R_drew)); exact HO319.out) : p := h
/-! ### laws_heldKeep: function 20 -/
def laws_heldKeep.f (k : Nat) (l0_0 : List (S101)) (l0_1 : List (S104)) (a1 : Int) : Option (Int) := (laws_heldSessionS.f k l0_0 a1).bind fun t312 => (if t312 < 0 then (some (-1)) else ((laws_heldItemS.f k l0_1 t312).bind fun t313 => (if t313 < 0 then (some (-1)) else (some t313))))
theorem laws_heldKeep.mono : ∀ a0 a1 a2 k, LeO (laws_heldKeep.f k a0 a1 a2) (laws_heldKeep.f (k + 1) a0 a1 a2) := by
 intro a0 a1 a2 k
 unfold laws_heldKeep.f
 repeat' first
   | (with_reducible exact laws_heldItemS.mono _ _ _)
   | (with_reducible exact laws_heldSessionS.mono _ _ _)
   | (with_reducible exact LeO.refl _)
   | (with_reducible exact LeO.none _)
   | (with_reducible refine LeO.ite ?_ ?_)
   | (with_reducible refine LeO.bind ?_ (fun _ => ?_))
   | exact laws_heldItemS.mono _ _ _
   | exact laws_heldSessionS.mono _ _ _
   | exact LeO.none _
   | refine LeO.ite ?_ ?_
   | refine LeO.bind ?_ (fun _ => ?_)
set_option maxHeartbeats 8000000 in
set_option maxRecDepth 100000 in
theorem laws_heldKeep.calls (k : Nat) (A0_0 : Option Addr) (c0_0 : Nat) (l0_0 : List (S101)) (A0_1 : Option Addr) (c0_1 : Nat) (l0_1 : List (S104)) (a1 : Int) (r : Int) (w : World) (hr0_0 : Kd.C k101 w A0_0 l0_0.length l0_0) (hc0_0 : l0_0.length ≤ c0_0) (hr0_1 : Kd.C k104 w A0_1 l0_1.length l0_1) (hc0_1 : l0_1.length ≤ c0_1) (h : laws_heldKeep.f k l0_0 l0_1 a1 = some r) :
  Calls Try.prog 20 #[.agg #[.slice A0_0 l0_0.length c0_0, .slice A0_1 l0_1.length c0_1], .int .i64 a1] w fun e w' => e = .returned (.int .i64 r) ∧ Below w.heap.size w w' := by
 have hu37 := Try.underlying37
 have HR0_0 := Aside0.mk hr0_0
 have HC0_0 := Aside0.mk hc0_0
 clear hr0_0 hc0_0
 have HR0_1 := Aside0.mk hr0_1
 have HC0_1 := Aside0.mk hc0_1
 clear hr0_1 hc0_1
 have HB := Aside0.mk (Below.refl w.heap.size w)
 have H : ((laws_heldSessionS.f k l0_0 a1).bind fun t312 => (if t312 < 0 then (some (-1)) else ((laws_heldItemS.f k l0_1 t312).bind fun t313 => (if t313 < 0 then (some (-1)) else (some t313))))) = some r := h
 clear h
 replace H := Option.bind_eq_some_iff.mp H
 obtain ⟨t312, A30, H⟩ := H
 (try dsimp only at H)
 have A3 := Aside0.mk A30
 clear A30
 by_cases c4 : t312 < 0
 ·rw [if_pos c4] at H
  have c4b0 : decide (t312 < 0) = true := decide_eq_true c4
  clear c4
  obtain rfl := Option.some.inj H
  go_enter Try.func20, Try.ntmps20
  go_wp2_with (first | ((with_reducible refine gate_dst (N := 2) rfl ?_); refine box_event ?hg (N := 2) ?hd (cs := #[.slice A0_0 l0_0.length c0_0, .slice A0_1 l0_1.length c0_1]) (t := 37) ?hr ?_; (case hd => rfl); (case hg => rfl); (case hr => first | (go_simp; done) | (go_simp; rfl)); intro gb311 hg w5 hbox hb; have n0_ := Aside0.mk (below_step B16x0_ hb); have n1_ := Aside0.mk (hbox); have n2_ := Aside0.mk ((by rw [hg]; exact (below_size B16x0_) : w.heap.size ≤ gb311)); have n3_ := Aside0.mk ((by rw [hg]; exact (below_size B16x0_) : w.heap.size ≤ gb311)); clear HB; have HB := n0_; have BK311 := n1_; have GW311 := n2_; have GE311 := n3_; clear n0_ n1_ n2_ n3_; clear hb hbox hg; obtain ⟨hcz6_0, hcz6_1⟩ := cl2 BK311.out; obtain ⟨hfz6_0, hfz6_1⟩ := fr2 BK311.out) | ((with_reducible refine gate_callee (f := 86) rfl ?_); refine goesL_ (some 8) rfl rfl Try.func86 B16x30_ rfl #[.slice A0_0 l0_0.length c0_0, .int .i64 a1] rfl B16x1_ ?_; (with_reducible refine (laws_heldSessionS.calls k _ _ l0_0 a1 t312 _ ?side1 ?side2 A3.out).mono ?_); (case side1 => repeat (first | exact (Kd.C_below HR0_0.out HB.out) | (with_reducible refine Kd.C_alloc ?_ _) | (with_reducible refine Kd.C_drewN ?_ _) | (with_reducible refine Kd.C_drew ?_))); (case side2 => exact HC0_0.out); rintro e w7 ⟨rfl, hb⟩; refine ⟨_, rfl, ?_⟩; have n0_ := Aside0.mk (blk_below (g := gb311) (o := .cells #[.slice A0_0 l0_0.length c0_0, .slice A0_1 l0_1.length c0_1] 37 (0, 0)) B16x17_ hb); have n1_ := Aside0.mk (below_step B16x14_ hb); clear BK311; clear HB; have BK311 := n0_; have HB := n1_; clear n0_ n1_; (try clear hb); (try clear hb2); (try clear hk); (try clear hi)))
  go_ret
  exact ⟨by first | rfl | (simp [errW_none, errW_some] <;> rfl) | (simp [*, errW_none, errW_some] <;> rfl), by repeat (first | (with_reducible first | exact HB.out | apply below_alloc | apply pw_below_drewN | apply below_drew1 | refine below_set ?_ GE311.out) | exact HB.out)⟩
 ·rw [if_neg c4] at H
  have c4b0 : decide (t312 < 0) = false := decide_eq_false c4
  clear c4
  replace H := Option.bind_eq_some_iff.mp H
  obtain ⟨t313, A80, H⟩ := H
  (try dsimp only at H)
  have A8 := Aside0.mk A80
  clear A80
  by_cases c9 : t313 < 0
  ·rw [if_pos c9] at H
   have c9b0 : decide (t313 < 0) = true := decide_eq_true c9
   clear c9
   obtain rfl := Option.some.inj H
   go_enter Try.func20, Try.ntmps20
   go_wp2_with (first | ((with_reducible refine gate_dst (N := 2) rfl ?_); refine box_event ?hg (N := 2) ?hd (cs := #[.slice A0_0 l0_0.length c0_0, .slice A0_1 l0_1.length c0_1]) (t := 37) ?hr ?_; (case hd => rfl); (case hg => rfl); (case hr => first | (go_simp; done) | (go_simp; rfl)); intro gb311 hg w10 hbox hb; have n0_ := Aside0.mk (below_step B16x0_ hb); have n1_ := Aside0.mk (hbox); have n2_ := Aside0.mk ((by rw [hg]; exact (below_size B16x0_) : w.heap.size ≤ gb311)); have n3_ := Aside0.mk ((by rw [hg]; exact (below_size B16x0_) : w.heap.size ≤ gb311)); clear HB; have HB := n0_; have BK311 := n1_; have GW311 := n2_; have GE311 := n3_; clear n0_ n1_ n2_ n3_; clear hb hbox hg; obtain ⟨hcz11_0, hcz11_1⟩ := cl2 BK311.out; obtain ⟨hfz11_0, hfz11_1⟩ := fr2 BK311.out) | ((with_reducible refine gate_callee (f := 86) rfl ?_); refine goesL_ (some 8) rfl rfl Try.func86 B16x30_ rfl #[.slice A0_0 l0_0.length c0_0, .int .i64 a1] rfl B16x1_ ?_; (with_reducible refine (laws_heldSessionS.calls k _ _ l0_0 a1 t312 _ ?side1 ?side2 A3.out).mono ?_); (case side1 => repeat (first | exact (Kd.C_below HR0_0.out HB.out) | (with_reducible refine Kd.C_alloc ?_ _) | (with_reducible refine Kd.C_drewN ?_ _) | (with_reducible refine Kd.C_drew ?_))); (case side2 => exact HC0_0.out); rintro e w12 ⟨rfl, hb⟩; refine ⟨_, rfl, ?_⟩; have n0_ := Aside0.mk (blk_below (g := gb311) (o := .cells #[.slice A0_0 l0_0.length c0_0, .slice A0_1 l0_1.length c0_1] 37 (0, 0)) B16x17_ hb); have n1_ := Aside0.mk (below_step B16x14_ hb); clear BK311; clear HB; have BK311 := n0_; have HB := n1_; clear n0_ n1_; (try clear hb); (try clear hb2); (try clear hk); (try clear hi); obtain ⟨hcz13_0, hcz13_1⟩ := cl2 BK311.out; obtain ⟨hfz13_0, hfz13_1⟩ := fr2 BK311.out) | ((with_reducible refine gate_callee (f := 87) rfl ?_); refine goesL_ (some 14) rfl rfl Try.func87 B16x30_ rfl #[.slice A0_1 l0_1.length c0_1, .int .i64 t312] rfl B16x1_ ?_; (with_reducible refine (laws_heldItemS.calls k _ _ l0_1 t312 t313 _ ?side1 ?side2 A8.out).mono ?_); (case side1 => repeat (first | exact (Kd.C_below HR0_1.out HB.out) | (with_reducible refine Kd.C_alloc ?_ _) | (with_reducible refine Kd.C_drewN ?_ _) | (with_reducible refine Kd.C_drew ?_))); (case side2 => exact HC0_1.out); rintro e w14 ⟨rfl, hb⟩; refine ⟨_, rfl, ?_⟩; have n0_ := Aside0.mk (blk_below (g := gb311) (o := .cells #[.slice A0_0 l0_0.length c0_0, .slice A0_1 l0_1.length c0_1] 37 (0, 0)) B16x17_ hb); have n1_ := Aside0.mk (below_step B16x14_ hb); clear BK311; clear HB; have BK311 := n0_; have HB := n1_; clear n0_ n1_; (try clear hb); (try clear hb2); (try clear hk); (try clear hi)))
   go_ret
   exact ⟨by first | rfl | (simp [errW_none, errW_some] <;> rfl) | (simp [*, errW_none, errW_some] <;> rfl), by repeat (first | (with_reducible first | exact HB.out | apply below_alloc | apply pw_below_drewN | apply below_drew1 | refine below_set ?_ GE311.out) | exact HB.out)⟩
  ·rw [if_neg c9] at H
   have c9b0 : decide (t313 < 0) = false := decide_eq_false c9
   clear c9
   obtain rfl := Option.some.inj H
   go_enter Try.func20, Try.ntmps20
   go_wp2_with (first | ((with_reducible refine gate_dst (N := 2) rfl ?_); refine box_event ?hg (N := 2) ?hd (cs := #[.slice A0_0 l0_0.length c0_0, .slice A0_1 l0_1.length c0_1]) (t := 37) ?hr ?_; (case hd => rfl); (case hg => rfl); (case hr => first | (go_simp; done) | (go_simp; rfl)); intro gb311 hg w15 hbox hb; have n0_ := Aside0.mk (below_step B16x0_ hb); have n1_ := Aside0.mk (hbox); have n2_ := Aside0.mk ((by rw [hg]; exact (below_size B16x0_) : w.heap.size ≤ gb311)); have n3_ := Aside0.mk ((by rw [hg]; exact (below_size B16x0_) : w.heap.size ≤ gb311)); clear HB; have HB := n0_; have BK311 := n1_; have GW311 := n2_; have GE311 := n3_; clear n0_ n1_ n2_ n3_; clear hb hbox hg; obtain ⟨hcz16_0, hcz16_1⟩ := cl2 BK311.out; obtain ⟨hfz16_0, hfz16_1⟩ := fr2 BK311.out) | ((with_reducible refine gate_callee (f := 86) rfl ?_); refine goesL_ (some 8) rfl rfl Try.func86 B16x30_ rfl #[.slice A0_0 l0_0.length c0_0, .int .i64 a1] rfl B16x1_ ?_; (with_reducible refine (laws_heldSessionS.calls k _ _ l0_0 a1 t312 _ ?side1 ?side2 A3.out).mono ?_); (case side1 => repeat (first | exact (Kd.C_below HR0_0.out HB.out) | (with_reducible refine Kd.C_alloc ?_ _) | (with_reducible refine Kd.C_drewN ?_ _) | (with_reducible refine Kd.C_drew ?_))); (case side2 => exact HC0_0.out); rintro e w17 ⟨rfl, hb⟩; refine ⟨_, rfl, ?_⟩; have n0_ := Aside0.mk (blk_below (g := gb311) (o := .cells #[.slice A0_0 l0_0.length c0_0, .slice A0_1 l0_1.length c0_1] 37 (0, 0)) B16x17_ hb); have n1_ := Aside0.mk (below_step B16x14_ hb); clear BK311; clear HB; have BK311 := n0_; have HB := n1_; clear n0_ n1_; (try clear hb); (try clear hb2); (try clear hk); (try clear hi); obtain ⟨hcz18_0, hcz18_1⟩ := cl2 BK311.out; obtain ⟨hfz18_0, hfz18_1⟩ := fr2 BK311.out) | ((with_reducible refine gate_callee (f := 87) rfl ?_); refine goesL_ (some 14) rfl rfl Try.func87 B16x30_ rfl #[.slice A0_1 l0_1.length c0_1, .int .i64 t312] rfl B16x1_ ?_; (with_reducible refine (laws_heldItemS.calls k _ _ l0_1 t312 t313 _ ?side1 ?side2 A8.out).mono ?_); (case side1 => repeat (first | exact (Kd.C_below HR0_1.out HB.out) | (with_reducible refine Kd.C_alloc ?_ _) | (with_reducible refine Kd.C_drewN ?_ _) | (with_reducible refine Kd.C_drew ?_))); (case side2 => exact HC0_1.out); rintro e w19 ⟨rfl, hb⟩; refine ⟨_, rfl, ?_⟩; have n0_ := Aside0.mk (blk_below (g := gb311) (o := .cells #[.slice A0_0 l0_0.length c0_0, .slice A0_1 l0_1.length c0_1] 37 (0, 0)) B16x17_ hb); have n1_ := Aside0.mk (below_step B16x14_ hb); clear BK311; clear HB; have BK311 := n0_; have HB := n1_; clear n0_ n1_; (try clear hb); (try clear hb2); (try clear hk); (try clear hi)))
   go_ret
   exact ⟨by first | rfl | (simp [errW_none, errW_some] <;> rfl) | (simp [*, errW_none, errW_some] <;> rfl), by repeat (first | (with_reducible first | exact HB.out | apply below_alloc | apply pw_below_drewN | apply below_drew1 | refine below_set ?_ GE311.out) | exact HB.out)⟩

/-! ### laws_FnExactReadKeep: function 4 -/
mutual
def laws_FnExactReadKeep.j0 : Nat → ByteArray → Bool → Bool → List (S101) → List (S104) → List (S101) → List (S104) → Option (Bool)
 | 0, _, _, _, _, _, _, _ => none
 | k + 1, x0, x4, x32, x322000, x322001, x330000, x330001 => if x32 = true then (some false) else ((laws_markKeep.f k x330000 x330001 1).bind fun bt331 => ((laws_heldKeep.f k bt331.2.1 bt331.2.2 1).bind fun t334 => (if t334 < 0 then (some false) else (if t334 = bt331.1 then ((impl_ReadKeep.f k x0).bind fun bt335 => ((laws_eqKeep.f k bt335.1 bt335.2.1 x322000 x322001).bind fun t343 => (if t343 = true then (laws_FnExactReadKeep.j1 k bt331.1 (bt335.2.2 != x4) bt331.2.1 bt331.2.2) else (laws_FnExactReadKeep.j1 k bt331.1 true bt331.2.1 bt331.2.2)))) else (some false)))))
def laws_FnExactReadKeep.j1 : Nat → Int → Bool → List (S101) → List (S104) → Option (Bool)
 | 0, _, _, _, _ => none
 | k + 1, x7, x57, x330000, x330001 => if x57 = true then (some false) else ((laws_heldKeep.f k x330000 x330001 1).bind fun t344 => (if t344 < 0 then (some false) else (if t344 = x7 then (some true) else (some false))))
end
def laws_FnExactReadKeep.f (k : Nat) (a0 : ByteArray) : Option (Bool) := if (a0.size : Int) > 1048576 then (some true) else ((spec_ReadKeep.f k a0).bind fun bt314 => ((impl_ReadKeep.f k a0).bind fun bt322 => ((laws_eqKeep.f k bt322.1 bt322.2.1 bt314.1 bt314.2.1).bind fun t330 => (if t330 = true then (laws_FnExactReadKeep.j0 k a0 bt314.2.2 (bt322.2.2 != bt314.2.2) bt314.1 bt314.2.1 bt322.1 bt322.2.1) else (laws_FnExactReadKeep.j0 k a0 bt314.2.2 true bt314.1 bt314.2.1 bt322.1 bt322.2.1)))))
theorem laws_FnExactReadKeep.mono_l : ∀ k, (∀ y0 y1 y2 y3 y4 y5 y6, LeO (laws_FnExactReadKeep.j0 k y0 y1 y2 y3 y4 y5 y6) (laws_FnExactReadKeep.j0 (k + 1) y0 y1 y2 y3 y4 y5 y6)) ∧ (∀ y0 y1 y2 y3, LeO (laws_FnExactReadKeep.j1 k y0 y1 y2 y3) (laws_FnExactReadKeep.j1 (k + 1) y0 y1 y2 y3))
 | 0 => ⟨fun _ _ _ _ _ _ _ r h => by simp [laws_FnExactReadKeep.j0] at h, fun _ _ _ _ r h => by simp [laws_FnExactReadKeep.j1] at h⟩
 | k + 1 => by
  obtain ⟨ih0, ih1⟩ := laws_FnExactReadKeep.mono_l k
  refine ⟨?_, ?_⟩
  ·intro y0 y1 y2 y3 y4 y5 y6
   unfold laws_FnExactReadKeep.j0
   repeat' first
   | (with_reducible exact ih0 _ _ _ _ _ _ _)
   | (with_reducible exact ih1 _ _ _ _)
   | (with_reducible exact impl_ReadKeep.mono _ _)
   | (with_reducible exact laws_eqKeep.mono _ _ _ _ _)
   | (with_reducible exact laws_heldKeep.mono _ _ _ _)
   | (with_reducible exact laws_markKeep.mono _ _ _ _)
   | (with_reducible exact spec_ReadKeep.mono _ _)
   | (with_reducible exact LeO.refl _)
   | (with_reducible exact LeO.none _)
   | (with_reducible refine LeO.ite ?_ ?_)
   | (with_reducible refine LeO.bind ?_ (fun _ => ?_))
   | exact ih0 _ _ _ _ _ _ _
   | exact ih1 _ _ _ _
   | exact impl_ReadKeep.mono _ _
   | exact laws_eqKeep.mono _ _ _ _ _
   | exact laws_heldKeep.mono _ _ _ _
   | exact laws_markKeep.mono _ _ _ _
   | exact spec_ReadKeep.mono _ _
   | exact LeO.none _
   | refine LeO.ite ?_ ?_
   | refine LeO.bind ?_ (fun _ => ?_)
  ·intro y0 y1 y2 y3
   unfold laws_FnExactReadKeep.j1
   repeat' first
   | (with_reducible exact ih0 _ _ _ _ _ _ _)
   | (with_reducible exact ih1 _ _ _ _)
   | (with_reducible exact impl_ReadKeep.mono _ _)
   | (with_reducible exact laws_eqKeep.mono _ _ _ _ _)
   | (with_reducible exact laws_heldKeep.mono _ _ _ _)
   | (with_reducible exact laws_markKeep.mono _ _ _ _)
   | (with_reducible exact spec_ReadKeep.mono _ _)
   | (with_reducible exact LeO.refl _)
   | (with_reducible exact LeO.none _)
   | (with_reducible refine LeO.ite ?_ ?_)
   | (with_reducible refine LeO.bind ?_ (fun _ => ?_))
   | exact ih0 _ _ _ _ _ _ _
   | exact ih1 _ _ _ _
   | exact impl_ReadKeep.mono _ _
   | exact laws_eqKeep.mono _ _ _ _ _
   | exact laws_heldKeep.mono _ _ _ _
   | exact laws_markKeep.mono _ _ _ _
   | exact spec_ReadKeep.mono _ _
   | exact LeO.none _
   | refine LeO.ite ?_ ?_
   | refine LeO.bind ?_ (fun _ => ?_)
theorem laws_FnExactReadKeep.mono : ∀ a0 k, LeO (laws_FnExactReadKeep.f k a0) (laws_FnExactReadKeep.f (k + 1) a0) := by
 intro a0 k
 obtain ⟨ih0, ih1⟩ := laws_FnExactReadKeep.mono_l k
 unfold laws_FnExactReadKeep.f
 repeat' first
   | (with_reducible exact ih0 _ _ _ _ _ _ _)
   | (with_reducible exact ih1 _ _ _ _)
   | (with_reducible exact impl_ReadKeep.mono _ _)
   | (with_reducible exact laws_eqKeep.mono _ _ _ _ _)
   | (with_reducible exact laws_heldKeep.mono _ _ _ _)
   | (with_reducible exact laws_markKeep.mono _ _ _ _)
   | (with_reducible exact spec_ReadKeep.mono _ _)
   | (with_reducible exact LeO.refl _)
   | (with_reducible exact LeO.none _)
   | (with_reducible refine LeO.ite ?_ ?_)
   | (with_reducible refine LeO.bind ?_ (fun _ => ?_))
   | exact ih0 _ _ _ _ _ _ _
   | exact ih1 _ _ _ _
   | exact impl_ReadKeep.mono _ _
   | exact laws_eqKeep.mono _ _ _ _ _
   | exact laws_heldKeep.mono _ _ _ _
   | exact laws_markKeep.mono _ _ _ _
   | exact spec_ReadKeep.mono _ _
   | exact LeO.none _
   | refine LeO.ite ?_ ?_
   | refine LeO.bind ?_ (fun _ => ?_)
set_option maxHeartbeats 8000000 in
set_option maxRecDepth 100000 in
theorem laws_FnExactReadKeep.calls (k : Nat) (a0 : ByteArray) (r : Bool) (w : World) (h : laws_FnExactReadKeep.f k a0 = some r) (hr_ : Aside0 (r = true)) :
  Calls Try.prog 4 #[.string a0] w fun e w' => e = .returned (.bool r) ∧ Below w.heap.size w w' := by
 have hu37 := Try.underlying37
 have HB := Aside0.mk (Below.refl w.heap.size w)
 have H : (if (a0.size : Int) > 1048576 then (some true) else ((spec_ReadKeep.f k a0).bind fun bt314 => ((impl_ReadKeep.f k a0).bind fun bt322 => ((laws_eqKeep.f k bt322.1 bt322.2.1 bt314.1 bt314.2.1).bind fun t330 => (if t330 = true then (laws_FnExactReadKeep.j0 k a0 bt314.2.2 (bt322.2.2 != bt314.2.2) bt314.1 bt314.2.1 bt322.1 bt322.2.1) else (laws_FnExactReadKeep.j0 k a0 bt314.2.2 true bt314.1 bt314.2.1 bt322.1 bt322.2.1)))))) = some r := h
 clear h
 by_cases c2 : (a0.size : Int) > 1048576
 ·rw [if_pos c2] at H
  have c2b0 : decide (1048576 < (a0.size : Int)) = true := decide_eq_true c2
  have c2b1 : decide (1048576 < a0.size) = true := decide_eq_true (by omega)
  clear c2
  obtain rfl := Option.some.inj H
  go_enter Try.func4, Try.ntmps4
  go_wp2
  go_ret
  exact ⟨by first | rfl | (simp [errW_none, errW_some] <;> rfl) | (simp [*, errW_none, errW_some] <;> rfl), by repeat (first | (with_reducible first | exact HB.out | apply below_alloc | apply pw_below_drewN | apply below_drew1) | exact HB.out)⟩
 ·rw [if_neg c2] at H
  have c2b0 : decide (1048576 < (a0.size : Int)) = false := decide_eq_false c2
  have c2b1 : decide (1048576 < a0.size) = false := decide_eq_false (by omega)
  clear c2
  replace H := Option.bind_eq_some_iff.mp H
  obtain ⟨⟨t314, t317, t320⟩, A30, H⟩ := H
  (try dsimp only at H)
  have A3 := Aside0.mk A30
  clear A30
  replace H := Option.bind_eq_some_iff.mp H
  obtain ⟨⟨t322, t325, t328⟩, A40, H⟩ := H
  (try dsimp only at H)
  have A4 := Aside0.mk A40
  clear A40
  have HC5 := Aside0.mk H
  clear H
  go_enter Try.func4, Try.ntmps4
  go_upto_region 5 with (first | ((with_reducible refine gate_callee (f := 16) rfl ?_); refine goesL_ (some 16) rfl rfl Try.func16 B16x30_ rfl #[.string a0] rfl B16x1_ ?_; (with_reducible refine (spec_ReadKeep.calls k a0 t314 t317 t320 _ A3.out).mono ?_); rintro e w6 ⟨v315, v318, rfl, ho0, ho1, hb⟩; refine ⟨_, rfl, ?_⟩; have n0_ := Aside0.mk (Kd.R_lower ho0 (below_size B16x0_)); have n1_ := Aside0.mk (Kd.R_lower ho1 (below_size B16x0_)); have n2_ := Aside0.mk (below_step B16x0_ hb); clear HB; have HO316 := n0_; have HO319 := n1_; have HB := n2_; clear n0_ n1_ n2_; (try clear hb); (try clear hb2); (try clear hk); (try clear hi); (try clear ho0); (try clear ho1)) | ((with_reducible refine gate_dst (N := 3) rfl ?_); refine box_event ?hg (N := 3) ?hd (cs := #[.slice none 0 0, .slice none 0 0]) (t := 37) ?hr ?_; (case hd => rfl); (case hg => rfl); (case hr => first | (go_simp; done) | (go_simp; rfl)); intro gb321 hg w7 hbox hb; have n0_ := Aside0.mk (Kd.R_below B16x31_ hb); have n1_ := Aside0.mk (Kd.R_below B16x32_ hb); have n2_ := Aside0.mk (below_step B16x0_ hb); have n3_ := Aside0.mk (hbox); have n4_ := Aside0.mk ((by rw [hg]; exact (below_size B16x0_) : w.heap.size ≤ gb321)); have n5_ := Aside0.mk ((by rw [hg]; exact (below_size B16x0_) : w.heap.size ≤ gb321)); clear HO316; clear HO319; clear HB; have HO316 := n0_; have HO319 := n1_; have HB := n2_; have BK321 := n3_; have GW321 := n4_; have GE321 := n5_; clear n0_ n1_ n2_ n3_ n4_ n5_; clear hb hbox hg; obtain ⟨Ao8, co8, eo8⟩ := Kd.R_slice HO316.out; subst eo8; obtain ⟨hcz9_0, hcz9_1⟩ := cl2 BK321.out; obtain ⟨hfz9_0, hfz9_1⟩ := fr2 BK321.out; obtain ⟨Ao10, co10, eo10⟩ := Kd.R_slice HO319.out; subst eo10) | ((with_reducible refine gate_callee (f := 17) rfl ?_); refine goesL_ (some 21) rfl rfl Try.func17 B16x30_ rfl #[.string a0] rfl B16x1_ ?_; (with_reducible refine (impl_ReadKeep.calls k a0 t322 t325 t328 _ A4.out).mono ?_); rintro e w11 ⟨v323, v326, rfl, ho0, ho1, hb⟩; refine ⟨_, rfl, ?_⟩; have n0_ := Aside0.mk (Kd.R_elder' B16x28_ (Kd.R_base ho0) hb); have n1_ := Aside0.mk (Kd.R_elder' B16x29_ (Kd.R_base ho1) hb); have n2_ := Aside0.mk (Kd.R_lower (Kd.R_new' ho0 (Kd.R_lt B16x28_)) (below_size B16x12_)); have n3_ := Aside0.mk (Kd.R_lower (Kd.R_new' ho1 (Kd.R_lt B16x29_)) (below_size B16x12_)); have n4_ := Aside0.mk (blk_below (g := gb321) (o := .cells #[.slice Ao8 t314.length co8, .slice Ao10 t317.length co10] 37 (0, 0)) (by (with_reducible repeat (first | refine blk_drewN ?_ _ | refine blk_drew ?_ | refine blk_alloc ?_ _)); refine blk_put (cs := #[.slice Ao8 t314.length co8, .slice none 0 0]) ?_ 1 _ rfl; (with_reducible repeat (first | refine blk_drewN ?_ _ | refine blk_drew ?_ | refine blk_alloc ?_ _)); refine blk_put (cs := #[.slice none 0 0, .slice none 0 0]) ?_ 0 _ rfl; (with_reducible repeat (first | refine blk_drewN ?_ _ | refine blk_drew ?_ | refine blk_alloc ?_ _)); exact BK321.out) hb); have n5_ := Aside0.mk (below_step B16x12_ hb); clear HO316; clear HO319; clear BK321; clear HB; have HO316 := n0_; have HO319 := n1_; have HO324 := n2_; have HO327 := n3_; have BK321 := n4_; have HB := n5_; clear n0_ n1_ n2_ n3_ n4_ n5_; (try clear hb); (try clear hb2); (try clear hk); (try clear hi); (try clear ho0); (try clear ho1)) | ((with_reducible refine gate_dst (N := 5) rfl ?_); refine box_event ?hg (N := 5) ?hd (cs := #[.slice none 0 0, .slice none 0 0]) (t := 37) ?hr ?_; (case hd => rfl); (case hg => rfl); (case hr => first | (go_simp; done) | (go_simp; rfl)); intro gb329 hg w12 hbox hb; have n0_ := Aside0.mk (Kd.R_below B16x31_ hb); have n1_ := Aside0.mk (Kd.R_below B16x32_ hb); have n2_ := Aside0.mk (Kd.R_below (by (with_reducible repeat (first | apply Kd.R_alloc | apply Kd.R_drewN | apply Kd.R_drew)); exact HO324.out) hb); have n3_ := Aside0.mk (Kd.R_below (by (with_reducible repeat (first | apply Kd.R_alloc | apply Kd.R_drewN | apply Kd.R_drew)); exact HO327.out) hb); have n4_ := Aside0.mk (blk_below (g := gb321) (o := .cells #[.slice Ao8 t314.length co8, .slice Ao10 t317.length co10] 37 (0, 0)) B16x3_ hb); have n5_ := Aside0.mk (below_step B16x12_ hb); have n6_ := Aside0.mk (hbox); have n7_ := Aside0.mk ((by rw [hg]; exact (below_size B16x12_) : w.heap.size ≤ gb329)); have n8_ := Aside0.mk ((by rw [hg]; exact (below_size B16x12_) : w.heap.size ≤ gb329)); have n9_ := Aside0.mk ((by rw [hg]; exact Nat.ne_of_lt (blk_lt (g := gb321) (o := .cells #[.slice Ao8 t314.length co8, .slice Ao10 t317.length co10] 37 (0, 0)) B16x3_) : gb321 ≠ gb329)); have n10_ := Aside0.mk ((by rw [hg]; exact Nat.ne_of_gt (blk_lt (g := gb321) (o := .cells #[.slice Ao8 t314.length co8, .slice Ao10 t317.length co10] 37 (0, 0)) B16x3_) : gb329 ≠ gb321)); clear HO316; clear HO319; clear HO324; clear HO327; clear BK321; clear HB; have HO316 := n0_; have HO319 := n1_; have HO324 := n2_; have HO327 := n3_; have BK321 := n4_; have HB := n5_; have BK329 := n6_; have GW329 := n7_; have GE329 := n8_; have NB321_329 := n9_; have NB329_321 := n10_; clear n0_ n1_ n2_ n3_ n4_ n5_ n6_ n7_ n8_ n9_ n10_; clear hb hbox hg; obtain ⟨Ao13, co13, eo13⟩ := Kd.R_slice HO324.out; subst eo13; have hnb14 := NB329_321.out; have hnc14 := NB321_329.out; obtain ⟨hcz15_0, hcz15_1⟩ := cl2 BK329.out; obtain ⟨hfz15_0, hfz15_1⟩ := fr2 BK329.out; obtain ⟨Ao16, co16, eo16⟩ := Kd.R_slice HO327.out; subst eo16))
  (try simp only [Act.put, List.setIfInBounds_toArray, List.set_cons_zero, List.set_cons_succ])
  go_cut [32] (fun v32 wc => ∃ (kq : Nat) (x32_4 : Bool), v32 = .bool x32_4 ∧ Aside0 (laws_FnExactReadKeep.j0 kq a0 t320 x32_4 t314 t317 t322 t325 = some r) ∧ Aside0 (kq ≤ k) ∧ Aside0 (Kd.R k101 101 wc w.heap.size (fun k_ => some k_ ≠ ((.slice Ao13 t322.length co13) : Value).ownBlock) (.slice Ao8 t314.length co8) t314) ∧ Aside0 (Kd.R k104 104 wc w.heap.size (fun k_ => some k_ ≠ ((.slice Ao16 t325.length co16) : Value).ownBlock) (.slice Ao10 t317.length co10) t317) ∧ Aside0 (Kd.R k101 101 wc w.heap.size (fun k_ => some k_ ≠ ((.slice Ao8 t314.length co8) : Value).ownBlock) (.slice Ao13 t322.length co13) t322) ∧ Aside0 (Kd.R k104 104 wc w.heap.size (fun k_ => some k_ ≠ ((.slice Ao10 t317.length co10) : Value).ownBlock) (.slice Ao16 t325.length co16) t325) ∧ Aside0 (wc.heap[gb321]? = some (.cells #[(.slice Ao8 t314.length co8), (.slice Ao10 t317.length co10)] 37 (0, 0))) ∧ Aside0 (wc.heap[gb329]? = some (.cells #[(.slice Ao13 t322.length co13), (.slice Ao16 t325.length co16)] 37 (0, 0))) ∧ Aside0 (Below w.heap.size w wc))
  case first =>
   have H := HC5.out
   clear HC5
   replace H := Option.bind_eq_some_iff.mp H
   obtain ⟨t330, A170, H⟩ := H
   (try dsimp only at H)
   have A17 := Aside0.mk A170
   clear A170
   by_cases c18 : t330 = true
   ·subst c18
    rw [if_pos rfl] at H
    have H' := Aside0.mk H
    clear H
    have hnb19 := NB329_321.out
    have hnc19 := NB321_329.out
    obtain ⟨hcz20_0, hcz20_1⟩ := cl2 BK329.out
    obtain ⟨hfz20_0, hfz20_1⟩ := fr2 BK329.out
    obtain ⟨hcz21_0, hcz21_1⟩ := cl2 BK321.out
    obtain ⟨hfz21_0, hfz21_1⟩ := fr2 BK321.out
    go_wp2_with (first | ((with_reducible refine gate_callee (f := 18) rfl ?_); refine goesL_ (some 26) rfl rfl Try.func18 B16x30_ rfl #[.agg #[.slice Ao13 t322.length co13, .slice Ao16 t325.length co16], .agg #[.slice Ao8 t314.length co8, .slice Ao10 t317.length co10]] rfl B16x1_ ?_; (with_reducible refine (laws_eqKeep.calls k _ _ t322 _ _ t325 _ _ t314 _ _ t317 true _ ?side1 ?side2 ?side3 ?side4 ?side5 ?side6 ?side7 ?side8 A17.out).mono ?_); (case side1 => refine (Kd.R_reads' (e := 101) (base := w.heap.size) (ok := fun k_ => (True ∧ some k_ ≠ (.slice Ao8 t314.length co8 : Value).ownBlock)) (n := t322.length) (c := co13) ?_).2.2; exact B16x8_); (case side2 => exact (Kd.R_reads' HO324.out).2.1); (case side3 => refine (Kd.R_reads' (e := 104) (base := w.heap.size) (ok := fun k_ => (True ∧ some k_ ≠ (.slice Ao10 t317.length co10 : Value).ownBlock)) (n := t325.length) (c := co16) ?_).2.2; exact B16x9_); (case side4 => exact (Kd.R_reads' HO327.out).2.1); (case side5 => refine (Kd.R_reads' (e := 101) (base := w.heap.size) (ok := fun k_ => (True ∧ some k_ ≠ (.slice Ao13 t322.length co13 : Value).ownBlock)) (n := t314.length) (c := co8) ?_).2.2; exact B16x6_); (case side6 => exact (Kd.R_reads' HO316.out).2.1); (case side7 => refine (Kd.R_reads' (e := 104) (base := w.heap.size) (ok := fun k_ => (True ∧ some k_ ≠ (.slice Ao16 t325.length co16 : Value).ownBlock)) (n := t317.length) (c := co10) ?_).2.2; exact B16x7_); (case side8 => exact (Kd.R_reads' HO319.out).2.1); rintro e w22 ⟨rfl, hb⟩; refine ⟨_, rfl, ?_⟩; have n0_ := Aside0.mk (Kd.R_below B16x6_ hb); have n1_ := Aside0.mk (Kd.R_below B16x7_ hb); have n2_ := Aside0.mk (Kd.R_below B16x8_ hb); have n3_ := Aside0.mk (Kd.R_below B16x9_ hb); have n4_ := Aside0.mk (blk_below (g := gb321) (o := .cells #[.slice Ao8 t314.length co8, .slice Ao10 t317.length co10] 37 (0, 0)) B16x23_ hb); have n5_ := Aside0.mk (blk_below (g := gb329) (o := .cells #[.slice Ao13 t322.length co13, .slice Ao16 t325.length co16] 37 (0, 0)) B16x15_ hb); have n6_ := Aside0.mk (below_step B16x2_ hb); clear HO316; clear HO319; clear HO324; clear HO327; clear BK321; clear BK329; clear HB; have HO316 := n0_; have HO319 := n1_; have HO324 := n2_; have HO327 := n3_; have BK321 := n4_; have BK329 := n5_; have HB := n6_; clear n0_ n1_ n2_ n3_ n4_ n5_ n6_; (try clear hb); (try clear hb2); (try clear hk); (try clear hi)))
    go_meet
    case rel => exact ⟨_, ((t328 != t320)), (be_), H', ⟨by first | omega | exact Nat.le_refl _⟩, ⟨by (with_reducible repeat (first | apply Kd.R_alloc | apply Kd.R_drewN | apply Kd.R_drew)); exact Kd.R_mono HO316.out (fun _ hk => hk.2)⟩, ⟨by (with_reducible repeat (first | apply Kd.R_alloc | apply Kd.R_drewN | apply Kd.R_drew)); exact Kd.R_mono HO319.out (fun _ hk => hk.2)⟩, ⟨by (with_reducible repeat (first | apply Kd.R_alloc | apply Kd.R_drewN | apply Kd.R_drew)); exact Kd.R_mono HO324.out (fun _ hk => hk.2)⟩, ⟨by (with_reducible repeat (first | apply Kd.R_alloc | apply Kd.R_drewN | apply Kd.R_drew)); exact Kd.R_mono HO327.out (fun _ hk => hk.2)⟩, ⟨by (with_reducible repeat (first | refine blk_drewN ?_ _ | refine blk_drew ?_ | refine blk_alloc ?_ _)); exact BK321.out⟩, ⟨by (with_reducible repeat (first | refine blk_drewN ?_ _ | refine blk_drew ?_ | refine blk_alloc ?_ _)); exact BK329.out⟩, ⟨by repeat (first | (with_reducible first | exact HB.out | apply below_alloc | apply pw_below_drewN | apply below_drew1 | refine below_set ?_ GE321.out | refine below_set ?_ GE329.out) | exact HB.out)⟩⟩
   ·replace c18 := Bool.eq_false_iff.mpr c18
    subst c18
    rw [if_neg (show ¬ (false = true) by decide)] at H
    have H' := Aside0.mk H
    clear H
    have hnb23 := NB329_321.out
    have hnc23 := NB321_329.out
    obtain ⟨hcz24_0, hcz24_1⟩ := cl2 BK329.out
    obtain ⟨hfz24_0, hfz24_1⟩ := fr2 BK329.out
    obtain ⟨hcz25_0, hcz25_1⟩ := cl2 BK321.out
    obtain ⟨hfz25_0, hfz25_1⟩ := fr2 BK321.out
    go_wp2_with (first | ((with_reducible refine gate_callee (f := 18) rfl ?_); refine goesL_ (some 26) rfl rfl Try.func18 B16x30_ rfl #[.agg #[.slice Ao13 t322.length co13, .slice Ao16 t325.length co16], .agg #[.slice Ao8 t314.length co8, .slice Ao10 t317.length co10]] rfl B16x1_ ?_; (with_reducible refine (laws_eqKeep.calls k _ _ t322 _ _ t325 _ _ t314 _ _ t317 false _ ?side1 ?side2 ?side3 ?side4 ?side5 ?side6 ?side7 ?side8 A17.out).mono ?_); (case side1 => refine (Kd.R_reads' (e := 101) (base := w.heap.size) (ok := fun k_ => (True ∧ some k_ ≠ (.slice Ao8 t314.length co8 : Value).ownBlock)) (n := t322.length) (c := co13) ?_).2.2; exact B16x8_); (case side2 => exact (Kd.R_reads' HO324.out).2.1); (case side3 => refine (Kd.R_reads' (e := 104) (base := w.heap.size) (ok := fun k_ => (True ∧ some k_ ≠ (.slice Ao10 t317.length co10 : Value).ownBlock)) (n := t325.length) (c := co16) ?_).2.2; exact B16x9_); (case side4 => exact (Kd.R_reads' HO327.out).2.1); (case side5 => refine (Kd.R_reads' (e := 101) (base := w.heap.size) (ok := fun k_ => (True ∧ some k_ ≠ (.slice Ao13 t322.length co13 : Value).ownBlock)) (n := t314.length) (c := co8) ?_).2.2; exact B16x6_); (case side6 => exact (Kd.R_reads' HO316.out).2.1); (case side7 => refine (Kd.R_reads' (e := 104) (base := w.heap.size) (ok := fun k_ => (True ∧ some k_ ≠ (.slice Ao16 t325.length co16 : Value).ownBlock)) (n := t317.length) (c := co10) ?_).2.2; exact B16x7_); (case side8 => exact (Kd.R_reads' HO319.out).2.1); rintro e w26 ⟨rfl, hb⟩; refine ⟨_, rfl, ?_⟩; have n0_ := Aside0.mk (Kd.R_below B16x6_ hb); have n1_ := Aside0.mk (Kd.R_below B16x7_ hb); have n2_ := Aside0.mk (Kd.R_below B16x8_ hb); have n3_ := Aside0.mk (Kd.R_below B16x9_ hb); have n4_ := Aside0.mk (blk_below (g := gb321) (o := .cells #[.slice Ao8 t314.length co8, .slice Ao10 t317.length co10] 37 (0, 0)) B16x23_ hb); have n5_ := Aside0.mk (blk_below (g := gb329) (o := .cells #[.slice Ao13 t322.length co13, .slice Ao16 t325.length co16] 37 (0, 0)) B16x15_ hb); have n6_ := Aside0.mk (below_step B16x2_ hb); clear HO316; clear HO319; clear HO324; clear HO327; clear BK321; clear BK329; clear HB; have HO316 := n0_; have HO319 := n1_; have HO324 := n2_; have HO327 := n3_; have BK321 := n4_; have BK329 := n5_; have HB := n6_; clear n0_ n1_ n2_ n3_ n4_ n5_ n6_; (try clear hb); (try clear hb2); (try clear hk); (try clear hi)))
    go_meet
    case rel => exact ⟨_, (true), (be_), H', ⟨by first | omega | exact Nat.le_refl _⟩, ⟨by (with_reducible repeat (first | apply Kd.R_alloc | apply Kd.R_drewN | apply Kd.R_drew)); exact Kd.R_mono HO316.out (fun _ hk => hk.2)⟩, ⟨by (with_reducible repeat (first | apply Kd.R_alloc | apply Kd.R_drewN | apply Kd.R_drew)); exact Kd.R_mono HO319.out (fun _ hk => hk.2)⟩, ⟨by (with_reducible repeat (first | apply Kd.R_alloc | apply Kd.R_drewN | apply Kd.R_drew)); exact Kd.R_mono HO324.out (fun _ hk => hk.2)⟩, ⟨by (with_reducible repeat (first | apply Kd.R_alloc | apply Kd.R_drewN | apply Kd.R_drew)); exact Kd.R_mono HO327.out (fun _ hk => hk.2)⟩, ⟨by (with_reducible repeat (first | refine blk_drewN ?_ _ | refine blk_drew ?_ | refine blk_alloc ?_ _)); exact BK321.out⟩, ⟨by (with_reducible repeat (first | refine blk_drewN ?_ _ | refine blk_drew ?_ | refine blk_alloc ?_ _)); exact BK329.out⟩, ⟨by repeat (first | (with_reducible first | exact HB.out | apply below_alloc | apply pw_below_drewN | apply below_drew1 | refine below_set ?_ GE321.out | refine below_set ?_ GE329.out) | exact HB.out)⟩⟩
  case rest =>
   clear HC5
   try clear c1
   try clear c2
   try clear c2b0
   try clear c2b1
   try clear p2
   try clear c4
   try clear c14
   try clear c16
   try clear c17
   try clear c18
   try clear c19
   try clear c23
   try clear hcz15_0
   try clear hcz15_1
   try clear hcz20_0
   try clear hcz20_1
   try clear hcz21_0
   try clear hcz21_1
   try clear hcz24_0
   try clear hcz24_1
   try clear hcz25_0
   try clear hcz25_1
   try clear hcz9_0
   try clear hcz9_1
   try clear hfz15_0
   try clear hfz15_1
   try clear hfz20_0
   try clear hfz20_1
   try clear hfz21_0
   try clear hfz21_1
   try clear hfz24_0
   try clear hfz24_1
   try clear hfz25_0
   try clear hfz25_1
   try clear hfz9_0
   try clear hfz9_1
   obtain ⟨kq, x32_4, rfl, HA, HJ4, HO_322000, HO_322001, HO_330000, HO_330001, BK321, BK329, HB⟩ := hcut
   cases kq with
   | zero => exact absurd HA.out (by simp [laws_FnExactReadKeep.j0])
   | succ kj4 =>
    have H := HA.out
    clear HA
    simp only [laws_FnExactReadKeep.j0] at H
    by_cases c27 : x32_4 = true
    ·subst c27
     rw [if_pos rfl] at H
     exact absurd ((Option.some.inj H).trans hr_.out) (by decide)
    ·replace c27 := Bool.eq_false_iff.mpr c27
     subst c27
     rw [if_neg (show ¬ (false = true) by decide)] at H
     replace H := Option.bind_eq_some_iff.mp H
     obtain ⟨⟨t331, t332, t333⟩, A280, H⟩ := H
     (try dsimp only at H)
     have A28 := Aside0.mk A280
     clear A280
     replace H := Option.bind_eq_some_iff.mp H
     obtain ⟨t334, A290, H⟩ := H
     (try dsimp only at H)
     have A29 := Aside0.mk A290
     clear A290
     by_cases c30 : t334 < 0
     ·rw [if_pos c30] at H
      have c30b0 : decide (t334 < 0) = true := decide_eq_true c30
      clear c30
      exact absurd ((Option.some.inj H).trans hr_.out) (by decide)
     ·rw [if_neg c30] at H
      have c30b0 : decide (t334 < 0) = false := decide_eq_false c30
      clear c30
      by_cases c31 : t334 = t331
      ·rw [if_pos c31] at H
       have c31b0 : (t334 == t331) = true := beq_iff_eq.mpr c31
       have c31b1 : (t334 != t331) = false := bne_eq_false_iff_eq.mpr c31
       clear c31
       replace H := Option.bind_eq_some_iff.mp H
       obtain ⟨⟨t335, t338, t341⟩, A320, H⟩ := H
       (try dsimp only at H)
       have A32 := Aside0.mk A320
       clear A320
       have HC33 := Aside0.mk H
       clear H
       have hnb34 := NB329_321.out
       have hnc34 := NB321_329.out
       obtain ⟨hcz35_0, hcz35_1⟩ := cl2 BK329.out
       obtain ⟨hfz35_0, hfz35_1⟩ := fr2 BK329.out
       go_upto_region 16 with (first | ((with_reducible refine gate_callee (f := 19) rfl ?_); refine goesL_ (some 35) rfl rfl Try.func19 B16x30_ rfl #[.agg #[.slice Ao13 t322.length co13, .slice Ao16 t325.length co16], .int .i64 1] rfl B16x1_ ?_; (with_reducible refine (laws_markKeep.calls kj4 (fun k_ => some k_ = (.slice Ao13 t322.length co13 : Value).ownBlock) (.slice Ao13 t322.length co13) t322 (fun k_ => some k_ = (.slice Ao16 t325.length co16 : Value).ownBlock) (.slice Ao16 t325.length co16) t325 1 t331 t332 t333 w _ ?side1 ?side2 ?side3 A28.out).mono ?_); (case side1 => repeat (first | (with_reducible first | exact HB.out | apply below_alloc | apply pw_below_drewN | apply below_drew1 | refine below_set ?_ GE321.out | refine below_set ?_ GE329.out) | exact HB.out)); (case side2 => exact Kd.R_tight rfl HO_330000.out); (case side3 => exact Kd.R_tight rfl HO_330001.out); rintro e w36 ⟨rfl, hy0, hy1, hb, hkp⟩; refine ⟨_, rfl, ?_⟩; have n0_ := Aside0.mk (Kd.R_mono (ok' := fun k_ => some k_ ≠ (.slice Ao13 t322.length co13 : Value).ownBlock) (Kd.R_keptB ((Kd.R_apart' HO_322000.out (Kd.R_typed HO_330001.out) (by decide))) hkp (fun k_ hk_ hs_ => Or.elim hs_ (fun e_ => (hk_.1) e_) (fun e_ => (hk_.2) e_))) (fun k_ hk_ => hk_.1.1)); have n1_ := Aside0.mk (Kd.R_mono (ok' := fun k_ => some k_ ≠ (.slice Ao16 t325.length co16 : Value).ownBlock) (Kd.R_keptB ((Kd.R_apart' HO_322001.out (Kd.R_typed HO_330000.out) (by decide))) hkp (fun k_ hk_ hs_ => Or.elim hs_ (fun e_ => (hk_.2) e_) (fun e_ => (hk_.1) e_))) (fun k_ hk_ => hk_.1.1)); have n2_ := Aside0.mk (Kd.R_reok rfl hy0 (fun k_ e_ => HO_330000.out.1 k_ e_)); have n3_ := Aside0.mk (Kd.R_reok rfl hy1 (fun k_ e_ => HO_330001.out.1 k_ e_)); have n4_ := Aside0.mk (blk_kept B16x3_ hkp (fun hs_ => Or.elim hs_ (fun e_ => (fun e_ => (Kd.R_ne HO_330000.out BK321.out (by decide)) e_) e_) (fun e_ => (fun e_ => (Kd.R_ne HO_330001.out BK321.out (by decide)) e_) e_))); have n5_ := Aside0.mk (blk_kept B16x13_ hkp (fun hs_ => Or.elim hs_ (fun e_ => (fun e_ => (Kd.R_ne HO_330000.out BK329.out (by decide)) e_) e_) (fun e_ => (fun e_ => (Kd.R_ne HO_330001.out BK329.out (by decide)) e_) e_))); have n6_ := Aside0.mk (hb); clear HO_322000; clear HO_322001; clear HO_330000; clear HO_330001; clear BK321; clear BK329; clear HB; have HO_322000 := n0_; have HO_322001 := n1_; have HO_330000 := n2_; have HO_330001 := n3_; have BK321 := n4_; have BK329 := n5_; have HB := n6_; clear n0_ n1_ n2_ n3_ n4_ n5_ n6_; (try clear hb); (try clear hkp); (try clear hy0); (try clear hy1); obtain ⟨hcz37_0, hcz37_1⟩ := cl2 BK329.out; obtain ⟨hfz37_0, hfz37_1⟩ := fr2 BK329.out) | ((with_reducible refine gate_callee (f := 20) rfl ?_); refine goesL_ (some 38) rfl rfl Try.func20 B16x30_ rfl #[.agg #[.slice Ao13 t332.length co13, .slice Ao16 t333.length co16], .int .i64 1] rfl (by (try simp only [List.map_toArray, List.map_cons, List.map_nil]); first | done | (rw [show t332.length = t322.length from (Kd.R_reads' HO_330000.out).1.symm, show t333.length = t325.length from (Kd.R_reads' HO_330001.out).1.symm] <;> rfl) | rfl | (simp only [List.length_drop, List.length_take]; rfl)) ?_; (with_reducible refine (laws_heldKeep.calls kj4 _ _ t332 _ _ t333 1 t334 _ ?side1 ?side2 ?side3 ?side4 A29.out).mono ?_); (case side1 => repeat (first | exact (Kd.R_reads' HO_330000.out).2.2 | (with_reducible refine Kd.C_alloc ?_ _) | (with_reducible refine Kd.C_drewN ?_ _) | (with_reducible refine Kd.C_drew ?_))); (case side2 => rw [show t332.length = t322.length from (Kd.R_reads' HO_330000.out).1.symm]; exact (Kd.R_reads' HO_330000.out).2.1); (case side3 => repeat (first | exact (Kd.R_reads' HO_330001.out).2.2 | (with_reducible refine Kd.C_alloc ?_ _) | (with_reducible refine Kd.C_drewN ?_ _) | (with_reducible refine Kd.C_drew ?_))); (case side4 => rw [show t333.length = t325.length from (Kd.R_reads' HO_330001.out).1.symm]; exact (Kd.R_reads' HO_330001.out).2.1); rintro e w38 ⟨rfl, hb⟩; refine ⟨_, rfl, ?_⟩; have n0_ := Aside0.mk (Kd.R_below B16x19_ hb); have n1_ := Aside0.mk (Kd.R_below B16x20_ hb); have n2_ := Aside0.mk (Kd.R_below B16x21_ hb); have n3_ := Aside0.mk (Kd.R_below B16x22_ hb); have n4_ := Aside0.mk (blk_below (g := gb321) (o := .cells #[.slice Ao8 t314.length co8, .slice Ao10 t317.length co10] 37 (0, 0)) B16x3_ hb); have n5_ := Aside0.mk (blk_below (g := gb329) (o := .cells #[.slice Ao13 t322.length co13, .slice Ao16 t325.length co16] 37 (0, 0)) B16x13_ hb); have n6_ := Aside0.mk (below_step B16x2_ hb); clear HO_322000; clear HO_322001; clear HO_330000; clear HO_330001; clear BK321; clear BK329; clear HB; have HO_322000 := n0_; have HO_322001 := n1_; have HO_330000 := n2_; have HO_330001 := n3_; have BK321 := n4_; have BK329 := n5_; have HB := n6_; clear n0_ n1_ n2_ n3_ n4_ n5_ n6_; (try clear hb); (try clear hb2); (try clear hk); (try clear hi)) | ((with_reducible refine gate_callee (f := 17) rfl ?_); refine goesL_ (some 46) rfl rfl Try.func17 B16x30_ rfl #[.string a0] rfl B16x1_ ?_; (with_reducible refine (impl_ReadKeep.calls kj4 a0 t335 t338 t341 _ A32.out).mono ?_); rintro e w39 ⟨v336, v339, rfl, ho0, ho1, hb⟩; refine ⟨_, rfl, ?_⟩; have n0_ := Aside0.mk (Kd.R_elder' B16x19_ (Kd.R_base ho0) hb); have n1_ := Aside0.mk (Kd.R_elder' B16x20_ (Kd.R_base ho1) hb); have n2_ := Aside0.mk (Kd.R_elder' B16x21_ (Kd.R_base ho0) hb); have n3_ := Aside0.mk (Kd.R_elder' B16x22_ (Kd.R_base ho1) hb); have n4_ := Aside0.mk (Kd.R_lower (Kd.R_new' (Kd.R_new' ho0 (Kd.R_lt B16x19_)) (Kd.R_lt B16x21_)) (below_size B16x2_)); have n5_ := Aside0.mk (Kd.R_lower (Kd.R_new' (Kd.R_new' ho1 (Kd.R_lt B16x20_)) (Kd.R_lt B16x22_)) (below_size B16x2_)); have n6_ := Aside0.mk (blk_below (g := gb321) (o := .cells #[.slice Ao8 t314.length co8, .slice Ao10 t317.length co10] 37 (0, 0)) B16x3_ hb); have n7_ := Aside0.mk (blk_below (g := gb329) (o := .cells #[.slice Ao13 t322.length co13, .slice Ao16 t325.length co16] 37 (0, 0)) B16x13_ hb); have n8_ := Aside0.mk (below_step B16x2_ hb); clear HO_322000; clear HO_322001; clear HO_330000; clear HO_330001; clear BK321; clear BK329; clear HB; have HO_322000 := n0_; have HO_322001 := n1_; have HO_330000 := n2_; have HO_330001 := n3_; have HO337 := n4_; have HO340 := n5_; have BK321 := n6_; have BK329 := n7_; have HB := n8_; clear n0_ n1_ n2_ n3_ n4_ n5_ n6_ n7_ n8_; (try clear hb); (try clear hb2); (try clear hk); (try clear hi); (try clear ho0); (try clear ho1)) | ((with_reducible refine gate_dst (N := 9) rfl ?_); refine box_event ?hg (N := 9) ?hd (cs := #[.slice none 0 0, .slice none 0 0]) (t := 37) ?hr ?_; (case hd => rfl); (case hg => rfl); (case hr => first | (go_simp; done) | (go_simp; rfl)); intro gb342 hg w40 hbox hb; have n0_ := Aside0.mk (Kd.R_below B16x19_ hb); have n1_ := Aside0.mk (Kd.R_below B16x20_ hb); have n2_ := Aside0.mk (Kd.R_below B16x21_ hb); have n3_ := Aside0.mk (Kd.R_below B16x22_ hb); have n4_ := Aside0.mk (Kd.R_below (by (with_reducible repeat (first | apply Kd.R_alloc | apply Kd.R_drewN | apply Kd.R_drew)); exact HO337.out) hb); have n5_ := Aside0.mk (Kd.R_below (by (with_reducible repeat (first | apply Kd.R_alloc | apply Kd.R_drewN | apply Kd.R_drew)); exact HO340.out) hb); have n6_ := Aside0.mk (blk_below (g := gb321) (o := .cells #[.slice Ao8 t314.length co8, .slice Ao10 t317.length co10] 37 (0, 0)) B16x3_ hb); have n7_ := Aside0.mk (blk_below (g := gb329) (o := .cells #[.slice Ao13 t322.length co13, .slice Ao16 t325.length co16] 37 (0, 0)) B16x13_ hb); have n8_ := Aside0.mk (below_step B16x2_ hb); have n9_ := Aside0.mk (hbox); have n10_ := Aside0.mk ((by rw [hg]; exact (below_size B16x2_) : w.heap.size ≤ gb342)); have n11_ := Aside0.mk ((by rw [hg]; exact (below_size B16x2_) : w.heap.size ≤ gb342)); have n12_ := Aside0.mk ((by rw [hg]; exact Nat.ne_of_lt (blk_lt (g := gb321) (o := .cells #[.slice Ao8 t314.length co8, .slice Ao10 t317.length co10] 37 (0, 0)) B16x3_) : gb321 ≠ gb342)); have n13_ := Aside0.mk ((by rw [hg]; exact Nat.ne_of_gt (blk_lt (g := gb321) (o := .cells #[.slice Ao8 t314.length co8, .slice Ao10 t317.length co10] 37 (0, 0)) B16x3_) : gb342 ≠ gb321)); have n14_ := Aside0.mk ((by rw [hg]; exact Nat.ne_of_lt (blk_lt (g := gb329) (o := .cells #[.slice Ao13 t322.length co13, .slice Ao16 t325.length co16] 37 (0, 0)) B16x13_) : gb329 ≠ gb342)); have n15_ := Aside0.mk ((by rw [hg]; exact Nat.ne_of_gt (blk_lt (g := gb329) (o := .cells #[.slice Ao13 t322.length co13, .slice Ao16 t325.length co16] 37 (0, 0)) B16x13_) : gb342 ≠ gb329)); clear HO_322000; clear HO_322001; clear HO_330000; clear HO_330001; clear HO337; clear HO340; clear BK321; clear BK329; clear HB; have HO_322000 := n0_; have HO_322001 := n1_; have HO_330000 := n2_; have HO_330001 := n3_; have HO337 := n4_; have HO340 := n5_; have BK321 := n6_; have BK329 := n7_; have HB := n8_; have BK342 := n9_; have GW342 := n10_; have GE342 := n11_; have NB321_342 := n12_; have NB342_321 := n13_; have NB329_342 := n14_; have NB342_329 := n15_; clear n0_ n1_ n2_ n3_ n4_ n5_ n6_ n7_ n8_ n9_ n10_ n11_ n12_ n13_ n14_ n15_; clear hb hbox hg; obtain ⟨Ao41, co41, eo41⟩ := Kd.R_slice HO337.out; subst eo41; have hnb42 := NB342_321.out; have hnc42 := NB321_342.out; have hnb43 := NB342_329.out; have hnc43 := NB329_342.out; obtain ⟨hcz44_0, hcz44_1⟩ := cl2 BK342.out; obtain ⟨hfz44_0, hfz44_1⟩ := fr2 BK342.out; obtain ⟨Ao45, co45, eo45⟩ := Kd.R_slice HO340.out; subst eo45))
       (try simp only [Act.put, List.setIfInBounds_toArray, List.set_cons_zero, List.set_cons_succ])
       go_cut [57] (fun v57 wc => ∃ (kq : Nat) (x57_32 : Bool), v57 = .bool x57_32 ∧ Aside0 (laws_FnExactReadKeep.j1 kq t331 x57_32 t332 t333 = some r) ∧ Aside0 (kq ≤ kj4) ∧ Aside0 (Kd.R k101 101 wc w.heap.size (fun k_ => some k_ ≠ ((.slice Ao13 t322.length co13) : Value).ownBlock ∧ some k_ ≠ ((.slice Ao41 t335.length co41) : Value).ownBlock) (.slice Ao8 t314.length co8) t314) ∧ Aside0 (Kd.R k104 104 wc w.heap.size (fun k_ => some k_ ≠ ((.slice Ao16 t325.length co16) : Value).ownBlock ∧ some k_ ≠ ((.slice Ao45 t338.length co45) : Value).ownBlock) (.slice Ao10 t317.length co10) t317) ∧ Aside0 (Kd.R k101 101 wc w.heap.size (fun k_ => some k_ ≠ ((.slice Ao8 t314.length co8) : Value).ownBlock ∧ some k_ ≠ ((.slice Ao41 t335.length co41) : Value).ownBlock) (.slice Ao13 t322.length co13) t332) ∧ Aside0 (Kd.R k104 104 wc w.heap.size (fun k_ => some k_ ≠ ((.slice Ao10 t317.length co10) : Value).ownBlock ∧ some k_ ≠ ((.slice Ao45 t338.length co45) : Value).ownBlock) (.slice Ao16 t325.length co16) t333) ∧ Aside0 (Kd.R k101 101 wc w.heap.size (fun k_ => some k_ ≠ ((.slice Ao8 t314.length co8) : Value).ownBlock ∧ some k_ ≠ ((.slice Ao13 t322.length co13) : Value).ownBlock) (.slice Ao41 t335.length co41) t335) ∧ Aside0 (Kd.R k104 104 wc w.heap.size (fun k_ => some k_ ≠ ((.slice Ao10 t317.length co10) : Value).ownBlock ∧ some k_ ≠ ((.slice Ao16 t325.length co16) : Value).ownBlock) (.slice Ao45 t338.length co45) t338) ∧ Aside0 (wc.heap[gb321]? = some (.cells #[(.slice Ao8 t314.length co8), (.slice Ao10 t317.length co10)] 37 (0, 0))) ∧ Aside0 (wc.heap[gb329]? = some (.cells #[(.slice Ao13 t322.length co13), (.slice Ao16 t325.length co16)] 37 (0, 0))) ∧ Aside0 (wc.heap[gb342]? = some (.cells #[(.slice Ao41 t335.length co41), (.slice Ao45 t338.length co45)] 37 (0, 0))) ∧ Aside0 (Below w.heap.size w wc))
       case first =>
        have H := HC33.out
        clear HC33
        replace H := Option.bind_eq_some_iff.mp H
        obtain ⟨t343, A460, H⟩ := H
        (try dsimp only at H)
        have A46 := Aside0.mk A460
        clear A460
        by_cases c47 : t343 = true
        ·subst c47
         rw [if_pos rfl] at H
         have H' := Aside0.mk H
         clear H
         have hnb48 := NB342_321.out
         have hnc48 := NB321_342.out
         have hnb49 := NB342_329.out
         have hnc49 := NB329_342.out
         obtain ⟨hcz50_0, hcz50_1⟩ := cl2 BK342.out
         obtain ⟨hfz50_0, hfz50_1⟩ := fr2 BK342.out
         have hnb51 := NB321_329.out
         have hnc51 := NB329_321.out
         obtain ⟨hcz52_0, hcz52_1⟩ := cl2 BK321.out
         obtain ⟨hfz52_0, hfz52_1⟩ := fr2 BK321.out
         go_wp2_with (first | ((with_reducible refine gate_callee (f := 18) rfl ?_); refine goesL_ (some 51) rfl rfl Try.func18 B16x30_ rfl #[.agg #[.slice Ao41 t335.length co41, .slice Ao45 t338.length co45], .agg #[.slice Ao8 t314.length co8, .slice Ao10 t317.length co10]] rfl B16x1_ ?_; (with_reducible refine (laws_eqKeep.calls kj4 _ _ t335 _ _ t338 _ _ t314 _ _ t317 true _ ?side1 ?side2 ?side3 ?side4 ?side5 ?side6 ?side7 ?side8 A46.out).mono ?_); (case side1 => refine (Kd.R_reads' (e := 101) (base := w.heap.size) (ok := fun k_ => ((True ∧ some k_ ≠ (.slice Ao8 t314.length co8 : Value).ownBlock) ∧ some k_ ≠ (.slice Ao13 t322.length co13 : Value).ownBlock)) (n := t335.length) (c := co41) ?_).2.2; exact B16x10_); (case side2 => exact (Kd.R_reads' HO337.out).2.1); (case side3 => refine (Kd.R_reads' (e := 104) (base := w.heap.size) (ok := fun k_ => ((True ∧ some k_ ≠ (.slice Ao10 t317.length co10 : Value).ownBlock) ∧ some k_ ≠ (.slice Ao16 t325.length co16 : Value).ownBlock)) (n := t338.length) (c := co45) ?_).2.2; exact B16x11_); (case side4 => exact (Kd.R_reads' HO340.out).2.1); (case side5 => refine (Kd.R_reads' (e := 101) (base := w.heap.size) (ok := fun k_ => (some k_ ≠ (.slice Ao13 t322.length co13 : Value).ownBlock ∧ some k_ ≠ (.slice Ao41 t335.length co41 : Value).ownBlock)) (n := t314.length) (c := co8) ?_).2.2; exact B16x4_); (case side6 => exact (Kd.R_reads' HO_322000.out).2.1); (case side7 => refine (Kd.R_reads' (e := 104) (base := w.heap.size) (ok := fun k_ => (some k_ ≠ (.slice Ao16 t325.length co16 : Value).ownBlock ∧ some k_ ≠ (.slice Ao45 t338.length co45 : Value).ownBlock)) (n := t317.length) (c := co10) ?_).2.2; exact B16x5_); (case side8 => exact (Kd.R_reads' HO_322001.out).2.1); rintro e w53 ⟨rfl, hb⟩; refine ⟨_, rfl, ?_⟩; have n0_ := Aside0.mk (Kd.R_below B16x4_ hb); have n1_ := Aside0.mk (Kd.R_below B16x5_ hb); have n2_ := Aside0.mk (Kd.R_below B16x26_ hb); have n3_ := Aside0.mk (Kd.R_below B16x27_ hb); have n4_ := Aside0.mk (Kd.R_below B16x10_ hb); have n5_ := Aside0.mk (Kd.R_below B16x11_ hb); have n6_ := Aside0.mk (blk_below (g := gb321) (o := .cells #[.slice Ao8 t314.length co8, .slice Ao10 t317.length co10] 37 (0, 0)) B16x24_ hb); have n7_ := Aside0.mk (blk_below (g := gb329) (o := .cells #[.slice Ao13 t322.length co13, .slice Ao16 t325.length co16] 37 (0, 0)) B16x25_ hb); have n8_ := Aside0.mk (blk_below (g := gb342) (o := .cells #[.slice Ao41 t335.length co41, .slice Ao45 t338.length co45] 37 (0, 0)) B16x16_ hb); have n9_ := Aside0.mk (below_step B16x18_ hb); clear HO_322000; clear HO_322001; clear HO_330000; clear HO_330001; clear HO337; clear HO340; clear BK321; clear BK329; clear BK342; clear HB; have HO_322000 := n0_; have HO_322001 := n1_; have HO_330000 := n2_; have HO_330001 := n3_; have HO337 := n4_; have HO340 := n5_; have BK321 := n6_; have BK329 := n7_; have BK342 := n8_; have HB := n9_; clear n0_ n1_ n2_ n3_ n4_ n5_ n6_ n7_ n8_ n9_; (try clear hb); (try clear hb2); (try clear hk); (try clear hi)))
         go_meet
         case rel => exact ⟨_, ((t341 != t320)), (be_), H', ⟨by have := HJ4.out; first | omega | exact Nat.le_refl _⟩, ⟨by (with_reducible repeat (first | apply Kd.R_alloc | apply Kd.R_drewN | apply Kd.R_drew)); exact HO_322000.out⟩, ⟨by (with_reducible repeat (first | apply Kd.R_alloc | apply Kd.R_drewN | apply Kd.R_drew)); exact HO_322001.out⟩, ⟨by (with_reducible repeat (first | apply Kd.R_alloc | apply Kd.R_drewN | apply Kd.R_drew)); exact HO_330000.out⟩, ⟨by (with_reducible repeat (first | apply Kd.R_alloc | apply Kd.R_drewN | apply Kd.R_drew)); exact HO_330001.out⟩, ⟨by (with_reducible repeat (first | apply Kd.R_alloc | apply Kd.R_drewN | apply Kd.R_drew)); exact Kd.R_mono HO337.out (fun _ hk => ⟨hk.1.2, hk.2⟩)⟩, ⟨by (with_reducible repeat (first | apply Kd.R_alloc | apply Kd.R_drewN | apply Kd.R_drew)); exact Kd.R_mono HO340.out (fun _ hk => ⟨hk.1.2, hk.2⟩)⟩, ⟨by (with_reducible repeat (first | refine blk_drewN ?_ _ | refine blk_drew ?_ | refine blk_alloc ?_ _)); exact BK321.out⟩, ⟨by (with_reducible repeat (first | refine blk_drewN ?_ _ | refine blk_drew ?_ | refine blk_alloc ?_ _)); exact BK329.out⟩, ⟨by (with_reducible repeat (first | refine blk_drewN ?_ _ | refine blk_drew ?_ | refine blk_alloc ?_ _)); exact BK342.out⟩, ⟨by repeat (first | (with_reducible first | exact HB.out | apply below_alloc | apply pw_below_drewN | apply below_drew1 | refine below_set ?_ GE321.out | refine below_set ?_ GE329.out | refine below_set ?_ GE342.out) | exact HB.out)⟩⟩
        ·replace c47 := Bool.eq_false_iff.mpr c47
         subst c47
         rw [if_neg (show ¬ (false = true) by decide)] at H
         have H' := Aside0.mk H
         clear H
         have hnb54 := NB342_321.out
         have hnc54 := NB321_342.out
         have hnb55 := NB342_329.out
         have hnc55 := NB329_342.out
         obtain ⟨hcz56_0, hcz56_1⟩ := cl2 BK342.out
         obtain ⟨hfz56_0, hfz56_1⟩ := fr2 BK342.out
         have hnb57 := NB321_329.out
         have hnc57 := NB329_321.out
         obtain ⟨hcz58_0, hcz58_1⟩ := cl2 BK321.out
         obtain ⟨hfz58_0, hfz58_1⟩ := fr2 BK321.out
         go_wp2_with (first | ((with_reducible refine gate_callee (f := 18) rfl ?_); refine goesL_ (some 51) rfl rfl Try.func18 B16x30_ rfl #[.agg #[.slice Ao41 t335.length co41, .slice Ao45 t338.length co45], .agg #[.slice Ao8 t314.length co8, .slice Ao10 t317.length co10]] rfl B16x1_ ?_; (with_reducible refine (laws_eqKeep.calls kj4 _ _ t335 _ _ t338 _ _ t314 _ _ t317 false _ ?side1 ?side2 ?side3 ?side4 ?side5 ?side6 ?side7 ?side8 A46.out).mono ?_); (case side1 => refine (Kd.R_reads' (e := 101) (base := w.heap.size) (ok := fun k_ => ((True ∧ some k_ ≠ (.slice Ao8 t314.length co8 : Value).ownBlock) ∧ some k_ ≠ (.slice Ao13 t322.length co13 : Value).ownBlock)) (n := t335.length) (c := co41) ?_).2.2; exact B16x10_); (case side2 => exact (Kd.R_reads' HO337.out).2.1); (case side3 => refine (Kd.R_reads' (e := 104) (base := w.heap.size) (ok := fun k_ => ((True ∧ some k_ ≠ (.slice Ao10 t317.length co10 : Value).ownBlock) ∧ some k_ ≠ (.slice Ao16 t325.length co16 : Value).ownBlock)) (n := t338.length) (c := co45) ?_).2.2; exact B16x11_); (case side4 => exact (Kd.R_reads' HO340.out).2.1); (case side5 => refine (Kd.R_reads' (e := 101) (base := w.heap.size) (ok := fun k_ => (some k_ ≠ (.slice Ao13 t322.length co13 : Value).ownBlock ∧ some k_ ≠ (.slice Ao41 t335.length co41 : Value).ownBlock)) (n := t314.length) (c := co8) ?_).2.2; exact B16x4_); (case side6 => exact (Kd.R_reads' HO_322000.out).2.1); (case side7 => refine (Kd.R_reads' (e := 104) (base := w.heap.size) (ok := fun k_ => (some k_ ≠ (.slice Ao16 t325.length co16 : Value).ownBlock ∧ some k_ ≠ (.slice Ao45 t338.length co45 : Value).ownBlock)) (n := t317.length) (c := co10) ?_).2.2; exact B16x5_); (case side8 => exact (Kd.R_reads' HO_322001.out).2.1); rintro e w59 ⟨rfl, hb⟩; refine ⟨_, rfl, ?_⟩; have n0_ := Aside0.mk (Kd.R_below B16x4_ hb); have n1_ := Aside0.mk (Kd.R_below B16x5_ hb); have n2_ := Aside0.mk (Kd.R_below B16x26_ hb); have n3_ := Aside0.mk (Kd.R_below B16x27_ hb); have n4_ := Aside0.mk (Kd.R_below B16x10_ hb); have n5_ := Aside0.mk (Kd.R_below B16x11_ hb); have n6_ := Aside0.mk (blk_below (g := gb321) (o := .cells #[.slice Ao8 t314.length co8, .slice Ao10 t317.length co10] 37 (0, 0)) B16x24_ hb); have n7_ := Aside0.mk (blk_below (g := gb329) (o := .cells #[.slice Ao13 t322.length co13, .slice Ao16 t325.length co16] 37 (0, 0)) B16x25_ hb); have n8_ := Aside0.mk (blk_below (g := gb342) (o := .cells #[.slice Ao41 t335.length co41, .slice Ao45 t338.length co45] 37 (0, 0)) B16x16_ hb); have n9_ := Aside0.mk (below_step B16x18_ hb); clear HO_322000; clear HO_322001; clear HO_330000; clear HO_330001; clear HO337; clear HO340; clear BK321; clear BK329; clear BK342; clear HB; have HO_322000 := n0_; have HO_322001 := n1_; have HO_330000 := n2_; have HO_330001 := n3_; have HO337 := n4_; have HO340 := n5_; have BK321 := n6_; have BK329 := n7_; have BK342 := n8_; have HB := n9_; clear n0_ n1_ n2_ n3_ n4_ n5_ n6_ n7_ n8_ n9_; (try clear hb); (try clear hb2); (try clear hk); (try clear hi)))
         go_meet
         case rel => exact ⟨_, (true), (be_), H', ⟨by have := HJ4.out; first | omega | exact Nat.le_refl _⟩, ⟨by (with_reducible repeat (first | apply Kd.R_alloc | apply Kd.R_drewN | apply Kd.R_drew)); exact HO_322000.out⟩, ⟨by (with_reducible repeat (first | apply Kd.R_alloc | apply Kd.R_drewN | apply Kd.R_drew)); exact HO_322001.out⟩, ⟨by (with_reducible repeat (first | apply Kd.R_alloc | apply Kd.R_drewN | apply Kd.R_drew)); exact HO_330000.out⟩, ⟨by (with_reducible repeat (first | apply Kd.R_alloc | apply Kd.R_drewN | apply Kd.R_drew)); exact HO_330001.out⟩, ⟨by (with_reducible repeat (first | apply Kd.R_alloc | apply Kd.R_drewN | apply Kd.R_drew)); exact Kd.R_mono HO337.out (fun _ hk => ⟨hk.1.2, hk.2⟩)⟩, ⟨by (with_reducible repeat (first | apply Kd.R_alloc | apply Kd.R_drewN | apply Kd.R_drew)); exact Kd.R_mono HO340.out (fun _ hk => ⟨hk.1.2, hk.2⟩)⟩, ⟨by (with_reducible repeat (first | refine blk_drewN ?_ _ | refine blk_drew ?_ | refine blk_alloc ?_ _)); exact BK321.out⟩, ⟨by (with_reducible repeat (first | refine blk_drewN ?_ _ | refine blk_drew ?_ | refine blk_alloc ?_ _)); exact BK329.out⟩, ⟨by (with_reducible repeat (first | refine blk_drewN ?_ _ | refine blk_drew ?_ | refine blk_alloc ?_ _)); exact BK342.out⟩, ⟨by repeat (first | (with_reducible first | exact HB.out | apply below_alloc | apply pw_below_drewN | apply below_drew1 | refine below_set ?_ GE321.out | refine below_set ?_ GE329.out | refine below_set ?_ GE342.out) | exact HB.out)⟩⟩
       case rest =>
        clear HC33
        try clear c1
        try clear c2
        try clear c2b0
        try clear c2b1
        try clear p2
        try clear c3
        try clear c4
        try clear c5
        try clear c14
        try clear c16
        try clear c17
        try clear c18
        try clear c19
        try clear c20
        try clear c23
        try clear c27
        try clear c30
        try clear c30b0
        try clear c31
        try clear c31b0
        try clear c31b1
        try clear c34
        try clear c42
        try clear c43
        try clear c47
        try clear c48
        try clear c49
        try clear c51
        try clear c54
        try clear c55
        try clear c57
        try clear hcz15_0
        try clear hcz15_1
        try clear hcz20_0
        try clear hcz20_1
        try clear hcz21_0
        try clear hcz21_1
        try clear hcz24_0
        try clear hcz24_1
        try clear hcz25_0
        try clear hcz25_1
        try clear hcz35_0
        try clear hcz35_1
        try clear hcz37_0
        try clear hcz37_1
        try clear hcz44_0
        try clear hcz44_1
        try clear hcz50_0
        try clear hcz50_1
        try clear hcz52_0
        try clear hcz52_1
        try clear hcz56_0
        try clear hcz56_1
        try clear hcz58_0
        try clear hcz58_1
        try clear hcz9_0
        try clear hcz9_1
        try clear hfz15_0
        try clear hfz15_1
        try clear hfz20_0
        try clear hfz20_1
        try clear hfz21_0
        try clear hfz21_1
        try clear hfz24_0
        try clear hfz24_1
        try clear hfz25_0
        try clear hfz25_1
        try clear hfz35_0
        try clear hfz35_1
        try clear hfz37_0
        try clear hfz37_1
        try clear hfz44_0
        try clear hfz44_1
        try clear hfz50_0
        try clear hfz50_1
        try clear hfz52_0
        try clear hfz52_1
        try clear hfz56_0
        try clear hfz56_1
        try clear hfz58_0
        try clear hfz58_1
        try clear hfz9_0
        try clear hfz9_1
        try clear p2
        obtain ⟨kq, x57_32, rfl, HA, HJ32, HO_322000, HO_322001, HO_330000, HO_330001, HO_343000, HO_343001, BK321, BK329, BK342, HB⟩ := hcut
        have hl330000_32 := (Kd.R_reads' HO_330000.out).1
        rw [hl330000_32] at HO_330000
        (try simp only [hl330000_32])
        (try simp only [hl330000_32] at BK321)
        (try simp only [hl330000_32] at BK329)
        (try simp only [hl330000_32] at BK342)
        (try simp only [hl330000_32] at HO_322000)
        (try simp only [hl330000_32] at HO_322001)
        (try simp only [hl330000_32] at HO_330001)
        (try simp only [hl330000_32] at HO_343000)
        (try simp only [hl330000_32] at HO_343001)
        have hl330001_32 := (Kd.R_reads' HO_330001.out).1
        rw [hl330001_32] at HO_330001
        (try simp only [hl330001_32])
        (try simp only [hl330001_32] at BK321)
        (try simp only [hl330001_32] at BK329)
        (try simp only [hl330001_32] at BK342)
        (try simp only [hl330001_32] at HO_322000)
        (try simp only [hl330001_32] at HO_322001)
        (try simp only [hl330001_32] at HO_330000)
        (try simp only [hl330001_32] at HO_343000)
        (try simp only [hl330001_32] at HO_343001)
        cases kq with
        | zero => exact absurd HA.out (by simp [laws_FnExactReadKeep.j1])
        | succ kj32 =>
         have H := HA.out
         clear HA
         simp only [laws_FnExactReadKeep.j1] at H
         by_cases c60 : x57_32 = true
         ·subst c60
          rw [if_pos rfl] at H
          exact absurd ((Option.some.inj H).trans hr_.out) (by decide)
         ·replace c60 := Bool.eq_false_iff.mpr c60
          subst c60
          rw [if_neg (show ¬ (false = true) by decide)] at H
          replace H := Option.bind_eq_some_iff.mp H
          obtain ⟨t344, A610, H⟩ := H
          (try dsimp only at H)
          have A61 := Aside0.mk A610
          clear A610
          by_cases c62 : t344 < 0
          ·rw [if_pos c62] at H
           have c62b0 : decide (t344 < 0) = true := decide_eq_true c62
           clear c62
           exact absurd ((Option.some.inj H).trans hr_.out) (by decide)
          ·rw [if_neg c62] at H
           have c62b0 : decide (t344 < 0) = false := decide_eq_false c62
           clear c62
           by_cases c63 : t344 = t331
           ·rw [if_pos c63] at H
            have c63b0 : (t344 == t331) = true := beq_iff_eq.mpr c63
            have c63b1 : (t344 != t331) = false := bne_eq_false_iff_eq.mpr c63
            clear c63
            obtain rfl := Option.some.inj H
            have hnb64 := NB329_321.out
            have hnc64 := NB321_329.out
            have hnb65 := NB329_342.out
            have hnc65 := NB342_329.out
            obtain ⟨hcz66_0, hcz66_1⟩ := cl2 BK329.out
            obtain ⟨hfz66_0, hfz66_1⟩ := fr2 BK329.out
            go_wp2_with (first | ((with_reducible refine gate_callee (f := 20) rfl ?_); refine goesL_ (some 60) rfl rfl Try.func20 B16x30_ rfl #[.agg #[.slice Ao13 t332.length co13, .slice Ao16 t333.length co16], .int .i64 1] rfl B16x1_ ?_; (with_reducible refine (laws_heldKeep.calls kj32 _ _ t332 _ _ t333 1 t344 _ ?side1 ?side2 ?side3 ?side4 A61.out).mono ?_); (case side1 => repeat (first | exact (Kd.R_reads' HO_330000.out).2.2 | (with_reducible refine Kd.C_alloc ?_ _) | (with_reducible refine Kd.C_drewN ?_ _) | (with_reducible refine Kd.C_drew ?_))); (case side2 => exact (Kd.R_reads' HO_330000.out).2.1); (case side3 => repeat (first | exact (Kd.R_reads' HO_330001.out).2.2 | (with_reducible refine Kd.C_alloc ?_ _) | (with_reducible refine Kd.C_drewN ?_ _) | (with_reducible refine Kd.C_drew ?_))); (case side4 => exact (Kd.R_reads' HO_330001.out).2.1); rintro e w67 ⟨rfl, hb⟩; refine ⟨_, rfl, ?_⟩; have n0_ := Aside0.mk (Kd.R_below B16x19_ hb); have n1_ := Aside0.mk (Kd.R_below B16x20_ hb); have n2_ := Aside0.mk (Kd.R_below B16x21_ hb); have n3_ := Aside0.mk (Kd.R_below B16x22_ hb); have n4_ := Aside0.mk (Kd.R_below (by (with_reducible repeat (first | apply Kd.R_alloc | apply Kd.R_drewN | apply Kd.R_drew)); exact HO_343000.out) hb); have n5_ := Aside0.mk (Kd.R_below (by (with_reducible repeat (first | apply Kd.R_alloc | apply Kd.R_drewN | apply Kd.R_drew)); exact HO_343001.out) hb); have n6_ := Aside0.mk (blk_below (g := gb321) (o := .cells #[.slice Ao8 t314.length co8, .slice Ao10 t317.length co10] 37 (0, 0)) B16x3_ hb); have n7_ := Aside0.mk (blk_below (g := gb329) (o := .cells #[.slice Ao13 t332.length co13, .slice Ao16 t333.length co16] 37 (0, 0)) B16x13_ hb); have n8_ := Aside0.mk (blk_below (g := gb342) (o := .cells #[.slice Ao41 t335.length co41, .slice Ao45 t338.length co45] 37 (0, 0)) (by (with_reducible repeat (first | refine blk_drewN ?_ _ | refine blk_drew ?_ | refine blk_alloc ?_ _)); exact BK342.out) hb); have n9_ := Aside0.mk (below_step B16x18_ hb); clear HO_322000; clear HO_322001; clear HO_330000; clear HO_330001; clear HO_343000; clear HO_343001; clear BK321; clear BK329; clear BK342; clear HB; have HO_322000 := n0_; have HO_322001 := n1_; have HO_330000 := n2_; have HO_330001 := n3_; have HO_343000 := n4_; have HO_343001 := n5_; have BK321 := n6_; have BK329 := n7_; have BK342 := n8_; have HB := n9_; clear n0_ n1_ n2_ n3_ n4_ n5_ n6_ n7_ n8_ n9_; (try clear hb); (try clear hb2); (try clear hk); (try clear hi)))
            go_ret
            exact ⟨by first | rfl | (simp [errW_none, errW_some] <;> rfl) | (simp [*, errW_none, errW_some] <;> rfl), by repeat (first | (with_reducible first | exact HB.out | apply below_alloc | apply pw_below_drewN | apply below_drew1 | refine below_set ?_ GE321.out | refine below_set ?_ GE329.out | refine below_set ?_ GE342.out) | exact HB.out)⟩
           ·rw [if_neg c63] at H
            have c63b0 : (t344 == t331) = false := beq_eq_false_iff_ne.mpr c63
            have c63b1 : (t344 != t331) = true := bne_iff_ne.mpr c63
            exact absurd ((Option.some.inj H).trans hr_.out) (by decide)
      ·rw [if_neg c31] at H
       have c31b0 : (t334 == t331) = false := beq_eq_false_iff_ne.mpr c31
       have c31b1 : (t334 != t331) = true := bne_iff_ne.mpr c31
       exact absurd ((Option.some.inj H).trans hr_.out) (by decide)

/-- THE ONE PURE STATEMENT of laws_FnExactReadKeep: yours. -/
def laws_FnExactReadKeep.Pure : Prop := ∀ (a0 : ByteArray), a0.size ≤ 140737488351232 → ∃ k, laws_FnExactReadKeep.f k a0 = some true
theorem laws_FnExactReadKeep.walk (P : laws_FnExactReadKeep.Pure) (a0 : ByteArray) (w : World) (w0 : a0.size ≤ 140737488351232) :
  Calls Try.prog 4 #[.string a0] w fun e w' => e = .returned (.bool true) ∧ Below w.heap.size w w' := by
 obtain ⟨k, h⟩ := P a0 w0
 refine (laws_FnExactReadKeep.calls k a0 true w h ⟨rfl⟩).mono ?_
 rintro e w' ⟨rfl, hd⟩
 exact ⟨rfl, hd⟩

end Go.Proofs.Ythgjcijcmacpmaa.QFnExactReadKeep
