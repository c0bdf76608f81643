/- Functions that a law reaches, as functions of Lean, and the walks that show that the calls come to their answers: written by a program of this project out of the translation. No condition. -/
import Derived.Test.YtjijbffecppeiaaQFnDgramsx0
import Derived.Test.YtjijbffecppeiaaQFnDgramsx2
import Derived.Test.YtjijbffecppeiaaQFnDgramsx3
import Derived.Test.YtjijbffecppeiaaQFnDgramsx5
import Derived.Test.YtjijbffecppeiaaQFnDgramsx6
import Derived.Test.YtjijbffecppeiaaVFnDgramsShort3
import Derived.Test.YtjijbffecppeiaaVFnDgramsShort
namespace Go.Proofs.Ytjijbffecppeiaa.QFnDgrams
open Go.RowKit Go.Proofs.YtjijbffecppeiaaW.PrintWords Go.Proofs.YtjijbffecppeiaaW.PrintLast Go.Proofs.YtjijbffecppeiaaW.PrintMore Go.Proofs.Ytjijbffecppeiaa.Short
attribute [local go_sem] max2_int min2_int max_two min_two max_three min_three max_four min_four   -- for this text's walks alone
set_option linter.unusedVariables false
set_option linter.unusedSimpArgs false

theorem B7x0_ {p : Prop} (h : p := by (try simp only [List.map_toArray, List.map_cons, List.map_nil]); first | done | rfl | (simp only [List.length_drop, List.length_take]; rfl)) : p := h
theorem B7x1_ {p : Prop} (h : p := by repeat (first | (with_reducible first | exact HB.out | apply below_alloc | apply pw_below_drewN | apply below_drew1) | exact HB.out)) : p := h
theorem B7x2_ {p : Prop} (h : p := by repeat (first | (with_reducible first | exact HB.out | apply below_alloc | apply pw_below_drewN | apply below_drew1 | refine below_set ?_ GE341.out) | exact HB.out)) : p := h
theorem B7x3_ {p : Prop} (h : p := by (with_reducible repeat (first | refine blk_drewN ?_ _ | refine blk_drew ?_ | refine blk_alloc ?_ _)); exact BK341.out) : p := h
theorem B7x4_ {p : Prop} (h : p := by kernel_rfl) : p := h
theorem B7x5_ {p : Prop} (h : p := by repeat (first | (with_reducible first | exact HI349.out | apply IsS182.alloc | apply IsS182.drewN | apply IsS182.drew | apply IsS182.set_1 | apply IsS182.set_2) | exact HI349.out)) : p := h
theorem B7x6_ {p : Prop} (h : p := by repeat (first | (with_reducible first | exact HB.out | apply below_alloc | apply pw_below_drewN | apply below_drew1 | refine below_set ?_ (IsS182.ge HI349.out)) | exact HB.out)) : p := h
/-! ### spec_DgramText: function 131 -/
def spec_DgramText.f (k : Nat) (a0_0 : Int) (a0_1 : Int) (a0_2 : Int) (a0_3 : Int) (a0_4 : Bool) (a0_5 : ByteArray) : Option (ByteArray × Bool) := (spec_DgramOk.f a0_0 a0_1 a0_2 a0_3 a0_4 a0_5).bind fun t342 => (if t342 = true then ((spec_l11Head.f a0_0 a0_1 a0_2 a0_3 a0_4 a0_5).bind fun t343 => ((spec_SumOnes.f k t343).bind fun t344 => ((spec_l11Two.f t344).bind fun t345 => (if t343.size + t345.size ≤ 9223372036854775807 then (if (t343 ++ t345).size + a0_5.size ≤ 9223372036854775807 then (some ((t343 ++ t345) ++ a0_5, true)) else (none)) else (none))))) else (some ((⟨#[]⟩ : ByteArray), false)))
theorem spec_DgramText.mono : ∀ a0 a1 a2 a3 a4 a5 k, LeO (spec_DgramText.f k a0 a1 a2 a3 a4 a5) (spec_DgramText.f (k + 1) a0 a1 a2 a3 a4 a5) := by
 intro a0 a1 a2 a3 a4 a5 k
 unfold spec_DgramText.f
 repeat' first
   | (with_reducible exact spec_SumOnes.mono _ _)
   | (with_reducible exact LeO.refl _)
   | (with_reducible exact LeO.none _)
   | (with_reducible refine LeO.ite ?_ ?_)
   | (with_reducible refine LeO.bind ?_ (fun _ => ?_))
   | exact spec_SumOnes.mono _ _
   | exact LeO.none _
   | refine LeO.ite ?_ ?_
   | refine LeO.bind ?_ (fun _ => ?_)
def spec_DgramText.T4 : Bool × List (List Nat × List Nat) := (true, [([], []), ([], []), ([1], [1]), ([2, 2], [2]), ([0, 3], [0, 3]), ([], []), ([5], [5]), ([4, 6], [4, 6]), ([7, 3, 0, 1, 2, 3, 4, 5, 6, 7], [7]), ([8, 0, 1, 2, 3, 4, 5, 6, 7, 8], [])])
def spec_DgramText.B4 : List Nat := [0, 0, 2, 6, 15, 0, 32, 127, 255, 511]
theorem spec_DgramText.tab4 : rtab .any (opsOf Try.f131 4) = spec_DgramText.T4 := by kernel_rfl
theorem spec_DgramText.bits4 : waitsOk spec_DgramText.T4.2 spec_DgramText.B4 = true := by kernel_rfl
set_option maxHeartbeats 8000000 in
set_option maxRecDepth 100000 in
theorem spec_DgramText.calls (k : Nat) (a0_0 : Int) (a0_1 : Int) (a0_2 : Int) (a0_3 : Int) (a0_4 : Bool) (a0_5 : ByteArray) (r1 : ByteArray) (r2 : Bool) (w : World) (h : spec_DgramText.f k a0_0 a0_1 a0_2 a0_3 a0_4 a0_5 = some (r1, r2)) :
  Calls Try.prog 131 #[.agg #[.int .i64 a0_0, .int .i64 a0_1, .int .i64 a0_2, .int .i64 a0_3, .bool a0_4, .string a0_5]] w fun e w' => e = .returned (.tuple #[.string r1, .bool r2]) ∧ Below w.heap.size w w' := by
 have hu85 := Try.underlying85
 have HB := Aside0.mk (Below.refl w.heap.size w)
 have H : ((spec_DgramOk.f a0_0 a0_1 a0_2 a0_3 a0_4 a0_5).bind fun t342 => (if t342 = true then ((spec_l11Head.f a0_0 a0_1 a0_2 a0_3 a0_4 a0_5).bind fun t343 => ((spec_SumOnes.f k t343).bind fun t344 => ((spec_l11Two.f t344).bind fun t345 => (if t343.size + t345.size ≤ 9223372036854775807 then (if (t343 ++ t345).size + a0_5.size ≤ 9223372036854775807 then (some ((t343 ++ t345) ++ a0_5, true)) else (none)) else (none))))) else (some ((⟨#[]⟩ : ByteArray), false)))) = some (r1, r2) := h
 clear h
 replace H := Option.bind_eq_some_iff.mp H
 obtain ⟨t342, A20, H⟩ := H
 (try dsimp only at H)
 have A2 := Aside0.mk A20
 clear A20
 by_cases c3 : t342 = true
 ·subst c3
  rw [if_pos rfl] at H
  replace H := Option.bind_eq_some_iff.mp H
  obtain ⟨t343, A40, H⟩ := H
  (try dsimp only at H)
  have A4 := Aside0.mk A40
  clear A40
  replace H := Option.bind_eq_some_iff.mp H
  obtain ⟨t344, A50, H⟩ := H
  (try dsimp only at H)
  have A5 := Aside0.mk A50
  clear A50
  replace H := Option.bind_eq_some_iff.mp H
  obtain ⟨t345, A60, H⟩ := H
  (try dsimp only at H)
  have A6 := Aside0.mk A60
  clear A60
  by_cases c7 : t343.size + t345.size ≤ 9223372036854775807
  ·rw [if_pos c7] at H
   have c7b0 := eq_true c7
   have c7b1 : decide (t343.size + t345.size ≤ 9223372036854775807) = true := decide_eq_true c7
   try have c7b2 : (9223372036854775807 < t343.size + t345.size) = False := eq_false (Nat.not_lt.2 c7)
   try (have c7b9 := c7b2; simp only [ByteArray.size_append] at c7b9)
   by_cases c8 : (t343 ++ t345).size + a0_5.size ≤ 9223372036854775807
   ·rw [if_pos c8] at H
    have c8b0 := eq_true c8
    have c8b1 : decide ((t343 ++ t345).size + a0_5.size ≤ 9223372036854775807) = true := decide_eq_true c8
    try have c8b2 : (9223372036854775807 < (t343 ++ t345).size + a0_5.size) = False := eq_false (Nat.not_lt.2 c8)
    try have c8b8 : (9223372036854775807 < t343.size + t345.size + a0_5.size) = False := eq_false (by have h_ := c8; simp only [ByteArray.size_append, ByteArray.size_extract, decide_eq_true_eq, decide_eq_false_iff_not] at *; omega)
    try (have c8b9 := c8b2; simp only [ByteArray.size_append] at c8b9)
    simp only [Option.some.injEq, Prod.mk.injEq] at H
    obtain ⟨rfl, rfl⟩ := H
    go_enter Try.func131, Try.ntmps131
    try go_wp2_with (first | ((with_reducible refine gate_dst (N := 1) rfl ?_); refine box_event ?hg (N := 1) ?hd (cs := #[.int .i64 a0_0, .int .i64 a0_1, .int .i64 a0_2, .int .i64 a0_3, .bool a0_4, .string a0_5]) (t := 85) ?hr ?_; (case hd => rfl); (case hg => rfl); (case hr => first | (go_simp; done) | (go_simp; rfl)); intro gb341 hg w9 hbox hb; have n0_ := Aside0.mk (below_step B7x1_ hb); have n1_ := Aside0.mk (hbox); have n2_ := Aside0.mk ((by rw [hg]; exact (below_size B7x1_) : w.heap.size ≤ gb341)); have n3_ := Aside0.mk ((by rw [hg]; exact (below_size B7x1_) : w.heap.size ≤ gb341)); clear HB; have HB := n0_; have BK341 := n1_; have GW341 := n2_; have GE341 := n3_; clear n0_ n1_ n2_ n3_; clear hb hbox hg; obtain ⟨hcz10_0, hcz10_1, hcz10_2, hcz10_3, hcz10_4, hcz10_5⟩ := cl6 BK341.out; obtain ⟨hfz10_0, hfz10_1, hfz10_2, hfz10_3, hfz10_4, hfz10_5⟩ := fr6 BK341.out) | ((with_reducible refine gate_callee (f := 56) rfl ?_); refine goesL_ (some 6) rfl rfl Try.func56 B7x4_ rfl #[.agg #[.int .i64 a0_0, .int .i64 a0_1, .int .i64 a0_2, .int .i64 a0_3, .bool a0_4, .string a0_5]] rfl B7x0_ ?_; (with_reducible refine (spec_DgramOk.calls a0_0 a0_1 a0_2 a0_3 a0_4 a0_5 true _ A2.out).mono ?_); rintro e w11 ⟨rfl, hb⟩; refine ⟨_, rfl, ?_⟩; have n0_ := Aside0.mk (blk_below (g := gb341) (o := .cells #[.int .i64 a0_0, .int .i64 a0_1, .int .i64 a0_2, .int .i64 a0_3, .bool a0_4, .string a0_5] 85 (0, 0)) B7x3_ hb); have n1_ := Aside0.mk (below_step B7x2_ hb); clear BK341; clear HB; have BK341 := n0_; have HB := n1_; clear n0_ n1_; (try clear hb); (try clear hb2); (try clear hk); (try clear hi); obtain ⟨hcz12_0, hcz12_1, hcz12_2, hcz12_3, hcz12_4, hcz12_5⟩ := cl6 BK341.out; obtain ⟨hfz12_0, hfz12_1, hfz12_2, hfz12_3, hfz12_4, hfz12_5⟩ := fr6 BK341.out) | ((with_reducible refine gate_callee (f := 171) rfl ?_); refine goesL_ (some 9) rfl rfl Try.func171 B7x4_ rfl #[.agg #[.int .i64 a0_0, .int .i64 a0_1, .int .i64 a0_2, .int .i64 a0_3, .bool a0_4, .string a0_5]] rfl B7x0_ ?_; (with_reducible refine (spec_l11Head.calls a0_0 a0_1 a0_2 a0_3 a0_4 a0_5 t343 _ A4.out).mono ?_); rintro e w13 ⟨rfl, hb⟩; refine ⟨_, rfl, ?_⟩; have n0_ := Aside0.mk (blk_below (g := gb341) (o := .cells #[.int .i64 a0_0, .int .i64 a0_1, .int .i64 a0_2, .int .i64 a0_3, .bool a0_4, .string a0_5] 85 (0, 0)) B7x3_ hb); have n1_ := Aside0.mk (below_step B7x2_ hb); clear BK341; clear HB; have BK341 := n0_; have HB := n1_; clear n0_ n1_; (try clear hb); (try clear hb2); (try clear hk); (try clear hi)))
    have n0_ := Aside0.mk (blk_drew BK341.out)
    have n1_ := Aside0.mk (below_drew1 HB.out)
    clear BK341
    clear HB
    have BK341 := n0_
    have HB := n1_
    clear n0_ n1_
    refine start_ (n := 10) (S := fun w' => w'.cell? ⟨gb341, 0, none⟩ = some (.int .i64 a0_0) ∧ w'.cell? ⟨gb341, 1, none⟩ = some (.int .i64 a0_1) ∧ w'.cell? ⟨gb341, 2, none⟩ = some (.int .i64 a0_2) ∧ w'.cell? ⟨gb341, 3, none⟩ = some (.int .i64 a0_3) ∧ w'.cell? ⟨gb341, 4, none⟩ = some (.bool a0_4) ∧ w'.cell? ⟨gb341, 5, none⟩ = some (.string a0_5)) (ds := []) #[false, false, false, false, false, false, false, false, false, false] B7x4_ rfl rfl ⟨(blk_cell BK341.out 0).trans rfl, (blk_cell BK341.out 1).trans rfl, (blk_cell BK341.out 2).trans rfl, (blk_cell BK341.out 3).trans rfl, (blk_cell BK341.out 4).trans rfl, (blk_cell BK341.out 5).trans rfl⟩ (fun hHeld => ?_); refine with_tabW spec_DgramText.tab4 spec_DgramText.bits4 (fun HT_ HW_ => ?_)
    generalize w13.drew = w14 at BK341 HB hHeld ⊢
    refine pu_ 0 10 HT_ ?_
    refine pu_ 1 11 HT_ ?_
    refine pu_ 5 15 HT_ ?_
    refine ta_ 6 16 HT_ HW_ hHeld ?_
    refine one_ (i := 2) (N := some 12) #[true, true, true, false, false, true, true, false, false, false] rfl rfl (one_of HT_.out B7x4_) (by decide) (fun K hK => ?_)
    refine goes_ Try.func62 B7x4_ rfl #[.string t343] (by rfl) rfl rfl B7x0_ ?_
    with_reducible refine (spec_SumOnes.calls k t343 t344 _ A5.out).mono ?_
    rintro e w' ⟨rfl, ⟨nd, rfl⟩⟩
    refine ⟨_, rfl, ?_⟩
    refine hK.out _ _ ⟨(blk_cell BK341.out 0).trans rfl, (blk_cell BK341.out 1).trans rfl, (blk_cell BK341.out 2).trans rfl, (blk_cell BK341.out 3).trans rfl, (blk_cell BK341.out 4).trans rfl, (blk_cell BK341.out 5).trans rfl⟩ (fun hHeld => ?_)
    clear hK K
    refine norm_ (a' := ?_) ?_ ?_
    rotate_left
    ·show Act.put _ (some 12) _ = _
     simp only [Act.put, List.setIfInBounds_toArray, List.set_cons_zero, List.set_cons_succ, i64_w, i32_w]
     rfl
    refine one_ (i := 3) (N := some 13) #[true, true, true, true, false, true, true, false, false, false] rfl rfl (one_of HT_.out B7x4_) (by decide) (fun K hK => ?_)
    refine goes_ Try.func158 B7x4_ rfl #[.int .i64 t344] (by rfl) rfl rfl B7x0_ ?_
    with_reducible refine (spec_l11Two.calls t344 t345 _ A6.out).mono ?_
    rintro e w15 ⟨rfl, hb⟩
    refine ⟨_, rfl, ?_⟩
    have n0_ := Aside0.mk (blk_below (g := gb341) (o := .cells #[.int .i64 a0_0, .int .i64 a0_1, .int .i64 a0_2, .int .i64 a0_3, .bool a0_4, .string a0_5] 85 (0, 0)) B7x3_ hb)
    have n1_ := Aside0.mk (below_step B7x2_ hb)
    clear BK341
    clear HB
    have BK341 := n0_
    have HB := n1_
    clear n0_ n1_
    (try clear hb)
    (try clear hb2)
    (try clear hk)
    (try clear hi)
    refine hK.out _ _ ⟨(blk_cell BK341.out 0).trans rfl, (blk_cell BK341.out 1).trans rfl, (blk_cell BK341.out 2).trans rfl, (blk_cell BK341.out 3).trans rfl, (blk_cell BK341.out 4).trans rfl, (blk_cell BK341.out 5).trans rfl⟩ (fun hHeld => ?_)
    clear hK K
    refine norm_ (a' := ?_) ?_ ?_
    rotate_left
    ·show Act.put _ (some 13) _ = _
     simp only [Act.put, List.setIfInBounds_toArray, List.set_cons_zero, List.set_cons_succ, i64_w, i32_w]
     rfl
    refine pu_ 4 14 HT_ ?_
    refine pu_ 7 17 HT_ ?_
    refine pu_ 8 2 HT_ ?_
    refine pu_ 9 3 HT_ ?_
    refine done_ (done_of HT_.out B7x4_) ?_
    try go_wp2
    go_ret2
    exact ⟨by first | rfl | (simp [errW_none, errW_some] <;> rfl) | (simp [*, errW_none, errW_some] <;> rfl), by repeat (first | (with_reducible first | exact HB.out | apply below_alloc | apply pw_below_drewN | apply below_drew1 | refine below_set ?_ GE341.out) | exact HB.out)⟩
   ·rw [if_neg c8] at H
    exact absurd H (by simp)
  ·rw [if_neg c7] at H
   exact absurd H (by simp)
 ·replace c3 := Bool.eq_false_iff.mpr c3
  subst c3
  rw [if_neg (show ¬ (false = true) by decide)] at H
  simp only [Option.some.injEq, Prod.mk.injEq] at H
  obtain ⟨rfl, rfl⟩ := H
  go_enter Try.func131, Try.ntmps131
  go_wp2_with (first | ((with_reducible refine gate_dst (N := 1) rfl ?_); refine box_event ?hg (N := 1) ?hd (cs := #[.int .i64 a0_0, .int .i64 a0_1, .int .i64 a0_2, .int .i64 a0_3, .bool a0_4, .string a0_5]) (t := 85) ?hr ?_; (case hd => rfl); (case hg => rfl); (case hr => first | (go_simp; done) | (go_simp; rfl)); intro gb341 hg w16 hbox hb; have n0_ := Aside0.mk (below_step B7x1_ hb); have n1_ := Aside0.mk (hbox); have n2_ := Aside0.mk ((by rw [hg]; exact (below_size B7x1_) : w.heap.size ≤ gb341)); have n3_ := Aside0.mk ((by rw [hg]; exact (below_size B7x1_) : w.heap.size ≤ gb341)); clear HB; have HB := n0_; have BK341 := n1_; have GW341 := n2_; have GE341 := n3_; clear n0_ n1_ n2_ n3_; clear hb hbox hg; obtain ⟨hcz17_0, hcz17_1, hcz17_2, hcz17_3, hcz17_4, hcz17_5⟩ := cl6 BK341.out; obtain ⟨hfz17_0, hfz17_1, hfz17_2, hfz17_3, hfz17_4, hfz17_5⟩ := fr6 BK341.out) | ((with_reducible refine gate_callee (f := 56) rfl ?_); refine goesL_ (some 6) rfl rfl Try.func56 B7x4_ rfl #[.agg #[.int .i64 a0_0, .int .i64 a0_1, .int .i64 a0_2, .int .i64 a0_3, .bool a0_4, .string a0_5]] rfl B7x0_ ?_; (with_reducible refine (spec_DgramOk.calls a0_0 a0_1 a0_2 a0_3 a0_4 a0_5 false _ A2.out).mono ?_); rintro e w18 ⟨rfl, hb⟩; refine ⟨_, rfl, ?_⟩; have n0_ := Aside0.mk (blk_below (g := gb341) (o := .cells #[.int .i64 a0_0, .int .i64 a0_1, .int .i64 a0_2, .int .i64 a0_3, .bool a0_4, .string a0_5] 85 (0, 0)) B7x3_ hb); have n1_ := Aside0.mk (below_step B7x2_ hb); clear BK341; clear HB; have BK341 := n0_; have HB := n1_; clear n0_ n1_; (try clear hb); (try clear hb2); (try clear hk); (try clear hi)))
  go_ret2
  exact ⟨by first | rfl | (simp [errW_none, errW_some] <;> rfl) | (simp [*, errW_none, errW_some] <;> rfl), by repeat (first | (with_reducible first | exact HB.out | apply below_alloc | apply pw_below_drewN | apply below_drew1 | refine below_set ?_ GE341.out) | exact HB.out)⟩

/-! ### spec_DrawReadDgram: function 59 -/
def spec_DrawReadDgram.f (k : Nat) (l0 : List Int) : Option (ByteArray) := (spec_l01New.f k l0).bind fun bt346 => ((spec_l11Any.f k bt346.1 bt346.2.1 bt346.2.2).bind fun bt350 => ((spec_DgramText.f k bt350.1 bt350.2.1 bt350.2.2.1 bt350.2.2.2.1 bt350.2.2.2.2.1 bt350.2.2.2.2.2.1).bind fun bt358 => ((spec_l01Once.f bt346.1 bt350.2.2.2.2.2.2.1 bt350.2.2.2.2.2.2.2 2).bind fun bt360 => (if bt360.1 = true then ((spec_l02Spoilt.f k bt346.1 bt360.2.1 bt360.2.2 bt358.1).bind fun bt363 => (some bt363.1)) else (some bt358.1)))))
theorem spec_DrawReadDgram.mono : ∀ a0 k, LeO (spec_DrawReadDgram.f k a0) (spec_DrawReadDgram.f (k + 1) a0) := by
 intro a0 k
 unfold spec_DrawReadDgram.f
 repeat' first
   | (with_reducible exact spec_DgramText.mono _ _ _ _ _ _ _)
   | (with_reducible exact spec_l01New.mono _ _)
   | (with_reducible exact spec_l02Spoilt.mono _ _ _ _ _)
   | (with_reducible exact spec_l11Any.mono _ _ _ _)
   | (with_reducible exact LeO.refl _)
   | (with_reducible exact LeO.none _)
   | (with_reducible refine LeO.ite ?_ ?_)
   | (with_reducible refine LeO.bind ?_ (fun _ => ?_))
   | exact spec_DgramText.mono _ _ _ _ _ _ _
   | exact spec_l01New.mono _ _
   | exact spec_l02Spoilt.mono _ _ _ _ _
   | exact spec_l11Any.mono _ _ _ _
   | exact LeO.none _
   | refine LeO.ite ?_ ?_
   | refine LeO.bind ?_ (fun _ => ?_)
set_option maxHeartbeats 8000000 in
set_option maxRecDepth 100000 in
theorem spec_DrawReadDgram.calls (k : Nat) (A0 : Option Addr) (c0 : Nat) (l0 : List Int) (r : ByteArray) (w : World) (hr0 : Kd.C (Kd.int .u8) w A0 l0.length l0) (hc0 : l0.length ≤ c0) (h : spec_DrawReadDgram.f k l0 = some r) :
  Calls Try.prog 59 #[.slice A0 l0.length c0] w fun e w' => e = .returned (.string r) ∧ Below w.heap.size w w' := by
 have HR0 := Aside0.mk hr0
 have HC0 := Aside0.mk hc0
 clear hr0 hc0
 have HB := Aside0.mk (Below.refl w.heap.size w)
 have H : ((spec_l01New.f k l0).bind fun bt346 => ((spec_l11Any.f k bt346.1 bt346.2.1 bt346.2.2).bind fun bt350 => ((spec_DgramText.f k bt350.1 bt350.2.1 bt350.2.2.1 bt350.2.2.2.1 bt350.2.2.2.2.1 bt350.2.2.2.2.2.1).bind fun bt358 => ((spec_l01Once.f bt346.1 bt350.2.2.2.2.2.2.1 bt350.2.2.2.2.2.2.2 2).bind fun bt360 => (if bt360.1 = true then ((spec_l02Spoilt.f k bt346.1 bt360.2.1 bt360.2.2 bt358.1).bind fun bt363 => (some bt363.1)) else (some bt358.1)))))) = some r := h
 clear h
 replace H := Option.bind_eq_some_iff.mp H
 obtain ⟨⟨t346, t347, t348⟩, A20, H⟩ := H
 (try dsimp only at H)
 have A2 := Aside0.mk A20
 clear A20
 replace H := Option.bind_eq_some_iff.mp H
 obtain ⟨⟨t350, t351, t352, t353, t354, t355, t356, t357⟩, A30, H⟩ := H
 (try dsimp only at H)
 have A3 := Aside0.mk A30
 clear A30
 replace H := Option.bind_eq_some_iff.mp H
 obtain ⟨⟨t358, t359⟩, A40, H⟩ := H
 (try dsimp only at H)
 have A4 := Aside0.mk A40
 clear A40
 replace H := Option.bind_eq_some_iff.mp H
 obtain ⟨⟨t360, t361, t362⟩, A50, H⟩ := H
 (try dsimp only at H)
 have A5 := Aside0.mk A50
 clear A50
 by_cases c6 : t360 = true
 ·subst c6
  rw [if_pos rfl] at H
  replace H := Option.bind_eq_some_iff.mp H
  obtain ⟨⟨t363, t364, t365⟩, A70, H⟩ := H
  (try dsimp only at H)
  have A7 := Aside0.mk A70
  clear A70
  obtain rfl := Option.some.inj H
  go_enter Try.func59, Try.ntmps59
  go_wp2_with (first | ((with_reducible refine gate_callee (f := 96) rfl ?_); refine goesL_ (some 7) rfl rfl Try.func96 B7x4_ rfl #[.slice A0 l0.length c0] rfl B7x0_ ?_; (with_reducible refine (spec_l01New.calls k _ _ l0 t346 t347 t348 w _ ?side1 ?side2 ?side3 A2.out).mono ?_); (case side1 => repeat (first | (with_reducible first | exact HB.out | apply below_alloc | apply pw_below_drewN | apply below_drew1) | exact HB.out)); (case side2 => exact HR0.out); (case side3 => exact HC0.out); rintro e w8 ⟨g349, rfl, hi, hb, hb2⟩; refine ⟨_, rfl, ?_⟩; have n0_ := Aside0.mk (hb); have n1_ := Aside0.mk (hi); clear HB; have HB := n0_; have HI349 := n1_; clear n0_ n1_; (try clear hb); (try clear hb2); (try clear hk); (try clear hi)) | ((with_reducible refine gate_callee (f := 128) rfl ?_); refine goesL_ (some 10) rfl rfl Try.func128 B7x4_ rfl #[.pointer (some ⟨g349, 0, none⟩)] rfl B7x0_ ?_; (with_reducible refine (spec_l11Any.calls k g349 t346 t347 t348 t350 t351 t352 t353 t354 t355 t356 t357 w _ ?side1 ?side2 A3.out).mono ?_); (case side1 => repeat (first | (with_reducible first | exact HI349.out | apply IsS182.alloc | apply IsS182.drewN | apply IsS182.drew | apply IsS182.set_1 | apply IsS182.set_2) | exact HI349.out)); (case side2 => repeat (first | (with_reducible first | exact HB.out | apply below_alloc | apply pw_below_drewN | apply below_drew1 | refine below_set ?_ (IsS182.ge HI349.out)) | exact HB.out)); rintro e w9 ⟨rfl, hi, hb, hk⟩; refine ⟨_, rfl, ?_⟩; have n0_ := Aside0.mk (hb); have n1_ := Aside0.mk (hi); clear HB; clear HI349; have HB := n0_; have HI349 := n1_; clear n0_ n1_; (try clear hb); (try clear hb2); (try clear hk); (try clear hi)) | ((with_reducible refine gate_callee (f := 131) rfl ?_); refine goesL_ (some 11) rfl rfl Try.func131 B7x4_ rfl #[.agg #[.int .i64 t350, .int .i64 t351, .int .i64 t352, .int .i64 t353, .bool t354, .string t355]] rfl B7x0_ ?_; (with_reducible refine (spec_DgramText.calls k t350 t351 t352 t353 t354 t355 t358 t359 _ A4.out).mono ?_); rintro e w10 ⟨rfl, hb⟩; refine ⟨_, rfl, ?_⟩; have n0_ := Aside0.mk (IsS182.below B7x5_ hb); have n1_ := Aside0.mk (below_step B7x6_ hb); clear HI349; clear HB; have HI349 := n0_; have HB := n1_; clear n0_ n1_; (try clear hb); (try clear hb2); (try clear hk); (try clear hi)) | ((with_reducible refine gate_callee (f := 104) rfl ?_); refine goesL_ (some 15) rfl rfl Try.func104 B7x4_ rfl #[.pointer (some ⟨g349, 0, none⟩), .int .i64 2] rfl B7x0_ ?_; (with_reducible refine (spec_l01Once.calls g349 t346 t356 t357 2 true t361 t362 w _ ?side1 ?side2 A5.out).mono ?_); (case side1 => repeat (first | (with_reducible first | exact HI349.out | apply IsS182.alloc | apply IsS182.drewN | apply IsS182.drew | apply IsS182.set_1 | apply IsS182.set_2) | exact HI349.out)); (case side2 => repeat (first | (with_reducible first | exact HB.out | apply below_alloc | apply pw_below_drewN | apply below_drew1 | refine below_set ?_ (IsS182.ge HI349.out)) | exact HB.out)); rintro e w11 ⟨rfl, hi, hb, hk⟩; refine ⟨_, rfl, ?_⟩; have n0_ := Aside0.mk (hb); have n1_ := Aside0.mk (hi); clear HB; clear HI349; have HB := n0_; have HI349 := n1_; clear n0_ n1_; (try clear hb); (try clear hb2); (try clear hk); (try clear hi)) | ((with_reducible refine gate_callee (f := 105) rfl ?_); refine goesL_ (some 18) rfl rfl Try.func105 B7x4_ rfl #[.pointer (some ⟨g349, 0, none⟩), .string t358] rfl B7x0_ ?_; (with_reducible refine (spec_l02Spoilt.calls k g349 t346 t361 t362 t358 t363 t364 t365 w _ ?side1 ?side2 A7.out).mono ?_); (case side1 => repeat (first | (with_reducible first | exact HI349.out | apply IsS182.alloc | apply IsS182.drewN | apply IsS182.drew | apply IsS182.set_1 | apply IsS182.set_2) | exact HI349.out)); (case side2 => repeat (first | (with_reducible first | exact HB.out | apply below_alloc | apply pw_below_drewN | apply below_drew1 | refine below_set ?_ (IsS182.ge HI349.out)) | exact HB.out)); rintro e w12 ⟨rfl, hi, hb, hk⟩; refine ⟨_, rfl, ?_⟩; have n0_ := Aside0.mk (hb); have n1_ := Aside0.mk (hi); clear HB; clear HI349; have HB := n0_; have HI349 := n1_; clear n0_ n1_; (try clear hb); (try clear hb2); (try clear hk); (try clear hi)))
  go_ret
  exact ⟨by first | rfl | (simp [errW_none, errW_some] <;> rfl) | (simp [*, errW_none, errW_some] <;> rfl), by repeat (first | (with_reducible first | exact HB.out | apply below_alloc | apply pw_below_drewN | apply below_drew1 | refine below_set ?_ (IsS182.ge HI349.out)) | exact HB.out)⟩
 ·replace c6 := Bool.eq_false_iff.mpr c6
  subst c6
  rw [if_neg (show ¬ (false = true) by decide)] at H
  obtain rfl := Option.some.inj H
  go_enter Try.func59, Try.ntmps59
  go_wp2_with (first | ((with_reducible refine gate_callee (f := 96) rfl ?_); refine goesL_ (some 7) rfl rfl Try.func96 B7x4_ rfl #[.slice A0 l0.length c0] rfl B7x0_ ?_; (with_reducible refine (spec_l01New.calls k _ _ l0 t346 t347 t348 w _ ?side1 ?side2 ?side3 A2.out).mono ?_); (case side1 => repeat (first | (with_reducible first | exact HB.out | apply below_alloc | apply pw_below_drewN | apply below_drew1) | exact HB.out)); (case side2 => exact HR0.out); (case side3 => exact HC0.out); rintro e w13 ⟨g349, rfl, hi, hb, hb2⟩; refine ⟨_, rfl, ?_⟩; have n0_ := Aside0.mk (hb); have n1_ := Aside0.mk (hi); clear HB; have HB := n0_; have HI349 := n1_; clear n0_ n1_; (try clear hb); (try clear hb2); (try clear hk); (try clear hi)) | ((with_reducible refine gate_callee (f := 128) rfl ?_); refine goesL_ (some 10) rfl rfl Try.func128 B7x4_ rfl #[.pointer (some ⟨g349, 0, none⟩)] rfl B7x0_ ?_; (with_reducible refine (spec_l11Any.calls k g349 t346 t347 t348 t350 t351 t352 t353 t354 t355 t356 t357 w _ ?side1 ?side2 A3.out).mono ?_); (case side1 => repeat (first | (with_reducible first | exact HI349.out | apply IsS182.alloc | apply IsS182.drewN | apply IsS182.drew | apply IsS182.set_1 | apply IsS182.set_2) | exact HI349.out)); (case side2 => repeat (first | (with_reducible first | exact HB.out | apply below_alloc | apply pw_below_drewN | apply below_drew1 | refine below_set ?_ (IsS182.ge HI349.out)) | exact HB.out)); rintro e w14 ⟨rfl, hi, hb, hk⟩; refine ⟨_, rfl, ?_⟩; have n0_ := Aside0.mk (hb); have n1_ := Aside0.mk (hi); clear HB; clear HI349; have HB := n0_; have HI349 := n1_; clear n0_ n1_; (try clear hb); (try clear hb2); (try clear hk); (try clear hi)) | ((with_reducible refine gate_callee (f := 131) rfl ?_); refine goesL_ (some 11) rfl rfl Try.func131 B7x4_ rfl #[.agg #[.int .i64 t350, .int .i64 t351, .int .i64 t352, .int .i64 t353, .bool t354, .string t355]] rfl B7x0_ ?_; (with_reducible refine (spec_DgramText.calls k t350 t351 t352 t353 t354 t355 t358 t359 _ A4.out).mono ?_); rintro e w15 ⟨rfl, hb⟩; refine ⟨_, rfl, ?_⟩; have n0_ := Aside0.mk (IsS182.below B7x5_ hb); have n1_ := Aside0.mk (below_step B7x6_ hb); clear HI349; clear HB; have HI349 := n0_; have HB := n1_; clear n0_ n1_; (try clear hb); (try clear hb2); (try clear hk); (try clear hi)) | ((with_reducible refine gate_callee (f := 104) rfl ?_); refine goesL_ (some 15) rfl rfl Try.func104 B7x4_ rfl #[.pointer (some ⟨g349, 0, none⟩), .int .i64 2] rfl B7x0_ ?_; (with_reducible refine (spec_l01Once.calls g349 t346 t356 t357 2 false t361 t362 w _ ?side1 ?side2 A5.out).mono ?_); (case side1 => repeat (first | (with_reducible first | exact HI349.out | apply IsS182.alloc | apply IsS182.drewN | apply IsS182.drew | apply IsS182.set_1 | apply IsS182.set_2) | exact HI349.out)); (case side2 => repeat (first | (with_reducible first | exact HB.out | apply below_alloc | apply pw_below_drewN | apply below_drew1 | refine below_set ?_ (IsS182.ge HI349.out)) | exact HB.out)); rintro e w16 ⟨rfl, hi, hb, hk⟩; refine ⟨_, rfl, ?_⟩; have n0_ := Aside0.mk (hb); have n1_ := Aside0.mk (hi); clear HB; clear HI349; have HB := n0_; have HI349 := n1_; clear n0_ n1_; (try clear hb); (try clear hb2); (try clear hk); (try clear hi)))
  go_ret
  exact ⟨by first | rfl | (simp [errW_none, errW_some] <;> rfl) | (simp [*, errW_none, errW_some] <;> rfl), by repeat (first | (with_reducible first | exact HB.out | apply below_alloc | apply pw_below_drewN | apply below_drew1 | refine below_set ?_ (IsS182.ge HI349.out)) | exact HB.out)⟩

end Go.Proofs.Ytjijbffecppeiaa.QFnDgrams
