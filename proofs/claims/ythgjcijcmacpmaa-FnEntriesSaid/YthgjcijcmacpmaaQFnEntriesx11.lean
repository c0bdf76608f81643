/- Functions that a law reaches, as functions of Lean, and the walks that show that the calls come to their answers: written by a program of this project out of the translation. No condition. -/
import Derived.Test.YthgjcijcmacpmaaQFnEntriesx0
import Derived.Test.YthgjcijcmacpmaaQFnEntriesx2
import Derived.Test.YthgjcijcmacpmaaQFnEntriesx3
import Derived.Test.YthgjcijcmacpmaaQFnEntriesx10
import Derived.Test.YthgjcijcmacpmaaVFnEntriesShort3
import Derived.Test.YthgjcijcmacpmaaVFnEntriesShort2
import Derived.Test.YthgjcijcmacpmaaVFnEntriesShort
namespace Go.Proofs.Ythgjcijcmacpmaa.QFnEntries
open Go.RowKit Go.Proofs.YthgjcijcmacpmaaW.PrintWords Go.Proofs.YthgjcijcmacpmaaW.PrintLast Go.Proofs.YthgjcijcmacpmaaW.PrintMore Go.Proofs.Ythgjcijcmacpmaa.Short
attribute [local go_sem] max2_int min2_int max_two min_two max_three min_three max_four min_four   -- for this text's walks alone
set_option linter.unusedVariables false
set_option linter.unusedSimpArgs false

theorem B11x0_ {p : Prop} (h : p := by repeat (first | (with_reducible first | exact HB.out | apply below_alloc | apply pw_below_drewN | apply below_drew1 | refine below_set ?_ GE443.out) | exact HB.out)) : p := h
theorem B11x1_ {p : Prop} (h : p := by (with_reducible repeat (first | refine blk_drewN ?_ _ | refine blk_drew ?_ | refine blk_alloc ?_ _)); exact BK443.out) : p := h
theorem B11x2_ {p : Prop} (h : p := by first | (simp only [putAll, Act.put, List.setIfInBounds_toArray, List.set_cons_zero, List.set_cons_succ]; done) | (simp only [putAll, Act.put, List.setIfInBounds_toArray, List.set_cons_zero, List.set_cons_succ]; rfl)) : p := h
theorem B11x3_ {p : Prop} (h : p := by (with_reducible repeat (first | apply Kd.R_alloc | apply Kd.R_drewN | apply Kd.R_drew)); exact HO450.out) : p := h
theorem B11x4_ {p : Prop} (h : p := by (try simp only [List.map_toArray, List.map_cons, List.map_nil]); first | done | rfl | (simp only [List.length_drop, List.length_take]; rfl)) : p := h
theorem B11x5_ {p : Prop} (h : p := by repeat (first | (with_reducible first | exact HB.out | apply below_alloc | apply pw_below_drewN | apply below_drew1) | exact HB.out)) : p := h
theorem B11x6_ {p : Prop} (h : p := by kernel_rfl) : p := h
/-! ### spec_EntryText: function 30 -/
def spec_EntryText.j0 : Nat → Int → Bool → Int → Int → ByteArray → Option (ByteArray × Bool)
 | 0, _, _, _, _, _ => none
 | k + 1, x0, x13, x444000, x444001, x444002 => if x13 = true then (some ((⟨#[]⟩ : ByteArray), false)) else ((spec_l01Var.f k x0).bind fun t446 => (if 1 + t446.size ≤ 9223372036854775807 then ((spec_l01Var.f k x444000).bind fun t447 => (if ((⟨#[69]⟩ : ByteArray) ++ t446).size + t447.size ≤ 9223372036854775807 then ((some (([(x444001) % 256] : List Int) : List Int)).bind fun y448 => (if (((⟨#[69]⟩ : ByteArray) ++ t446) ++ t447).size + (strOfNums y448).size ≤ 9223372036854775807 then (if ((((⟨#[69]⟩ : ByteArray) ++ t446) ++ t447) ++ (strOfNums y448)).size + x444002.size ≤ 9223372036854775807 then (some (((((⟨#[69]⟩ : ByteArray) ++ t446) ++ t447) ++ (strOfNums y448)) ++ x444002, true)) else (none)) else (none))) else (none))) else (none)))
def spec_EntryText.f (k : Nat) (a0 : Int) (a1_0 : Int) (a1_1 : Int) (a1_2 : ByteArray) : Option (ByteArray × Bool) := (spec_EntryOk.f k a1_0 a1_1 a1_2).bind fun t444 => (if t444 = true then ((spec_l01In.f a0 1 1000000).bind fun t445 => (spec_EntryText.j0 k a0 (!t445) a1_0 a1_1 a1_2)) else (spec_EntryText.j0 k a0 true a1_0 a1_1 a1_2))
theorem spec_EntryText.mono_l : ∀ k, (∀ y0 y1 y2 y3 y4, LeO (spec_EntryText.j0 k y0 y1 y2 y3 y4) (spec_EntryText.j0 (k + 1) y0 y1 y2 y3 y4))
 | 0 => fun _ _ _ _ _ r h => by simp [spec_EntryText.j0] at h
 | k + 1 => by
  have ih0 := spec_EntryText.mono_l k
  ·intro y0 y1 y2 y3 y4
   unfold spec_EntryText.j0
   repeat' first
   | (with_reducible exact ih0 _ _ _ _ _)
   | (with_reducible exact spec_EntryOk.mono _ _ _ _)
   | (with_reducible exact spec_l01Var.mono _ _)
   | (with_reducible exact LeO.refl _)
   | (with_reducible exact LeO.none _)
   | (with_reducible refine LeO.ite ?_ ?_)
   | (with_reducible refine LeO.bind ?_ (fun _ => ?_))
   | exact ih0 _ _ _ _ _
   | exact spec_EntryOk.mono _ _ _ _
   | exact spec_l01Var.mono _ _
   | exact LeO.none _
   | refine LeO.ite ?_ ?_
   | refine LeO.bind ?_ (fun _ => ?_)
theorem spec_EntryText.mono : ∀ a0 a1 a2 a3 k, LeO (spec_EntryText.f k a0 a1 a2 a3) (spec_EntryText.f (k + 1) a0 a1 a2 a3) := by
 intro a0 a1 a2 a3 k
 have ih0 := spec_EntryText.mono_l k
 unfold spec_EntryText.f
 repeat' first
   | (with_reducible exact ih0 _ _ _ _ _)
   | (with_reducible exact spec_EntryOk.mono _ _ _ _)
   | (with_reducible exact spec_l01Var.mono _ _)
   | (with_reducible exact LeO.refl _)
   | (with_reducible exact LeO.none _)
   | (with_reducible refine LeO.ite ?_ ?_)
   | (with_reducible refine LeO.bind ?_ (fun _ => ?_))
   | exact ih0 _ _ _ _ _
   | exact spec_EntryOk.mono _ _ _ _
   | exact spec_l01Var.mono _ _
   | exact LeO.none _
   | refine LeO.ite ?_ ?_
   | refine LeO.bind ?_ (fun _ => ?_)
def spec_EntryText.T3 : Bool × List (List Nat × List Nat) := (true, [([], []), ([0], [0]), ([1], [1]), ([], []), ([3], [3]), ([4, 1], [4]), ([2, 5], [2, 5]), ([], []), ([7], [7]), ([8], [8]), ([9], [9]), ([10], [10]), ([6, 11], [6, 11]), ([], []), ([13], [13]), ([12, 14], [12, 14]), ([15, 5, 0, 1, 2, 3, 4, 5, 6, 7, 8, 9, 10, 11, 12, 13, 14, 15], [15]), ([16, 0, 1, 2, 3, 4, 5, 6, 7, 8, 9, 10, 11, 12, 13, 14, 15, 16], [])])
def spec_EntryText.B3 : List Nat := [0, 1, 3, 0, 8, 27, 63, 0, 128, 384, 896, 1920, 4095, 0, 8192, 32767, 65535, 131071]
theorem spec_EntryText.tab3 : rtab .any (opsOf Try.f30 3) = spec_EntryText.T3 := by kernel_rfl
theorem spec_EntryText.bits3 : waitsOk spec_EntryText.T3.2 spec_EntryText.B3 = true := by kernel_rfl
set_option maxHeartbeats 8000000 in
set_option maxRecDepth 100000 in
theorem spec_EntryText.calls (k : Nat) (a0 : Int) (a1_0 : Int) (a1_1 : Int) (a1_2 : ByteArray) (r1 : ByteArray) (r2 : Bool) (w : World) (h : spec_EntryText.f k a0 a1_0 a1_1 a1_2 = some (r1, r2)) :
  Calls Try.prog 30 #[.int .i64 a0, .agg #[.int .i64 a1_0, .int .i64 a1_1, .string a1_2]] w fun e w' => e = .returned (.tuple #[.string r1, .bool r2]) ∧ Below w.heap.size w w' := by
 have hu51 := Try.underlying51
 have HB := Aside0.mk (Below.refl w.heap.size w)
 have H : ((spec_EntryOk.f k a1_0 a1_1 a1_2).bind fun t444 => (if t444 = true then ((spec_l01In.f a0 1 1000000).bind fun t445 => (spec_EntryText.j0 k a0 (!t445) a1_0 a1_1 a1_2)) else (spec_EntryText.j0 k a0 true a1_0 a1_1 a1_2))) = some (r1, r2) := h
 clear h
 have HC3 := Aside0.mk H
 clear H
 go_enter Try.func30, Try.ntmps30
 go_upto_region 1 with (first | ((with_reducible refine gate_dst (N := 3) rfl ?_); refine box_event ?hg (N := 3) ?hd (cs := #[.int .i64 a1_0, .int .i64 a1_1, .string a1_2]) (t := 51) ?hr ?_; (case hd => rfl); (case hg => rfl); (case hr => first | (go_simp; done) | (go_simp; rfl)); intro gb443 hg w4 hbox hb; have n0_ := Aside0.mk (below_step B11x5_ hb); have n1_ := Aside0.mk (hbox); have n2_ := Aside0.mk ((by rw [hg]; exact (below_size B11x5_) : w.heap.size ≤ gb443)); have n3_ := Aside0.mk ((by rw [hg]; exact (below_size B11x5_) : w.heap.size ≤ gb443)); clear HB; have HB := n0_; have BK443 := n1_; have GW443 := n2_; have GE443 := n3_; clear n0_ n1_ n2_ n3_; clear hb hbox hg))
 (try simp only [Act.put, List.setIfInBounds_toArray, List.set_cons_zero, List.set_cons_succ])
 go_cut [13] (fun v13 wc => ∃ (kq : Nat) (x13_2 : Bool), v13 = .bool x13_2 ∧ Aside0 (spec_EntryText.j0 kq a0 x13_2 a1_0 a1_1 a1_2 = some (r1, r2)) ∧ Aside0 (kq ≤ k) ∧ Aside0 (wc.heap[gb443]? = some (.cells #[.int .i64 a1_0, .int .i64 a1_1, .string a1_2] 51 (0, 0))) ∧ Aside0 (Below w.heap.size w wc))
 case first =>
  have H := HC3.out
  clear HC3
  replace H := Option.bind_eq_some_iff.mp H
  obtain ⟨t444, A50, H⟩ := H
  (try dsimp only at H)
  have A5 := Aside0.mk A50
  clear A50
  by_cases c6 : t444 = true
  ·subst c6
   rw [if_pos rfl] at H
   replace H := Option.bind_eq_some_iff.mp H
   obtain ⟨t445, A70, H⟩ := H
   (try dsimp only at H)
   have A7 := Aside0.mk A70
   clear A70
   have H' := Aside0.mk H
   clear H
   obtain ⟨hcz8_0, hcz8_1, hcz8_2⟩ := cl3 BK443.out
   obtain ⟨hfz8_0, hfz8_1, hfz8_2⟩ := fr3 BK443.out
   go_wp2_with (first | ((with_reducible refine gate_callee (f := 65) rfl ?_); refine goesL_ (some 7) rfl rfl Try.func65 B11x6_ rfl #[.agg #[.int .i64 a1_0, .int .i64 a1_1, .string a1_2]] rfl B11x4_ ?_; (with_reducible refine (spec_EntryOk.calls k a1_0 a1_1 a1_2 true _ A5.out).mono ?_); rintro e w9 ⟨rfl, hb⟩; refine ⟨_, rfl, ?_⟩; have n0_ := Aside0.mk (blk_below (g := gb443) (o := .cells #[.int .i64 a1_0, .int .i64 a1_1, .string a1_2] 51 (0, 0)) B11x1_ hb); have n1_ := Aside0.mk (below_step B11x0_ hb); clear BK443; clear HB; have BK443 := n0_; have HB := n1_; clear n0_ n1_; (try clear hb); (try clear hb2); (try clear hk); (try clear hi)) | (go_at_call 64; (with_reducible refine (spec_l01In.calls a0 1 1000000 t445 _ A7.out).mono ?_); rintro e w' ⟨rfl, ⟨nd, rfl⟩⟩))
   go_meet
   case rel => exact ⟨_, (!t445), (be_), H', ⟨by first | omega | exact Nat.le_refl _⟩, ⟨by (with_reducible repeat (first | refine blk_drewN ?_ _ | refine blk_drew ?_ | refine blk_alloc ?_ _)); exact BK443.out⟩, ⟨by repeat (first | (with_reducible first | exact HB.out | apply below_alloc | apply pw_below_drewN | apply below_drew1 | refine below_set ?_ GE443.out) | exact HB.out)⟩⟩
  ·replace c6 := Bool.eq_false_iff.mpr c6
   subst c6
   rw [if_neg (show ¬ (false = true) by decide)] at H
   have H' := Aside0.mk H
   clear H
   obtain ⟨hcz10_0, hcz10_1, hcz10_2⟩ := cl3 BK443.out
   obtain ⟨hfz10_0, hfz10_1, hfz10_2⟩ := fr3 BK443.out
   go_wp2_with (first | ((with_reducible refine gate_callee (f := 65) rfl ?_); refine goesL_ (some 7) rfl rfl Try.func65 B11x6_ rfl #[.agg #[.int .i64 a1_0, .int .i64 a1_1, .string a1_2]] rfl B11x4_ ?_; (with_reducible refine (spec_EntryOk.calls k a1_0 a1_1 a1_2 false _ A5.out).mono ?_); rintro e w11 ⟨rfl, hb⟩; refine ⟨_, rfl, ?_⟩; have n0_ := Aside0.mk (blk_below (g := gb443) (o := .cells #[.int .i64 a1_0, .int .i64 a1_1, .string a1_2] 51 (0, 0)) B11x1_ hb); have n1_ := Aside0.mk (below_step B11x0_ hb); clear BK443; clear HB; have BK443 := n0_; have HB := n1_; clear n0_ n1_; (try clear hb); (try clear hb2); (try clear hk); (try clear hi)))
   go_meet
   case rel => exact ⟨_, (true), (be_), H', ⟨by first | omega | exact Nat.le_refl _⟩, ⟨by (with_reducible repeat (first | refine blk_drewN ?_ _ | refine blk_drew ?_ | refine blk_alloc ?_ _)); exact BK443.out⟩, ⟨by repeat (first | (with_reducible first | exact HB.out | apply below_alloc | apply pw_below_drewN | apply below_drew1 | refine below_set ?_ GE443.out) | exact HB.out)⟩⟩
 case rest =>
  clear HC3
  try clear p2
  try clear c3
  try clear c6
  try clear hcz10_0
  try clear hcz10_1
  try clear hcz10_2
  try clear hcz8_0
  try clear hcz8_1
  try clear hcz8_2
  try clear hfz10_0
  try clear hfz10_1
  try clear hfz10_2
  try clear hfz8_0
  try clear hfz8_1
  try clear hfz8_2
  obtain ⟨kq, x13_2, rfl, HA, HJ2, BK443, HB⟩ := hcut
  cases kq with
  | zero => exact absurd HA.out (by simp [spec_EntryText.j0])
  | succ kj2 =>
   have H := HA.out
   clear HA
   simp only [spec_EntryText.j0] at H
   by_cases c12 : x13_2 = true
   ·subst c12
    rw [if_pos rfl] at H
    simp only [Option.some.injEq, Prod.mk.injEq] at H
    obtain ⟨rfl, rfl⟩ := H
    go_wp2
    go_ret2
    exact ⟨by first | rfl | (simp [errW_none, errW_some] <;> rfl) | (simp [*, errW_none, errW_some] <;> rfl), by repeat (first | (with_reducible first | exact HB.out | apply below_alloc | apply pw_below_drewN | apply below_drew1 | refine below_set ?_ GE443.out) | exact HB.out)⟩
   ·replace c12 := Bool.eq_false_iff.mpr c12
    subst c12
    rw [if_neg (show ¬ (false = true) by decide)] at H
    replace H := Option.bind_eq_some_iff.mp H
    obtain ⟨t446, A130, H⟩ := H
    (try dsimp only at H)
    have A13 := Aside0.mk A130
    clear A130
    by_cases c14 : 1 + t446.size ≤ 9223372036854775807
    ·rw [if_pos c14] at H
     have c14b0 := eq_true c14
     have c14b1 : decide (1 + t446.size ≤ 9223372036854775807) = true := decide_eq_true c14
     try have c14b2 : (9223372036854775807 < 1 + t446.size) = False := eq_false (Nat.not_lt.2 c14)
     try (have c14b9 := c14b2; simp only [ByteArray.size_append] at c14b9)
     replace H := Option.bind_eq_some_iff.mp H
     obtain ⟨t447, A150, H⟩ := H
     (try dsimp only at H)
     have A15 := Aside0.mk A150
     clear A150
     by_cases c16 : ((⟨#[69]⟩ : ByteArray) ++ t446).size + t447.size ≤ 9223372036854775807
     ·rw [if_pos c16] at H
      have c16b0 := eq_true c16
      have c16b1 : decide (((⟨#[69]⟩ : ByteArray) ++ t446).size + t447.size ≤ 9223372036854775807) = true := decide_eq_true c16
      try have c16b2 : (9223372036854775807 < ((⟨#[69]⟩ : ByteArray) ++ t446).size + t447.size) = False := eq_false (Nat.not_lt.2 c16)
      try have c16b8 : (9223372036854775807 < 1 + t446.size + t447.size) = False := eq_false (by have z0_ : (⟨#[69]⟩ : ByteArray).size = 1 := rfl; have h_ := c16; simp only [ByteArray.size_append, ByteArray.size_extract, decide_eq_true_eq, decide_eq_false_iff_not] at *; omega)
      try (have c16b9 := c16b2; simp only [ByteArray.size_append] at c16b9)
      obtain ⟨y448, hy448⟩ : ∃ y_ : List Int, y_ = (([(a1_1) % 256] : List Int)) := ⟨_, rfl⟩
      replace H : (if (((⟨#[69]⟩ : ByteArray) ++ t446) ++ t447).size + (strOfNums y448).size ≤ 9223372036854775807 then (if ((((⟨#[69]⟩ : ByteArray) ++ t446) ++ t447) ++ (strOfNums y448)).size + a1_2.size ≤ 9223372036854775807 then (some (((((⟨#[69]⟩ : ByteArray) ++ t446) ++ t447) ++ (strOfNums y448)) ++ a1_2, true)) else (none)) else (none)) = some (r1, r2) := by first | (rw [hy448]; with_reducible exact H) | (have H2_ := (Option.bind_some _ _).symm.trans H; rw [hy448]; with_reducible exact H2_) | (have H2_ := (Option.bind_some _ _).symm.trans H; with_reducible exact H2_) | with_reducible exact H | (rw [hy448]; exact H) | exact H
      have Ny448 := Aside0.mk hy448
      clear hy448
      by_cases c17 : (((⟨#[69]⟩ : ByteArray) ++ t446) ++ t447).size + (strOfNums y448).size ≤ 9223372036854775807
      ·rw [if_pos c17] at H
       have c17b0 := eq_true c17
       have c17b1 : decide ((((⟨#[69]⟩ : ByteArray) ++ t446) ++ t447).size + (strOfNums y448).size ≤ 9223372036854775807) = true := decide_eq_true c17
       try have c17b2 : (9223372036854775807 < (((⟨#[69]⟩ : ByteArray) ++ t446) ++ t447).size + (strOfNums y448).size) = False := eq_false (Nat.not_lt.2 c17)
       try have c17b8 : (9223372036854775807 < 1 + t446.size + t447.size + (strOfNums y448).size) = False := eq_false (by have z0_ : (⟨#[69]⟩ : ByteArray).size = 1 := rfl; have h_ := c17; simp only [ByteArray.size_append, ByteArray.size_extract, decide_eq_true_eq, decide_eq_false_iff_not] at *; omega)
       try (have c17b9 := c17b2; simp only [ByteArray.size_append] at c17b9)
       by_cases c18 : ((((⟨#[69]⟩ : ByteArray) ++ t446) ++ t447) ++ (strOfNums y448)).size + a1_2.size ≤ 9223372036854775807
       ·rw [if_pos c18] at H
        have c18b0 := eq_true c18
        have c18b1 : decide (((((⟨#[69]⟩ : ByteArray) ++ t446) ++ t447) ++ (strOfNums y448)).size + a1_2.size ≤ 9223372036854775807) = true := decide_eq_true c18
        try have c18b2 : (9223372036854775807 < ((((⟨#[69]⟩ : ByteArray) ++ t446) ++ t447) ++ (strOfNums y448)).size + a1_2.size) = False := eq_false (Nat.not_lt.2 c18)
        try have c18b8 : (9223372036854775807 < 1 + t446.size + t447.size + (strOfNums y448).size + a1_2.size) = False := eq_false (by have z0_ : (⟨#[69]⟩ : ByteArray).size = 1 := rfl; have h_ := c18; simp only [ByteArray.size_append, ByteArray.size_extract, decide_eq_true_eq, decide_eq_false_iff_not] at *; omega)
        try (have c18b9 := c18b2; simp only [ByteArray.size_append] at c18b9)
        simp only [Option.some.injEq, Prod.mk.injEq] at H
        obtain ⟨rfl, rfl⟩ := H
        try go_wp2
        have n0_ := Aside0.mk (blk_drew BK443.out)
        have n1_ := Aside0.mk (below_drew1 HB.out)
        clear BK443
        clear HB
        have BK443 := n0_
        have HB := n1_
        clear n0_ n1_
        refine start_ (n := 18) (S := fun w' => w'.cell? ⟨gb443, 0, none⟩ = some (.int .i64 a1_0) ∧ w'.cell? ⟨gb443, 1, none⟩ = some (.int .i64 a1_1) ∧ w'.cell? ⟨gb443, 2, none⟩ = some (.string a1_2)) (ds := []) #[false, false, false, false, false, false, false, false, false, false, false, false, false, false, false, false, false, false] B11x6_ rfl rfl ⟨(blk_cell BK443.out 0).trans rfl, (blk_cell BK443.out 1).trans rfl, (blk_cell BK443.out 2).trans rfl⟩ (fun hHeld => ?_); refine with_tabW spec_EntryText.tab3 spec_EntryText.bits3 (fun HT_ HW_ => ?_)
        generalize wc.drew = w19 at BK443 HB hHeld ⊢
        refine pu_ 0 14 HT_ ?_
        refine pu_ 3 17 HT_ ?_
        refine pu_ 7 21 HT_ ?_
        refine pu_ 13 27 HT_ ?_
        refine ta_ 4 18 HT_ HW_ hHeld ?_
        refine ta_ 8 22 HT_ HW_ hHeld ?_
        refine pu_ 9 23 HT_ ?_
        refine ta_ 14 28 HT_ HW_ hHeld ?_
        refine join_ (σ := Value) 4 #[true, true, true, true, true, true, true, true, true, true, true, true, false, true, true, false, false, false] (fun s_ => [(15, .string t446), (19, .string t447), (24, s_), (25, .string (strOfNums y448)), (16, .string ((⟨#[69]⟩ : ByteArray) ++ t446)), (20, .string (((⟨#[69]⟩ : ByteArray) ++ t446) ++ t447))]) (fun s_ w' => (w'.cell? ⟨gb443, 0, none⟩ = some (.int .i64 a1_0) ∧ w'.cell? ⟨gb443, 1, none⟩ = some (.int .i64 a1_1) ∧ w'.cell? ⟨gb443, 2, none⟩ = some (.string a1_2)) ∧ (Kd.R (Kd.int .u8) 5 w' w.heap.size (fun _ => True) s_ y448) ∧ (w'.heap[gb443]? = some (.cells #[.int .i64 a1_0, .int .i64 a1_1, .string a1_2] 51 (0, 0))) ∧ (Below w.heap.size w w')) ?_ ?_
        rotate_left
        ·intro hJ1_5_10_11
         refine join_ (σ := Value) 5 #[true, true, true, true, true, true, true, true, true, true, true, false, false, true, true, false, false, false] (fun s_ => [(15, .string t446), (19, .string t447), (24, s_), (16, .string ((⟨#[69]⟩ : ByteArray) ++ t446)), (20, .string (((⟨#[69]⟩ : ByteArray) ++ t446) ++ t447))]) (fun s_ w' => (w'.cell? ⟨gb443, 0, none⟩ = some (.int .i64 a1_0) ∧ w'.cell? ⟨gb443, 1, none⟩ = some (.int .i64 a1_1) ∧ w'.cell? ⟨gb443, 2, none⟩ = some (.string a1_2)) ∧ (Kd.R (Kd.int .u8) 5 w' w.heap.size (fun _ => True) s_ y448) ∧ (w'.heap[gb443]? = some (.cells #[.int .i64 a1_0, .int .i64 a1_1, .string a1_2] 51 (0, 0))) ∧ (Below w.heap.size w w')) ?_ ?_
         rotate_left
         ·intro hJ1_5_10
          refine join_ (σ := Value) 6 #[true, true, true, true, true, false, false, true, true, true, true, true, false, true, true, false, false, false] (fun s_ => [(15, .string t446), (24, s_), (25, .string (strOfNums y448)), (16, .string ((⟨#[69]⟩ : ByteArray) ++ t446))]) (fun s_ w' => (w'.cell? ⟨gb443, 0, none⟩ = some (.int .i64 a1_0) ∧ w'.cell? ⟨gb443, 1, none⟩ = some (.int .i64 a1_1) ∧ w'.cell? ⟨gb443, 2, none⟩ = some (.string a1_2)) ∧ (Kd.R (Kd.int .u8) 5 w' w.heap.size (fun _ => True) s_ y448) ∧ (w'.heap[gb443]? = some (.cells #[.int .i64 a1_0, .int .i64 a1_1, .string a1_2] 51 (0, 0))) ∧ (Below w.heap.size w w')) ?_ ?_
          rotate_left
          ·intro hJ1_10_11
           refine join_ (σ := Unit) 6 #[true, true, true, true, true, true, true, true, true, true, false, false, false, true, true, false, false, false] (fun s_ => [(15, .string t446), (19, .string t447), (16, .string ((⟨#[69]⟩ : ByteArray) ++ t446)), (20, .string (((⟨#[69]⟩ : ByteArray) ++ t446) ++ t447))]) (fun s_ w' => (w'.cell? ⟨gb443, 0, none⟩ = some (.int .i64 a1_0) ∧ w'.cell? ⟨gb443, 1, none⟩ = some (.int .i64 a1_1) ∧ w'.cell? ⟨gb443, 2, none⟩ = some (.string a1_2)) ∧ (w'.heap[gb443]? = some (.cells #[.int .i64 a1_0, .int .i64 a1_1, .string a1_2] 51 (0, 0))) ∧ (Below w.heap.size w w')) ?_ ?_
           rotate_left
           ·intro hJ1_5
            refine join_ (σ := Value) 7 #[true, true, true, true, true, false, false, true, true, true, true, false, false, true, true, false, false, false] (fun s_ => [(15, .string t446), (24, s_), (16, .string ((⟨#[69]⟩ : ByteArray) ++ t446))]) (fun s_ w' => (w'.cell? ⟨gb443, 0, none⟩ = some (.int .i64 a1_0) ∧ w'.cell? ⟨gb443, 1, none⟩ = some (.int .i64 a1_1) ∧ w'.cell? ⟨gb443, 2, none⟩ = some (.string a1_2)) ∧ (Kd.R (Kd.int .u8) 5 w' w.heap.size (fun _ => True) s_ y448) ∧ (w'.heap[gb443]? = some (.cells #[.int .i64 a1_0, .int .i64 a1_1, .string a1_2] 51 (0, 0))) ∧ (Below w.heap.size w w')) ?_ ?_
            rotate_left
            ·intro hJ1_10
             refine join_ (σ := Value) 8 #[true, false, false, true, true, false, false, true, true, true, true, true, false, true, true, false, false, false] (fun s_ => [(24, s_), (25, .string (strOfNums y448))]) (fun s_ w' => (w'.cell? ⟨gb443, 0, none⟩ = some (.int .i64 a1_0) ∧ w'.cell? ⟨gb443, 1, none⟩ = some (.int .i64 a1_1) ∧ w'.cell? ⟨gb443, 2, none⟩ = some (.string a1_2)) ∧ (Kd.R (Kd.int .u8) 5 w' w.heap.size (fun _ => True) s_ y448) ∧ (w'.heap[gb443]? = some (.cells #[.int .i64 a1_0, .int .i64 a1_1, .string a1_2] 51 (0, 0))) ∧ (Below w.heap.size w w')) ?_ ?_
             rotate_left
             ·intro hJ10_11
              refine join_ (σ := Unit) 8 #[true, true, true, true, true, false, false, true, true, true, false, false, false, true, true, false, false, false] (fun s_ => [(15, .string t446), (16, .string ((⟨#[69]⟩ : ByteArray) ++ t446))]) (fun s_ w' => (w'.cell? ⟨gb443, 0, none⟩ = some (.int .i64 a1_0) ∧ w'.cell? ⟨gb443, 1, none⟩ = some (.int .i64 a1_1) ∧ w'.cell? ⟨gb443, 2, none⟩ = some (.string a1_2)) ∧ (w'.heap[gb443]? = some (.cells #[.int .i64 a1_0, .int .i64 a1_1, .string a1_2] 51 (0, 0))) ∧ (Below w.heap.size w w')) ?_ ?_
              rotate_left
              ·intro hJ1
               refine join_ (σ := Value) 9 #[true, false, false, true, true, false, false, true, true, true, true, false, false, true, true, false, false, false] (fun s_ => [(24, s_)]) (fun s_ w' => (w'.cell? ⟨gb443, 0, none⟩ = some (.int .i64 a1_0) ∧ w'.cell? ⟨gb443, 1, none⟩ = some (.int .i64 a1_1) ∧ w'.cell? ⟨gb443, 2, none⟩ = some (.string a1_2)) ∧ (Kd.R (Kd.int .u8) 5 w' w.heap.size (fun _ => True) s_ y448) ∧ (w'.heap[gb443]? = some (.cells #[.int .i64 a1_0, .int .i64 a1_1, .string a1_2] 51 (0, 0))) ∧ (Below w.heap.size w w')) ?_ ?_
               rotate_left
               ·intro hJ10
                refine two_ (i := 1) (j := 10) (Ni := some 15) (Nj := some 24) #[true, true, false, true, true, false, false, true, true, true, false, false, false, true, true, false, false, false] #[true, false, false, true, true, false, false, true, true, true, true, false, false, true, true, false, false, false] rfl rfl rfl rfl (two_of HT_.out B11x6_) (by decide) (by decide) (fun K hK => ?_) (fun K hK => ?_)
                ·skip
                 refine goes_ Try.func92 B11x6_ rfl #[.int .i64 a0] (by rfl) rfl rfl B11x4_ ?_
                 with_reducible refine (spec_l01Var.calls kj2 a0 t446 _ A13.out).mono ?_
                 rintro e w20 ⟨rfl, hb⟩
                 refine ⟨_, rfl, ?_⟩
                 have n0_ := Aside0.mk (blk_below (g := gb443) (o := .cells #[.int .i64 a1_0, .int .i64 a1_1, .string a1_2] 51 (0, 0)) B11x1_ hb)
                 have n1_ := Aside0.mk (below_step B11x0_ hb)
                 clear BK443
                 clear HB
                 have BK443 := n0_
                 have HB := n1_
                 clear n0_ n1_
                 (try clear hb)
                 (try clear hb2)
                 (try clear hk)
                 (try clear hi)
                 refine hK.out _ _ ⟨(blk_cell BK443.out 0).trans rfl, (blk_cell BK443.out 1).trans rfl, (blk_cell BK443.out 2).trans rfl⟩ (fun hHeld => ?_)
                 clear hK K
                 refine norm_ (a' := ?_) ?_ ?_
                 rotate_left
                 ·show Act.put _ (some 15) _ = _
                  simp only [Act.put, List.setIfInBounds_toArray, List.set_cons_zero, List.set_cons_succ, i64_w, i32_w]
                  rfl
                 refine pu_ 2 16 HT_ ?_
                 exact norm_ B11x2_ (hJ1 () _ ⟨hHeld, B11x1_, B11x0_⟩)
                ·skip
                 refine Kd.R_lit_step (Kd.int .u8) _ 5 ?hg (N := 24) ?hd (xs := ([(a1_1) % 256] : List Int)) (inner := [.int .u8 ((a1_1) % 256)]) (ok := fun _ => True) (okp := fun _ => True) ?hr ?hp (fun _ hk => hk) trivial (Below.refl _ _) (Nat.le_refl _) (by simp) ?_; (case hd => rfl); (case hg => rfl); (case hr => first | (go_simp; done) | (go_simp; rfl)); (case hp => exact (Reps.one (show Kd.M (Kd.int .u8) _ _ _ ((a1_1) % 256) [.int .u8 ((a1_1) % 256)] from rfl) (Reps.none _ _)))
                 intro v449 w20 ho21 hb hg_ hnew_
                 clear hg_ hnew_
                 (first | rw [← Ny448.out] at ho21 | (simp only [Int.reduceToNat] at ho21; rw [← Ny448.out] at ho21))
                 have n0_ := Aside0.mk (Kd.R_lower ho21 (below_size B11x0_))
                 have n1_ := Aside0.mk (blk_below (g := gb443) (o := .cells #[.int .i64 a1_0, .int .i64 a1_1, .string a1_2] 51 (0, 0)) B11x1_ hb)
                 have n2_ := Aside0.mk (below_step B11x0_ hb)
                 clear BK443
                 clear HB
                 have HO450 := n0_
                 have BK443 := n1_
                 have HB := n2_
                 clear n0_ n1_ n2_
                 clear hb ho21
                 refine hK.out _ _ ⟨(blk_cell BK443.out 0).trans rfl, (blk_cell BK443.out 1).trans rfl, (blk_cell BK443.out 2).trans rfl⟩ (fun hHeld => ?_)
                 clear hK K
                 refine norm_ (a' := ?_) ?_ ?_
                 rotate_left
                 ·show Act.put _ (some 24) _ = _
                  simp only [Act.put, List.setIfInBounds_toArray, List.set_cons_zero, List.set_cons_succ, i64_w, i32_w]
                  rfl
                 exact norm_ B11x2_ (hJ10 (v449) _ ⟨hHeld, B11x3_, B11x1_, B11x0_⟩)
               ·skip
                rintro v449 w22 ⟨hS_, h0_, h1_, h2_⟩
                have n0_ : Aside0 (Kd.R (Kd.int .u8) 5 w22 w.heap.size (fun _ => True) v449 y448) := ⟨h0_⟩
                have n1_ : Aside0 (w22.heap[gb443]? = some (.cells #[.int .i64 a1_0, .int .i64 a1_1, .string a1_2] 51 (0, 0))) := ⟨h1_⟩
                have n2_ : Aside0 (Below w.heap.size w w22) := ⟨h2_⟩
                clear BK443
                clear HB
                clear h0_ h1_ h2_
                have HO450 := n0_
                have BK443 := n1_
                have HB := n2_
                clear n0_ n1_ n2_
                have hHeld : w22.cell? ⟨gb443, 0, none⟩ = some (.int .i64 a1_0) ∧ w22.cell? ⟨gb443, 1, none⟩ = some (.int .i64 a1_1) ∧ w22.cell? ⟨gb443, 2, none⟩ = some (.string a1_2) := hS_
                refine norm_ (a' := ?_) ?_ ?_
                rotate_left
                ·simp only [putAll, Act.put, List.setIfInBounds_toArray, List.set_cons_zero, List.set_cons_succ]
                 rfl
                refine two_ (i := 1) (j := 11) (Ni := some 15) (Nj := some 25) #[true, true, false, true, true, false, false, true, true, true, true, false, false, true, true, false, false, false] #[true, false, false, true, true, false, false, true, true, true, true, true, false, true, true, false, false, false] rfl rfl rfl rfl (two_of HT_.out B11x6_) (by decide) (by decide) (fun K hK => ?_) (fun K hK => ?_)
                ·skip
                 refine goes_ Try.func92 B11x6_ rfl #[.int .i64 a0] (by rfl) rfl rfl B11x4_ ?_
                 with_reducible refine (spec_l01Var.calls kj2 a0 t446 _ A13.out).mono ?_
                 rintro e w23 ⟨rfl, hb⟩
                 refine ⟨_, rfl, ?_⟩
                 have n0_ := Aside0.mk (Kd.R_below B11x3_ hb)
                 have n1_ := Aside0.mk (blk_below (g := gb443) (o := .cells #[.int .i64 a1_0, .int .i64 a1_1, .string a1_2] 51 (0, 0)) B11x1_ hb)
                 have n2_ := Aside0.mk (below_step B11x0_ hb)
                 clear HO450
                 clear BK443
                 clear HB
                 have HO450 := n0_
                 have BK443 := n1_
                 have HB := n2_
                 clear n0_ n1_ n2_
                 (try clear hb)
                 (try clear hb2)
                 (try clear hk)
                 (try clear hi)
                 refine hK.out _ _ ⟨(blk_cell BK443.out 0).trans rfl, (blk_cell BK443.out 1).trans rfl, (blk_cell BK443.out 2).trans rfl⟩ (fun hHeld => ?_)
                 clear hK K
                 refine norm_ (a' := ?_) ?_ ?_
                 rotate_left
                 ·show Act.put _ (some 15) _ = _
                  simp only [Act.put, List.setIfInBounds_toArray, List.set_cons_zero, List.set_cons_succ, i64_w, i32_w]
                  rfl
                 refine pu_ 2 16 HT_ ?_
                 exact norm_ B11x2_ (hJ1_10 (v449) _ ⟨hHeld, B11x3_, B11x1_, B11x0_⟩)
                ·skip
                 have hcv23 := own_string (P := Try.prog) Try.underlying43 Try.underlying5 Try.underlying9 (Kd.own_of_R HO450.out)
                 refine value_ (w1 := ?_) (v := ?_) (by rfl) rfl ?_ ?_
                 rotate_left 2
                 ·go_simp
                  constructor
                  ·rfl
                  ·rfl
                 clear hcv23
                 refine hK.out _ _ ⟨(blk_cell BK443.out 0).trans rfl, (blk_cell BK443.out 1).trans rfl, (blk_cell BK443.out 2).trans rfl⟩ (fun hHeld => ?_)
                 clear hK K
                 refine norm_ (a' := ?_) ?_ ?_
                 rotate_left
                 ·show Act.put _ (some 25) _ = _
                  simp only [Act.put, List.setIfInBounds_toArray, List.set_cons_zero, List.set_cons_succ, i64_w, i32_w]
                  rfl
                 exact norm_ B11x2_ (hJ10_11 (v449) _ ⟨hHeld, B11x3_, B11x1_, B11x0_⟩)
              ·skip
               rintro _ w21 ⟨hS_, h0_, h1_⟩
               have n0_ : Aside0 (w21.heap[gb443]? = some (.cells #[.int .i64 a1_0, .int .i64 a1_1, .string a1_2] 51 (0, 0))) := ⟨h0_⟩
               have n1_ : Aside0 (Below w.heap.size w w21) := ⟨h1_⟩
               clear BK443
               clear HB
               clear h0_ h1_
               have BK443 := n0_
               have HB := n1_
               clear n0_ n1_
               have hHeld : w21.cell? ⟨gb443, 0, none⟩ = some (.int .i64 a1_0) ∧ w21.cell? ⟨gb443, 1, none⟩ = some (.int .i64 a1_1) ∧ w21.cell? ⟨gb443, 2, none⟩ = some (.string a1_2) := hS_
               refine norm_ (a' := ?_) ?_ ?_
               rotate_left
               ·simp only [putAll, Act.put, List.setIfInBounds_toArray, List.set_cons_zero, List.set_cons_succ]
                rfl
               refine two_ (i := 5) (j := 10) (Ni := some 19) (Nj := some 24) #[true, true, true, true, true, true, false, true, true, true, false, false, false, true, true, false, false, false] #[true, true, true, true, true, false, false, true, true, true, true, false, false, true, true, false, false, false] rfl rfl rfl rfl (two_of HT_.out B11x6_) (by decide) (by decide) (fun K hK => ?_) (fun K hK => ?_)
               ·skip
                refine goes_ Try.func92 B11x6_ rfl #[.int .i64 a1_0] (by rfl) rfl rfl B11x4_ ?_
                with_reducible refine (spec_l01Var.calls kj2 a1_0 t447 _ A15.out).mono ?_
                rintro e w22 ⟨rfl, hb⟩
                refine ⟨_, rfl, ?_⟩
                have n0_ := Aside0.mk (blk_below (g := gb443) (o := .cells #[.int .i64 a1_0, .int .i64 a1_1, .string a1_2] 51 (0, 0)) B11x1_ hb)
                have n1_ := Aside0.mk (below_step B11x0_ hb)
                clear BK443
                clear HB
                have BK443 := n0_
                have HB := n1_
                clear n0_ n1_
                (try clear hb)
                (try clear hb2)
                (try clear hk)
                (try clear hi)
                refine hK.out _ _ ⟨(blk_cell BK443.out 0).trans rfl, (blk_cell BK443.out 1).trans rfl, (blk_cell BK443.out 2).trans rfl⟩ (fun hHeld => ?_)
                clear hK K
                refine norm_ (a' := ?_) ?_ ?_
                rotate_left
                ·show Act.put _ (some 19) _ = _
                 simp only [Act.put, List.setIfInBounds_toArray, List.set_cons_zero, List.set_cons_succ, i64_w, i32_w]
                 rfl
                refine pu_ 6 20 HT_ ?_
                exact norm_ B11x2_ (hJ1_5 () _ ⟨hHeld, B11x1_, B11x0_⟩)
               ·skip
                refine Kd.R_lit_step (Kd.int .u8) _ 5 ?hg (N := 24) ?hd (xs := ([(a1_1) % 256] : List Int)) (inner := [.int .u8 ((a1_1) % 256)]) (ok := fun _ => True) (okp := fun _ => True) ?hr ?hp (fun _ hk => hk) trivial (Below.refl _ _) (Nat.le_refl _) (by simp) ?_; (case hd => rfl); (case hg => rfl); (case hr => first | (go_simp; done) | (go_simp; rfl)); (case hp => exact (Reps.one (show Kd.M (Kd.int .u8) _ _ _ ((a1_1) % 256) [.int .u8 ((a1_1) % 256)] from rfl) (Reps.none _ _)))
                intro v449 w22 ho23 hb hg_ hnew_
                clear hg_ hnew_
                (first | rw [← Ny448.out] at ho23 | (simp only [Int.reduceToNat] at ho23; rw [← Ny448.out] at ho23))
                have n0_ := Aside0.mk (Kd.R_lower ho23 (below_size B11x0_))
                have n1_ := Aside0.mk (blk_below (g := gb443) (o := .cells #[.int .i64 a1_0, .int .i64 a1_1, .string a1_2] 51 (0, 0)) B11x1_ hb)
                have n2_ := Aside0.mk (below_step B11x0_ hb)
                clear BK443
                clear HB
                have HO450 := n0_
                have BK443 := n1_
                have HB := n2_
                clear n0_ n1_ n2_
                clear hb ho23
                refine hK.out _ _ ⟨(blk_cell BK443.out 0).trans rfl, (blk_cell BK443.out 1).trans rfl, (blk_cell BK443.out 2).trans rfl⟩ (fun hHeld => ?_)
                clear hK K
                refine norm_ (a' := ?_) ?_ ?_
                rotate_left
                ·show Act.put _ (some 24) _ = _
                 simp only [Act.put, List.setIfInBounds_toArray, List.set_cons_zero, List.set_cons_succ, i64_w, i32_w]
                 rfl
                exact norm_ B11x2_ (hJ1_10 (v449) _ ⟨hHeld, B11x3_, B11x1_, B11x0_⟩)
             ·skip
              rintro v449 w23 ⟨hS_, h0_, h1_, h2_⟩
              have n0_ : Aside0 (Kd.R (Kd.int .u8) 5 w23 w.heap.size (fun _ => True) v449 y448) := ⟨h0_⟩
              have n1_ : Aside0 (w23.heap[gb443]? = some (.cells #[.int .i64 a1_0, .int .i64 a1_1, .string a1_2] 51 (0, 0))) := ⟨h1_⟩
              have n2_ : Aside0 (Below w.heap.size w w23) := ⟨h2_⟩
              clear BK443
              clear HB
              clear h0_ h1_ h2_
              have HO450 := n0_
              have BK443 := n1_
              have HB := n2_
              clear n0_ n1_ n2_
              have hHeld : w23.cell? ⟨gb443, 0, none⟩ = some (.int .i64 a1_0) ∧ w23.cell? ⟨gb443, 1, none⟩ = some (.int .i64 a1_1) ∧ w23.cell? ⟨gb443, 2, none⟩ = some (.string a1_2) := hS_
              refine norm_ (a' := ?_) ?_ ?_
              rotate_left
              ·simp only [putAll, Act.put, List.setIfInBounds_toArray, List.set_cons_zero, List.set_cons_succ]
               rfl
              refine one_ (i := 1) (N := some 15) #[true, true, false, true, true, false, false, true, true, true, true, true, false, true, true, false, false, false] rfl rfl (one_of HT_.out B11x6_) (by decide) (fun K hK => ?_)
              refine goes_ Try.func92 B11x6_ rfl #[.int .i64 a0] (by rfl) rfl rfl B11x4_ ?_
              with_reducible refine (spec_l01Var.calls kj2 a0 t446 _ A13.out).mono ?_
              rintro e w24 ⟨rfl, hb⟩
              refine ⟨_, rfl, ?_⟩
              have n0_ := Aside0.mk (Kd.R_below B11x3_ hb)
              have n1_ := Aside0.mk (blk_below (g := gb443) (o := .cells #[.int .i64 a1_0, .int .i64 a1_1, .string a1_2] 51 (0, 0)) B11x1_ hb)
              have n2_ := Aside0.mk (below_step B11x0_ hb)
              clear HO450
              clear BK443
              clear HB
              have HO450 := n0_
              have BK443 := n1_
              have HB := n2_
              clear n0_ n1_ n2_
              (try clear hb)
              (try clear hb2)
              (try clear hk)
              (try clear hi)
              refine hK.out _ _ ⟨(blk_cell BK443.out 0).trans rfl, (blk_cell BK443.out 1).trans rfl, (blk_cell BK443.out 2).trans rfl⟩ (fun hHeld => ?_)
              clear hK K
              refine norm_ (a' := ?_) ?_ ?_
              rotate_left
              ·show Act.put _ (some 15) _ = _
               simp only [Act.put, List.setIfInBounds_toArray, List.set_cons_zero, List.set_cons_succ, i64_w, i32_w]
               rfl
              refine pu_ 2 16 HT_ ?_
              exact norm_ B11x2_ (hJ1_10_11 (v449) _ ⟨hHeld, B11x3_, B11x1_, B11x0_⟩)
            ·skip
             rintro v449 w23 ⟨hS_, h0_, h1_, h2_⟩
             have n0_ : Aside0 (Kd.R (Kd.int .u8) 5 w23 w.heap.size (fun _ => True) v449 y448) := ⟨h0_⟩
             have n1_ : Aside0 (w23.heap[gb443]? = some (.cells #[.int .i64 a1_0, .int .i64 a1_1, .string a1_2] 51 (0, 0))) := ⟨h1_⟩
             have n2_ : Aside0 (Below w.heap.size w w23) := ⟨h2_⟩
             clear BK443
             clear HB
             clear h0_ h1_ h2_
             have HO450 := n0_
             have BK443 := n1_
             have HB := n2_
             clear n0_ n1_ n2_
             have hHeld : w23.cell? ⟨gb443, 0, none⟩ = some (.int .i64 a1_0) ∧ w23.cell? ⟨gb443, 1, none⟩ = some (.int .i64 a1_1) ∧ w23.cell? ⟨gb443, 2, none⟩ = some (.string a1_2) := hS_
             refine norm_ (a' := ?_) ?_ ?_
             rotate_left
             ·simp only [putAll, Act.put, List.setIfInBounds_toArray, List.set_cons_zero, List.set_cons_succ]
              rfl
             refine two_ (i := 5) (j := 11) (Ni := some 19) (Nj := some 25) #[true, true, true, true, true, true, false, true, true, true, true, false, false, true, true, false, false, false] #[true, true, true, true, true, false, false, true, true, true, true, true, false, true, true, false, false, false] rfl rfl rfl rfl (two_of HT_.out B11x6_) (by decide) (by decide) (fun K hK => ?_) (fun K hK => ?_)
             ·skip
              refine goes_ Try.func92 B11x6_ rfl #[.int .i64 a1_0] (by rfl) rfl rfl B11x4_ ?_
              with_reducible refine (spec_l01Var.calls kj2 a1_0 t447 _ A15.out).mono ?_
              rintro e w24 ⟨rfl, hb⟩
              refine ⟨_, rfl, ?_⟩
              have n0_ := Aside0.mk (Kd.R_below B11x3_ hb)
              have n1_ := Aside0.mk (blk_below (g := gb443) (o := .cells #[.int .i64 a1_0, .int .i64 a1_1, .string a1_2] 51 (0, 0)) B11x1_ hb)
              have n2_ := Aside0.mk (below_step B11x0_ hb)
              clear HO450
              clear BK443
              clear HB
              have HO450 := n0_
              have BK443 := n1_
              have HB := n2_
              clear n0_ n1_ n2_
              (try clear hb)
              (try clear hb2)
              (try clear hk)
              (try clear hi)
              refine hK.out _ _ ⟨(blk_cell BK443.out 0).trans rfl, (blk_cell BK443.out 1).trans rfl, (blk_cell BK443.out 2).trans rfl⟩ (fun hHeld => ?_)
              clear hK K
              refine norm_ (a' := ?_) ?_ ?_
              rotate_left
              ·show Act.put _ (some 19) _ = _
               simp only [Act.put, List.setIfInBounds_toArray, List.set_cons_zero, List.set_cons_succ, i64_w, i32_w]
               rfl
              refine pu_ 6 20 HT_ ?_
              exact norm_ B11x2_ (hJ1_5_10 (v449) _ ⟨hHeld, B11x3_, B11x1_, B11x0_⟩)
             ·skip
              have hcv24 := own_string (P := Try.prog) Try.underlying43 Try.underlying5 Try.underlying9 (Kd.own_of_R HO450.out)
              refine value_ (w1 := ?_) (v := ?_) (by rfl) rfl ?_ ?_
              rotate_left 2
              ·go_simp
               constructor
               ·rfl
               ·rfl
              clear hcv24
              refine hK.out _ _ ⟨(blk_cell BK443.out 0).trans rfl, (blk_cell BK443.out 1).trans rfl, (blk_cell BK443.out 2).trans rfl⟩ (fun hHeld => ?_)
              clear hK K
              refine norm_ (a' := ?_) ?_ ?_
              rotate_left
              ·show Act.put _ (some 25) _ = _
               simp only [Act.put, List.setIfInBounds_toArray, List.set_cons_zero, List.set_cons_succ, i64_w, i32_w]
               rfl
              exact norm_ B11x2_ (hJ1_10_11 (v449) _ ⟨hHeld, B11x3_, B11x1_, B11x0_⟩)
           ·skip
            rintro _ w22 ⟨hS_, h0_, h1_⟩
            have n0_ : Aside0 (w22.heap[gb443]? = some (.cells #[.int .i64 a1_0, .int .i64 a1_1, .string a1_2] 51 (0, 0))) := ⟨h0_⟩
            have n1_ : Aside0 (Below w.heap.size w w22) := ⟨h1_⟩
            clear BK443
            clear HB
            clear h0_ h1_
            have BK443 := n0_
            have HB := n1_
            clear n0_ n1_
            have hHeld : w22.cell? ⟨gb443, 0, none⟩ = some (.int .i64 a1_0) ∧ w22.cell? ⟨gb443, 1, none⟩ = some (.int .i64 a1_1) ∧ w22.cell? ⟨gb443, 2, none⟩ = some (.string a1_2) := hS_
            refine norm_ (a' := ?_) ?_ ?_
            rotate_left
            ·simp only [putAll, Act.put, List.setIfInBounds_toArray, List.set_cons_zero, List.set_cons_succ]
             rfl
            refine one_ (i := 10) (N := some 24) #[true, true, true, true, true, true, true, true, true, true, true, false, false, true, true, false, false, false] rfl rfl (one_of HT_.out B11x6_) (by decide) (fun K hK => ?_)
            refine Kd.R_lit_step (Kd.int .u8) _ 5 ?hg (N := 24) ?hd (xs := ([(a1_1) % 256] : List Int)) (inner := [.int .u8 ((a1_1) % 256)]) (ok := fun _ => True) (okp := fun _ => True) ?hr ?hp (fun _ hk => hk) trivial (Below.refl _ _) (Nat.le_refl _) (by simp) ?_; (case hd => rfl); (case hg => rfl); (case hr => first | (go_simp; done) | (go_simp; rfl)); (case hp => exact (Reps.one (show Kd.M (Kd.int .u8) _ _ _ ((a1_1) % 256) [.int .u8 ((a1_1) % 256)] from rfl) (Reps.none _ _)))
            intro v449 w23 ho24 hb hg_ hnew_
            clear hg_ hnew_
            (first | rw [← Ny448.out] at ho24 | (simp only [Int.reduceToNat] at ho24; rw [← Ny448.out] at ho24))
            have n0_ := Aside0.mk (Kd.R_lower ho24 (below_size B11x0_))
            have n1_ := Aside0.mk (blk_below (g := gb443) (o := .cells #[.int .i64 a1_0, .int .i64 a1_1, .string a1_2] 51 (0, 0)) B11x1_ hb)
            have n2_ := Aside0.mk (below_step B11x0_ hb)
            clear BK443
            clear HB
            have HO450 := n0_
            have BK443 := n1_
            have HB := n2_
            clear n0_ n1_ n2_
            clear hb ho24
            refine hK.out _ _ ⟨(blk_cell BK443.out 0).trans rfl, (blk_cell BK443.out 1).trans rfl, (blk_cell BK443.out 2).trans rfl⟩ (fun hHeld => ?_)
            clear hK K
            refine norm_ (a' := ?_) ?_ ?_
            rotate_left
            ·show Act.put _ (some 24) _ = _
             simp only [Act.put, List.setIfInBounds_toArray, List.set_cons_zero, List.set_cons_succ, i64_w, i32_w]
             rfl
            exact norm_ B11x2_ (hJ1_5_10 (v449) _ ⟨hHeld, B11x3_, B11x1_, B11x0_⟩)
          ·skip
           rintro v449 w24 ⟨hS_, h0_, h1_, h2_⟩
           have n0_ : Aside0 (Kd.R (Kd.int .u8) 5 w24 w.heap.size (fun _ => True) v449 y448) := ⟨h0_⟩
           have n1_ : Aside0 (w24.heap[gb443]? = some (.cells #[.int .i64 a1_0, .int .i64 a1_1, .string a1_2] 51 (0, 0))) := ⟨h1_⟩
           have n2_ : Aside0 (Below w.heap.size w w24) := ⟨h2_⟩
           clear BK443
           clear HB
           clear h0_ h1_ h2_
           have HO450 := n0_
           have BK443 := n1_
           have HB := n2_
           clear n0_ n1_ n2_
           have hHeld : w24.cell? ⟨gb443, 0, none⟩ = some (.int .i64 a1_0) ∧ w24.cell? ⟨gb443, 1, none⟩ = some (.int .i64 a1_1) ∧ w24.cell? ⟨gb443, 2, none⟩ = some (.string a1_2) := hS_
           refine norm_ (a' := ?_) ?_ ?_
           rotate_left
           ·simp only [putAll, Act.put, List.setIfInBounds_toArray, List.set_cons_zero, List.set_cons_succ]
            rfl
           refine one_ (i := 5) (N := some 19) #[true, true, true, true, true, true, false, true, true, true, true, true, false, true, true, false, false, false] rfl rfl (one_of HT_.out B11x6_) (by decide) (fun K hK => ?_)
           refine goes_ Try.func92 B11x6_ rfl #[.int .i64 a1_0] (by rfl) rfl rfl B11x4_ ?_
           with_reducible refine (spec_l01Var.calls kj2 a1_0 t447 _ A15.out).mono ?_
           rintro e w25 ⟨rfl, hb⟩
           refine ⟨_, rfl, ?_⟩
           have n0_ := Aside0.mk (Kd.R_below B11x3_ hb)
           have n1_ := Aside0.mk (blk_below (g := gb443) (o := .cells #[.int .i64 a1_0, .int .i64 a1_1, .string a1_2] 51 (0, 0)) B11x1_ hb)
           have n2_ := Aside0.mk (below_step B11x0_ hb)
           clear HO450
           clear BK443
           clear HB
           have HO450 := n0_
           have BK443 := n1_
           have HB := n2_
           clear n0_ n1_ n2_
           (try clear hb)
           (try clear hb2)
           (try clear hk)
           (try clear hi)
           refine hK.out _ _ ⟨(blk_cell BK443.out 0).trans rfl, (blk_cell BK443.out 1).trans rfl, (blk_cell BK443.out 2).trans rfl⟩ (fun hHeld => ?_)
           clear hK K
           refine norm_ (a' := ?_) ?_ ?_
           rotate_left
           ·show Act.put _ (some 19) _ = _
            simp only [Act.put, List.setIfInBounds_toArray, List.set_cons_zero, List.set_cons_succ, i64_w, i32_w]
            rfl
           refine pu_ 6 20 HT_ ?_
           exact norm_ B11x2_ (hJ1_5_10_11 (v449) _ ⟨hHeld, B11x3_, B11x1_, B11x0_⟩)
         ·skip
          rintro v449 w24 ⟨hS_, h0_, h1_, h2_⟩
          have n0_ : Aside0 (Kd.R (Kd.int .u8) 5 w24 w.heap.size (fun _ => True) v449 y448) := ⟨h0_⟩
          have n1_ : Aside0 (w24.heap[gb443]? = some (.cells #[.int .i64 a1_0, .int .i64 a1_1, .string a1_2] 51 (0, 0))) := ⟨h1_⟩
          have n2_ : Aside0 (Below w.heap.size w w24) := ⟨h2_⟩
          clear BK443
          clear HB
          clear h0_ h1_ h2_
          have HO450 := n0_
          have BK443 := n1_
          have HB := n2_
          clear n0_ n1_ n2_
          have hHeld : w24.cell? ⟨gb443, 0, none⟩ = some (.int .i64 a1_0) ∧ w24.cell? ⟨gb443, 1, none⟩ = some (.int .i64 a1_1) ∧ w24.cell? ⟨gb443, 2, none⟩ = some (.string a1_2) := hS_
          refine norm_ (a' := ?_) ?_ ?_
          rotate_left
          ·simp only [putAll, Act.put, List.setIfInBounds_toArray, List.set_cons_zero, List.set_cons_succ]
           rfl
          refine one_ (i := 11) (N := some 25) #[true, true, true, true, true, true, true, true, true, true, true, true, false, true, true, false, false, false] rfl rfl (one_of HT_.out B11x6_) (by decide) (fun K hK => ?_)
          have hcv25 := own_string (P := Try.prog) Try.underlying43 Try.underlying5 Try.underlying9 (Kd.own_of_R HO450.out)
          refine value_ (w1 := ?_) (v := ?_) (by rfl) rfl ?_ ?_
          rotate_left 2
          ·go_simp
           constructor
           ·rfl
           ·rfl
          clear hcv25
          refine hK.out _ _ ⟨(blk_cell BK443.out 0).trans rfl, (blk_cell BK443.out 1).trans rfl, (blk_cell BK443.out 2).trans rfl⟩ (fun hHeld => ?_)
          clear hK K
          refine norm_ (a' := ?_) ?_ ?_
          rotate_left
          ·show Act.put _ (some 25) _ = _
           simp only [Act.put, List.setIfInBounds_toArray, List.set_cons_zero, List.set_cons_succ, i64_w, i32_w]
           rfl
          exact norm_ B11x2_ (hJ1_5_10_11 (v449) _ ⟨hHeld, B11x3_, B11x1_, B11x0_⟩)
        rintro v449 w25 ⟨hS_, h0_, h1_, h2_⟩
        have n0_ : Aside0 (Kd.R (Kd.int .u8) 5 w25 w.heap.size (fun _ => True) v449 y448) := ⟨h0_⟩
        have n1_ : Aside0 (w25.heap[gb443]? = some (.cells #[.int .i64 a1_0, .int .i64 a1_1, .string a1_2] 51 (0, 0))) := ⟨h1_⟩
        have n2_ : Aside0 (Below w.heap.size w w25) := ⟨h2_⟩
        clear BK443
        clear HB
        clear h0_ h1_ h2_
        have HO450 := n0_
        have BK443 := n1_
        have HB := n2_
        clear n0_ n1_ n2_
        have hHeld : w25.cell? ⟨gb443, 0, none⟩ = some (.int .i64 a1_0) ∧ w25.cell? ⟨gb443, 1, none⟩ = some (.int .i64 a1_1) ∧ w25.cell? ⟨gb443, 2, none⟩ = some (.string a1_2) := hS_
        refine norm_ (a' := ?_) ?_ ?_
        rotate_left
        ·simp only [putAll, Act.put, List.setIfInBounds_toArray, List.set_cons_zero, List.set_cons_succ]
         rfl
        refine pu_ 12 26 HT_ ?_
        refine pu_ 15 29 HT_ ?_
        refine pu_ 16 4 HT_ ?_
        refine pu_ 17 5 HT_ ?_
        refine done_ (done_of HT_.out B11x6_) ?_
        try go_wp2
        go_ret2
        exact ⟨by first | rfl | (simp [errW_none, errW_some] <;> rfl) | (simp [*, errW_none, errW_some] <;> rfl), by repeat (first | (with_reducible first | exact HB.out | apply below_alloc | apply pw_below_drewN | apply below_drew1 | refine below_set ?_ GE443.out) | exact HB.out)⟩
       ·rw [if_neg c18] at H
        exact absurd H (by simp)
      ·rw [if_neg c17] at H
       exact absurd H (by simp)
     ·rw [if_neg c16] at H
      exact absurd H (by simp)
    ·rw [if_neg c14] at H
     exact absurd H (by simp)

end Go.Proofs.Ythgjcijcmacpmaa.QFnEntries
