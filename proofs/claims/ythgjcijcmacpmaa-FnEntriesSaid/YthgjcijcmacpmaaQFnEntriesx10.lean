/- Functions that a law reaches, as functions of Lean, and the walks that show that the calls come to their answers: written by a program of this project out of the translation. No condition. -/
import Derived.Test.YthgjcijcmacpmaaQFnEntriesx0
import Derived.Test.YthgjcijcmacpmaaQFnEntriesx2
import Derived.Test.YthgjcijcmacpmaaQFnEntriesx8
import Derived.Test.YthgjcijcmacpmaaQFnEntriesx9
import Derived.Test.YthgjcijcmacpmaaVFnEntriesShort3
import Derived.Test.YthgjcijcmacpmaaVFnEntriesShort2
import Derived.Test.YthgjcijcmacpmaaVFnEntriesShort
namespace Go.Proofs.Ythgjcijcmacpmaa.QFnEntries
open Go.RowKit Go.Proofs.YthgjcijcmacpmaaW.PrintWords Go.Proofs.YthgjcijcmacpmaaW.PrintLast Go.Proofs.YthgjcijcmacpmaaW.PrintMore Go.Proofs.Ythgjcijcmacpmaa.Short
attribute [local go_sem] max2_int min2_int max_two min_two max_three min_three max_four min_four   -- for this text's walks alone
set_option linter.unusedVariables false
set_option linter.unusedSimpArgs false

theorem B10x0_ {p : Prop} (h : p := by repeat (first | (with_reducible first | exact HB.out | apply below_alloc | apply pw_below_drewN | apply below_drew1) | exact HB.out)) : p := h
theorem B10x1_ {p : Prop} (h : p := by repeat (first | (with_reducible first | exact HB.out | apply below_alloc | apply pw_below_drewN | apply below_drew1 | refine below_set ?_ GE406.out) | exact HB.out)) : p := h
theorem B10x2_ {p : Prop} (h : p := by (with_reducible repeat (first | refine blk_drewN ?_ _ | refine blk_drew ?_ | refine blk_alloc ?_ _)); exact BK406.out) : p := h
theorem B10x3_ {p : Prop} (h : p := by (try simp only [List.map_toArray, List.map_cons, List.map_nil]); first | done | rfl | (simp only [List.length_drop, List.length_take]; rfl)) : p := h
theorem B10x4_ {p : Prop} (h : p := by (with_reducible repeat (first | apply Kd.R_alloc | apply Kd.R_drewN | apply Kd.R_drew)); exact HO_4.out) : p := h
theorem B10x5_ {p : Prop} (h : p := by kernel_rfl) : p := h
theorem B10x6_ {p : Prop} (h : p := by (with_reducible repeat (first | apply Kd.R_alloc | apply Kd.R_drewN | apply Kd.R_drew)); exact HO411.out) : p := h
theorem B10x7_ {p : Prop} (h : p := by (with_reducible repeat (first | apply Kd.R_alloc | apply Kd.R_drewN | apply Kd.R_drew)); exact (Q_HO415 h0_)) : p := h
theorem B10x8_ {p : Prop} (h : p := by (with_reducible repeat (first | apply Kd.R_alloc | apply Kd.R_drewN | apply Kd.R_drew)); exact HO415.out) : p := h
theorem B10x9_ {p : Prop} (h : p := by repeat (first | (with_reducible first | exact HB.out | apply below_alloc | apply pw_below_drewN | apply below_drew1 | refine below_set ?_ GE437.out) | exact HB.out)) : p := h
theorem B10x10_ {p : Prop} (h : p := by (with_reducible repeat (first | apply Kd.R_alloc | apply Kd.R_drewN | apply Kd.R_drew)); exact (Q_HO411 h0_)) : p := h
theorem B10x11_ {p : Prop} (h : p := by first | (with_reducible assumption) | assumption) : p := h
/-! ### impl_EntryText: function 29 -/
def impl_EntryText.j0 : Nat → Int → Bool → Int → Int → ByteArray → Option (ByteArray × Bool)
 | 0, _, _, _, _, _ => none
 | k + 1, x0, x13, x407000, x407001, x407002 => if x13 = true then (some ((⟨#[]⟩ : ByteArray), false)) else ((impl_varTexts.f k (([x0, x407000] : List Int))).bind fun t412 => (if 1 + t412.size ≤ 9223372036854775807 then ((impl_byteTexts.f k (([x407001] : List Int))).bind fun t416 => (if ((⟨#[69]⟩ : ByteArray) ++ t412).size + t416.size ≤ 9223372036854775807 then (if (((⟨#[69]⟩ : ByteArray) ++ t412) ++ t416).size + x407002.size ≤ 9223372036854775807 then (some ((((⟨#[69]⟩ : ByteArray) ++ t412) ++ t416) ++ x407002, true)) else (none)) else (none))) else (none)))
def impl_EntryText.f (k : Nat) (a0 : Int) (a1_0 : Int) (a1_1 : Int) (a1_2 : ByteArray) : Option (ByteArray × Bool) := (impl_EntryOk.f k a1_0 a1_1 a1_2).bind fun t407 => (if t407 = true then ((impl_within.f a0 1 1000000).bind fun t408 => (impl_EntryText.j0 k a0 (!t408) a1_0 a1_1 a1_2)) else (impl_EntryText.j0 k a0 true a1_0 a1_1 a1_2))
theorem impl_EntryText.mono_l : ∀ k, (∀ y0 y1 y2 y3 y4, LeO (impl_EntryText.j0 k y0 y1 y2 y3 y4) (impl_EntryText.j0 (k + 1) y0 y1 y2 y3 y4))
 | 0 => fun _ _ _ _ _ r h => by simp [impl_EntryText.j0] at h
 | k + 1 => by
  have ih0 := impl_EntryText.mono_l k
  ·intro y0 y1 y2 y3 y4
   unfold impl_EntryText.j0
   repeat' first
   | (with_reducible exact ih0 _ _ _ _ _)
   | (with_reducible exact impl_EntryOk.mono _ _ _ _)
   | (with_reducible exact impl_byteTexts.mono _ _)
   | (with_reducible exact impl_varTexts.mono _ _)
   | (with_reducible exact LeO.refl _)
   | (with_reducible exact LeO.none _)
   | (with_reducible refine LeO.ite ?_ ?_)
   | (with_reducible refine LeO.bind ?_ (fun _ => ?_))
   | exact ih0 _ _ _ _ _
   | exact impl_EntryOk.mono _ _ _ _
   | exact impl_byteTexts.mono _ _
   | exact impl_varTexts.mono _ _
   | exact LeO.none _
   | refine LeO.ite ?_ ?_
   | refine LeO.bind ?_ (fun _ => ?_)
theorem impl_EntryText.mono : ∀ a0 a1 a2 a3 k, LeO (impl_EntryText.f k a0 a1 a2 a3) (impl_EntryText.f (k + 1) a0 a1 a2 a3) := by
 intro a0 a1 a2 a3 k
 have ih0 := impl_EntryText.mono_l k
 unfold impl_EntryText.f
 repeat' first
   | (with_reducible exact ih0 _ _ _ _ _)
   | (with_reducible exact impl_EntryOk.mono _ _ _ _)
   | (with_reducible exact impl_byteTexts.mono _ _)
   | (with_reducible exact impl_varTexts.mono _ _)
   | (with_reducible exact LeO.refl _)
   | (with_reducible exact LeO.none _)
   | (with_reducible refine LeO.ite ?_ ?_)
   | (with_reducible refine LeO.bind ?_ (fun _ => ?_))
   | exact ih0 _ _ _ _ _
   | exact impl_EntryOk.mono _ _ _ _
   | exact impl_byteTexts.mono _ _
   | exact impl_varTexts.mono _ _
   | exact LeO.none _
   | refine LeO.ite ?_ ?_
   | refine LeO.bind ?_ (fun _ => ?_)
def impl_EntryText.T3 : Bool × List (List Nat × List Nat) := (true, [([], []), ([], []), ([1], [1]), ([0, 2], [0, 2]), ([3], [3]), ([4], [4]), ([], []), ([6], [6]), ([7], [7]), ([8, 4], [8]), ([5, 9], [5, 9]), ([], []), ([11], [11]), ([10, 12], [10, 12]), ([13, 9, 0, 1, 2, 3, 4, 5, 6, 7, 8, 9, 10, 11, 12, 13], [13]), ([14, 0, 1, 2, 3, 4, 5, 6, 7, 8, 9, 10, 11, 12, 13, 14], [])])
def impl_EntryText.B3 : List Nat := [0, 0, 2, 7, 15, 31, 0, 64, 192, 479, 1023, 0, 2048, 8191, 16383, 32767]
theorem impl_EntryText.tab3 : rtab .any (opsOf Try.f29 3) = impl_EntryText.T3 := by kernel_rfl
theorem impl_EntryText.bits3 : waitsOk impl_EntryText.T3.2 impl_EntryText.B3 = true := by kernel_rfl
set_option maxHeartbeats 8000000 in
set_option maxRecDepth 100000 in
theorem impl_EntryText.calls (k : Nat) (a0 : Int) (a1_0 : Int) (a1_1 : Int) (a1_2 : ByteArray) (r1 : ByteArray) (r2 : Bool) (w : World) (h : impl_EntryText.f k a0 a1_0 a1_1 a1_2 = some (r1, r2)) :
  Calls Try.prog 29 #[.int .i64 a0, .agg #[.int .i64 a1_0, .int .i64 a1_1, .string a1_2]] w fun e w' => e = .returned (.tuple #[.string r1, .bool r2]) ∧ Below w.heap.size w w' := by
 have hu51 := Try.underlying51
 have HB := Aside0.mk (Below.refl w.heap.size w)
 have H : ((impl_EntryOk.f k a1_0 a1_1 a1_2).bind fun t407 => (if t407 = true then ((impl_within.f a0 1 1000000).bind fun t408 => (impl_EntryText.j0 k a0 (!t408) a1_0 a1_1 a1_2)) else (impl_EntryText.j0 k a0 true a1_0 a1_1 a1_2))) = some (r1, r2) := h
 clear h
 have HC3 := Aside0.mk H
 clear H
 go_enter Try.func29, Try.ntmps29
 go_upto_region 1 with (first | ((with_reducible refine gate_dst (N := 3) rfl ?_); refine box_event ?hg (N := 3) ?hd (cs := #[.int .i64 a1_0, .int .i64 a1_1, .string a1_2]) (t := 51) ?hr ?_; (case hd => rfl); (case hg => rfl); (case hr => first | (go_simp; done) | (go_simp; rfl)); intro gb406 hg w4 hbox hb; have n0_ := Aside0.mk (below_step B10x0_ hb); have n1_ := Aside0.mk (hbox); have n2_ := Aside0.mk ((by rw [hg]; exact (below_size B10x0_) : w.heap.size ≤ gb406)); have n3_ := Aside0.mk ((by rw [hg]; exact (below_size B10x0_) : w.heap.size ≤ gb406)); clear HB; have HB := n0_; have BK406 := n1_; have GW406 := n2_; have GE406 := n3_; clear n0_ n1_ n2_ n3_; clear hb hbox hg))
 (try simp only [Act.put, List.setIfInBounds_toArray, List.set_cons_zero, List.set_cons_succ])
 go_cut [13] (fun v13 wc => ∃ (kq : Nat) (x13_2 : Bool), v13 = .bool x13_2 ∧ Aside0 (impl_EntryText.j0 kq a0 x13_2 a1_0 a1_1 a1_2 = some (r1, r2)) ∧ Aside0 (kq ≤ k) ∧ Aside0 (wc.heap[gb406]? = some (.cells #[.int .i64 a1_0, .int .i64 a1_1, .string a1_2] 51 (0, 0))) ∧ Aside0 (Below w.heap.size w wc))
 case first =>
  have H := HC3.out
  clear HC3
  replace H := Option.bind_eq_some_iff.mp H
  obtain ⟨t407, A50, H⟩ := H
  (try dsimp only at H)
  have A5 := Aside0.mk A50
  clear A50
  by_cases c6 : t407 = true
  ·subst c6
   rw [if_pos rfl] at H
   replace H := Option.bind_eq_some_iff.mp H
   obtain ⟨t408, A70, H⟩ := H
   (try dsimp only at H)
   have A7 := Aside0.mk A70
   clear A70
   have H' := Aside0.mk H
   clear H
   obtain ⟨hcz8_0, hcz8_1, hcz8_2⟩ := cl3 BK406.out
   obtain ⟨hfz8_0, hfz8_1, hfz8_2⟩ := fr3 BK406.out
   go_wp2_with (first | ((with_reducible refine gate_callee (f := 71) rfl ?_); refine goesL_ (some 7) rfl rfl Try.func71 B10x5_ rfl #[.agg #[.int .i64 a1_0, .int .i64 a1_1, .string a1_2]] rfl B10x3_ ?_; (with_reducible refine (impl_EntryOk.calls k a1_0 a1_1 a1_2 true _ A5.out).mono ?_); rintro e w9 ⟨rfl, hb⟩; refine ⟨_, rfl, ?_⟩; have n0_ := Aside0.mk (blk_below (g := gb406) (o := .cells #[.int .i64 a1_0, .int .i64 a1_1, .string a1_2] 51 (0, 0)) B10x2_ hb); have n1_ := Aside0.mk (below_step B10x1_ hb); clear BK406; clear HB; have BK406 := n0_; have HB := n1_; clear n0_ n1_; (try clear hb); (try clear hb2); (try clear hk); (try clear hi)) | (go_at_call 68; (with_reducible refine (impl_within.calls a0 1 1000000 t408 _ A7.out).mono ?_); rintro e w' ⟨rfl, ⟨nd, rfl⟩⟩))
   go_meet
   case rel => exact ⟨_, (!t408), (be_), H', ⟨by first | omega | exact Nat.le_refl _⟩, ⟨by (with_reducible repeat (first | refine blk_drewN ?_ _ | refine blk_drew ?_ | refine blk_alloc ?_ _)); exact BK406.out⟩, ⟨by repeat (first | (with_reducible first | exact HB.out | apply below_alloc | apply pw_below_drewN | apply below_drew1 | refine below_set ?_ GE406.out) | exact HB.out)⟩⟩
  ·replace c6 := Bool.eq_false_iff.mpr c6
   subst c6
   rw [if_neg (show ¬ (false = true) by decide)] at H
   have H' := Aside0.mk H
   clear H
   obtain ⟨hcz10_0, hcz10_1, hcz10_2⟩ := cl3 BK406.out
   obtain ⟨hfz10_0, hfz10_1, hfz10_2⟩ := fr3 BK406.out
   go_wp2_with (first | ((with_reducible refine gate_callee (f := 71) rfl ?_); refine goesL_ (some 7) rfl rfl Try.func71 B10x5_ rfl #[.agg #[.int .i64 a1_0, .int .i64 a1_1, .string a1_2]] rfl B10x3_ ?_; (with_reducible refine (impl_EntryOk.calls k a1_0 a1_1 a1_2 false _ A5.out).mono ?_); rintro e w11 ⟨rfl, hb⟩; refine ⟨_, rfl, ?_⟩; have n0_ := Aside0.mk (blk_below (g := gb406) (o := .cells #[.int .i64 a1_0, .int .i64 a1_1, .string a1_2] 51 (0, 0)) B10x2_ hb); have n1_ := Aside0.mk (below_step B10x1_ hb); clear BK406; clear HB; have BK406 := n0_; have HB := n1_; clear n0_ n1_; (try clear hb); (try clear hb2); (try clear hk); (try clear hi)))
   go_meet
   case rel => exact ⟨_, (true), (be_), H', ⟨by first | omega | exact Nat.le_refl _⟩, ⟨by (with_reducible repeat (first | refine blk_drewN ?_ _ | refine blk_drew ?_ | refine blk_alloc ?_ _)); exact BK406.out⟩, ⟨by repeat (first | (with_reducible first | exact HB.out | apply below_alloc | apply pw_below_drewN | apply below_drew1 | refine below_set ?_ GE406.out) | exact HB.out)⟩⟩
 case rest =>
  clear HC3
  try clear c2
  try clear p2
  try clear c6
  try clear c7
  try clear hcz10_0
  try clear hcz10_1
  try clear hcz10_2
  try clear hcz8_0
  try clear hcz8_1
  try clear hcz8_2
  try clear hfz10_0
  try clear hfz10_1
  try clear hfz10_2
  try clear hfz8_0
  try clear hfz8_1
  try clear hfz8_2
  obtain ⟨kq, x13_2, rfl, HA, HJ2, BK406, HB⟩ := hcut
  cases kq with
  | zero => exact absurd HA.out (by simp [impl_EntryText.j0])
  | succ kj2 =>
   have H := HA.out
   clear HA
   simp only [impl_EntryText.j0] at H
   by_cases c12 : x13_2 = true
   ·subst c12
    rw [if_pos rfl] at H
    simp only [Option.some.injEq, Prod.mk.injEq] at H
    obtain ⟨rfl, rfl⟩ := H
    go_wp2
    go_ret2
    exact ⟨by first | rfl | (simp [errW_none, errW_some] <;> rfl) | (simp [*, errW_none, errW_some] <;> rfl), by repeat (first | (with_reducible first | exact HB.out | apply below_alloc | apply pw_below_drewN | apply below_drew1 | refine below_set ?_ GE406.out) | exact HB.out)⟩
   ·replace c12 := Bool.eq_false_iff.mpr c12
    subst c12
    rw [if_neg (show ¬ (false = true) by decide)] at H
    obtain ⟨y409, hy409⟩ : ∃ y_ : List Int, y_ = (([a0, a1_0] : List Int)) := ⟨_, rfl⟩
    replace H : ((impl_varTexts.f kj2 y409).bind fun t412 => (if 1 + t412.size ≤ 9223372036854775807 then ((impl_byteTexts.f kj2 (([a1_1] : List Int))).bind fun t416 => (if ((⟨#[69]⟩ : ByteArray) ++ t412).size + t416.size ≤ 9223372036854775807 then (if (((⟨#[69]⟩ : ByteArray) ++ t412) ++ t416).size + a1_2.size ≤ 9223372036854775807 then (some ((((⟨#[69]⟩ : ByteArray) ++ t412) ++ t416) ++ a1_2, true)) else (none)) else (none))) else (none))) = some (r1, r2) := by first | (rw [hy409]; with_reducible exact H) | (have H2_ := (Option.bind_some _ _).symm.trans H; rw [hy409]; with_reducible exact H2_) | (have H2_ := (Option.bind_some _ _).symm.trans H; with_reducible exact H2_) | with_reducible exact H | (rw [hy409]; exact H) | exact H
    have Ny409 := Aside0.mk hy409
    clear hy409
    replace H := Option.bind_eq_some_iff.mp H
    obtain ⟨t412, A130, H⟩ := H
    (try dsimp only at H)
    have A13 := Aside0.mk A130
    clear A130
    by_cases c14 : 1 + t412.size ≤ 9223372036854775807
    ·rw [if_pos c14] at H
     have c14b0 := eq_true c14
     have c14b1 : decide (1 + t412.size ≤ 9223372036854775807) = true := decide_eq_true c14
     try have c14b2 : (9223372036854775807 < 1 + t412.size) = False := eq_false (Nat.not_lt.2 c14)
     try (have c14b9 := c14b2; simp only [ByteArray.size_append] at c14b9)
     obtain ⟨y413, hy413⟩ : ∃ y_ : List Int, y_ = (([a1_1] : List Int)) := ⟨_, rfl⟩
     replace H : ((impl_byteTexts.f kj2 y413).bind fun t416 => (if ((⟨#[69]⟩ : ByteArray) ++ t412).size + t416.size ≤ 9223372036854775807 then (if (((⟨#[69]⟩ : ByteArray) ++ t412) ++ t416).size + a1_2.size ≤ 9223372036854775807 then (some ((((⟨#[69]⟩ : ByteArray) ++ t412) ++ t416) ++ a1_2, true)) else (none)) else (none))) = some (r1, r2) := by first | (rw [hy413]; with_reducible exact H) | (have H2_ := (Option.bind_some _ _).symm.trans H; rw [hy413]; with_reducible exact H2_) | (have H2_ := (Option.bind_some _ _).symm.trans H; with_reducible exact H2_) | with_reducible exact H | (rw [hy413]; exact H) | exact H
     have Ny413 := Aside0.mk hy413
     clear hy413
     replace H := Option.bind_eq_some_iff.mp H
     obtain ⟨t416, A150, H⟩ := H
     (try dsimp only at H)
     have A15 := Aside0.mk A150
     clear A150
     by_cases c16 : ((⟨#[69]⟩ : ByteArray) ++ t412).size + t416.size ≤ 9223372036854775807
     ·rw [if_pos c16] at H
      have c16b0 := eq_true c16
      have c16b1 : decide (((⟨#[69]⟩ : ByteArray) ++ t412).size + t416.size ≤ 9223372036854775807) = true := decide_eq_true c16
      try have c16b2 : (9223372036854775807 < ((⟨#[69]⟩ : ByteArray) ++ t412).size + t416.size) = False := eq_false (Nat.not_lt.2 c16)
      try have c16b8 : (9223372036854775807 < 1 + t412.size + t416.size) = False := eq_false (by have z0_ : (⟨#[69]⟩ : ByteArray).size = 1 := rfl; have h_ := c16; simp only [ByteArray.size_append, ByteArray.size_extract, decide_eq_true_eq, decide_eq_false_iff_not] at *; omega)
      try (have c16b9 := c16b2; simp only [ByteArray.size_append] at c16b9)
      by_cases c17 : (((⟨#[69]⟩ : ByteArray) ++ t412) ++ t416).size + a1_2.size ≤ 9223372036854775807
      ·rw [if_pos c17] at H
       have c17b0 := eq_true c17
       have c17b1 : decide ((((⟨#[69]⟩ : ByteArray) ++ t412) ++ t416).size + a1_2.size ≤ 9223372036854775807) = true := decide_eq_true c17
       try have c17b2 : (9223372036854775807 < (((⟨#[69]⟩ : ByteArray) ++ t412) ++ t416).size + a1_2.size) = False := eq_false (Nat.not_lt.2 c17)
       try have c17b8 : (9223372036854775807 < 1 + t412.size + t416.size + a1_2.size) = False := eq_false (by have z0_ : (⟨#[69]⟩ : ByteArray).size = 1 := rfl; have h_ := c17; simp only [ByteArray.size_append, ByteArray.size_extract, decide_eq_true_eq, decide_eq_false_iff_not] at *; omega)
       try (have c17b9 := c17b2; simp only [ByteArray.size_append] at c17b9)
       simp only [Option.some.injEq, Prod.mk.injEq] at H
       obtain ⟨rfl, rfl⟩ := H
       try go_wp2
       have n0_ := Aside0.mk (blk_drew BK406.out)
       have n1_ := Aside0.mk (below_drew1 HB.out)
       clear BK406
       clear HB
       have BK406 := n0_
       have HB := n1_
       clear n0_ n1_
       refine start_ (n := 16) (S := fun w' => True) (ds := []) #[false, false, false, false, false, false, false, false, false, false, false, false, false, false, false, false] B10x5_ rfl rfl trivial (fun hHeld => ?_); refine with_tabW impl_EntryText.tab3 impl_EntryText.bits3 (fun HT_ HW_ => ?_)
       generalize wc.drew = w18 at BK406 HB hHeld ⊢
       refine pu_ 0 14 HT_ ?_
       refine pu_ 1 15 HT_ ?_
       refine pu_ 6 20 HT_ ?_
       refine pu_ 11 25 HT_ ?_
       refine inv_at [2, 3, 4, 5, 7, 8, 9, 10, 12, 13, 14, 15] (fun a0_ b a w' => ∃ (v410 : Value) (v414 : Value), a = putSel a0_ b [(2, 16, .int .i64 a1_0), (3, 17, v410), (4, 18, .string t412), (5, 19, .string ((⟨#[69]⟩ : ByteArray) ++ t412)), (7, 21, .int .i64 a1_1), (8, 22, v414), (9, 23, .string t416), (10, 24, .string (((⟨#[69]⟩ : ByteArray) ++ t412) ++ t416)), (12, 26, .string a1_2), (13, 27, .string ((((⟨#[69]⟩ : ByteArray) ++ t412) ++ t416) ++ a1_2)), (14, 4, .string ((((⟨#[69]⟩ : ByteArray) ++ t412) ++ t416) ++ a1_2)), (15, 5, .bool true)] ∧ (w'.heap[gb406]? = some (.cells #[.int .i64 a1_0, .int .i64 a1_1, .string a1_2] 51 (0, 0))) ∧ (Below w.heap.size w w') ∧ (b 3 = true → Kd.R (Kd.int .i64) 3 w' w.heap.size (fun _ => True) v410 y409) ∧ (b 8 = true → Kd.R (Kd.int .i64) 3 w' w.heap.size (fun _ => True) v414 y413)) HT_.out HW_.out B10x5_ B10x5_ ?_ ?_ ?_
       ·exact ⟨.bool false, .bool false, by simp only [putSel, Bool.false_eq_true, if_false], BK406.out, HB.out, fun h_ => absurd h_ (by decide), fun h_ => absurd h_ (by decide)⟩
       ·skip
        clear BK406 HB
        refine steps_cons ?_ ?_
        ·rintro b a w' ⟨v410, v414, ha, Q_BK406, Q_HB, Q_HO411, Q_HO415⟩ hb_ hon hoff
         refine ⟨_, rfl, fun K hK => ?_⟩
         have e15 : a.tmps[15]? = some (.pointer (some ⟨gb406, 0, none⟩)) := by rw [ha]; exact (putSel_off rfl).trans rfl
         replace ha := Aside0.mk ha
         have BK406 := Aside0.mk Q_BK406
         have HB := Aside0.mk Q_HB
         have hc0_ : w'.cell? ⟨gb406, 0, none⟩ = some (.int .i64 a1_0) := (blk_cell BK406.out 0).trans rfl
         have hc1_ : w'.cell? ⟨gb406, 1, none⟩ = some (.int .i64 a1_1) := (blk_cell BK406.out 1).trans rfl
         have hc2_ : w'.cell? ⟨gb406, 2, none⟩ = some (.string a1_2) := (blk_cell BK406.out 2).trans rfl
         refine value_ (w1 := w') (v := .int .i64 a1_0) (by rfl) rfl ?_ ?_
         ·go_simp
          (try simp only [i64_w])
          try rfl
         refine hK.out _ _ ⟨v410, v414, (by rw [ha.out]; exact putSel_upk 0 hb_ rfl rfl rfl), Q_BK406, Q_HB, fun h0_ => absurd ((hoff 3 B10x5_).symm.trans h0_) (by decide), Q_HO415⟩
        refine steps_cons ?_ ?_
        ·rintro b a w' ⟨v410, v414, ha, Q_BK406, Q_HB, Q_HO411, Q_HO415⟩ hb_ hon hoff
         refine ⟨_, rfl, fun K hK => ?_⟩
         have e14 : a.tmps[14]? = some (.int .i64 a0) := by rw [ha]; exact (putSel_off rfl).trans rfl
         have e16 : a.tmps[16]? = some (.int .i64 a1_0) := by rw [ha]; exact putSel_on (e := (2, 16, .int .i64 a1_0)) 0 rfl rfl (hon 2 B10x5_) rfl
         replace ha := Aside0.mk ha
         have BK406 := Aside0.mk Q_BK406
         have HB := Aside0.mk Q_HB
         refine Kd.R_lit_step (Kd.int .i64) _ 3 ?hg (N := 17) ?hd (xs := ([a0, a1_0] : List Int)) (inner := [.int .i64 a0, .int .i64 a1_0]) (ok := fun _ => True) (okp := fun _ => True) ?hr ?hp (fun _ hk => hk) trivial (Below.refl _ _) (Nat.le_refl _) (by simp) ?_; (case hd => rfl); (case hg => rfl); (case hr => first | (go_simp; done) | (go_simp; rfl)); (case hp => exact (Reps.one (show Kd.M (Kd.int .i64) _ _ _ a0 [.int .i64 a0] from rfl) (Reps.one (show Kd.M (Kd.int .i64) _ _ _ a1_0 [.int .i64 a1_0] from rfl) (Reps.none _ _))))
         intro v410 w19 ho20 hb hg_ hnew_
         clear hg_ hnew_
         (first | rw [← Ny409.out] at ho20 | (simp only [Int.reduceToNat] at ho20; rw [← Ny409.out] at ho20))
         have n0_ := Aside0.mk (Kd.R_lower ho20 (below_size B10x1_))
         have n1_ := Aside0.mk (blk_below (g := gb406) (o := .cells #[.int .i64 a1_0, .int .i64 a1_1, .string a1_2] 51 (0, 0)) B10x2_ hb)
         have n2_ := Aside0.mk (below_step B10x1_ hb)
         have z_HO415 := fun (h0_ : b 8 = true) => (show Kd.R (Kd.int .i64) 3 w19 w.heap.size (fun _ => True) v414 y413 from by first | exact (Kd.R_elder' B10x7_ (Kd.R_base ho20) hb) | exact Kd.R_mono (Kd.R_elder' B10x7_ (Kd.R_base ho20) hb) (fun _ h_ => by first | trivial | exact h_ | exact h_.1))
         clear BK406
         clear HB
         have HO411 := n0_
         have BK406 := n1_
         have HB := n2_
         clear n0_ n1_ n2_
         clear hb ho20
         refine hK.out _ _ ⟨v410, v414, (by rw [ha.out]; exact putSel_upk 1 hb_ rfl rfl rfl), B10x2_, B10x1_, fun _ => B10x6_, z_HO415⟩
        refine steps_cons ?_ ?_
        ·rintro b a w' ⟨v410, v414, ha, Q_BK406, Q_HB, Q_HO411, Q_HO415⟩ hb_ hon hoff
         refine ⟨_, rfl, fun K hK => ?_⟩
         have e17 : a.tmps[17]? = some (v410) := by rw [ha]; exact putSel_on (e := (3, 17, v410)) 1 rfl rfl (hon 3 B10x5_) rfl
         replace ha := Aside0.mk ha
         have BK406 := Aside0.mk Q_BK406
         have HB := Aside0.mk Q_HB
         have HO411 := Aside0.mk (Q_HO411 (hon 3 B10x5_))
         obtain ⟨Ao22, co22, eo22⟩ := Kd.R_slice HO411.out
         (first | subst eo22 | (injection eo22 with f1_ f2_ f3_; have f4_ := f1_.symm; have f5_ := f3_.symm; clear f1_ f2_ f3_; subst f4_; subst f5_))
         refine goes_ Try.func100 B10x5_ rfl #[.slice Ao22 y409.length co22] (by rfl) rfl rfl (by first | (simp only [List.map_toArray, List.map_cons, List.map_nil, Act.eval, Array.getD_eq_getD_getElem?, Option.getD_some, e17]; done) | (simp only [List.map_toArray, List.map_cons, List.map_nil, Act.eval, Array.getD_eq_getD_getElem?, Option.getD_some, e17]; rfl)) ?_
         with_reducible refine (impl_varTexts.calls kj2 _ _ y409 t412 _ ?side1 ?side2 A13.out).mono ?_
         (case side1 => repeat (first | exact (Kd.R_reads' HO411.out).2.2 | (with_reducible refine Kd.C_alloc ?_ _) | (with_reducible refine Kd.C_drewN ?_ _) | (with_reducible refine Kd.C_drew ?_)))
         (case side2 => exact (Kd.R_reads' HO411.out).2.1)
         rintro e w23 ⟨rfl, hb⟩
         refine ⟨_, rfl, ?_⟩
         have n0_ := Aside0.mk (Kd.R_below B10x6_ hb)
         have n1_ := Aside0.mk (blk_below (g := gb406) (o := .cells #[.int .i64 a1_0, .int .i64 a1_1, .string a1_2] 51 (0, 0)) B10x2_ hb)
         have n2_ := Aside0.mk (below_step B10x1_ hb)
         have z_HO415 := fun (h0_ : b 8 = true) => (show Kd.R (Kd.int .i64) 3 w23 w.heap.size (fun _ => True) v414 y413 from by first | exact (Kd.R_below B10x7_ hb) | exact Kd.R_mono (Kd.R_below B10x7_ hb) (fun _ h_ => by first | trivial | exact h_ | exact h_.1))
         clear HO411
         clear BK406
         clear HB
         have HO411 := n0_
         have BK406 := n1_
         have HB := n2_
         clear n0_ n1_ n2_
         (try clear hb)
         (try clear hb2)
         (try clear hk)
         (try clear hi)
         refine hK.out _ _ ⟨.slice Ao22 y409.length co22, v414, (by rw [ha.out]; exact putSel_upk 2 hb_ rfl rfl rfl), B10x2_, B10x1_, fun _ => B10x6_, z_HO415⟩
        refine steps_cons ?_ ?_
        ·rintro b a w' ⟨v410, v414, ha, Q_BK406, Q_HB, Q_HO411, Q_HO415⟩ hb_ hon hoff
         refine ⟨_, rfl, fun K hK => ?_⟩
         have e18 : a.tmps[18]? = some (.string t412) := by rw [ha]; exact putSel_on (e := (4, 18, .string t412)) 2 rfl rfl (hon 4 B10x5_) rfl
         replace ha := Aside0.mk ha
         have BK406 := Aside0.mk Q_BK406
         have HB := Aside0.mk Q_HB
         have HO411 := Aside0.mk (Q_HO411 (hon 3 B10x5_))
         refine value_ (w1 := w') (v := .string ((⟨#[69]⟩ : ByteArray) ++ t412)) (by rfl) rfl ?_ ?_
         ·go_simp
          (try simp only [i64_w])
          try rfl
         refine hK.out _ _ ⟨v410, v414, (by rw [ha.out]; exact putSel_upk 3 hb_ rfl rfl rfl), Q_BK406, Q_HB, Q_HO411, Q_HO415⟩
        refine steps_cons ?_ ?_
        ·rintro b a w' ⟨v410, v414, ha, Q_BK406, Q_HB, Q_HO411, Q_HO415⟩ hb_ hon hoff
         refine ⟨_, rfl, fun K hK => ?_⟩
         have e20 : a.tmps[20]? = some (.pointer (some ⟨gb406, 1, none⟩)) := by rw [ha]; exact (putSel_off rfl).trans rfl
         replace ha := Aside0.mk ha
         have BK406 := Aside0.mk Q_BK406
         have HB := Aside0.mk Q_HB
         have hc0_ : w'.cell? ⟨gb406, 0, none⟩ = some (.int .i64 a1_0) := (blk_cell BK406.out 0).trans rfl
         have hc1_ : w'.cell? ⟨gb406, 1, none⟩ = some (.int .i64 a1_1) := (blk_cell BK406.out 1).trans rfl
         have hc2_ : w'.cell? ⟨gb406, 2, none⟩ = some (.string a1_2) := (blk_cell BK406.out 2).trans rfl
         refine value_ (w1 := w') (v := .int .i64 a1_1) (by rfl) rfl ?_ ?_
         ·go_simp
          (try simp only [i64_w])
          try rfl
         refine hK.out _ _ ⟨v410, v414, (by rw [ha.out]; exact putSel_upk 4 hb_ rfl rfl rfl), Q_BK406, Q_HB, Q_HO411, fun h0_ => absurd ((hoff 8 B10x5_).symm.trans h0_) (by decide)⟩
        refine steps_cons ?_ ?_
        ·rintro b a w' ⟨v410, v414, ha, Q_BK406, Q_HB, Q_HO411, Q_HO415⟩ hb_ hon hoff
         refine ⟨_, rfl, fun K hK => ?_⟩
         have e21 : a.tmps[21]? = some (.int .i64 a1_1) := by rw [ha]; exact putSel_on (e := (7, 21, .int .i64 a1_1)) 4 rfl rfl (hon 7 B10x5_) rfl
         replace ha := Aside0.mk ha
         have BK406 := Aside0.mk Q_BK406
         have HB := Aside0.mk Q_HB
         refine Kd.R_lit_step (Kd.int .i64) _ 3 ?hg (N := 22) ?hd (xs := ([a1_1] : List Int)) (inner := [.int .i64 a1_1]) (ok := fun _ => True) (okp := fun _ => True) ?hr ?hp (fun _ hk => hk) trivial (Below.refl _ _) (Nat.le_refl _) (by simp) ?_; (case hd => rfl); (case hg => rfl); (case hr => first | (go_simp; done) | (go_simp; rfl)); (case hp => exact (Reps.one (show Kd.M (Kd.int .i64) _ _ _ a1_1 [.int .i64 a1_1] from rfl) (Reps.none _ _)))
         intro v414 w19 ho20 hb hg_ hnew_
         clear hg_ hnew_
         (first | rw [← Ny413.out] at ho20 | (simp only [Int.reduceToNat] at ho20; rw [← Ny413.out] at ho20))
         have n0_ := Aside0.mk (Kd.R_lower ho20 (below_size B10x1_))
         have n1_ := Aside0.mk (blk_below (g := gb406) (o := .cells #[.int .i64 a1_0, .int .i64 a1_1, .string a1_2] 51 (0, 0)) B10x2_ hb)
         have n2_ := Aside0.mk (below_step B10x1_ hb)
         have z_HO411 := fun (h0_ : b 3 = true) => (show Kd.R (Kd.int .i64) 3 w19 w.heap.size (fun _ => True) v410 y409 from by first | exact (Kd.R_elder' B10x10_ (Kd.R_base ho20) hb) | exact Kd.R_mono (Kd.R_elder' B10x10_ (Kd.R_base ho20) hb) (fun _ h_ => by first | trivial | exact h_ | exact h_.1))
         clear BK406
         clear HB
         have HO415 := n0_
         have BK406 := n1_
         have HB := n2_
         clear n0_ n1_ n2_
         clear hb ho20
         refine hK.out _ _ ⟨v410, v414, (by rw [ha.out]; exact putSel_upk 5 hb_ rfl rfl rfl), B10x2_, B10x1_, z_HO411, fun _ => B10x8_⟩
        refine steps_cons ?_ ?_
        ·rintro b a w' ⟨v410, v414, ha, Q_BK406, Q_HB, Q_HO411, Q_HO415⟩ hb_ hon hoff
         refine ⟨_, rfl, fun K hK => ?_⟩
         have e22 : a.tmps[22]? = some (v414) := by rw [ha]; exact putSel_on (e := (8, 22, v414)) 5 rfl rfl (hon 8 B10x5_) rfl
         replace ha := Aside0.mk ha
         have BK406 := Aside0.mk Q_BK406
         have HB := Aside0.mk Q_HB
         have HO411 := Aside0.mk (Q_HO411 (hon 3 B10x5_))
         have HO415 := Aside0.mk (Q_HO415 (hon 8 B10x5_))
         obtain ⟨Ao26, co26, eo26⟩ := Kd.R_slice HO415.out
         (first | subst eo26 | (injection eo26 with f1_ f2_ f3_; have f4_ := f1_.symm; have f5_ := f3_.symm; clear f1_ f2_ f3_; subst f4_; subst f5_))
         refine goes_ Try.func99 B10x5_ rfl #[.slice Ao26 y413.length co26] (by rfl) rfl rfl (by first | (simp only [List.map_toArray, List.map_cons, List.map_nil, Act.eval, Array.getD_eq_getD_getElem?, Option.getD_some, e22]; done) | (simp only [List.map_toArray, List.map_cons, List.map_nil, Act.eval, Array.getD_eq_getD_getElem?, Option.getD_some, e22]; rfl)) ?_
         with_reducible refine (impl_byteTexts.calls kj2 _ _ y413 t416 _ ?side1 ?side2 A15.out).mono ?_
         (case side1 => repeat (first | exact (Kd.R_reads' HO415.out).2.2 | (with_reducible refine Kd.C_alloc ?_ _) | (with_reducible refine Kd.C_drewN ?_ _) | (with_reducible refine Kd.C_drew ?_)))
         (case side2 => exact (Kd.R_reads' HO415.out).2.1)
         rintro e w27 ⟨rfl, hb⟩
         refine ⟨_, rfl, ?_⟩
         have n0_ := Aside0.mk (Kd.R_below B10x6_ hb)
         have n1_ := Aside0.mk (Kd.R_below B10x8_ hb)
         have n2_ := Aside0.mk (blk_below (g := gb406) (o := .cells #[.int .i64 a1_0, .int .i64 a1_1, .string a1_2] 51 (0, 0)) B10x2_ hb)
         have n3_ := Aside0.mk (below_step B10x1_ hb)
         clear HO411
         clear HO415
         clear BK406
         clear HB
         have HO411 := n0_
         have HO415 := n1_
         have BK406 := n2_
         have HB := n3_
         clear n0_ n1_ n2_ n3_
         (try clear hb)
         (try clear hb2)
         (try clear hk)
         (try clear hi)
         refine hK.out _ _ ⟨v410, .slice Ao26 y413.length co26, (by rw [ha.out]; exact putSel_upk 6 hb_ rfl rfl rfl), B10x2_, B10x1_, fun _ => B10x6_, fun _ => B10x8_⟩
        refine steps_cons ?_ ?_
        ·rintro b a w' ⟨v410, v414, ha, Q_BK406, Q_HB, Q_HO411, Q_HO415⟩ hb_ hon hoff
         refine ⟨_, rfl, fun K hK => ?_⟩
         have e19 : a.tmps[19]? = some (.string ((⟨#[69]⟩ : ByteArray) ++ t412)) := by rw [ha]; exact putSel_on (e := (5, 19, .string ((⟨#[69]⟩ : ByteArray) ++ t412))) 3 rfl rfl (hon 5 B10x5_) rfl
         have e23 : a.tmps[23]? = some (.string t416) := by rw [ha]; exact putSel_on (e := (9, 23, .string t416)) 6 rfl rfl (hon 9 B10x5_) rfl
         replace ha := Aside0.mk ha
         have BK406 := Aside0.mk Q_BK406
         have HB := Aside0.mk Q_HB
         have HO411 := Aside0.mk (Q_HO411 (hon 3 B10x5_))
         have HO415 := Aside0.mk (Q_HO415 (hon 8 B10x5_))
         refine value_ (w1 := w') (v := .string (((⟨#[69]⟩ : ByteArray) ++ t412) ++ t416)) (by rfl) rfl ?_ ?_
         ·go_simp
          (try simp only [i64_w])
          try rfl
         refine hK.out _ _ ⟨v410, v414, (by rw [ha.out]; exact putSel_upk 7 hb_ rfl rfl rfl), Q_BK406, Q_HB, Q_HO411, Q_HO415⟩
        refine steps_cons ?_ ?_
        ·rintro b a w' ⟨v410, v414, ha, Q_BK406, Q_HB, Q_HO411, Q_HO415⟩ hb_ hon hoff
         refine ⟨_, rfl, fun K hK => ?_⟩
         have e25 : a.tmps[25]? = some (.pointer (some ⟨gb406, 2, none⟩)) := by rw [ha]; exact (putSel_off rfl).trans rfl
         replace ha := Aside0.mk ha
         have BK406 := Aside0.mk Q_BK406
         have HB := Aside0.mk Q_HB
         have hc0_ : w'.cell? ⟨gb406, 0, none⟩ = some (.int .i64 a1_0) := (blk_cell BK406.out 0).trans rfl
         have hc1_ : w'.cell? ⟨gb406, 1, none⟩ = some (.int .i64 a1_1) := (blk_cell BK406.out 1).trans rfl
         have hc2_ : w'.cell? ⟨gb406, 2, none⟩ = some (.string a1_2) := (blk_cell BK406.out 2).trans rfl
         refine value_ (w1 := w') (v := .string a1_2) (by rfl) rfl ?_ ?_
         ·go_simp
          (try simp only [i64_w])
          try rfl
         refine hK.out _ _ ⟨v410, v414, (by rw [ha.out]; exact putSel_upk 8 hb_ rfl rfl rfl), Q_BK406, Q_HB, Q_HO411, Q_HO415⟩
        refine steps_cons ?_ ?_
        ·rintro b a w' ⟨v410, v414, ha, Q_BK406, Q_HB, Q_HO411, Q_HO415⟩ hb_ hon hoff
         refine ⟨_, rfl, fun K hK => ?_⟩
         have e24 : a.tmps[24]? = some (.string (((⟨#[69]⟩ : ByteArray) ++ t412) ++ t416)) := by rw [ha]; exact putSel_on (e := (10, 24, .string (((⟨#[69]⟩ : ByteArray) ++ t412) ++ t416))) 7 rfl rfl (hon 10 B10x5_) rfl
         have e26 : a.tmps[26]? = some (.string a1_2) := by rw [ha]; exact putSel_on (e := (12, 26, .string a1_2)) 8 rfl rfl (hon 12 B10x5_) rfl
         replace ha := Aside0.mk ha
         have BK406 := Aside0.mk Q_BK406
         have HB := Aside0.mk Q_HB
         have HO411 := Aside0.mk (Q_HO411 (hon 3 B10x5_))
         have HO415 := Aside0.mk (Q_HO415 (hon 8 B10x5_))
         refine value_ (w1 := w') (v := .string ((((⟨#[69]⟩ : ByteArray) ++ t412) ++ t416) ++ a1_2)) (by rfl) rfl ?_ ?_
         ·go_simp
          (try simp only [i64_w])
          try rfl
         refine hK.out _ _ ⟨v410, v414, (by rw [ha.out]; exact putSel_upk 9 hb_ rfl rfl rfl), Q_BK406, Q_HB, Q_HO411, Q_HO415⟩
        refine steps_cons ?_ ?_
        ·rintro b a w' ⟨v410, v414, ha, Q_BK406, Q_HB, Q_HO411, Q_HO415⟩ hb_ hon hoff
         refine ⟨_, rfl, fun K hK => ?_⟩
         have e27 : a.tmps[27]? = some (.string ((((⟨#[69]⟩ : ByteArray) ++ t412) ++ t416) ++ a1_2)) := by rw [ha]; exact putSel_on (e := (13, 27, .string ((((⟨#[69]⟩ : ByteArray) ++ t412) ++ t416) ++ a1_2))) 9 rfl rfl (hon 13 B10x5_) rfl
         replace ha := Aside0.mk ha
         have BK406 := Aside0.mk Q_BK406
         have HB := Aside0.mk Q_HB
         have HO411 := Aside0.mk (Q_HO411 (hon 3 B10x5_))
         have HO415 := Aside0.mk (Q_HO415 (hon 8 B10x5_))
         refine value_ (w1 := w') (v := .string ((((⟨#[69]⟩ : ByteArray) ++ t412) ++ t416) ++ a1_2)) (by rfl) rfl ?_ ?_
         ·go_simp
          (try simp only [i64_w])
          try rfl
         refine hK.out _ _ ⟨v410, v414, (by rw [ha.out]; exact putSel_upk 10 hb_ rfl rfl rfl), Q_BK406, Q_HB, Q_HO411, Q_HO415⟩
        refine steps_cons ?_ ?_
        ·rintro b a w' ⟨v410, v414, ha, Q_BK406, Q_HB, Q_HO411, Q_HO415⟩ hb_ hon hoff
         refine ⟨_, rfl, fun K hK => ?_⟩
         replace ha := Aside0.mk ha
         have BK406 := Aside0.mk Q_BK406
         have HB := Aside0.mk Q_HB
         have HO411 := Aside0.mk (Q_HO411 (hon 3 B10x5_))
         have HO415 := Aside0.mk (Q_HO415 (hon 8 B10x5_))
         refine value_ (w1 := w') (v := .bool true) (by rfl) rfl ?_ ?_
         ·go_simp
          (try simp only [i64_w])
          try rfl
         refine hK.out _ _ ⟨v410, v414, (by rw [ha.out]; exact putSel_upk 11 hb_ rfl rfl rfl), Q_BK406, Q_HB, Q_HO411, Q_HO415⟩
        exact steps_nil
       rintro b a w27 hall ⟨v410, v414, ha, Q_BK406, Q_HB, Q_HO411, Q_HO415⟩
       clear BK406 HB
       have hb2_ := hall 2 B10x5_
       have hb3_ := hall 3 B10x5_
       have hb4_ := hall 4 B10x5_
       have hb5_ := hall 5 B10x5_
       have hb7_ := hall 7 B10x5_
       have hb8_ := hall 8 B10x5_
       have hb9_ := hall 9 B10x5_
       have hb10_ := hall 10 B10x5_
       have hb12_ := hall 12 B10x5_
       have hb13_ := hall 13 B10x5_
       have hb14_ := hall 14 B10x5_
       have hb15_ := hall 15 B10x5_
       subst ha
       simp only [putSel, hb2_, hb3_, hb4_, hb5_, hb7_, hb8_, hb9_, hb10_, hb12_, hb13_, hb14_, hb15_, if_true, Act.put, List.setIfInBounds_toArray, List.set_cons_zero, List.set_cons_succ]
       have BK406 := Aside0.mk Q_BK406
       clear Q_BK406
       have HB := Aside0.mk Q_HB
       clear Q_HB
       have HO411 := Aside0.mk (Q_HO411 hb3_)
       clear Q_HO411
       have HO415 := Aside0.mk (Q_HO415 hb8_)
       clear Q_HO415
       clear hall hb2_ hb3_ hb4_ hb5_ hb7_ hb8_ hb9_ hb10_ hb12_ hb13_ hb14_ hb15_
       try go_wp2
       go_ret2
       exact ⟨by first | rfl | (simp [errW_none, errW_some] <;> rfl) | (simp [*, errW_none, errW_some] <;> rfl), by repeat (first | (with_reducible first | exact HB.out | apply below_alloc | apply pw_below_drewN | apply below_drew1 | refine below_set ?_ GE406.out) | exact HB.out)⟩
      ·rw [if_neg c17] at H
       exact absurd H (by simp)
     ·rw [if_neg c16] at H
      exact absurd H (by simp)
    ·rw [if_neg c14] at H
     exact absurd H (by simp)

/-! ### spec_ReadConf: function 129 -/
def spec_ReadConf.l0 : Nat → ByteArray → List Int → Int → Option (List Int × Bool)
 | 0, _, _, _ => none
 | k + 1, x0, x4, x5 => if x5 < (x0.size : Int) then (if x5 ≤ 4 then (if 0 ≤ x5 then (if x4.length < 17592186044416 then (spec_ReadConf.l0 k x0 (x4 ++ [wrap64 (bt x0 x5)]) (wrap64 (x5 + 1))) else (none)) else (none)) else (if (x4.length : Int) = (x0.size : Int) then ((spec_ConfOk.f k x4).bind fun t423 => (if t423 = true then (some (x4, true)) else (some ((([] : List Int)), false)))) else (some ((([] : List Int)), false)))) else (if (x4.length : Int) = (x0.size : Int) then ((spec_ConfOk.f k x4).bind fun t430 => (if t430 = true then (some (x4, true)) else (some ((([] : List Int)), false)))) else (some ((([] : List Int)), false)))
def spec_ReadConf.f (k : Nat) (a0 : ByteArray) : Option (List Int × Bool) := spec_ReadConf.l0 k a0 (([] : List Int)) 0
theorem spec_ReadConf.mono_l : ∀ k, (∀ y0 y1 y2, LeO (spec_ReadConf.l0 k y0 y1 y2) (spec_ReadConf.l0 (k + 1) y0 y1 y2))
 | 0 => fun _ _ _ r h => by simp [spec_ReadConf.l0] at h
 | k + 1 => by
  have ih0 := spec_ReadConf.mono_l k
  ·intro y0 y1 y2
   unfold spec_ReadConf.l0
   repeat' first
   | (with_reducible exact ih0 _ _ _)
   | (with_reducible exact spec_ConfOk.mono _ _)
   | (with_reducible exact LeO.refl _)
   | (with_reducible exact LeO.none _)
   | (with_reducible refine LeO.ite ?_ ?_)
   | (with_reducible refine LeO.bind ?_ (fun _ => ?_))
   | exact ih0 _ _ _
   | exact spec_ConfOk.mono _ _
   | exact LeO.none _
   | refine LeO.ite ?_ ?_
   | refine LeO.bind ?_ (fun _ => ?_)
theorem spec_ReadConf.mono : ∀ a0 k, LeO (spec_ReadConf.f k a0) (spec_ReadConf.f (k + 1) a0) := by
 intro a0 k
 have ih0 := spec_ReadConf.mono_l k
 unfold spec_ReadConf.f
 repeat' first
   | (with_reducible exact ih0 _ _ _)
   | (with_reducible exact spec_ConfOk.mono _ _)
   | (with_reducible exact LeO.refl _)
   | (with_reducible exact LeO.none _)
   | (with_reducible refine LeO.ite ?_ ?_)
   | (with_reducible refine LeO.bind ?_ (fun _ => ?_))
   | exact ih0 _ _ _
   | exact spec_ConfOk.mono _ _
   | exact LeO.none _
   | refine LeO.ite ?_ ?_
   | refine LeO.bind ?_ (fun _ => ?_)
set_option maxHeartbeats 8000000 in
set_option maxRecDepth 100000 in
theorem spec_ReadConf.calls (k : Nat) (a0 : ByteArray) (r1 : List Int) (r2 : Bool) (w : World) (h : spec_ReadConf.f k a0 = some (r1, r2)) :
  Calls Try.prog 129 #[.string a0] w fun e w' => ∃ v0_ : Value, e = .returned (.tuple #[v0_, .bool r2]) ∧ Kd.R (Kd.int .i64) 3 w' w.heap.size (fun _ => True) v0_ r1 ∧ Below w.heap.size w w' := by
 have HB := Aside0.mk (Below.refl w.heap.size w)
 have H : (spec_ReadConf.l0 k a0 (([] : List Int)) 0) = some (r1, r2) := h
 clear h
 obtain ⟨y417, hy417⟩ : ∃ y_ : List Int, y_ = (([] : List Int)) := ⟨_, rfl⟩
 replace H : (spec_ReadConf.l0 k a0 y417 0) = some (r1, r2) := by first | (rw [hy417]; with_reducible exact H) | (have H2_ := (Option.bind_some _ _).symm.trans H; rw [hy417]; with_reducible exact H2_) | (have H2_ := (Option.bind_some _ _).symm.trans H; with_reducible exact H2_) | with_reducible exact H | (rw [hy417]; exact H) | exact H
 have Ny417 := Aside0.mk hy417
 clear hy417
 have H' := Aside0.mk H
 clear H
 go_enter Try.func129, Try.ntmps129
 go_wp2_with (first | ((with_reducible refine gate_dst (N := 6) rfl ?_); refine Kd.R_lit (Kd.int .i64) _ 3 ?hg (N := 6) ?hd (xs := ([] : List Int)) (inner := []) (ok := fun _ => True) (okp := fun _ => True) ?hr ?hp (fun _ hk => hk) trivial (Below.refl _ _) (Nat.le_refl _) (by simp) ?_; (case hd => rfl); (case hg => rfl); (case hr => first | (go_simp; done) | (go_simp; rfl)); (case hp => exact (Reps.none _ _)); intro v418 w2 ho3 hb hg_ hnew_; clear hg_ hnew_; (first | rw [← Ny417.out] at ho3 | (simp only [Int.reduceToNat] at ho3; rw [← Ny417.out] at ho3)); have n0_ := Aside0.mk (Kd.R_lower ho3 (below_size B10x0_)); have n1_ := Aside0.mk (below_step B10x0_ hb); clear HB; have HO419 := n0_; have HB := n1_; clear n0_ n1_; clear hb ho3))
 go_loopg [4, 5] k (fun kq v4 v5 w' => ∃ (x4_1 : List Int) (x5_1 : Int), v5 = .int .i64 x5_1 ∧ Aside0 (spec_ReadConf.l0 kq a0 x4_1 x5_1 = some (r1, r2)) ∧ Aside0 (kq ≤ k) ∧ Aside0 (Kd.R (Kd.int .i64) 3 w' w.heap.size (fun _ => True) v4 x4_1) ∧ Aside0 (Below w.heap.size w w'))
 case atStart => exact ⟨(y417), (0), (be_), H', ⟨Nat.le_refl _⟩, ⟨by (with_reducible repeat (first | apply Kd.R_alloc | apply Kd.R_drewN | apply Kd.R_drew)); exact HO419.out⟩, ⟨by repeat (first | (with_reducible first | exact HB.out | apply below_alloc | apply pw_below_drewN | apply below_drew1) | exact HB.out)⟩⟩
 case round =>
  clear H'
  try clear c1
  try clear p2
  obtain ⟨x4_1, x5_1, rfl, HA, HK1, HO_4, HB⟩ := hrel
  cases gk with
  | zero => exact absurd HA.out (by simp [spec_ReadConf.l0])
  | succ k1 =>
   have H := HA.out
   clear HA
   simp only [spec_ReadConf.l0] at H
   by_cases c4 : x5_1 < (a0.size : Int)
   ·rw [if_pos c4] at H
    have c4b0 : decide (x5_1 < (a0.size : Int)) = true := decide_eq_true c4
    clear c4
    by_cases c5 : x5_1 ≤ 4
    ·rw [if_pos c5] at H
     have c5b0 : decide (x5_1 ≤ 4) = true := decide_eq_true c5
     clear c5
     by_cases c6 : 0 ≤ x5_1
     ·rw [if_pos c6] at H
      have c6b0 : decide (0 ≤ x5_1) = true := decide_eq_true c6
      clear c6
      by_cases c8 : x4_1.length < 17592186044416
      ·rw [if_pos c8] at H
       have LMc8 := Aside0.mk c8
       clear c8
       obtain ⟨y420, hy420⟩ : ∃ y_ : List Int, y_ = (x4_1 ++ [wrap64 (bt a0 x5_1)]) := ⟨_, rfl⟩
       replace H : (spec_ReadConf.l0 k1 a0 y420 (wrap64 (x5_1 + 1))) = some (r1, r2) := by first | (rw [hy420]; with_reducible exact H) | (have H2_ := (Option.bind_some _ _).symm.trans H; rw [hy420]; with_reducible exact H2_) | (have H2_ := (Option.bind_some _ _).symm.trans H; with_reducible exact H2_) | with_reducible exact H | (rw [hy420]; exact H) | exact H
       have Ny420 := Aside0.mk hy420
       clear hy420
       have H' := Aside0.mk H
       clear H
       have p7 : 0 ≤ (x5_1 : Int) := of_decide_eq_true B10x11_
       have q7 : x5_1 < (a0.size : Int) := of_decide_eq_true B10x11_
       have hx7 := bt_at a0 x5_1
       replace p7 := eq_true p7
       replace q7 := eq_true q7
       go_wp2_with (first | ((with_reducible refine gate_builtin (b := .append) (xs := #[.tmp 17, .tmp 22]) rfl ?_); at_builtin; refine Kd.R_append (Kd.int .i64) (w0 := w) w.heap.size rfl (.tmp 17) (.tmp 22) 23 3 (.int .i64 0) 8 rfl Try.underlying23 info3 rfl (by decide) (by omega) u4 x4_1 (wrap64 (bt a0 x5_1)) [.int .i64 (wrap64 (bt a0 x5_1))] (fun _ => True) (fun _ => False) rfl rfl ?aP (fun _ hk => hk.elim) ?aF ?aO ?aB ?aS ?aL ?_; (case aP => exact rfl); (case aB => exact B10x0_); (case aF => exact (fun _ _ => trivial)); (case aO => exact B10x4_); (case aS => exact (below_size B10x0_)); (case aL => have := LMc8.out; omega); intro v421 w9 ho hb hg hat; rw [← Ny420.out] at ho; have n0_ := Aside0.mk (hb); have n1_ := Aside0.mk (ho); clear HB; clear HO_4; have HB := n0_; have HO422 := n1_; clear n0_ n1_; clear ho hb hg hat))
       go_roundg k1
       case measure => have := HK1.out; omega
       case rel => exact ⟨(y420), (wrap64 (x5_1 + 1)), (be_), H', ⟨by have := HK1.out; omega⟩, ⟨by (with_reducible repeat (first | apply Kd.R_alloc | apply Kd.R_drewN | apply Kd.R_drew)); exact HO422.out⟩, ⟨by repeat (first | (with_reducible first | exact HB.out | apply below_alloc | apply pw_below_drewN | apply below_drew1) | exact HB.out)⟩⟩
      ·rw [if_neg c8] at H
       exact absurd H (by simp)
     ·rw [if_neg c6] at H
      exact absurd H (by simp)
    ·rw [if_neg c5] at H
     have c5b0 : decide (x5_1 ≤ 4) = false := decide_eq_false c5
     clear c5
     by_cases c10 : (x4_1.length : Int) = (a0.size : Int)
     ·rw [if_pos c10] at H
      have c10b0 : ((x4_1.length : Int) == (a0.size : Int)) = true := beq_iff_eq.mpr c10
      have c10b1 : ((x4_1.length : Int) != (a0.size : Int)) = false := bne_eq_false_iff_eq.mpr c10
      have c10b2 : (x4_1.length == a0.size) = true := by first | simpa using c10 | (simp at c10 ⊢; omega)
      clear c10
      replace H := Option.bind_eq_some_iff.mp H
      obtain ⟨t423, A110, H⟩ := H
      (try dsimp only at H)
      have A11 := Aside0.mk A110
      clear A110
      by_cases c12 : t423 = true
      ·subst c12
       rw [if_pos rfl] at H
       simp only [Option.some.injEq, Prod.mk.injEq] at H
       obtain ⟨rfl, rfl⟩ := H
       obtain ⟨Ao13, co13, eo13⟩ := Kd.R_slice HO_4.out
       subst eo13
       go_wp2_with (first | (go_at_call 35; (with_reducible refine (spec_ConfOk.calls k1 _ _ x4_1 true _ ?side1 ?side2 A11.out).mono ?_); (case side1 => repeat (first | exact (Kd.R_reads' HO_4.out).2.2 | (with_reducible refine Kd.C_alloc ?_ _) | (with_reducible refine Kd.C_drewN ?_ _) | (with_reducible refine Kd.C_drew ?_))); (case side2 => exact (Kd.R_reads' HO_4.out).2.1); rintro e w' ⟨rfl, ⟨nd, rfl⟩⟩))
       go_ret2
       exact ⟨_, by first | rfl | (simp [errW_none, errW_some] <;> rfl) | (simp [*, errW_none, errW_some] <;> rfl), by (with_reducible repeat (first | apply Kd.R_alloc | apply Kd.R_drewN | apply Kd.R_drew)); exact HO_4.out, by repeat (first | (with_reducible first | exact HB.out | apply below_alloc | apply pw_below_drewN | apply below_drew1) | exact HB.out)⟩
      ·replace c12 := Bool.eq_false_iff.mpr c12
       subst c12
       rw [if_neg (show ¬ (false = true) by decide)] at H
       obtain ⟨y424, hy424⟩ : ∃ y_ : List Int, y_ = (([] : List Int)) := ⟨_, rfl⟩
       replace H : (some (y424, false)) = some (r1, r2) := by first | (rw [hy424]; with_reducible exact H) | (have H2_ := (Option.bind_some _ _).symm.trans H; rw [hy424]; with_reducible exact H2_) | (have H2_ := (Option.bind_some _ _).symm.trans H; with_reducible exact H2_) | with_reducible exact H | (rw [hy424]; exact H) | exact H
       have Ny424 := Aside0.mk hy424
       clear hy424
       simp only [Option.some.injEq, Prod.mk.injEq] at H
       obtain ⟨rfl, rfl⟩ := H
       obtain ⟨Ao14, co14, eo14⟩ := Kd.R_slice HO_4.out
       subst eo14
       go_wp2_with (first | (go_at_call 35; (with_reducible refine (spec_ConfOk.calls k1 _ _ x4_1 false _ ?side1 ?side2 A11.out).mono ?_); (case side1 => repeat (first | exact (Kd.R_reads' HO_4.out).2.2 | (with_reducible refine Kd.C_alloc ?_ _) | (with_reducible refine Kd.C_drewN ?_ _) | (with_reducible refine Kd.C_drew ?_))); (case side2 => exact (Kd.R_reads' HO_4.out).2.1); rintro e w' ⟨rfl, ⟨nd, rfl⟩⟩) | ((with_reducible refine gate_dst (N := 34) rfl ?_); refine Kd.R_lit (Kd.int .i64) _ 3 ?hg (N := 34) ?hd (xs := ([] : List Int)) (inner := []) (ok := fun _ => True) (okp := fun _ => True) ?hr ?hp (fun _ hk => hk) trivial (Below.refl _ _) (Nat.le_refl _) (by simp) ?_; (case hd => rfl); (case hg => rfl); (case hr => first | (go_simp; done) | (go_simp; rfl)); (case hp => exact (Reps.none _ _)); intro v425 w15 ho16 hb hg_ hnew_; clear hg_ hnew_; (first | rw [← Ny424.out] at ho16 | (simp only [Int.reduceToNat] at ho16; rw [← Ny424.out] at ho16)); have n0_ := Aside0.mk (Kd.R_elder' B10x4_ (Kd.R_base ho16) hb); have n1_ := Aside0.mk (Kd.R_lower (Kd.R_new' ho16 (Kd.R_lt B10x4_)) (below_size B10x0_)); have n2_ := Aside0.mk (below_step B10x0_ hb); clear HO_4; clear HB; have HO_4 := n0_; have HO426 := n1_; have HB := n2_; clear n0_ n1_ n2_; clear hb ho16))
       go_ret2
       exact ⟨_, by first | rfl | (simp [errW_none, errW_some] <;> rfl) | (simp [*, errW_none, errW_some] <;> rfl), by (with_reducible repeat (first | apply Kd.R_alloc | apply Kd.R_drewN | apply Kd.R_drew)); exact Kd.R_mono HO426.out (fun _ hk => trivial), by repeat (first | (with_reducible first | exact HB.out | apply below_alloc | apply pw_below_drewN | apply below_drew1) | exact HB.out)⟩
     ·rw [if_neg c10] at H
      have c10b0 : ((x4_1.length : Int) == (a0.size : Int)) = false := beq_eq_false_iff_ne.mpr c10
      have c10b1 : ((x4_1.length : Int) != (a0.size : Int)) = true := bne_iff_ne.mpr c10
      have c10b2 : (x4_1.length == a0.size) = false := by first | simpa using c10 | (simp at c10 ⊢; omega)
      obtain ⟨y427, hy427⟩ : ∃ y_ : List Int, y_ = (([] : List Int)) := ⟨_, rfl⟩
      replace H : (some (y427, false)) = some (r1, r2) := by first | (rw [hy427]; with_reducible exact H) | (have H2_ := (Option.bind_some _ _).symm.trans H; rw [hy427]; with_reducible exact H2_) | (have H2_ := (Option.bind_some _ _).symm.trans H; with_reducible exact H2_) | with_reducible exact H | (rw [hy427]; exact H) | exact H
      have Ny427 := Aside0.mk hy427
      clear hy427
      simp only [Option.some.injEq, Prod.mk.injEq] at H
      obtain ⟨rfl, rfl⟩ := H
      obtain ⟨Ao17, co17, eo17⟩ := Kd.R_slice HO_4.out
      subst eo17
      go_wp2_with (first | ((with_reducible refine gate_dst (N := 34) rfl ?_); refine Kd.R_lit (Kd.int .i64) _ 3 ?hg (N := 34) ?hd (xs := ([] : List Int)) (inner := []) (ok := fun _ => True) (okp := fun _ => True) ?hr ?hp (fun _ hk => hk) trivial (Below.refl _ _) (Nat.le_refl _) (by simp) ?_; (case hd => rfl); (case hg => rfl); (case hr => first | (go_simp; done) | (go_simp; rfl)); (case hp => exact (Reps.none _ _)); intro v428 w18 ho19 hb hg_ hnew_; clear hg_ hnew_; (first | rw [← Ny427.out] at ho19 | (simp only [Int.reduceToNat] at ho19; rw [← Ny427.out] at ho19)); have n0_ := Aside0.mk (Kd.R_elder' B10x4_ (Kd.R_base ho19) hb); have n1_ := Aside0.mk (Kd.R_lower (Kd.R_new' ho19 (Kd.R_lt B10x4_)) (below_size B10x0_)); have n2_ := Aside0.mk (below_step B10x0_ hb); clear HO_4; clear HB; have HO_4 := n0_; have HO429 := n1_; have HB := n2_; clear n0_ n1_ n2_; clear hb ho19))
      go_ret2
      exact ⟨_, by first | rfl | (simp [errW_none, errW_some] <;> rfl) | (simp [*, errW_none, errW_some] <;> rfl), by (with_reducible repeat (first | apply Kd.R_alloc | apply Kd.R_drewN | apply Kd.R_drew)); exact Kd.R_mono HO429.out (fun _ hk => trivial), by repeat (first | (with_reducible first | exact HB.out | apply below_alloc | apply pw_below_drewN | apply below_drew1) | exact HB.out)⟩
   ·rw [if_neg c4] at H
    have c4b0 : decide (x5_1 < (a0.size : Int)) = false := decide_eq_false c4
    clear c4
    by_cases c20 : (x4_1.length : Int) = (a0.size : Int)
    ·rw [if_pos c20] at H
     have c20b0 : ((x4_1.length : Int) == (a0.size : Int)) = true := beq_iff_eq.mpr c20
     have c20b1 : ((x4_1.length : Int) != (a0.size : Int)) = false := bne_eq_false_iff_eq.mpr c20
     have c20b2 : (x4_1.length == a0.size) = true := by first | simpa using c20 | (simp at c20 ⊢; omega)
     clear c20
     replace H := Option.bind_eq_some_iff.mp H
     obtain ⟨t430, A210, H⟩ := H
     (try dsimp only at H)
     have A21 := Aside0.mk A210
     clear A210
     by_cases c22 : t430 = true
     ·subst c22
      rw [if_pos rfl] at H
      simp only [Option.some.injEq, Prod.mk.injEq] at H
      obtain ⟨rfl, rfl⟩ := H
      obtain ⟨Ao23, co23, eo23⟩ := Kd.R_slice HO_4.out
      subst eo23
      go_wp2_with (first | (go_at_call 35; (with_reducible refine (spec_ConfOk.calls k1 _ _ x4_1 true _ ?side1 ?side2 A21.out).mono ?_); (case side1 => repeat (first | exact (Kd.R_reads' HO_4.out).2.2 | (with_reducible refine Kd.C_alloc ?_ _) | (with_reducible refine Kd.C_drewN ?_ _) | (with_reducible refine Kd.C_drew ?_))); (case side2 => exact (Kd.R_reads' HO_4.out).2.1); rintro e w' ⟨rfl, ⟨nd, rfl⟩⟩))
      go_ret2
      exact ⟨_, by first | rfl | (simp [errW_none, errW_some] <;> rfl) | (simp [*, errW_none, errW_some] <;> rfl), by (with_reducible repeat (first | apply Kd.R_alloc | apply Kd.R_drewN | apply Kd.R_drew)); exact HO_4.out, by repeat (first | (with_reducible first | exact HB.out | apply below_alloc | apply pw_below_drewN | apply below_drew1) | exact HB.out)⟩
     ·replace c22 := Bool.eq_false_iff.mpr c22
      subst c22
      rw [if_neg (show ¬ (false = true) by decide)] at H
      obtain ⟨y431, hy431⟩ : ∃ y_ : List Int, y_ = (([] : List Int)) := ⟨_, rfl⟩
      replace H : (some (y431, false)) = some (r1, r2) := by first | (rw [hy431]; with_reducible exact H) | (have H2_ := (Option.bind_some _ _).symm.trans H; rw [hy431]; with_reducible exact H2_) | (have H2_ := (Option.bind_some _ _).symm.trans H; with_reducible exact H2_) | with_reducible exact H | (rw [hy431]; exact H) | exact H
      have Ny431 := Aside0.mk hy431
      clear hy431
      simp only [Option.some.injEq, Prod.mk.injEq] at H
      obtain ⟨rfl, rfl⟩ := H
      obtain ⟨Ao24, co24, eo24⟩ := Kd.R_slice HO_4.out
      subst eo24
      go_wp2_with (first | (go_at_call 35; (with_reducible refine (spec_ConfOk.calls k1 _ _ x4_1 false _ ?side1 ?side2 A21.out).mono ?_); (case side1 => repeat (first | exact (Kd.R_reads' HO_4.out).2.2 | (with_reducible refine Kd.C_alloc ?_ _) | (with_reducible refine Kd.C_drewN ?_ _) | (with_reducible refine Kd.C_drew ?_))); (case side2 => exact (Kd.R_reads' HO_4.out).2.1); rintro e w' ⟨rfl, ⟨nd, rfl⟩⟩) | ((with_reducible refine gate_dst (N := 34) rfl ?_); refine Kd.R_lit (Kd.int .i64) _ 3 ?hg (N := 34) ?hd (xs := ([] : List Int)) (inner := []) (ok := fun _ => True) (okp := fun _ => True) ?hr ?hp (fun _ hk => hk) trivial (Below.refl _ _) (Nat.le_refl _) (by simp) ?_; (case hd => rfl); (case hg => rfl); (case hr => first | (go_simp; done) | (go_simp; rfl)); (case hp => exact (Reps.none _ _)); intro v432 w25 ho26 hb hg_ hnew_; clear hg_ hnew_; (first | rw [← Ny431.out] at ho26 | (simp only [Int.reduceToNat] at ho26; rw [← Ny431.out] at ho26)); have n0_ := Aside0.mk (Kd.R_elder' B10x4_ (Kd.R_base ho26) hb); have n1_ := Aside0.mk (Kd.R_lower (Kd.R_new' ho26 (Kd.R_lt B10x4_)) (below_size B10x0_)); have n2_ := Aside0.mk (below_step B10x0_ hb); clear HO_4; clear HB; have HO_4 := n0_; have HO433 := n1_; have HB := n2_; clear n0_ n1_ n2_; clear hb ho26))
      go_ret2
      exact ⟨_, by first | rfl | (simp [errW_none, errW_some] <;> rfl) | (simp [*, errW_none, errW_some] <;> rfl), by (with_reducible repeat (first | apply Kd.R_alloc | apply Kd.R_drewN | apply Kd.R_drew)); exact Kd.R_mono HO433.out (fun _ hk => trivial), by repeat (first | (with_reducible first | exact HB.out | apply below_alloc | apply pw_below_drewN | apply below_drew1) | exact HB.out)⟩
    ·rw [if_neg c20] at H
     have c20b0 : ((x4_1.length : Int) == (a0.size : Int)) = false := beq_eq_false_iff_ne.mpr c20
     have c20b1 : ((x4_1.length : Int) != (a0.size : Int)) = true := bne_iff_ne.mpr c20
     have c20b2 : (x4_1.length == a0.size) = false := by first | simpa using c20 | (simp at c20 ⊢; omega)
     obtain ⟨y434, hy434⟩ : ∃ y_ : List Int, y_ = (([] : List Int)) := ⟨_, rfl⟩
     replace H : (some (y434, false)) = some (r1, r2) := by first | (rw [hy434]; with_reducible exact H) | (have H2_ := (Option.bind_some _ _).symm.trans H; rw [hy434]; with_reducible exact H2_) | (have H2_ := (Option.bind_some _ _).symm.trans H; with_reducible exact H2_) | with_reducible exact H | (rw [hy434]; exact H) | exact H
     have Ny434 := Aside0.mk hy434
     clear hy434
     simp only [Option.some.injEq, Prod.mk.injEq] at H
     obtain ⟨rfl, rfl⟩ := H
     obtain ⟨Ao27, co27, eo27⟩ := Kd.R_slice HO_4.out
     subst eo27
     go_wp2_with (first | ((with_reducible refine gate_dst (N := 34) rfl ?_); refine Kd.R_lit (Kd.int .i64) _ 3 ?hg (N := 34) ?hd (xs := ([] : List Int)) (inner := []) (ok := fun _ => True) (okp := fun _ => True) ?hr ?hp (fun _ hk => hk) trivial (Below.refl _ _) (Nat.le_refl _) (by simp) ?_; (case hd => rfl); (case hg => rfl); (case hr => first | (go_simp; done) | (go_simp; rfl)); (case hp => exact (Reps.none _ _)); intro v435 w28 ho29 hb hg_ hnew_; clear hg_ hnew_; (first | rw [← Ny434.out] at ho29 | (simp only [Int.reduceToNat] at ho29; rw [← Ny434.out] at ho29)); have n0_ := Aside0.mk (Kd.R_elder' B10x4_ (Kd.R_base ho29) hb); have n1_ := Aside0.mk (Kd.R_lower (Kd.R_new' ho29 (Kd.R_lt B10x4_)) (below_size B10x0_)); have n2_ := Aside0.mk (below_step B10x0_ hb); clear HO_4; clear HB; have HO_4 := n0_; have HO436 := n1_; have HB := n2_; clear n0_ n1_ n2_; clear hb ho29))
     go_ret2
     exact ⟨_, by first | rfl | (simp [errW_none, errW_some] <;> rfl) | (simp [*, errW_none, errW_some] <;> rfl), by (with_reducible repeat (first | apply Kd.R_alloc | apply Kd.R_drewN | apply Kd.R_drew)); exact Kd.R_mono HO436.out (fun _ hk => trivial), by repeat (first | (with_reducible first | exact HB.out | apply below_alloc | apply pw_below_drewN | apply below_drew1) | exact HB.out)⟩

/-! ### spec_EntryOk: function 65 -/
def spec_EntryOk.f (k : Nat) (a0_0 : Int) (a0_1 : Int) (a0_2 : ByteArray) : Option (Bool) := (spec_l01In.f a0_0 0 100000).bind fun t438 => (if t438 = true then (if a0_1 = 1 then (some (a0_2.toList == ([] : List UInt8))) else (if a0_1 = 2 then ((spec_ReadConf.f k a0_2).bind fun bt439 => (some bt439.2)) else (if a0_1 = 3 then (some (decide ((a0_2.size : Int) ≤ 120))) else (some false)))) else (some false))
theorem spec_EntryOk.mono : ∀ a0 a1 a2 k, LeO (spec_EntryOk.f k a0 a1 a2) (spec_EntryOk.f (k + 1) a0 a1 a2) := by
 intro a0 a1 a2 k
 unfold spec_EntryOk.f
 repeat' first
   | (with_reducible exact spec_ReadConf.mono _ _)
   | (with_reducible exact LeO.refl _)
   | (with_reducible exact LeO.none _)
   | (with_reducible refine LeO.ite ?_ ?_)
   | (with_reducible refine LeO.bind ?_ (fun _ => ?_))
   | exact spec_ReadConf.mono _ _
   | exact LeO.none _
   | refine LeO.ite ?_ ?_
   | refine LeO.bind ?_ (fun _ => ?_)
set_option maxHeartbeats 8000000 in
set_option maxRecDepth 100000 in
theorem spec_EntryOk.calls (k : Nat) (a0_0 : Int) (a0_1 : Int) (a0_2 : ByteArray) (r : Bool) (w : World) (h : spec_EntryOk.f k a0_0 a0_1 a0_2 = some r) :
  Calls Try.prog 65 #[.agg #[.int .i64 a0_0, .int .i64 a0_1, .string a0_2]] w fun e w' => e = .returned (.bool r) ∧ Below w.heap.size w w' := by
 have hu51 := Try.underlying51
 have HB := Aside0.mk (Below.refl w.heap.size w)
 have H : ((spec_l01In.f a0_0 0 100000).bind fun t438 => (if t438 = true then (if a0_1 = 1 then (some (a0_2.toList == ([] : List UInt8))) else (if a0_1 = 2 then ((spec_ReadConf.f k a0_2).bind fun bt439 => (some bt439.2)) else (if a0_1 = 3 then (some (decide ((a0_2.size : Int) ≤ 120))) else (some false)))) else (some false))) = some r := h
 clear h
 replace H := Option.bind_eq_some_iff.mp H
 obtain ⟨t438, A20, H⟩ := H
 (try dsimp only at H)
 have A2 := Aside0.mk A20
 clear A20
 by_cases c3 : t438 = true
 ·subst c3
  rw [if_pos rfl] at H
  by_cases c4 : a0_1 = 1
  ·rw [if_pos c4] at H
   have c4b0 : (a0_1 == 1) = true := beq_iff_eq.mpr c4
   have c4b1 : (a0_1 != 1) = false := bne_eq_false_iff_eq.mpr c4
   clear c4
   obtain rfl := Option.some.inj H
   go_enter Try.func65, Try.ntmps65
   go_wp2_with (first | ((with_reducible refine gate_dst (N := 1) rfl ?_); refine box_event ?hg (N := 1) ?hd (cs := #[.int .i64 a0_0, .int .i64 a0_1, .string a0_2]) (t := 51) ?hr ?_; (case hd => rfl); (case hg => rfl); (case hr => first | (go_simp; done) | (go_simp; rfl)); intro gb437 hg w5 hbox hb; have n0_ := Aside0.mk (below_step B10x0_ hb); have n1_ := Aside0.mk (hbox); have n2_ := Aside0.mk ((by rw [hg]; exact (below_size B10x0_) : w.heap.size ≤ gb437)); have n3_ := Aside0.mk ((by rw [hg]; exact (below_size B10x0_) : w.heap.size ≤ gb437)); clear HB; have HB := n0_; have BK437 := n1_; have GW437 := n2_; have GE437 := n3_; clear n0_ n1_ n2_ n3_; clear hb hbox hg; obtain ⟨hcz6_0, hcz6_1, hcz6_2⟩ := cl3 BK437.out; obtain ⟨hfz6_0, hfz6_1, hfz6_2⟩ := fr3 BK437.out) | ((with_reducible refine gate_callee (f := 64) rfl ?_); refine goesL_ (some 7) rfl rfl Try.func64 B10x5_ rfl #[.int .i64 a0_0, .int .i64 0, .int .i64 100000] rfl B10x3_ ?_; (with_reducible refine (spec_l01In.calls a0_0 0 100000 true _ A2.out).mono ?_); rintro e w' ⟨rfl, ⟨nd, rfl⟩⟩; refine ⟨_, rfl, ?_⟩))
   go_ret
   exact ⟨by first | rfl | (simp [errW_none, errW_some] <;> rfl) | (simp [*, errW_none, errW_some] <;> rfl), by repeat (first | (with_reducible first | exact HB.out | apply below_alloc | apply pw_below_drewN | apply below_drew1 | refine below_set ?_ GE437.out) | exact HB.out)⟩
  ·rw [if_neg c4] at H
   have c4b0 : (a0_1 == 1) = false := beq_eq_false_iff_ne.mpr c4
   have c4b1 : (a0_1 != 1) = true := bne_iff_ne.mpr c4
   by_cases c7 : a0_1 = 2
   ·rw [if_pos c7] at H
    have c7b0 : (a0_1 == 2) = true := beq_iff_eq.mpr c7
    have c7b1 : (a0_1 != 2) = false := bne_eq_false_iff_eq.mpr c7
    clear c7
    replace H := Option.bind_eq_some_iff.mp H
    obtain ⟨⟨t439, t440⟩, A80, H⟩ := H
    (try dsimp only at H)
    have A8 := Aside0.mk A80
    clear A80
    obtain rfl := Option.some.inj H
    go_enter Try.func65, Try.ntmps65
    go_wp2_with (first | ((with_reducible refine gate_dst (N := 1) rfl ?_); refine box_event ?hg (N := 1) ?hd (cs := #[.int .i64 a0_0, .int .i64 a0_1, .string a0_2]) (t := 51) ?hr ?_; (case hd => rfl); (case hg => rfl); (case hr => first | (go_simp; done) | (go_simp; rfl)); intro gb437 hg w9 hbox hb; have n0_ := Aside0.mk (below_step B10x0_ hb); have n1_ := Aside0.mk (hbox); have n2_ := Aside0.mk ((by rw [hg]; exact (below_size B10x0_) : w.heap.size ≤ gb437)); have n3_ := Aside0.mk ((by rw [hg]; exact (below_size B10x0_) : w.heap.size ≤ gb437)); clear HB; have HB := n0_; have BK437 := n1_; have GW437 := n2_; have GE437 := n3_; clear n0_ n1_ n2_ n3_; clear hb hbox hg; obtain ⟨hcz10_0, hcz10_1, hcz10_2⟩ := cl3 BK437.out; obtain ⟨hfz10_0, hfz10_1, hfz10_2⟩ := fr3 BK437.out) | ((with_reducible refine gate_callee (f := 64) rfl ?_); refine goesL_ (some 7) rfl rfl Try.func64 B10x5_ rfl #[.int .i64 a0_0, .int .i64 0, .int .i64 100000] rfl B10x3_ ?_; (with_reducible refine (spec_l01In.calls a0_0 0 100000 true _ A2.out).mono ?_); rintro e w' ⟨rfl, ⟨nd, rfl⟩⟩; refine ⟨_, rfl, ?_⟩) | ((with_reducible refine gate_callee (f := 129) rfl ?_); refine goesL_ (some 21) rfl rfl Try.func129 B10x5_ rfl #[.string a0_2] rfl B10x3_ ?_; (with_reducible refine (spec_ReadConf.calls k a0_2 t439 t440 _ A8.out).mono ?_); rintro e w11 ⟨v441, rfl, ho0, hb⟩; refine ⟨_, rfl, ?_⟩; have n0_ := Aside0.mk (Kd.R_lower ho0 (below_size B10x9_)); have n1_ := Aside0.mk (blk_below (g := gb437) (o := .cells #[.int .i64 a0_0, .int .i64 a0_1, .string a0_2] 51 (0, 0)) (by (with_reducible repeat (first | refine blk_drewN ?_ _ | refine blk_drew ?_ | refine blk_alloc ?_ _)); exact BK437.out) hb); have n2_ := Aside0.mk (below_step B10x9_ hb); clear BK437; clear HB; have HO442 := n0_; have BK437 := n1_; have HB := n2_; clear n0_ n1_ n2_; (try clear hb); (try clear hb2); (try clear hk); (try clear hi); (try clear ho0)))
    go_ret
    exact ⟨by first | rfl | (simp [errW_none, errW_some] <;> rfl) | (simp [*, errW_none, errW_some] <;> rfl), by repeat (first | (with_reducible first | exact HB.out | apply below_alloc | apply pw_below_drewN | apply below_drew1 | refine below_set ?_ GE437.out) | exact HB.out)⟩
   ·rw [if_neg c7] at H
    have c7b0 : (a0_1 == 2) = false := beq_eq_false_iff_ne.mpr c7
    have c7b1 : (a0_1 != 2) = true := bne_iff_ne.mpr c7
    by_cases c12 : a0_1 = 3
    ·rw [if_pos c12] at H
     have c12b0 : (a0_1 == 3) = true := beq_iff_eq.mpr c12
     have c12b1 : (a0_1 != 3) = false := bne_eq_false_iff_eq.mpr c12
     clear c12
     obtain rfl := Option.some.inj H
     go_enter Try.func65, Try.ntmps65
     go_wp2_with (first | ((with_reducible refine gate_dst (N := 1) rfl ?_); refine box_event ?hg (N := 1) ?hd (cs := #[.int .i64 a0_0, .int .i64 a0_1, .string a0_2]) (t := 51) ?hr ?_; (case hd => rfl); (case hg => rfl); (case hr => first | (go_simp; done) | (go_simp; rfl)); intro gb437 hg w13 hbox hb; have n0_ := Aside0.mk (below_step B10x0_ hb); have n1_ := Aside0.mk (hbox); have n2_ := Aside0.mk ((by rw [hg]; exact (below_size B10x0_) : w.heap.size ≤ gb437)); have n3_ := Aside0.mk ((by rw [hg]; exact (below_size B10x0_) : w.heap.size ≤ gb437)); clear HB; have HB := n0_; have BK437 := n1_; have GW437 := n2_; have GE437 := n3_; clear n0_ n1_ n2_ n3_; clear hb hbox hg; obtain ⟨hcz14_0, hcz14_1, hcz14_2⟩ := cl3 BK437.out; obtain ⟨hfz14_0, hfz14_1, hfz14_2⟩ := fr3 BK437.out) | ((with_reducible refine gate_callee (f := 64) rfl ?_); refine goesL_ (some 7) rfl rfl Try.func64 B10x5_ rfl #[.int .i64 a0_0, .int .i64 0, .int .i64 100000] rfl B10x3_ ?_; (with_reducible refine (spec_l01In.calls a0_0 0 100000 true _ A2.out).mono ?_); rintro e w' ⟨rfl, ⟨nd, rfl⟩⟩; refine ⟨_, rfl, ?_⟩))
     go_ret
     exact ⟨by first | rfl | (simp [errW_none, errW_some] <;> rfl) | (simp [*, errW_none, errW_some] <;> rfl), by repeat (first | (with_reducible first | exact HB.out | apply below_alloc | apply pw_below_drewN | apply below_drew1 | refine below_set ?_ GE437.out) | exact HB.out)⟩
    ·rw [if_neg c12] at H
     have c12b0 : (a0_1 == 3) = false := beq_eq_false_iff_ne.mpr c12
     have c12b1 : (a0_1 != 3) = true := bne_iff_ne.mpr c12
     obtain rfl := Option.some.inj H
     go_enter Try.func65, Try.ntmps65
     go_wp2_with (first | ((with_reducible refine gate_dst (N := 1) rfl ?_); refine box_event ?hg (N := 1) ?hd (cs := #[.int .i64 a0_0, .int .i64 a0_1, .string a0_2]) (t := 51) ?hr ?_; (case hd => rfl); (case hg => rfl); (case hr => first | (go_simp; done) | (go_simp; rfl)); intro gb437 hg w15 hbox hb; have n0_ := Aside0.mk (below_step B10x0_ hb); have n1_ := Aside0.mk (hbox); have n2_ := Aside0.mk ((by rw [hg]; exact (below_size B10x0_) : w.heap.size ≤ gb437)); have n3_ := Aside0.mk ((by rw [hg]; exact (below_size B10x0_) : w.heap.size ≤ gb437)); clear HB; have HB := n0_; have BK437 := n1_; have GW437 := n2_; have GE437 := n3_; clear n0_ n1_ n2_ n3_; clear hb hbox hg; obtain ⟨hcz16_0, hcz16_1, hcz16_2⟩ := cl3 BK437.out; obtain ⟨hfz16_0, hfz16_1, hfz16_2⟩ := fr3 BK437.out) | ((with_reducible refine gate_callee (f := 64) rfl ?_); refine goesL_ (some 7) rfl rfl Try.func64 B10x5_ rfl #[.int .i64 a0_0, .int .i64 0, .int .i64 100000] rfl B10x3_ ?_; (with_reducible refine (spec_l01In.calls a0_0 0 100000 true _ A2.out).mono ?_); rintro e w' ⟨rfl, ⟨nd, rfl⟩⟩; refine ⟨_, rfl, ?_⟩))
     go_ret
     exact ⟨by first | rfl | (simp [errW_none, errW_some] <;> rfl) | (simp [*, errW_none, errW_some] <;> rfl), by repeat (first | (with_reducible first | exact HB.out | apply below_alloc | apply pw_below_drewN | apply below_drew1 | refine below_set ?_ GE437.out) | exact HB.out)⟩
 ·replace c3 := Bool.eq_false_iff.mpr c3
  subst c3
  rw [if_neg (show ¬ (false = true) by decide)] at H
  obtain rfl := Option.some.inj H
  go_enter Try.func65, Try.ntmps65
  go_wp2_with (first | ((with_reducible refine gate_dst (N := 1) rfl ?_); refine box_event ?hg (N := 1) ?hd (cs := #[.int .i64 a0_0, .int .i64 a0_1, .string a0_2]) (t := 51) ?hr ?_; (case hd => rfl); (case hg => rfl); (case hr => first | (go_simp; done) | (go_simp; rfl)); intro gb437 hg w17 hbox hb; have n0_ := Aside0.mk (below_step B10x0_ hb); have n1_ := Aside0.mk (hbox); have n2_ := Aside0.mk ((by rw [hg]; exact (below_size B10x0_) : w.heap.size ≤ gb437)); have n3_ := Aside0.mk ((by rw [hg]; exact (below_size B10x0_) : w.heap.size ≤ gb437)); clear HB; have HB := n0_; have BK437 := n1_; have GW437 := n2_; have GE437 := n3_; clear n0_ n1_ n2_ n3_; clear hb hbox hg; obtain ⟨hcz18_0, hcz18_1, hcz18_2⟩ := cl3 BK437.out; obtain ⟨hfz18_0, hfz18_1, hfz18_2⟩ := fr3 BK437.out) | ((with_reducible refine gate_callee (f := 64) rfl ?_); refine goesL_ (some 7) rfl rfl Try.func64 B10x5_ rfl #[.int .i64 a0_0, .int .i64 0, .int .i64 100000] rfl B10x3_ ?_; (with_reducible refine (spec_l01In.calls a0_0 0 100000 false _ A2.out).mono ?_); rintro e w' ⟨rfl, ⟨nd, rfl⟩⟩; refine ⟨_, rfl, ?_⟩))
  go_ret
  exact ⟨by first | rfl | (simp [errW_none, errW_some] <;> rfl) | (simp [*, errW_none, errW_some] <;> rfl), by repeat (first | (with_reducible first | exact HB.out | apply below_alloc | apply pw_below_drewN | apply below_drew1 | refine below_set ?_ GE437.out) | exact HB.out)⟩

end Go.Proofs.Ythgjcijcmacpmaa.QFnEntries
