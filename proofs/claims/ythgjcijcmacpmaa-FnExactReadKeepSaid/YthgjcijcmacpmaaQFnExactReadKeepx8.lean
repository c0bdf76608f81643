/- Functions that a law reaches, as functions of Lean, and the walks that show that the calls come to their answers: written by a program of this project out of the translation. No condition. -/
import Derived.Test.YthgjcijcmacpmaaQFnExactReadKeepx0
import Derived.Test.YthgjcijcmacpmaaQFnExactReadKeepx7
import Derived.Test.YthgjcijcmacpmaaVFnExactReadKeephort3
import Derived.Test.YthgjcijcmacpmaaVFnExactReadKeepShort
namespace Go.Proofs.Ythgjcijcmacpmaa.QFnExactReadKeep
open Go.RowKit Go.Proofs.YthgjcijcmacpmaaW.PrintWords Go.Proofs.YthgjcijcmacpmaaW.PrintLast Go.Proofs.YthgjcijcmacpmaaW.PrintMore Go.Proofs.Ythgjcijcmacpmaa.Short
attribute [local go_sem] max2_int min2_int max_two min_two max_three min_three max_four min_four   -- for this text's walks alone
set_option linter.unusedVariables false
set_option linter.unusedSimpArgs false

theorem B8x0_ {p : Prop} (h : p := by repeat (first | (with_reducible first | exact HI0.out | apply IsS98.alloc | apply IsS98.drewN | apply IsS98.drew | apply IsS98.set_0 | apply IsS98.set_1 | apply IsS98.set_2) | exact HI0.out)) : p := h
theorem B8x1_ {p : Prop} (h : p := by repeat (first | (with_reducible first | exact HB.out | apply below_alloc | apply pw_below_drewN | apply below_drew1 | refine below_set ?_ (IsS98.ge HI0.out)) | exact HB.out)) : p := h
theorem B8x2_ {p : Prop} (h : p := by repeat (first | (with_reducible first | exact HK.out | apply KeepBut.set_ | apply keep_drewN | apply keep_drew | apply keep_alloc) | exact HK.out)) : p := h
theorem B8x3_ {p : Prop} (h : p := by (try simp only [List.map_toArray, List.map_cons, List.map_nil]); first | done | rfl | (simp only [List.length_drop, List.length_take]; rfl)) : p := h
theorem B8x4_ {p : Prop} (h : p := by kernel_rfl) : p := h
/-! ### spec_l16ReadShort: function 76 -/
def spec_l16ReadShort.f (k : Nat) (s0_0 : ByteArray) (s0_1 : Int) (s0_2 : Bool) : Option (ByteArray × ByteArray × Int × Bool) := (spec_ReadShort.f k s0_0 s0_1).bind fun bt147 => (if s0_2 = true then (some ((⟨#[]⟩ : ByteArray), s0_0, s0_1, true)) else (if bt147.2.2 = true then (some (bt147.1, s0_0, bt147.2.1, s0_2)) else (some ((⟨#[]⟩ : ByteArray), s0_0, s0_1, true))))
theorem spec_l16ReadShort.mono : ∀ a0 a1 a2 k, LeO (spec_l16ReadShort.f k a0 a1 a2) (spec_l16ReadShort.f (k + 1) a0 a1 a2) := by
 intro a0 a1 a2 k
 unfold spec_l16ReadShort.f
 repeat' first
   | (with_reducible exact spec_ReadShort.mono _ _ _)
   | (with_reducible exact LeO.refl _)
   | (with_reducible exact LeO.none _)
   | (with_reducible refine LeO.ite ?_ ?_)
   | (with_reducible refine LeO.bind ?_ (fun _ => ?_))
   | exact spec_ReadShort.mono _ _ _
   | exact LeO.none _
   | refine LeO.ite ?_ ?_
   | refine LeO.bind ?_ (fun _ => ?_)
def spec_l16ReadShort.T1 : Bool × List (List Nat × List Nat) := (true, [([], []), ([0], [0]), ([1], [1]), ([2], [2]), ([], []), ([4], [4]), ([5], [5]), ([6], [6]), ([3, 7], [3, 7]), ([8], [8]), ([9], [9]), ([9], [9]), ([9], [9]), ([10, 8, 0, 1, 2, 3, 4, 5, 6, 7, 8, 9, 10], [10]), ([11, 13, 0, 1, 2, 3, 4, 5, 6, 7, 8, 9, 10, 11, 13], [11]), ([12, 14, 0, 1, 2, 3, 4, 5, 6, 7, 8, 9, 10, 11, 12, 13, 14], [12])])
def spec_l16ReadShort.B1 : List Nat := [0, 1, 3, 7, 0, 16, 48, 112, 255, 511, 1023, 1023, 1023, 2047, 12287, 32767]
theorem spec_l16ReadShort.tab1 : rtab .any (opsOf Try.f76 1) = spec_l16ReadShort.T1 := by kernel_rfl
theorem spec_l16ReadShort.bits1 : waitsOk spec_l16ReadShort.T1.2 spec_l16ReadShort.B1 = true := by kernel_rfl
set_option maxHeartbeats 8000000 in
set_option maxRecDepth 100000 in
theorem spec_l16ReadShort.calls (k : Nat) (g : Nat) (s0_0 : ByteArray) (s0_1 : Int) (s0_2 : Bool) (r1 : ByteArray) (r2 : ByteArray) (r3 : Int) (r4 : Bool) (w0 w : World) (hI : IsS98 w0 w g s0_0 s0_1 s0_2) (hB : Below w0.heap.size w0 w) (h : spec_l16ReadShort.f k s0_0 s0_1 s0_2 = some (r1, r2, r3, r4)) :
  Calls Try.prog 76 #[.pointer (some ⟨g, 0, none⟩)] w fun e w' => e = .returned (.string r1) ∧ IsS98 w0 w' g r2 r3 r4 ∧ Below w0.heap.size w0 w' ∧ KeepBut w w' g none := by
 have HI0 := Aside0.mk hI
 have HK := Aside0.mk (KeepBut.refl w g none)
 have HL := Aside0.mk hB.size
 clear hI
 have HW0 := Aside0.mk hB.size
 have HB := Aside0.mk hB
 clear hB
 have H : ((spec_ReadShort.f k s0_0 s0_1).bind fun bt147 => (if s0_2 = true then (some ((⟨#[]⟩ : ByteArray), s0_0, s0_1, true)) else (if bt147.2.2 = true then (some (bt147.1, s0_0, bt147.2.1, s0_2)) else (some ((⟨#[]⟩ : ByteArray), s0_0, s0_1, true))))) = some (r1, r2, r3, r4) := h
 clear h
 replace H := Option.bind_eq_some_iff.mp H
 obtain ⟨⟨t147, t148, t149⟩, A20, H⟩ := H
 (try dsimp only at H)
 have A2 := Aside0.mk A20
 clear A20
 by_cases c3 : s0_2 = true
 ·subst c3
  rw [if_pos rfl] at H
  simp only [Option.some.injEq, Prod.mk.injEq] at H
  obtain ⟨rfl, rfl, rfl, rfl⟩ := H
  go_enter Try.func76, Try.ntmps76
  try go_wp2
  have n0_ := Aside0.mk (IsS98.drew HI0.out)
  have n1_ := Aside0.mk (keep_drew HK.out)
  have n2_ := Aside0.mk (below_drew1 HB.out)
  clear HI0
  clear HK
  clear HB
  have HI0 := n0_
  have HK := n1_
  have HB := n2_
  clear n0_ n1_ n2_
  refine start_ (n := 16) (S := fun w' => w'.cell? ⟨g, 0, none⟩ = some (.string s0_0) ∧ w'.cell? ⟨g, 1, none⟩ = some (.int .i64 s0_1) ∧ w'.cell? ⟨g, 2, none⟩ = some (.bool true)) (ds := []) #[false, false, false, false, false, false, false, false, false, false, false, false, false, false, false, false] B8x4_ rfl rfl ⟨(blk_cell HI0.out.1 0).trans rfl, (blk_cell HI0.out.1 1).trans rfl, (blk_cell HI0.out.1 2).trans rfl⟩ (fun hHeld => ?_); refine with_tabW spec_l16ReadShort.tab1 spec_l16ReadShort.bits1 (fun HT_ HW_ => ?_)
  generalize w.drew = w4 at HI0 HK HB hHeld ⊢
  refine pu_ 0 7 HT_ ?_
  refine pu_ 1 8 HT_ ?_
  refine pu_ 2 9 HT_ ?_
  refine pu_ 4 11 HT_ ?_
  refine pu_ 5 12 HT_ ?_
  refine pu_ 6 13 HT_ ?_
  refine ta_ 3 10 HT_ HW_ hHeld ?_
  refine ta_ 7 14 HT_ HW_ hHeld ?_
  refine one_ (i := 8) (N := some 15) #[true, true, true, true, true, true, true, true, true, false, false, false, false, false, false, false] rfl rfl (one_of HT_.out B8x4_) (by decide) (fun K hK => ?_)
  refine goes_ Try.func133 B8x4_ rfl #[.string s0_0, .int .i64 s0_1] (by rfl) rfl rfl B8x3_ ?_
  with_reducible refine (spec_ReadShort.calls k s0_0 s0_1 t147 t148 t149 _ A2.out).mono ?_
  rintro e w5 ⟨rfl, hb⟩
  refine ⟨_, rfl, ?_⟩
  have n0_ := Aside0.mk (IsS98.below B8x0_ hb)
  have n1_ := Aside0.mk (KeepBut.trans B8x2_ (KeepBut.of_below hb g none) (.inl rfl))
  have n2_ := Aside0.mk (below_step B8x1_ hb)
  clear HI0
  clear HK
  clear HB
  have HI0 := n0_
  have HK := n1_
  have HB := n2_
  clear n0_ n1_ n2_
  (try clear hb)
  (try clear hb2)
  (try clear hk)
  (try clear hi)
  refine hK.out _ _ ⟨(blk_cell HI0.out.1 0).trans rfl, (blk_cell HI0.out.1 1).trans rfl, (blk_cell HI0.out.1 2).trans rfl⟩ (fun hHeld => ?_)
  clear hK K
  refine norm_ (a' := ?_) ?_ ?_
  rotate_left
  ·show Act.put _ (some 15) _ = _
   simp only [Act.put, List.setIfInBounds_toArray, List.set_cons_zero, List.set_cons_succ, i64_w, i32_w]
   rfl
  refine pu_ 9 6 HT_ ?_
  refine pu_ 10 16 HT_ ?_
  refine pu_ 11 17 HT_ ?_
  refine pu_ 12 18 HT_ ?_
  refine pu_ 13 3 HT_ ?_
  refine pu_ 14 4 HT_ ?_
  refine pu_ 15 5 HT_ ?_
  refine done_ (done_of HT_.out B8x4_) ?_
  obtain ⟨HGz6, hgz6⟩ := HI0.out
  have hcz6_0 := cellS98_0 HGz6
  have hcz6_1 := cellS98_1 HGz6
  have hcz6_2 := cellS98_2 HGz6
  obtain ⟨hfz6_0, hfz6_1, hfz6_2⟩ := fr3 HGz6
  clear HGz6 hgz6
  try go_wp2
  go_ret
  exact ⟨by first | rfl | (simp [errW_none, errW_some] <;> rfl) | (simp [*, errW_none, errW_some] <;> rfl), by repeat (first | (with_reducible first | exact HI0.out | apply IsS98.alloc | apply IsS98.drewN | apply IsS98.drew | apply IsS98.set_0 | apply IsS98.set_1 | apply IsS98.set_2) | exact HI0.out), by repeat (first | (with_reducible first | exact HB.out | apply below_alloc | apply pw_below_drewN | apply below_drew1 | refine below_set ?_ (IsS98.ge HI0.out)) | exact HB.out), by repeat (first | (with_reducible first | exact HK.out | apply KeepBut.set_ | apply keep_drewN | apply keep_drew | apply keep_alloc) | exact HK.out)⟩
 ·replace c3 := Bool.eq_false_iff.mpr c3
  subst c3
  rw [if_neg (show ¬ (false = true) by decide)] at H
  by_cases c7 : t149 = true
  ·subst c7
   rw [if_pos rfl] at H
   simp only [Option.some.injEq, Prod.mk.injEq] at H
   obtain ⟨rfl, rfl, rfl, rfl⟩ := H
   go_enter Try.func76, Try.ntmps76
   try go_wp2
   have n0_ := Aside0.mk (IsS98.drew HI0.out)
   have n1_ := Aside0.mk (keep_drew HK.out)
   have n2_ := Aside0.mk (below_drew1 HB.out)
   clear HI0
   clear HK
   clear HB
   have HI0 := n0_
   have HK := n1_
   have HB := n2_
   clear n0_ n1_ n2_
   refine start_ (n := 16) (S := fun w' => w'.cell? ⟨g, 0, none⟩ = some (.string s0_0) ∧ w'.cell? ⟨g, 1, none⟩ = some (.int .i64 s0_1) ∧ w'.cell? ⟨g, 2, none⟩ = some (.bool false)) (ds := []) #[false, false, false, false, false, false, false, false, false, false, false, false, false, false, false, false] B8x4_ rfl rfl ⟨(blk_cell HI0.out.1 0).trans rfl, (blk_cell HI0.out.1 1).trans rfl, (blk_cell HI0.out.1 2).trans rfl⟩ (fun hHeld => ?_); refine with_tabW spec_l16ReadShort.tab1 spec_l16ReadShort.bits1 (fun HT_ HW_ => ?_)
   generalize w.drew = w8 at HI0 HK HB hHeld ⊢
   refine pu_ 0 7 HT_ ?_
   refine pu_ 1 8 HT_ ?_
   refine pu_ 2 9 HT_ ?_
   refine pu_ 4 11 HT_ ?_
   refine pu_ 5 12 HT_ ?_
   refine pu_ 6 13 HT_ ?_
   refine ta_ 3 10 HT_ HW_ hHeld ?_
   refine ta_ 7 14 HT_ HW_ hHeld ?_
   refine one_ (i := 8) (N := some 15) #[true, true, true, true, true, true, true, true, true, false, false, false, false, false, false, false] rfl rfl (one_of HT_.out B8x4_) (by decide) (fun K hK => ?_)
   refine goes_ Try.func133 B8x4_ rfl #[.string s0_0, .int .i64 s0_1] (by rfl) rfl rfl B8x3_ ?_
   with_reducible refine (spec_ReadShort.calls k s0_0 s0_1 t147 t148 true _ A2.out).mono ?_
   rintro e w9 ⟨rfl, hb⟩
   refine ⟨_, rfl, ?_⟩
   have n0_ := Aside0.mk (IsS98.below B8x0_ hb)
   have n1_ := Aside0.mk (KeepBut.trans B8x2_ (KeepBut.of_below hb g none) (.inl rfl))
   have n2_ := Aside0.mk (below_step B8x1_ hb)
   clear HI0
   clear HK
   clear HB
   have HI0 := n0_
   have HK := n1_
   have HB := n2_
   clear n0_ n1_ n2_
   (try clear hb)
   (try clear hb2)
   (try clear hk)
   (try clear hi)
   refine hK.out _ _ ⟨(blk_cell HI0.out.1 0).trans rfl, (blk_cell HI0.out.1 1).trans rfl, (blk_cell HI0.out.1 2).trans rfl⟩ (fun hHeld => ?_)
   clear hK K
   refine norm_ (a' := ?_) ?_ ?_
   rotate_left
   ·show Act.put _ (some 15) _ = _
    simp only [Act.put, List.setIfInBounds_toArray, List.set_cons_zero, List.set_cons_succ, i64_w, i32_w]
    rfl
   refine pu_ 9 6 HT_ ?_
   refine pu_ 10 16 HT_ ?_
   refine pu_ 11 17 HT_ ?_
   refine pu_ 12 18 HT_ ?_
   refine pu_ 13 3 HT_ ?_
   refine pu_ 14 4 HT_ ?_
   refine pu_ 15 5 HT_ ?_
   refine done_ (done_of HT_.out B8x4_) ?_
   obtain ⟨HGz10, hgz10⟩ := HI0.out
   have hcz10_0 := cellS98_0 HGz10
   have hcz10_1 := cellS98_1 HGz10
   have hcz10_2 := cellS98_2 HGz10
   obtain ⟨hfz10_0, hfz10_1, hfz10_2⟩ := fr3 HGz10
   clear HGz10 hgz10
   try go_wp2
   go_ret
   exact ⟨by first | rfl | (simp [errW_none, errW_some] <;> rfl) | (simp [*, errW_none, errW_some] <;> rfl), by repeat (first | (with_reducible first | exact HI0.out | apply IsS98.alloc | apply IsS98.drewN | apply IsS98.drew | apply IsS98.set_0 | apply IsS98.set_1 | apply IsS98.set_2) | exact HI0.out), by repeat (first | (with_reducible first | exact HB.out | apply below_alloc | apply pw_below_drewN | apply below_drew1 | refine below_set ?_ (IsS98.ge HI0.out)) | exact HB.out), by repeat (first | (with_reducible first | exact HK.out | apply KeepBut.set_ | apply keep_drewN | apply keep_drew | apply keep_alloc) | exact HK.out)⟩
  ·replace c7 := Bool.eq_false_iff.mpr c7
   subst c7
   rw [if_neg (show ¬ (false = true) by decide)] at H
   simp only [Option.some.injEq, Prod.mk.injEq] at H
   obtain ⟨rfl, rfl, rfl, rfl⟩ := H
   go_enter Try.func76, Try.ntmps76
   try go_wp2
   have n0_ := Aside0.mk (IsS98.drew HI0.out)
   have n1_ := Aside0.mk (keep_drew HK.out)
   have n2_ := Aside0.mk (below_drew1 HB.out)
   clear HI0
   clear HK
   clear HB
   have HI0 := n0_
   have HK := n1_
   have HB := n2_
   clear n0_ n1_ n2_
   refine start_ (n := 16) (S := fun w' => w'.cell? ⟨g, 0, none⟩ = some (.string s0_0) ∧ w'.cell? ⟨g, 1, none⟩ = some (.int .i64 s0_1) ∧ w'.cell? ⟨g, 2, none⟩ = some (.bool false)) (ds := []) #[false, false, false, false, false, false, false, false, false, false, false, false, false, false, false, false] B8x4_ rfl rfl ⟨(blk_cell HI0.out.1 0).trans rfl, (blk_cell HI0.out.1 1).trans rfl, (blk_cell HI0.out.1 2).trans rfl⟩ (fun hHeld => ?_); refine with_tabW spec_l16ReadShort.tab1 spec_l16ReadShort.bits1 (fun HT_ HW_ => ?_)
   generalize w.drew = w11 at HI0 HK HB hHeld ⊢
   refine pu_ 0 7 HT_ ?_
   refine pu_ 1 8 HT_ ?_
   refine pu_ 2 9 HT_ ?_
   refine pu_ 4 11 HT_ ?_
   refine pu_ 5 12 HT_ ?_
   refine pu_ 6 13 HT_ ?_
   refine ta_ 3 10 HT_ HW_ hHeld ?_
   refine ta_ 7 14 HT_ HW_ hHeld ?_
   refine one_ (i := 8) (N := some 15) #[true, true, true, true, true, true, true, true, true, false, false, false, false, false, false, false] rfl rfl (one_of HT_.out B8x4_) (by decide) (fun K hK => ?_)
   refine goes_ Try.func133 B8x4_ rfl #[.string s0_0, .int .i64 s0_1] (by rfl) rfl rfl B8x3_ ?_
   with_reducible refine (spec_ReadShort.calls k s0_0 s0_1 t147 t148 false _ A2.out).mono ?_
   rintro e w12 ⟨rfl, hb⟩
   refine ⟨_, rfl, ?_⟩
   have n0_ := Aside0.mk (IsS98.below B8x0_ hb)
   have n1_ := Aside0.mk (KeepBut.trans B8x2_ (KeepBut.of_below hb g none) (.inl rfl))
   have n2_ := Aside0.mk (below_step B8x1_ hb)
   clear HI0
   clear HK
   clear HB
   have HI0 := n0_
   have HK := n1_
   have HB := n2_
   clear n0_ n1_ n2_
   (try clear hb)
   (try clear hb2)
   (try clear hk)
   (try clear hi)
   refine hK.out _ _ ⟨(blk_cell HI0.out.1 0).trans rfl, (blk_cell HI0.out.1 1).trans rfl, (blk_cell HI0.out.1 2).trans rfl⟩ (fun hHeld => ?_)
   clear hK K
   refine norm_ (a' := ?_) ?_ ?_
   rotate_left
   ·show Act.put _ (some 15) _ = _
    simp only [Act.put, List.setIfInBounds_toArray, List.set_cons_zero, List.set_cons_succ, i64_w, i32_w]
    rfl
   refine pu_ 9 6 HT_ ?_
   refine pu_ 10 16 HT_ ?_
   refine pu_ 11 17 HT_ ?_
   refine pu_ 12 18 HT_ ?_
   refine pu_ 13 3 HT_ ?_
   refine pu_ 14 4 HT_ ?_
   refine pu_ 15 5 HT_ ?_
   refine done_ (done_of HT_.out B8x4_) ?_
   obtain ⟨HGz13, hgz13⟩ := HI0.out
   have hcz13_0 := cellS98_0 HGz13
   have hcz13_1 := cellS98_1 HGz13
   have hcz13_2 := cellS98_2 HGz13
   obtain ⟨hfz13_0, hfz13_1, hfz13_2⟩ := fr3 HGz13
   clear HGz13 hgz13
   try go_wp2
   go_ret
   exact ⟨by first | rfl | (simp [errW_none, errW_some] <;> rfl) | (simp [*, errW_none, errW_some] <;> rfl), by repeat (first | (with_reducible first | exact HI0.out | apply IsS98.alloc | apply IsS98.drewN | apply IsS98.drew | apply IsS98.set_0 | apply IsS98.set_1 | apply IsS98.set_2) | exact HI0.out), by repeat (first | (with_reducible first | exact HB.out | apply below_alloc | apply pw_below_drewN | apply below_drew1 | refine below_set ?_ (IsS98.ge HI0.out)) | exact HB.out), by repeat (first | (with_reducible first | exact HK.out | apply KeepBut.set_ | apply keep_drewN | apply keep_drew | apply keep_alloc) | exact HK.out)⟩

end Go.Proofs.Ythgjcijcmacpmaa.QFnExactReadKeep
