/- Functions that a law reaches, as functions of Lean, and the walks that show that the calls come to their answers. No condition. -/
import Derived.Test.YtgffdijodnpolaaQFnKeepTextsx0
import Derived.Test.YtgffdijodnpolaaQFnKeepTextsx7
import Derived.Test.YtgffdijodnpolaaQFnKeepTextsx8
import Derived.Test.YtgffdijodnpolaaQFnKeepTextsx10
import Derived.Test.YtgffdijodnpolaaVFnKeepTextshort3
import Derived.Test.YtgffdijodnpolaaVFnKeepTextsShort
import Derived.Test.YtgffdijodnpolaaVFnKeepTextshort8
namespace Go.Proofs.Ytgffdijodnpolaa.QFnKeepTexts
open Go.RowKit Go.Proofs.YtgffdijodnpolaaW.PrintWords Go.Proofs.YtgffdijodnpolaaW.PrintLast Go.Proofs.YtgffdijodnpolaaW.PrintMore Go.Proofs.Ytgffdijodnpolaa.Short
set_option linter.unusedVariables false
set_option linter.unusedSimpArgs false
set_option maxHeartbeats 8000000
set_option maxRecDepth 100000
variable {p : Prop}
section
attribute [local go_sem] max2_int min2_int max_two min_two max_three min_three max_four min_four
theorem B35x1_ (h : p := by repeat (first | (with_reducible first | exact z.out | apply IsS92.alloc | apply IsS92.drewN | apply IsS92.drew | apply IsS92.set_0 | apply IsS92.set_1 | apply IsS92.set_2 | refine IsS92.far ?_ bD.out _ | refine IsS92.far ?_ bn.out _) | exact z.out)) : p := h
theorem B35x6_ (h : p := by first | exact (Kd.R_below (tr (ai ac)) hb) | exact Kd.R_mono (Kd.R_below (tr (ai ac)) hb) (fun _ h_ => by first | trivial | exact h_ | exact h_.1)) : p := h
theorem B35x17_ (h : p := by first | rfl | (simp [errW_none, errW_some] <;> rfl) | (simp [*, errW_none, errW_some] <;> rfl)) : p := h
theorem B35x23_ (h : p := by repeat (first | (with_reducible first | exact bq.out | apply IsS92.alloc | apply IsS92.drewN | apply IsS92.drew | apply IsS92.set_0 | apply IsS92.set_1 | apply IsS92.set_2) | exact bq.out)) : p := h
theorem B35x24_ (h : p := by first | exact (Kd.R_below (tr (ag ac)) hb) | exact Kd.R_mono (Kd.R_below (tr (ag ac)) hb) (fun _ h_ => by first | trivial | exact h_ | exact h_.1)) : p := h
theorem B35x28_ (h : p := by exact ⟨(Ab aU), bd.out⟩) : p := h
theorem B35x31_ (h : p := by first | exact (Kd.R_elder' (tr (af ac)) (Kd.R_base ak) hb) | exact Kd.R_mono (Kd.R_elder' (tr (af ac)) (Kd.R_base ak) hb) (fun _ h_ => by first | trivial | exact h_ | exact h_.1)) : p := h
theorem B35x32_ (h : p := by first | exact (Kd.R_elder' (tr (ae ac)) (Kd.R_base ak) hb) | exact Kd.R_mono (Kd.R_elder' (tr (ae ac)) (Kd.R_base ak) hb) (fun _ h_ => by first | trivial | exact h_ | exact h_.1)) : p := h
theorem B35x33_ (h : p := by first | exact (Kd.R_elder' (tr (ag ac)) (Kd.R_base ak) hb) | exact Kd.R_mono (Kd.R_elder' (tr (ag ac)) (Kd.R_base ak) hb) (fun _ h_ => by first | trivial | exact h_ | exact h_.1)) : p := h
theorem B35x34_ (h : p := by first | exact (Kd.R_below (tr (af ac)) hb) | exact Kd.R_mono (Kd.R_below (tr (af ac)) hb) (fun _ h_ => by first | trivial | exact h_ | exact h_.1)) : p := h
def impl_CommandText.f (k : Nat) (ay : Int) (az : Int) (aA : Int) (aB : ByteArray) (aC : ByteArray) (aD : Int) : Option (ByteArray × Bool) := (impl_CommandOk.f k ay az aA aB aC aD).bind fun dn => (if dn = true then ((impl_byteTexts.f k (([ay] : List Int))).bind fun ao => ((impl_varTexts.f k (([az, aA] : List Int))).bind fun ap => (if ao.size + ap.size ≤ 9223372036854775807 then ((impl_shortTexts.f k (([aB, aC] : List ByteArray))).bind fun aT => (if (ao ++ ap).size + aT.size ≤ 9223372036854775807 then ((impl_varTexts.f k (([aD] : List Int))).bind fun a5 => (if ((ao ++ ap) ++ aT).size + a5.size ≤ 9223372036854775807 then (some (((ao ++ ap) ++ aT) ++ a5, true)) else (none))) else (none))) else (none)))) else (some ((⟨#[]⟩ : ByteArray), false)))
def impl_CommandText.T3 : Bool × List (List Nat × List Nat) := (true, [([], []), ([0], [0]), ([1], [1]), ([2], [2]), ([], []), ([4], [4]), ([], []), ([6], [6]), ([5, 7], [5, 7]), ([8, 3], [8]), ([3, 9], [3, 9]), ([], []), ([11], [11]), ([], []), ([13], [13]), ([12, 14], [12, 14]), ([15, 9], [15]), ([10, 16], [10, 16]), ([], []), ([18], [18]), ([19], [19]), ([20, 16], [20]), ([17, 21], [17, 21]), ([22, 21, 0, 1, 2, 3, 4, 5, 6, 7, 8, 9, 10, 11, 12, 13, 14, 15, 16, 17, 18, 19, 20, 21, 22], [22]), ([23, 0, 1, 2, 3, 4, 5, 6, 7, 8, 9, 10, 11, 12, 13, 14, 15, 16, 17, 18, 19, 20, 21, 22, 23], [])])
def impl_CommandText.B3 : List Nat := [0, 1, 3, 7, 0, 16, 0, 64, 240, 511, 1023, 0, 2048, 0, 8192, 30720, 64511, 131071, 0, 262144, 786432, 1965055, 4194303, 8388607, 16777215]
theorem impl_CommandText.tab3 : rtab .any (opsOf Try.f32 3) = impl_CommandText.T3 := by kernel_rfl
theorem impl_CommandText.bits3 : waitsOk impl_CommandText.T3.2 impl_CommandText.B3 = true := by kernel_rfl
theorem impl_CommandText.calls (k : Nat) (ay : Int) (az : Int) (aA : Int) (aB : ByteArray) (aC : ByteArray) (aD : Int) (r1 : ByteArray) (r2 : Bool) (w : World) (h : impl_CommandText.f k ay az aA aB aC aD = some (r1, r2)) :
  Calls Try.prog 32 #[.agg #[.int .i64 ay, .int .i64 az, .int .i64 aA, .string aB, .string aC, .int .i64 aD]] w fun e w' => e = .returned (.tuple #[.string r1, .bool r2]) ∧ Below w.heap.size w w' := by
 have dW := Try.underlying59
 have HB := am (Below.refl w.heap.size w)
 have a3 := h
 clear h
 unfold impl_CommandText.f at a3
 obtain ⟨dn, A2, a1⟩ := bsi a3
 (try dsimp only at a1)
 obtain ⟨rfl, aF⟩ | ⟨rfl, aF⟩ := sb a1
 ·obtain ⟨bB, cg⟩ : ∃ y_ : List Int, y_ = (([ay] : List Int)) := ⟨_, rfl⟩
  (first | with_reducible replace aF := hq cg aF | rw [← cg] at aF | simp only [← cg] at aF)
  have cD := am cg; clear cg; obtain ⟨ao, A4, a4⟩ := bsi aF; (try dsimp only at a4); obtain ⟨bv, ch⟩ : ∃ y_ : List Int, y_ = (([az, aA] : List Int)) := ⟨_, rfl⟩
  (first | with_reducible replace a4 := hq ch a4 | rw [← ch] at a4 | simp only [← ch] at a4)
  have cE := am ch; clear ch; obtain ⟨ap, A5, be⟩ := bsi a4; (try dsimp only at be); obtain ⟨c6, bh⟩ := yn be; have ei := eq_true c6; have ej := decide_eq_true c6
  try have dN : (9223372036854775807 < ao.size + ap.size) = False := eq_false (Nat.not_lt.2 c6)
  try (have dO := dN; simp only [ByteArray.size_append] at dO)
  obtain ⟨bo, ci⟩ : ∃ y_ : List ByteArray, y_ = (([aB, aC] : List ByteArray)) := ⟨_, rfl⟩
  (first | with_reducible replace bh := hq ci bh | rw [← ci] at bh | simp only [← ci] at bh)
  have cF := am ci; clear ci; obtain ⟨aT, A7, bm⟩ := bsi bh; (try dsimp only at bm); obtain ⟨c8, bi⟩ := yn bm; have dP := eq_true c8; have el := decide_eq_true c8
  try have dQ : (9223372036854775807 < (ao ++ ap).size + aT.size) = False := eq_false (Nat.not_lt.2 c8)
  try have em : (9223372036854775807 < ao.size + ap.size + aT.size) = False := eq_false (by have h_ := c8; simp only [ByteArray.size_append, ByteArray.size_extract, decide_eq_true_eq, decide_eq_false_iff_not] at *; omega)
  try (have dR := dQ; simp only [ByteArray.size_append] at dR)
  obtain ⟨bl, cj⟩ : ∃ y_ : List Int, y_ = (([aD] : List Int)) := ⟨_, rfl⟩
  (first | with_reducible replace bi := hq cj bi | rw [← cj] at bi | simp only [← cj] at bi)
  have cG := am cj; clear cj; obtain ⟨a5, A9, bk⟩ := bsi bi; (try dsimp only at bk); obtain ⟨c10, bz⟩ := yn bk; have ef := eq_true c10; have eg := decide_eq_true c10
  try have dK : (9223372036854775807 < ((ao ++ ap) ++ aT).size + a5.size) = False := eq_false (Nat.not_lt.2 c10)
  try have eh : (9223372036854775807 < ao.size + ap.size + aT.size + a5.size) = False := eq_false (by have h_ := c10; simp only [ByteArray.size_append, ByteArray.size_extract, decide_eq_true_eq, decide_eq_false_iff_not] at *; omega)
  try (have dL := dK; simp only [ByteArray.size_append] at dL)
  obtain ⟨rfl, rfl⟩ := s2 bz; clear bz a3 a1 aF a4 be bh bm bi bk; go_enter Try.func32, Try.ntmps32
  try go_wp2_with (first | ((with_reducible refine gate_dst (N := 1) rfl ?_); refine bx (N := 1) (cs := #[.int .i64 ay, .int .i64 az, .int .i64 aA, .string aB, .string aC, .int .i64 aD]) (t := 59) ?_; intro Z hg e2 hbox hb; have j := am hbox; have ax := gA hg HB; replace HB := hA HB hb; clear hb hbox hg; obtain ⟨d2, d3, d4, d5, d6, d7, d8, d9, ea, eb, ec, ed⟩ := cf6 j) | ((with_reducible refine gate_callee (f := 76) rfl ?_); refine gM (some 5) Try.func76 (impl_CommandOk.calls k ay az aA aB aC aD true _ A2.out) ?_; rintro dq hb; replace j := bA j hb; replace HB := De1 HB ax hb))
  replace j := dA j; replace HB := bdr HB; refine st_ 25 (fun w' => True) [] impl_CommandText.tab3 impl_CommandText.bits3 trivial (fun dS bw dH => ?_); generalize dq.drew = dr at j HB dS ⊢; refine pu_ 0 7 bw ?_; refine pu_ 4 11 bw ?_; refine pu_ 6 13 bw ?_; refine pu_ 11 18 bw ?_; refine pu_ 13 20 bw ?_; refine pu_ 18 25 bw ?_; refine inv_at [1, 2, 3, 5, 7, 8, 9, 10, 12, 14, 15, 16, 17, 19, 20, 21, 22, 23, 24] (fun dI b a w' => ∃ (Y : Value) (M : Value) (D : Value) (B : Value), a = putSel dI b [(1, 8, .int .i64 ay), (2, 9, Y), (3, 10, .string ao), (5, 12, .int .i64 az), (7, 14, .int .i64 aA), (8, 15, M), (9, 16, .string ap), (10, 17, .string (ao ++ ap)), (12, 19, .string aB), (14, 21, .string aC), (15, 22, D), (16, 23, .string aT), (17, 24, .string ((ao ++ ap) ++ aT)), (19, 26, .int .i64 aD), (20, 27, B), (21, 28, .string a5), (22, 29, .string (((ao ++ ap) ++ aT) ++ a5)), (23, 2, .string (((ao ++ ap) ++ aT) ++ a5)), (24, 3, .bool true)] ∧ (w'.heap[Z]? = some (.cells #[.int .i64 ay, .int .i64 az, .int .i64 aA, .string aB, .string aC, .int .i64 aD] 59 (0, 0))) ∧ (Below w.heap.size w w') ∧ (b 2 = true → Kd.R (Kd.int .i64) 3 w' w.heap.size (fun _ => True) Y bB) ∧ (b 8 = true → Kd.R (Kd.int .i64) 3 w' w.heap.size (fun _ => True) M bv) ∧ (b 15 = true → Kd.R Kd.string 9 w' w.heap.size (fun _ => True) D bo) ∧ (b 20 = true → Kd.R (Kd.int .i64) 3 w' w.heap.size (fun _ => True) B bl)) bw.out dH.out gk_ gk_ ?_ ?_ ?_
  ·exact ⟨.bool false, .bool false, .bool false, .bool false, (by simp only [putSel, Bool.false_eq_true, if_false]), j.out, HB.out, fun h_ => absurd h_ (by decide), fun h_ => absurd h_ (by decide), fun h_ => absurd h_ (by decide), fun h_ => absurd h_ (by decide)⟩
  ·skip
   clear j HB; refine steps_cons ?_ ?_
   ·rintro b a w' ⟨Y, M, D, B, ha, U, Q_HB, ae, af, ai, ag⟩ hb_ hon hoff; refine ⟨_, rfl, fun K hK => ?_⟩
    have e7 : a.tmps[7]? = some (.pointer (some ⟨Z, 0, none⟩)) := by rw [ha]; exact (putSel_off rfl).trans rfl
    replace ha := am ha; have j := am U; have HB := am Q_HB
    have b9 : w'.cell? ⟨Z, 0, none⟩ = some (.int .i64 ay) := bc j 0
    have ca : w'.cell? ⟨Z, 1, none⟩ = some (.int .i64 az) := bc j 1
    have cc : w'.cell? ⟨Z, 2, none⟩ = some (.int .i64 aA) := bc j 2
    have cd : w'.cell? ⟨Z, 3, none⟩ = some (.string aB) := bc j 3
    have ce : w'.cell? ⟨Z, 4, none⟩ = some (.string aC) := bc j 4
    have cf : w'.cell? ⟨Z, 5, none⟩ = some (.int .i64 aD) := bc j 5
    refine value_ (w1 := w') (v := .int .i64 ay) (by rfl) rfl ?_ ?_
    ·go_simp; (try simp only [i64_w])
     try rfl
    refine hK.out _ _ ⟨Y, M, D, B, (by rw [ha.out]; exact putSel_upk 0 hb_ rfl rfl rfl), U, Q_HB, fun ac => absurd ((hoff 2 gk_).symm.trans ac) (by decide), af, ai, ag⟩
   refine steps_cons ?_ ?_
   ·rintro b a w' ⟨Y, M, D, B, ha, U, Q_HB, ae, af, ai, ag⟩ hb_ hon hoff; refine ⟨_, rfl, fun K hK => ?_⟩
    have e8 : a.tmps[8]? = some (.int .i64 ay) := by rw [ha]; exact putSel_on (e := (1, 8, .int .i64 ay)) 0 rfl rfl (hon 1 gk_) rfl
    replace ha := am ha; have j := am U; have HB := am Q_HB; refine lS (Kd.int .i64) 3 9 ([ay] : List Int) [.int .i64 ay] (Reps.one (show Kd.M (Kd.int .i64) _ _ _ ay [.int .i64 ay] from rfl) (Reps.none _ _)) ?_; intro Y a6 ak hb
    (first | rw [← cD.out] at ak | (simp only [Int.reduceToNat] at ak; rw [← cD.out] at ak))
    have aV := am (Kd.R_lower ak (below_size (Ae1 HB ax))); have aW := bA j hb; have aX := De1 HB ax hb
    have bC := fun (ac : b 8 = true) => (show Kd.R (Kd.int .i64) 3 a6 w.heap.size (fun _ => True) M bv from B35x31_)
    have bp := fun (ac : b 15 = true) => (show Kd.R Kd.string 9 a6 w.heap.size (fun _ => True) D bo from B35x6_)
    have bj := fun (ac : b 20 = true) => (show Kd.R (Kd.int .i64) 3 a6 w.heap.size (fun _ => True) B bl from B35x33_)
    clear j; clear HB; have aE := aV; have j := aW; have HB := aX; clear aV aW aX; clear hb ak; refine hK.out _ _ ⟨Y, M, D, B, (by rw [ha.out]; exact putSel_upk 1 hb_ rfl rfl rfl), (Ab j), (Ae1 HB ax), fun _ => (Ar aE), bC, bp, bj⟩
   refine steps_cons ?_ ?_
   ·rintro b a w' ⟨Y, M, D, B, ha, U, Q_HB, ae, af, ai, ag⟩ hb_ hon hoff; refine ⟨_, rfl, fun K hK => ?_⟩
    have e9 : a.tmps[9]? = some (Y) := by rw [ha]; exact putSel_on (e := (2, 9, Y)) 1 rfl rfl (hon 2 gk_) rfl
    replace ha := am ha; have j := am U; have HB := am Q_HB; have aE := am (ae (hon 2 gk_)); obtain ⟨cz, cH, cO⟩ := Kd.R_slice aE.out
    (first | subst cO | (injection cO with f1_ f2_ f3_; have f4_ := f1_.symm; have f5_ := f3_.symm; clear f1_ f2_ f3_; subst f4_; subst f5_))
    refine goes_ Try.func77 gk_ rfl #[.slice cz bB.length cH] (by rfl) rfl rfl (by first | (simp only [List.map_toArray, List.map_cons, List.map_nil, Act.eval, Array.getD_eq_getD_getElem?, Option.getD_some, e9]; done) | (simp only [List.map_toArray, List.map_cons, List.map_nil, Act.eval, Array.getD_eq_getD_getElem?, Option.getD_some, e9]; rfl)) ?_
    with_reducible refine (impl_byteTexts.calls k _ _ bB ao _ ?z1 ?z2 A4.out).mono ?_
    (case z1 => repeat (first | exact (Kd.R_reads' aE.out).2.2 | (with_reducible refine Kd.C_alloc ?_ _) | (with_reducible refine Kd.C_drewN ?_ _) | (with_reducible refine Kd.C_drew ?_)))
    (case z2 => exact (Kd.R_reads' aE.out).2.1)
    rintro e cq ⟨rfl, hb⟩; refine ⟨_, rfl, ?_⟩; have aV := rA aE hb; have aW := bA j hb; have aX := De1 HB ax hb
    have bC := fun (ac : b 8 = true) => (show Kd.R (Kd.int .i64) 3 cq w.heap.size (fun _ => True) M bv from B35x34_)
    have bp := fun (ac : b 15 = true) => (show Kd.R Kd.string 9 cq w.heap.size (fun _ => True) D bo from B35x6_)
    have bj := fun (ac : b 20 = true) => (show Kd.R (Kd.int .i64) 3 cq w.heap.size (fun _ => True) B bl from B35x24_)
    clear aE; clear j; clear HB; have aE := aV; have j := aW; have HB := aX; clear aV aW aX; refine hK.out _ _ ⟨.slice cz bB.length cH, M, D, B, (by rw [ha.out]; exact putSel_upk 2 hb_ rfl rfl rfl), (Ab j), (Ae1 HB ax), fun _ => (Ar aE), bC, bp, bj⟩
   refine steps_cons ?_ ?_
   ·rintro b a w' ⟨Y, M, D, B, ha, U, Q_HB, ae, af, ai, ag⟩ hb_ hon hoff; refine ⟨_, rfl, fun K hK => ?_⟩
    have eo : a.tmps[11]? = some (.pointer (some ⟨Z, 1, none⟩)) := by rw [ha]; exact (putSel_off rfl).trans rfl
    replace ha := am ha; have j := am U; have HB := am Q_HB
    have b9 : w'.cell? ⟨Z, 0, none⟩ = some (.int .i64 ay) := bc j 0
    have ca : w'.cell? ⟨Z, 1, none⟩ = some (.int .i64 az) := bc j 1
    have cc : w'.cell? ⟨Z, 2, none⟩ = some (.int .i64 aA) := bc j 2
    have cd : w'.cell? ⟨Z, 3, none⟩ = some (.string aB) := bc j 3
    have ce : w'.cell? ⟨Z, 4, none⟩ = some (.string aC) := bc j 4
    have cf : w'.cell? ⟨Z, 5, none⟩ = some (.int .i64 aD) := bc j 5
    refine value_ (w1 := w') (v := .int .i64 az) (by rfl) rfl ?_ ?_
    ·go_simp; (try simp only [i64_w])
     try rfl
    refine hK.out _ _ ⟨Y, M, D, B, (by rw [ha.out]; exact putSel_upk 3 hb_ rfl rfl rfl), U, Q_HB, ae, fun ac => absurd ((hoff 8 gk_).symm.trans ac) (by decide), ai, ag⟩
   refine steps_cons ?_ ?_
   ·rintro b a w' ⟨Y, M, D, B, ha, U, Q_HB, ae, af, ai, ag⟩ hb_ hon hoff; refine ⟨_, rfl, fun K hK => ?_⟩
    have eq : a.tmps[13]? = some (.pointer (some ⟨Z, 2, none⟩)) := by rw [ha]; exact (putSel_off rfl).trans rfl
    replace ha := am ha; have j := am U; have HB := am Q_HB
    have b9 : w'.cell? ⟨Z, 0, none⟩ = some (.int .i64 ay) := bc j 0
    have ca : w'.cell? ⟨Z, 1, none⟩ = some (.int .i64 az) := bc j 1
    have cc : w'.cell? ⟨Z, 2, none⟩ = some (.int .i64 aA) := bc j 2
    have cd : w'.cell? ⟨Z, 3, none⟩ = some (.string aB) := bc j 3
    have ce : w'.cell? ⟨Z, 4, none⟩ = some (.string aC) := bc j 4
    have cf : w'.cell? ⟨Z, 5, none⟩ = some (.int .i64 aD) := bc j 5
    refine value_ (w1 := w') (v := .int .i64 aA) (by rfl) rfl ?_ ?_
    ·go_simp; (try simp only [i64_w])
     try rfl
    refine hK.out _ _ ⟨Y, M, D, B, (by rw [ha.out]; exact putSel_upk 4 hb_ rfl rfl rfl), U, Q_HB, ae, fun ac => absurd ((hoff 8 gk_).symm.trans ac) (by decide), ai, ag⟩
   refine steps_cons ?_ ?_
   ·rintro b a w' ⟨Y, M, D, B, ha, U, Q_HB, ae, af, ai, ag⟩ hb_ hon hoff; refine ⟨_, rfl, fun K hK => ?_⟩
    have ep : a.tmps[12]? = some (.int .i64 az) := by rw [ha]; exact putSel_on (e := (5, 12, .int .i64 az)) 3 rfl rfl (hon 5 gk_) rfl
    have er : a.tmps[14]? = some (.int .i64 aA) := by rw [ha]; exact putSel_on (e := (7, 14, .int .i64 aA)) 4 rfl rfl (hon 7 gk_) rfl
    replace ha := am ha; have j := am U; have HB := am Q_HB; refine lS (Kd.int .i64) 3 15 ([az, aA] : List Int) [.int .i64 az, .int .i64 aA] (Reps.one (show Kd.M (Kd.int .i64) _ _ _ az [.int .i64 az] from rfl) (Reps.one (show Kd.M (Kd.int .i64) _ _ _ aA [.int .i64 aA] from rfl) (Reps.none _ _))) ?_; intro M a6 ak hb
    (first | rw [← cE.out] at ak | (simp only [Int.reduceToNat] at ak; rw [← cE.out] at ak))
    have aV := am (Kd.R_lower ak (below_size (Ae1 HB ax))); have aW := bA j hb; have aX := De1 HB ax hb
    have cm := fun (ac : b 2 = true) => (show Kd.R (Kd.int .i64) 3 a6 w.heap.size (fun _ => True) Y bB from B35x32_)
    have bp := fun (ac : b 15 = true) => (show Kd.R Kd.string 9 a6 w.heap.size (fun _ => True) D bo from B35x6_)
    have bj := fun (ac : b 20 = true) => (show Kd.R (Kd.int .i64) 3 a6 w.heap.size (fun _ => True) B bl from B35x33_)
    clear j; clear HB; have aZ := aV; have j := aW; have HB := aX; clear aV aW aX; clear hb ak; refine hK.out _ _ ⟨Y, M, D, B, (by rw [ha.out]; exact putSel_upk 5 hb_ rfl rfl rfl), (Ab j), (Ae1 HB ax), cm, fun _ => (Ar aZ), bp, bj⟩
   refine steps_cons ?_ ?_
   ·rintro b a w' ⟨Y, M, D, B, ha, U, Q_HB, ae, af, ai, ag⟩ hb_ hon hoff; refine ⟨_, rfl, fun K hK => ?_⟩
    have cL : a.tmps[15]? = some (M) := by rw [ha]; exact putSel_on (e := (8, 15, M)) 5 rfl rfl (hon 8 gk_) rfl
    replace ha := am ha; have j := am U; have HB := am Q_HB; have aE := am (ae (hon 2 gk_)); have aZ := am (af (hon 8 gk_)); obtain ⟨cA, cI, cP⟩ := Kd.R_slice aZ.out
    (first | subst cP | (injection cP with f1_ f2_ f3_; have f4_ := f1_.symm; have f5_ := f3_.symm; clear f1_ f2_ f3_; subst f4_; subst f5_))
    refine goes_ Try.func64 gk_ rfl #[.slice cA bv.length cI] (by rfl) rfl rfl (by first | (simp only [List.map_toArray, List.map_cons, List.map_nil, Act.eval, Array.getD_eq_getD_getElem?, Option.getD_some, cL]; done) | (simp only [List.map_toArray, List.map_cons, List.map_nil, Act.eval, Array.getD_eq_getD_getElem?, Option.getD_some, cL]; rfl)) ?_
    with_reducible refine (impl_varTexts.calls k _ _ bv ap _ ?z1 ?z2 A5.out).mono ?_
    (case z1 => repeat (first | exact (Kd.R_reads' aZ.out).2.2 | (with_reducible refine Kd.C_alloc ?_ _) | (with_reducible refine Kd.C_drewN ?_ _) | (with_reducible refine Kd.C_drew ?_)))
    (case z2 => exact (Kd.R_reads' aZ.out).2.1)
    rintro e cx ⟨rfl, hb⟩; refine ⟨_, rfl, ?_⟩; have aV := rA aE hb; have aW := rA aZ hb; have aX := bA j hb; have ck := De1 HB ax hb
    have bp := fun (ac : b 15 = true) => (show Kd.R Kd.string 9 cx w.heap.size (fun _ => True) D bo from B35x6_)
    have bj := fun (ac : b 20 = true) => (show Kd.R (Kd.int .i64) 3 cx w.heap.size (fun _ => True) B bl from B35x24_)
    clear aE; clear aZ; clear j; clear HB; have aE := aV; have aZ := aW; have j := aX; have HB := ck; clear aV aW aX ck; refine hK.out _ _ ⟨Y, .slice cA bv.length cI, D, B, (by rw [ha.out]; exact putSel_upk 6 hb_ rfl rfl rfl), (Ab j), (Ae1 HB ax), fun _ => (Ar aE), fun _ => (Ar aZ), bp, bj⟩
   refine steps_cons ?_ ?_
   ·rintro b a w' ⟨Y, M, D, B, ha, U, Q_HB, ae, af, ai, ag⟩ hb_ hon hoff; refine ⟨_, rfl, fun K hK => ?_⟩
    have en : a.tmps[10]? = some (.string ao) := by rw [ha]; exact putSel_on (e := (3, 10, .string ao)) 2 rfl rfl (hon 3 gk_) rfl
    have et : a.tmps[16]? = some (.string ap) := by rw [ha]; exact putSel_on (e := (9, 16, .string ap)) 6 rfl rfl (hon 9 gk_) rfl
    replace ha := am ha; have HB := am Q_HB; refine value_ (w1 := w') (v := .string (ao ++ ap)) (by rfl) rfl ?_ ?_
    ·go_simp; (try simp only [i64_w])
     try rfl
    refine hK.out _ _ ⟨Y, M, D, B, (by rw [ha.out]; exact putSel_upk 7 hb_ rfl rfl rfl), U, Q_HB, ae, af, ai, ag⟩
   refine steps_cons ?_ ?_
   ·rintro b a w' ⟨Y, M, D, B, ha, U, Q_HB, ae, af, ai, ag⟩ hb_ hon hoff; refine ⟨_, rfl, fun K hK => ?_⟩
    have ev : a.tmps[18]? = some (.pointer (some ⟨Z, 3, none⟩)) := by rw [ha]; exact (putSel_off rfl).trans rfl
    replace ha := am ha; have j := am U; have HB := am Q_HB
    have b9 : w'.cell? ⟨Z, 0, none⟩ = some (.int .i64 ay) := bc j 0
    have ca : w'.cell? ⟨Z, 1, none⟩ = some (.int .i64 az) := bc j 1
    have cc : w'.cell? ⟨Z, 2, none⟩ = some (.int .i64 aA) := bc j 2
    have cd : w'.cell? ⟨Z, 3, none⟩ = some (.string aB) := bc j 3
    have ce : w'.cell? ⟨Z, 4, none⟩ = some (.string aC) := bc j 4
    have cf : w'.cell? ⟨Z, 5, none⟩ = some (.int .i64 aD) := bc j 5
    refine value_ (w1 := w') (v := .string aB) (by rfl) rfl ?_ ?_
    ·go_simp; (try simp only [i64_w])
     try rfl
    refine hK.out _ _ ⟨Y, M, D, B, (by rw [ha.out]; exact putSel_upk 8 hb_ rfl rfl rfl), U, Q_HB, ae, af, fun ac => absurd ((hoff 15 gk_).symm.trans ac) (by decide), ag⟩
   refine steps_cons ?_ ?_
   ·rintro b a w' ⟨Y, M, D, B, ha, U, Q_HB, ae, af, ai, ag⟩ hb_ hon hoff; refine ⟨_, rfl, fun K hK => ?_⟩
    have ex : a.tmps[20]? = some (.pointer (some ⟨Z, 4, none⟩)) := by rw [ha]; exact (putSel_off rfl).trans rfl
    replace ha := am ha; have j := am U; have HB := am Q_HB
    have b9 : w'.cell? ⟨Z, 0, none⟩ = some (.int .i64 ay) := bc j 0
    have ca : w'.cell? ⟨Z, 1, none⟩ = some (.int .i64 az) := bc j 1
    have cc : w'.cell? ⟨Z, 2, none⟩ = some (.int .i64 aA) := bc j 2
    have cd : w'.cell? ⟨Z, 3, none⟩ = some (.string aB) := bc j 3
    have ce : w'.cell? ⟨Z, 4, none⟩ = some (.string aC) := bc j 4
    have cf : w'.cell? ⟨Z, 5, none⟩ = some (.int .i64 aD) := bc j 5
    refine value_ (w1 := w') (v := .string aC) (by rfl) rfl ?_ ?_
    ·go_simp; (try simp only [i64_w])
     try rfl
    refine hK.out _ _ ⟨Y, M, D, B, (by rw [ha.out]; exact putSel_upk 9 hb_ rfl rfl rfl), U, Q_HB, ae, af, fun ac => absurd ((hoff 15 gk_).symm.trans ac) (by decide), ag⟩
   refine steps_cons ?_ ?_
   ·rintro b a w' ⟨Y, M, D, B, ha, U, Q_HB, ae, af, ai, ag⟩ hb_ hon hoff; refine ⟨_, rfl, fun K hK => ?_⟩
    have ew : a.tmps[19]? = some (.string aB) := by rw [ha]; exact putSel_on (e := (12, 19, .string aB)) 8 rfl rfl (hon 12 gk_) rfl
    have ey : a.tmps[21]? = some (.string aC) := by rw [ha]; exact putSel_on (e := (14, 21, .string aC)) 9 rfl rfl (hon 14 gk_) rfl
    replace ha := am ha; have j := am U; have HB := am Q_HB; refine lS Kd.string 9 22 ([aB, aC] : List ByteArray) [.string aB, .string aC] (Reps.one (show Kd.M Kd.string _ _ _ aB [.string aB] from rfl) (Reps.one (show Kd.M Kd.string _ _ _ aC [.string aC] from rfl) (Reps.none _ _))) ?_; intro D a6 ak hb
    (first | rw [← cF.out] at ak | (simp only [Int.reduceToNat] at ak; rw [← cF.out] at ak))
    have aV := am (Kd.R_lower ak (below_size (Ae1 HB ax))); have aW := bA j hb; have aX := De1 HB ax hb
    have cm := fun (ac : b 2 = true) => (show Kd.R (Kd.int .i64) 3 a6 w.heap.size (fun _ => True) Y bB from (by first | exact (Kd.R_below (tr (ae ac)) hb) | exact Kd.R_mono (Kd.R_below (tr (ae ac)) hb) (fun _ h_ => by first | trivial | exact h_ | exact h_.1)))
    have bC := fun (ac : b 8 = true) => (show Kd.R (Kd.int .i64) 3 a6 w.heap.size (fun _ => True) M bv from B35x34_)
    have bj := fun (ac : b 20 = true) => (show Kd.R (Kd.int .i64) 3 a6 w.heap.size (fun _ => True) B bl from B35x24_)
    clear j; clear HB; have a9 := aV; have j := aW; have HB := aX; clear aV aW aX; clear hb ak; refine hK.out _ _ ⟨Y, M, D, B, (by rw [ha.out]; exact putSel_upk 10 hb_ rfl rfl rfl), (Ab j), (Ae1 HB ax), cm, bC, fun _ => (Ar a9), bj⟩
   refine steps_cons ?_ ?_
   ·rintro b a w' ⟨Y, M, D, B, ha, U, Q_HB, ae, af, ai, ag⟩ hb_ hon hoff; refine ⟨_, rfl, fun K hK => ?_⟩
    have cM : a.tmps[22]? = some (D) := by rw [ha]; exact putSel_on (e := (15, 22, D)) 10 rfl rfl (hon 15 gk_) rfl
    replace ha := am ha; have j := am U; have HB := am Q_HB; have aE := am (ae (hon 2 gk_)); have aZ := am (af (hon 8 gk_)); have a9 := am (ai (hon 15 gk_)); obtain ⟨cB, cJ, cQ⟩ := Kd.R_slice a9.out
    (first | subst cQ | (injection cQ with f1_ f2_ f3_; have f4_ := f1_.symm; have f5_ := f3_.symm; clear f1_ f2_ f3_; subst f4_; subst f5_))
    refine goes_ Try.func65 gk_ rfl #[.slice cB bo.length cJ] (by rfl) rfl rfl (by first | (simp only [List.map_toArray, List.map_cons, List.map_nil, Act.eval, Array.getD_eq_getD_getElem?, Option.getD_some, cM]; done) | (simp only [List.map_toArray, List.map_cons, List.map_nil, Act.eval, Array.getD_eq_getD_getElem?, Option.getD_some, cM]; rfl)) ?_
    with_reducible refine (impl_shortTexts.calls k _ _ bo aT _ ?z1 ?z2 A7.out).mono ?_
    (case z1 => repeat (first | exact (Kd.R_reads' a9.out).2.2 | (with_reducible refine Kd.C_alloc ?_ _) | (with_reducible refine Kd.C_drewN ?_ _) | (with_reducible refine Kd.C_drew ?_)))
    (case z2 => exact (Kd.R_reads' a9.out).2.1)
    rintro e ds ⟨rfl, hb⟩; refine ⟨_, rfl, ?_⟩; have aV := rA aE hb; have aW := rA aZ hb; have aX := rA a9 hb; have ck := bA j hb; have dm := De1 HB ax hb
    have bj := fun (ac : b 20 = true) => (show Kd.R (Kd.int .i64) 3 ds w.heap.size (fun _ => True) B bl from B35x24_)
    clear aE; clear aZ; clear a9; clear j; clear HB; have aE := aV; have aZ := aW; have a9 := aX; have j := ck; have HB := dm; clear aV aW aX ck dm; refine hK.out _ _ ⟨Y, M, .slice cB bo.length cJ, B, (by rw [ha.out]; exact putSel_upk 11 hb_ rfl rfl rfl), (Ab j), (Ae1 HB ax), fun _ => (Ar aE), fun _ => (Ar aZ), fun _ => (Ar a9), bj⟩
   refine steps_cons ?_ ?_
   ·rintro b a w' ⟨Y, M, D, B, ha, U, Q_HB, ae, af, ai, ag⟩ hb_ hon hoff; refine ⟨_, rfl, fun K hK => ?_⟩
    have eu : a.tmps[17]? = some (.string (ao ++ ap)) := by rw [ha]; exact putSel_on (e := (10, 17, .string (ao ++ ap))) 7 rfl rfl (hon 10 gk_) rfl
    have ez : a.tmps[23]? = some (.string aT) := by rw [ha]; exact putSel_on (e := (16, 23, .string aT)) 11 rfl rfl (hon 16 gk_) rfl
    replace ha := am ha; have HB := am Q_HB; refine value_ (w1 := w') (v := .string ((ao ++ ap) ++ aT)) (by rfl) rfl ?_ ?_
    ·go_simp; (try simp only [i64_w])
     try rfl
    refine hK.out _ _ ⟨Y, M, D, B, (by rw [ha.out]; exact putSel_upk 12 hb_ rfl rfl rfl), U, Q_HB, ae, af, ai, ag⟩
   refine steps_cons ?_ ?_
   ·rintro b a w' ⟨Y, M, D, B, ha, U, Q_HB, ae, af, ai, ag⟩ hb_ hon hoff; refine ⟨_, rfl, fun K hK => ?_⟩
    have eC : a.tmps[25]? = some (.pointer (some ⟨Z, 5, none⟩)) := by rw [ha]; exact (putSel_off rfl).trans rfl
    replace ha := am ha; have j := am U; have HB := am Q_HB
    have b9 : w'.cell? ⟨Z, 0, none⟩ = some (.int .i64 ay) := bc j 0
    have ca : w'.cell? ⟨Z, 1, none⟩ = some (.int .i64 az) := bc j 1
    have cc : w'.cell? ⟨Z, 2, none⟩ = some (.int .i64 aA) := bc j 2
    have cd : w'.cell? ⟨Z, 3, none⟩ = some (.string aB) := bc j 3
    have ce : w'.cell? ⟨Z, 4, none⟩ = some (.string aC) := bc j 4
    have cf : w'.cell? ⟨Z, 5, none⟩ = some (.int .i64 aD) := bc j 5
    refine value_ (w1 := w') (v := .int .i64 aD) (by rfl) rfl ?_ ?_
    ·go_simp; (try simp only [i64_w])
     try rfl
    refine hK.out _ _ ⟨Y, M, D, B, (by rw [ha.out]; exact putSel_upk 13 hb_ rfl rfl rfl), U, Q_HB, ae, af, ai, fun ac => absurd ((hoff 20 gk_).symm.trans ac) (by decide)⟩
   refine steps_cons ?_ ?_
   ·rintro b a w' ⟨Y, M, D, B, ha, U, Q_HB, ae, af, ai, ag⟩ hb_ hon hoff; refine ⟨_, rfl, fun K hK => ?_⟩
    have eD : a.tmps[26]? = some (.int .i64 aD) := by rw [ha]; exact putSel_on (e := (19, 26, .int .i64 aD)) 13 rfl rfl (hon 19 gk_) rfl
    replace ha := am ha; have j := am U; have HB := am Q_HB; refine lS (Kd.int .i64) 3 27 ([aD] : List Int) [.int .i64 aD] (Reps.one (show Kd.M (Kd.int .i64) _ _ _ aD [.int .i64 aD] from rfl) (Reps.none _ _)) ?_; intro B a6 ak hb
    (first | rw [← cG.out] at ak | (simp only [Int.reduceToNat] at ak; rw [← cG.out] at ak))
    have aV := am (Kd.R_lower ak (below_size (Ae1 HB ax))); have aW := bA j hb; have aX := De1 HB ax hb
    have cm := fun (ac : b 2 = true) => (show Kd.R (Kd.int .i64) 3 a6 w.heap.size (fun _ => True) Y bB from B35x32_)
    have bC := fun (ac : b 8 = true) => (show Kd.R (Kd.int .i64) 3 a6 w.heap.size (fun _ => True) M bv from B35x31_)
    have bp := fun (ac : b 15 = true) => (show Kd.R Kd.string 9 a6 w.heap.size (fun _ => True) D bo from B35x6_)
    clear j; clear HB; have br := aV; have j := aW; have HB := aX; clear aV aW aX; clear hb ak; refine hK.out _ _ ⟨Y, M, D, B, (by rw [ha.out]; exact putSel_upk 14 hb_ rfl rfl rfl), (Ab j), (Ae1 HB ax), cm, bC, bp, fun _ => (Ar br)⟩
   refine steps_cons ?_ ?_
   ·rintro b a w' ⟨Y, M, D, B, ha, U, Q_HB, ae, af, ai, ag⟩ hb_ hon hoff; refine ⟨_, rfl, fun K hK => ?_⟩
    have cN : a.tmps[27]? = some (B) := by rw [ha]; exact putSel_on (e := (20, 27, B)) 14 rfl rfl (hon 20 gk_) rfl
    replace ha := am ha; have j := am U; have HB := am Q_HB; have aE := am (ae (hon 2 gk_)); have aZ := am (af (hon 8 gk_)); have a9 := am (ai (hon 15 gk_)); have br := am (ag (hon 20 gk_)); obtain ⟨cC, cK, cR⟩ := Kd.R_slice br.out
    (first | subst cR | (injection cR with f1_ f2_ f3_; have f4_ := f1_.symm; have f5_ := f3_.symm; clear f1_ f2_ f3_; subst f4_; subst f5_))
    refine goes_ Try.func64 gk_ rfl #[.slice cC bl.length cK] (by rfl) rfl rfl (by first | (simp only [List.map_toArray, List.map_cons, List.map_nil, Act.eval, Array.getD_eq_getD_getElem?, Option.getD_some, cN]; done) | (simp only [List.map_toArray, List.map_cons, List.map_nil, Act.eval, Array.getD_eq_getD_getElem?, Option.getD_some, cN]; rfl)) ?_
    with_reducible refine (impl_varTexts.calls k _ _ bl a5 _ ?z1 ?z2 A9.out).mono ?_
    (case z1 => repeat (first | exact (Kd.R_reads' br.out).2.2 | (with_reducible refine Kd.C_alloc ?_ _) | (with_reducible refine Kd.C_drewN ?_ _) | (with_reducible refine Kd.C_drew ?_)))
    (case z2 => exact (Kd.R_reads' br.out).2.1)
    rintro e dt ⟨rfl, hb⟩; refine ⟨_, rfl, ?_⟩; replace aE := rA aE hb; replace aZ := rA aZ hb; replace a9 := rA a9 hb; replace br := rA br hb; replace j := bA j hb; replace HB := De1 HB ax hb; refine hK.out _ _ ⟨Y, M, D, .slice cC bl.length cK, (by rw [ha.out]; exact putSel_upk 15 hb_ rfl rfl rfl), (Ab j), (Ae1 HB ax), fun _ => (Ar aE), fun _ => (Ar aZ), fun _ => (Ar a9), fun _ => (Ar br)⟩
   refine steps_cons ?_ ?_
   ·rintro b a w' ⟨Y, M, D, B, ha, U, Q_HB, ae, af, ai, ag⟩ hb_ hon hoff; refine ⟨_, rfl, fun K hK => ?_⟩
    have eB : a.tmps[24]? = some (.string ((ao ++ ap) ++ aT)) := by rw [ha]; exact putSel_on (e := (17, 24, .string ((ao ++ ap) ++ aT))) 12 rfl rfl (hon 17 gk_) rfl
    have eE : a.tmps[28]? = some (.string a5) := by rw [ha]; exact putSel_on (e := (21, 28, .string a5)) 15 rfl rfl (hon 21 gk_) rfl
    replace ha := am ha; have HB := am Q_HB; refine value_ (w1 := w') (v := .string (((ao ++ ap) ++ aT) ++ a5)) (by rfl) rfl ?_ ?_
    ·go_simp; (try simp only [i64_w])
     try rfl
    refine hK.out _ _ ⟨Y, M, D, B, (by rw [ha.out]; exact putSel_upk 16 hb_ rfl rfl rfl), U, Q_HB, ae, af, ai, ag⟩
   refine steps_cons ?_ ?_
   ·rintro b a w' ⟨Y, M, D, B, ha, U, Q_HB, ae, af, ai, ag⟩ hb_ hon hoff; refine ⟨_, rfl, fun K hK => ?_⟩
    have eF : a.tmps[29]? = some (.string (((ao ++ ap) ++ aT) ++ a5)) := by rw [ha]; exact putSel_on (e := (22, 29, .string (((ao ++ ap) ++ aT) ++ a5))) 16 rfl rfl (hon 22 gk_) rfl
    replace ha := am ha; have HB := am Q_HB; refine value_ (w1 := w') (v := .string (((ao ++ ap) ++ aT) ++ a5)) (by rfl) rfl ?_ ?_
    ·go_simp; (try simp only [i64_w])
     try rfl
    refine hK.out _ _ ⟨Y, M, D, B, (by rw [ha.out]; exact putSel_upk 17 hb_ rfl rfl rfl), U, Q_HB, ae, af, ai, ag⟩
   refine steps_cons ?_ ?_
   ·rintro b a w' ⟨Y, M, D, B, ha, U, Q_HB, ae, af, ai, ag⟩ hb_ hon hoff; refine ⟨_, rfl, fun K hK => ?_⟩; replace ha := am ha; have HB := am Q_HB; refine value_ (w1 := w') (v := .bool true) (by rfl) rfl ?_ ?_
    ·go_simp; (try simp only [i64_w])
     try rfl
    refine hK.out _ _ ⟨Y, M, D, B, (by rw [ha.out]; exact putSel_upk 18 hb_ rfl rfl rfl), U, Q_HB, ae, af, ai, ag⟩
   exact steps_nil
  rintro b a dt hall ⟨Y, M, D, B, ha, U, Q_HB, ae, af, ai, ag⟩; clear j HB; have cZ := hall 1 gk_; have df := hall 2 gk_; have dh := hall 3 gk_; have di := hall 5 gk_; have dj := hall 7 gk_; have dk := hall 8 gk_; have dl := hall 9 gk_; have cS := hall 10 gk_; have cT := hall 12 gk_; have cU := hall 14 gk_; have cV := hall 15 gk_; have cW := hall 16 gk_; have cX := hall 17 gk_; have cY := hall 19 gk_; have da := hall 20 gk_; have db := hall 21 gk_; have dc := hall 22 gk_; have dd := hall 23 gk_; have de := hall 24 gk_; subst ha; simp only [putSel, cZ, df, dh, di, dj, dk, dl, cS, cT, cU, cV, cW, cX, cY, da, db, dc, dd, de, if_true, Act.put, List.setIfInBounds_toArray, List.set_cons_zero, List.set_cons_succ]; have j := am U; clear U; have HB := am Q_HB; clear Q_HB; clear ae; clear af; clear ai; clear ag; clear hall cZ df dh di dj dk dl cS cT cU cV cW cX cY da db dc dd de
  try go_wp2
  go_ret2
  exact ⟨B35x17_, (Ae1 HB ax)⟩
 ·obtain ⟨rfl, rfl⟩ := s2 aF; clear aF a3 a1; go_enter Try.func32, Try.ntmps32
  go_wp2_with (first | ((with_reducible refine gate_dst (N := 1) rfl ?_); refine bx (N := 1) (cs := #[.int .i64 ay, .int .i64 az, .int .i64 aA, .string aB, .string aC, .int .i64 aD]) (t := 59) ?_; intro Z hg fa hbox hb; have j := am hbox; have ax := gA hg HB; replace HB := hA HB hb; clear hb hbox hg; obtain ⟨d2, d3, d4, d5, d6, d7, d8, d9, ea, eb, ec, ed⟩ := cf6 j) | ((with_reducible refine gate_callee (f := 76) rfl ?_); refine gM (some 5) Try.func76 (impl_CommandOk.calls k ay az aA aB aC aD false _ A2.out) ?_; rintro fb hb; replace j := bA j hb; replace HB := De1 HB ax hb))
  go_ret2
  exact ⟨B35x17_, (Ae1 HB ax)⟩

def impl_scan_one.f (ba : ByteArray) (a7 : Int) (cl : Bool) : Option (Int × ByteArray × Int × Bool) := if cl = true then (some (0, ba, a7, true)) else (if a7 ≥ (ba.size : Int) then (some (0, ba, a7, true)) else (if 0 ≤ (wrap64 ((wrap64 (a7 + 1)) - 1)) then (if (wrap64 ((wrap64 (a7 + 1)) - 1)) < (ba.size : Int) then (some (wrap64 (bt ba (wrap64 ((wrap64 (a7 + 1)) - 1))), ba, wrap64 (a7 + 1), cl)) else (none)) else (none)))
theorem impl_scan_one.calls (g : Nat) (ba : ByteArray) (a7 : Int) (cl : Bool) (r1 : Int) (r2 : ByteArray) (r3 : Int) (r4 : Bool) (w0 w : World) (hI : IsS92 w0 w g ba a7 cl) (hB : Below w0.heap.size w0 w) (h : impl_scan_one.f ba a7 cl = some (r1, r2, r3, r4)) :
  Calls Try.prog 78 #[.pointer (some ⟨g, 0, none⟩)] w fun e w' => e = .returned (.int .i64 r1) ∧ IsS92 w0 w' g r2 r3 r4 ∧ Below w0.heap.size w0 w' ∧ KeepBut w w' g none := by
 have bq := am hI
 have HK := am (KeepBut.refl w g none)
 have HL := am hB.size
 clear hI
 have ee := am hB.size
 have HB := am hB
 clear hB
 have a3 := h
 clear h
 unfold impl_scan_one.f at a3
 obtain ⟨rfl, a1⟩ | ⟨rfl, a1⟩ := sb a3
 ·obtain ⟨rfl, rfl, rfl, rfl⟩ := s4 a1; clear a1 a3; obtain ⟨b0, dU⟩ := bq.out; have fw := cellS92_0 b0; have fx := cellS92_1 b0; have fy := cellS92_2 b0; obtain ⟨fF, fG, fH⟩ := fr3 b0; clear b0 dU; go_enter Try.func78, Try.ntmps78
  go_wp2
  repeat (go_quiet (fail); try go_wp2)
  go_ret; exact ⟨B35x17_, B35x23_, (Ae1 HB (IsS92.gf bq)), (Ak0 HK)⟩
 ·obtain ⟨c4, aF⟩ | ⟨c4, aF⟩ := sp a1
  ·have dM : decide ((ba.size : Int) ≤ a7) = true := decide_eq_true c4
   clear c4; obtain ⟨rfl, rfl, rfl, rfl⟩ := s4 aF; clear aF a3 a1; obtain ⟨b1, dV⟩ := bq.out; have fz := cellS92_0 b1; have fA := cellS92_1 b1; have fB := cellS92_2 b1; obtain ⟨fI, fJ, fK⟩ := fr3 b1; clear b1 dV; go_enter Try.func78, Try.ntmps78
   go_wp2
   repeat (go_quiet (fail); try go_wp2)
   go_ret; exact ⟨B35x17_, B35x23_, (Ae1 HB (IsS92.gf bq)), (Ak0 HK)⟩
  ·have dM : decide ((ba.size : Int) ≤ a7) = false := decide_eq_false c4
   clear c4; obtain ⟨co, cn⟩ : ∃ j_ : Int, (wrap64 ((wrap64 (a7 + 1)) - 1)) = j_ := ⟨_, rfl⟩
   (first | rw [cn] at aF | simp only [cn] at aF)
   have eG : (IntKind.i64.wrap ((wrap64 (a7 + 1)) - 1)) = co := (i64_w _).trans cn
   obtain ⟨ek, a4⟩ := yd aF; obtain ⟨dP, be⟩ := yd a4; obtain ⟨rfl, rfl, rfl, rfl⟩ := s4 be; clear be a3 a1 aF a4; obtain ⟨bZ, dT⟩ := bq.out; have ft := cellS92_0 bZ; have fu := cellS92_1 bZ; have fv := cellS92_2 bZ; obtain ⟨fC, fD, fE⟩ := fr3 bZ; clear bZ dT
   have p9 : 0 ≤ ((co) : Int) := dga
   have q9 : (co) < (ba.size : Int) := dga
   have e0 := bt_at ba (co); replace p9 := eq_true p9; replace q9 := eq_true q9; go_enter Try.func78, Try.ntmps78
   go_wp2
   repeat (go_quiet (fail); try go_wp2)
   go_ret
   exact ⟨(by first | rfl | (simp [errW_none, errW_some] <;> rfl) | (simp only [← cn]; first | rfl | (simp [errW_none, errW_some] <;> rfl)) | (simp [*, errW_none, errW_some] <;> rfl)), B35x23_, (Ae1 HB (IsS92.gf bq)), (Ak0 HK)⟩

def impl_ReadCommand.f (k : Nat) (a0 : ByteArray) : Option (Int × Int × Int × ByteArray × ByteArray × Int × Bool) := (impl_scan_one.f a0 0 false).bind fun b3 => ((impl_scan_number.f k b3.2.1 b3.2.2.1 b3.2.2.2).bind fun b4 => ((impl_scan_number.f k b4.2.1 b4.2.2.1 b4.2.2.2).bind fun b5 => ((impl_scan_short.f k b5.2.1 b5.2.2.1 b5.2.2.2).bind fun b6 => ((impl_scan_short.f k b6.2.1 b6.2.2.1 b6.2.2.2).bind fun b7 => ((impl_scan_number.f k b7.2.1 b7.2.2.1 b7.2.2.2).bind fun b8 => ((impl_scan_done.f b8.2.1 b8.2.2.1 b8.2.2.2).bind fun dJ => (if dJ.1 = true then ((impl_CommandOk.f k b3.1 b4.1 b5.1 b6.1 b7.1 b8.1).bind fun dp => (if dp = true then (some (b3.1, b4.1, b5.1, b6.1, b7.1, b8.1, true)) else (some (0, 0, 0, (⟨#[]⟩ : ByteArray), (⟨#[]⟩ : ByteArray), 0, false)))) else (some (0, 0, 0, (⟨#[]⟩ : ByteArray), (⟨#[]⟩ : ByteArray), 0, false)))))))))
theorem impl_ReadCommand.calls (k : Nat) (a0 : ByteArray) (r1 : Int) (r2 : Int) (r3 : Int) (r4 : ByteArray) (r5 : ByteArray) (r6 : Int) (r7 : Bool) (w : World) (h : impl_ReadCommand.f k a0 = some (r1, r2, r3, r4, r5, r6, r7)) :
  Calls Try.prog 33 #[.string a0] w fun e w' => e = .returned (.tuple #[.agg #[.int .i64 r1, .int .i64 r2, .int .i64 r3, .string r4, .string r5, .int .i64 r6], .bool r7]) ∧ Below w.heap.size w w' := by
 have dW := Try.underlying59
 have eZ := Try.underlying92
 have HB := am (Below.refl w.heap.size w)
 have a3 := h
 clear h
 unfold impl_ReadCommand.f at a3
 obtain ⟨⟨al, bE, bF, bG⟩, A2, a1⟩ := bsi a3
 (try dsimp only at a1)
 obtain ⟨⟨aw, bH, bI, bJ⟩, A3, aF⟩ := bsi a1
 (try dsimp only at aF)
 obtain ⟨⟨aG, bK, bL, bM⟩, A4, a4⟩ := bsi aF
 (try dsimp only at a4)
 obtain ⟨⟨aY, bN, bO, bP⟩, A5, be⟩ := bsi a4
 (try dsimp only at be)
 obtain ⟨⟨a2, bQ, bR, bS⟩, A6, bh⟩ := bsi be
 (try dsimp only at bh)
 obtain ⟨⟨a8, bT, bU, bV⟩, A7, bm⟩ := bsi bh
 (try dsimp only at bm)
 obtain ⟨⟨e1, bW, bX, bY⟩, A8, bi⟩ := bsi bm
 (try dsimp only at bi)
 obtain ⟨rfl, bk⟩ | ⟨rfl, bk⟩ := sb bi
 ·obtain ⟨dp, cy, bz⟩ := bsi bk; (try dsimp only at bz)
  obtain ⟨rfl, b2⟩ | ⟨rfl, b2⟩ := sb bz
  ·obtain ⟨rfl, rfl, rfl, rfl, rfl, rfl, rfl⟩ := s7 b2; clear b2 a3 a1 aF a4 be bh bm bi bk bz; go_enter Try.func33, Try.ntmps33
   go_wp2_with (first | ((with_reducible refine gate_dst (N := 2) rfl ?_); refine bx (N := 2) (cs := #[.int .i64 0, .int .i64 0, .int .i64 0, .string (⟨#[]⟩ : ByteArray), .string (⟨#[]⟩ : ByteArray), .int .i64 0]) (t := 59) ?_; intro J hg e3 hbox hb; have l := am hbox; have ad := gA hg HB; replace HB := hA HB hb; clear hb hbox hg) | ((with_reducible refine gate_dst (N := 8) rfl ?_); refine bx (N := 8) (cs := #[.string a0, .int .i64 0, .bool false]) (t := 92) ?_; intro aj hg dq hbox hb; have aU := am hbox; have bd := gA hg HB; replace HB := De1 HB ad hb; have ar := nA hg l; have bD := mA hg l; replace l := bA l hb; clear hb hbox hg) | ((with_reducible refine gate_dst (N := 5) rfl ?_); refine bx (N := 5) (cs := #[.int .i64 0, .int .i64 0, .int .i64 0, .string (⟨#[]⟩ : ByteArray), .string (⟨#[]⟩ : ByteArray), .int .i64 0]) (t := 59) ?_; intro aa hg dr hbox hb; have q := am hbox; have ah := gA hg HB; replace HB := De2 HB ad bd hb; have au := nA hg l; have bu := mA hg l; replace l := bA l hb; have bn := nA hg aU; have av := mA hg aU; replace aU := bA aU hb; clear hb hbox hg; have eH := bu.out; have eQ := au.out; have eI := av.out; have eR := bn.out; obtain ⟨aH, aI, aJ, aK, aL, aM, aN, aO, aP, aQ, aR, aS⟩ := cf6 q) | ((with_reducible refine gate_store (t := 59) (p := 5) rfl ?_); refine store_event (t := 59) (p := 5) (v := ?vo_w18) (w1 := ((((((dr.setCell ⟨aa, 0, none⟩ (.int .i64 0)).setCell ⟨aa, 1, none⟩ (.int .i64 0)).setCell ⟨aa, 2, none⟩ (.int .i64 0)).setCell ⟨aa, 3, none⟩ (.string (⟨#[]⟩ : ByteArray))).setCell ⟨aa, 4, none⟩ (.string (⟨#[]⟩ : ByteArray))).setCell ⟨aa, 5, none⟩ (.int .i64 0))) ?hg ?ho ?hn ?hr ?_; (case ho => rfl); (case hg => rfl); (case hn => rfl); (case hr => exact gs_); intro cp hw; replace l : Hc cp J #[.int .i64 0, .int .i64 0, .int .i64 0, .string (⟨#[]⟩ : ByteArray), .string (⟨#[]⟩ : ByteArray), .int .i64 0] 59 := ⟨wAp1 l au⟩; replace aU : Hc cp aj #[.string a0, .int .i64 0, .bool false] 92 := ⟨wAp1 aU bn⟩; replace q : Hc cp aa #[.int .i64 0, .int .i64 0, .int .i64 0, .string (⟨#[]⟩ : ByteArray), .string (⟨#[]⟩ : ByteArray), .int .i64 0] 59 := ⟨wAp0 q⟩; replace HB : Hb w cp := ⟨wAe3 HB ad bd ah⟩; clear hw) | ((with_reducible refine gate_callee (f := 78) rfl ?_); refine gM (some 11) Try.func78 (impl_scan_one.calls aj a0 0 false al bE bF bG w _ B35x28_ (Ae3 HB ad bd ah) A2.out) ?_; rintro cq ⟨hi, hb, hk⟩; replace l := kA hk l ar; replace q := kA hk q av; replace HB := am hb; have z := am hi; obtain ⟨aH, aI, aJ, aK, aL, aM, aN, aO, aP, aQ, aR, aS⟩ := cf6 q) | ((with_reducible refine gate_callee (f := 67) rfl ?_); refine gM (some 14) Try.func67 (impl_scan_number.calls k aj bE bF bG aw bH bI bJ w _ B35x1_ (Ae3 HB (IsS92.gf z) ad ah) A3.out) ?_; rintro e4 ⟨hi, hb, hk⟩; replace l := am (KeepBut.blk hk (g' := J) (o := .cells #[.int .i64 0, .int .i64 0, .int .i64 0, .string (⟨#[]⟩ : ByteArray), .string (⟨#[]⟩ : ByteArray), .int .i64 0] 59 (0, 0)) (Ap1 l au) ar.out (by simp)); replace q := am (KeepBut.blk hk (g' := aa) (o := .cells #[.int .i64 al, .int .i64 0, .int .i64 0, .string (⟨#[]⟩ : ByteArray), .string (⟨#[]⟩ : ByteArray), .int .i64 0] 59 (0, 0)) (Ap0 q) av.out (by simp)); replace HB := am hb; replace z := am hi; obtain ⟨aH, aI, aJ, aK, aL, aM, aN, aO, aP, aQ, aR, aS⟩ := cf6 q) | ((with_reducible refine gate_callee (f := 67) rfl ?_); refine gM (some 17) Try.func67 (impl_scan_number.calls k aj bH bI bJ aG bK bL bM w _ B35x1_ (Ae3 HB (IsS92.gf z) ad ah) A4.out) ?_; rintro cx ⟨hi, hb, hk⟩; replace l := am (KeepBut.blk hk (g' := J) (o := .cells #[.int .i64 0, .int .i64 0, .int .i64 0, .string (⟨#[]⟩ : ByteArray), .string (⟨#[]⟩ : ByteArray), .int .i64 0] 59 (0, 0)) (Ap1 l au) ar.out (by simp)); replace q := am (KeepBut.blk hk (g' := aa) (o := .cells #[.int .i64 al, .int .i64 aw, .int .i64 0, .string (⟨#[]⟩ : ByteArray), .string (⟨#[]⟩ : ByteArray), .int .i64 0] 59 (0, 0)) (Ap0 q) av.out (by simp)); replace HB := am hb; replace z := am hi; obtain ⟨aH, aI, aJ, aK, aL, aM, aN, aO, aP, aQ, aR, aS⟩ := cf6 q) | ((with_reducible refine gate_callee (f := 68) rfl ?_); refine gM (some 20) Try.func68 (impl_scan_short.calls k aj bK bL bM aY bN bO bP w _ B35x1_ (Ae3 HB (IsS92.gf z) ad ah) A5.out) ?_; rintro e5 ⟨hi, hb, hk⟩; replace l := am (KeepBut.blk hk (g' := J) (o := .cells #[.int .i64 0, .int .i64 0, .int .i64 0, .string (⟨#[]⟩ : ByteArray), .string (⟨#[]⟩ : ByteArray), .int .i64 0] 59 (0, 0)) (Ap1 l au) ar.out (by simp)); replace q := am (KeepBut.blk hk (g' := aa) (o := .cells #[.int .i64 al, .int .i64 aw, .int .i64 aG, .string (⟨#[]⟩ : ByteArray), .string (⟨#[]⟩ : ByteArray), .int .i64 0] 59 (0, 0)) (Ap0 q) av.out (by simp)); replace HB := am hb; replace z := am hi; obtain ⟨aH, aI, aJ, aK, aL, aM, aN, aO, aP, aQ, aR, aS⟩ := cf6 q) | ((with_reducible refine gate_callee (f := 68) rfl ?_); refine gM (some 23) Try.func68 (impl_scan_short.calls k aj bN bO bP a2 bQ bR bS w _ B35x1_ (Ae3 HB (IsS92.gf z) ad ah) A6.out) ?_; rintro ds ⟨hi, hb, hk⟩; replace l := am (KeepBut.blk hk (g' := J) (o := .cells #[.int .i64 0, .int .i64 0, .int .i64 0, .string (⟨#[]⟩ : ByteArray), .string (⟨#[]⟩ : ByteArray), .int .i64 0] 59 (0, 0)) (Ap1 l au) ar.out (by simp)); replace q := am (KeepBut.blk hk (g' := aa) (o := .cells #[.int .i64 al, .int .i64 aw, .int .i64 aG, .string aY, .string (⟨#[]⟩ : ByteArray), .int .i64 0] 59 (0, 0)) (Ap0 q) av.out (by simp)); replace HB := am hb; replace z := am hi; obtain ⟨aH, aI, aJ, aK, aL, aM, aN, aO, aP, aQ, aR, aS⟩ := cf6 q) | ((with_reducible refine gate_callee (f := 67) rfl ?_); refine gM (some 26) Try.func67 (impl_scan_number.calls k aj bQ bR bS a8 bT bU bV w _ B35x1_ (Ae3 HB (IsS92.gf z) ad ah) A7.out) ?_; rintro e6 ⟨hi, hb, hk⟩; replace l := am (KeepBut.blk hk (g' := J) (o := .cells #[.int .i64 0, .int .i64 0, .int .i64 0, .string (⟨#[]⟩ : ByteArray), .string (⟨#[]⟩ : ByteArray), .int .i64 0] 59 (0, 0)) (Ap1 l au) ar.out (by simp)); replace q := am (KeepBut.blk hk (g' := aa) (o := .cells #[.int .i64 al, .int .i64 aw, .int .i64 aG, .string aY, .string a2, .int .i64 0] 59 (0, 0)) (Ap0 q) av.out (by simp)); replace HB := am hb; replace z := am hi; obtain ⟨aH, aI, aJ, aK, aL, aM, aN, aO, aP, aQ, aR, aS⟩ := cf6 q) | ((with_reducible refine gate_callee (f := 69) rfl ?_); refine gM (some 29) Try.func69 (impl_scan_done.calls aj bT bU bV true bW bX bY w _ B35x1_ (Ae3 HB (IsS92.gf z) ad ah) A8.out) ?_; rintro dt ⟨hi, hb, hk⟩; replace l := am (KeepBut.blk hk (g' := J) (o := .cells #[.int .i64 0, .int .i64 0, .int .i64 0, .string (⟨#[]⟩ : ByteArray), .string (⟨#[]⟩ : ByteArray), .int .i64 0] 59 (0, 0)) (Ap1 l au) ar.out (by simp)); replace q := am (KeepBut.blk hk (g' := aa) (o := .cells #[.int .i64 al, .int .i64 aw, .int .i64 aG, .string aY, .string a2, .int .i64 a8] 59 (0, 0)) (Ap0 q) av.out (by simp)); replace HB := am hb; replace z := am hi; obtain ⟨aH, aI, aJ, aK, aL, aM, aN, aO, aP, aQ, aR, aS⟩ := cf6 q) | (go_at_call 76; refine (impl_CommandOk.calls k al aw aG aY a2 a8 true _ cy.out).mono ?_; rintro e dX ⟨rfl, hb⟩; replace l := bA l hb; replace q := bA q hb; replace HB := De3 HB (IsS92.gf z) ad ah hb; replace z := am (IsS92.below B35x1_ hb); obtain ⟨aH, aI, aJ, aK, aL, aM, aN, aO, aP, aQ, aR, aS⟩ := cf6 q; have eJ := ar.out; have eS := bD.out; obtain ⟨du, dv, dw, dx, dy, dz, dB, dC, dD, dE, dF, dG⟩ := cf6 l) | ((with_reducible refine gate_store (t := 59) (p := 2) rfl ?_); refine store_event (t := 59) (p := 2) (v := ?vo_w37) (w1 := ((((((dX.setCell ⟨J, 0, none⟩ (.int .i64 al)).setCell ⟨J, 1, none⟩ (.int .i64 aw)).setCell ⟨J, 2, none⟩ (.int .i64 aG)).setCell ⟨J, 3, none⟩ (.string aY)).setCell ⟨J, 4, none⟩ (.string a2)).setCell ⟨J, 5, none⟩ (.int .i64 a8))) ?hg ?ho ?hn ?hr ?_; (case ho => rfl); (case hg => rfl); (case hn => rfl); (case hr => exact gs_); intro cr hw; replace l : Hc cr J #[.int .i64 al, .int .i64 aw, .int .i64 aG, .string aY, .string a2, .int .i64 a8] 59 := ⟨wAp0 l⟩; replace q : Hc cr aa #[.int .i64 al, .int .i64 aw, .int .i64 aG, .string aY, .string a2, .int .i64 a8] 59 := ⟨wAp1 q bu⟩; replace HB : Hb w cr := ⟨wAe3 HB (IsS92.gf z) ad ah⟩; replace z : Aside0 (IsS92 w cr aj bW bX bY) := ⟨(by rw [hw]; exact B35x1_)⟩; clear hw))
   refine bodyPost_ret (results_ct rfl _ _ J 59 #[.int .i64 al, .int .i64 aw, .int .i64 aG, .string aY, .string a2, .int .i64 a8] (0, 0) _ rfl (Ab l) Try.underlying59 rfl gk_) rfl ?_; exact ⟨B35x17_, (Ae3 HB (IsS92.gf z) ad ah)⟩
  obtain ⟨rfl, rfl, rfl, rfl, rfl, rfl, rfl⟩ := s7 b2; clear b2 a3 a1 aF a4 be bh bm bi bk bz; go_enter Try.func33, Try.ntmps33
  go_wp2_with (first | ((with_reducible refine gate_dst (N := 2) rfl ?_); refine bx (N := 2) (cs := #[.int .i64 0, .int .i64 0, .int .i64 0, .string (⟨#[]⟩ : ByteArray), .string (⟨#[]⟩ : ByteArray), .int .i64 0]) (t := 59) ?_; intro J hg fc hbox hb; have l := am hbox; have ad := gA hg HB; replace HB := hA HB hb; clear hb hbox hg) | ((with_reducible refine gate_dst (N := 8) rfl ?_); refine bx (N := 8) (cs := #[.string a0, .int .i64 0, .bool false]) (t := 92) ?_; intro aj hg fd hbox hb; have aU := am hbox; have bd := gA hg HB; replace HB := De1 HB ad hb; have ar := nA hg l; have bD := mA hg l; replace l := bA l hb; clear hb hbox hg) | ((with_reducible refine gate_dst (N := 5) rfl ?_); refine bx (N := 5) (cs := #[.int .i64 0, .int .i64 0, .int .i64 0, .string (⟨#[]⟩ : ByteArray), .string (⟨#[]⟩ : ByteArray), .int .i64 0]) (t := 59) ?_; intro aa hg dY hbox hb; have q := am hbox; have ah := gA hg HB; replace HB := De2 HB ad bd hb; have au := nA hg l; have bu := mA hg l; replace l := bA l hb; have bn := nA hg aU; have av := mA hg aU; replace aU := bA aU hb; clear hb hbox hg; have eK := bu.out; have eT := au.out; have eL := av.out; have eU := bn.out; obtain ⟨aH, aI, aJ, aK, aL, aM, aN, aO, aP, aQ, aR, aS⟩ := cf6 q) | ((with_reducible refine gate_store (t := 59) (p := 5) rfl ?_); refine store_event (t := 59) (p := 5) (v := ?vo_w44) (w1 := ((((((dY.setCell ⟨aa, 0, none⟩ (.int .i64 0)).setCell ⟨aa, 1, none⟩ (.int .i64 0)).setCell ⟨aa, 2, none⟩ (.int .i64 0)).setCell ⟨aa, 3, none⟩ (.string (⟨#[]⟩ : ByteArray))).setCell ⟨aa, 4, none⟩ (.string (⟨#[]⟩ : ByteArray))).setCell ⟨aa, 5, none⟩ (.int .i64 0))) ?hg ?ho ?hn ?hr ?_; (case ho => rfl); (case hg => rfl); (case hn => rfl); (case hr => exact gs_); intro ct hw; replace l : Hc ct J #[.int .i64 0, .int .i64 0, .int .i64 0, .string (⟨#[]⟩ : ByteArray), .string (⟨#[]⟩ : ByteArray), .int .i64 0] 59 := ⟨wAp1 l au⟩; replace aU : Hc ct aj #[.string a0, .int .i64 0, .bool false] 92 := ⟨wAp1 aU bn⟩; replace q : Hc ct aa #[.int .i64 0, .int .i64 0, .int .i64 0, .string (⟨#[]⟩ : ByteArray), .string (⟨#[]⟩ : ByteArray), .int .i64 0] 59 := ⟨wAp0 q⟩; replace HB : Hb w ct := ⟨wAe3 HB ad bd ah⟩; clear hw) | ((with_reducible refine gate_callee (f := 78) rfl ?_); refine gM (some 11) Try.func78 (impl_scan_one.calls aj a0 0 false al bE bF bG w _ B35x28_ (Ae3 HB ad bd ah) A2.out) ?_; rintro fe ⟨hi, hb, hk⟩; replace l := kA hk l ar; replace q := kA hk q av; replace HB := am hb; have z := am hi; obtain ⟨aH, aI, aJ, aK, aL, aM, aN, aO, aP, aQ, aR, aS⟩ := cf6 q) | ((with_reducible refine gate_callee (f := 67) rfl ?_); refine gM (some 14) Try.func67 (impl_scan_number.calls k aj bE bF bG aw bH bI bJ w _ B35x1_ (Ae3 HB (IsS92.gf z) ad ah) A3.out) ?_; rintro ff ⟨hi, hb, hk⟩; replace l := am (KeepBut.blk hk (g' := J) (o := .cells #[.int .i64 0, .int .i64 0, .int .i64 0, .string (⟨#[]⟩ : ByteArray), .string (⟨#[]⟩ : ByteArray), .int .i64 0] 59 (0, 0)) (Ap1 l au) ar.out (by simp)); replace q := am (KeepBut.blk hk (g' := aa) (o := .cells #[.int .i64 al, .int .i64 0, .int .i64 0, .string (⟨#[]⟩ : ByteArray), .string (⟨#[]⟩ : ByteArray), .int .i64 0] 59 (0, 0)) (Ap0 q) av.out (by simp)); replace HB := am hb; replace z := am hi; obtain ⟨aH, aI, aJ, aK, aL, aM, aN, aO, aP, aQ, aR, aS⟩ := cf6 q) | ((with_reducible refine gate_callee (f := 67) rfl ?_); refine gM (some 17) Try.func67 (impl_scan_number.calls k aj bH bI bJ aG bK bL bM w _ B35x1_ (Ae3 HB (IsS92.gf z) ad ah) A4.out) ?_; rintro fg ⟨hi, hb, hk⟩; replace l := am (KeepBut.blk hk (g' := J) (o := .cells #[.int .i64 0, .int .i64 0, .int .i64 0, .string (⟨#[]⟩ : ByteArray), .string (⟨#[]⟩ : ByteArray), .int .i64 0] 59 (0, 0)) (Ap1 l au) ar.out (by simp)); replace q := am (KeepBut.blk hk (g' := aa) (o := .cells #[.int .i64 al, .int .i64 aw, .int .i64 0, .string (⟨#[]⟩ : ByteArray), .string (⟨#[]⟩ : ByteArray), .int .i64 0] 59 (0, 0)) (Ap0 q) av.out (by simp)); replace HB := am hb; replace z := am hi; obtain ⟨aH, aI, aJ, aK, aL, aM, aN, aO, aP, aQ, aR, aS⟩ := cf6 q) | ((with_reducible refine gate_callee (f := 68) rfl ?_); refine gM (some 20) Try.func68 (impl_scan_short.calls k aj bK bL bM aY bN bO bP w _ B35x1_ (Ae3 HB (IsS92.gf z) ad ah) A5.out) ?_; rintro fh ⟨hi, hb, hk⟩; replace l := am (KeepBut.blk hk (g' := J) (o := .cells #[.int .i64 0, .int .i64 0, .int .i64 0, .string (⟨#[]⟩ : ByteArray), .string (⟨#[]⟩ : ByteArray), .int .i64 0] 59 (0, 0)) (Ap1 l au) ar.out (by simp)); replace q := am (KeepBut.blk hk (g' := aa) (o := .cells #[.int .i64 al, .int .i64 aw, .int .i64 aG, .string (⟨#[]⟩ : ByteArray), .string (⟨#[]⟩ : ByteArray), .int .i64 0] 59 (0, 0)) (Ap0 q) av.out (by simp)); replace HB := am hb; replace z := am hi; obtain ⟨aH, aI, aJ, aK, aL, aM, aN, aO, aP, aQ, aR, aS⟩ := cf6 q) | ((with_reducible refine gate_callee (f := 68) rfl ?_); refine gM (some 23) Try.func68 (impl_scan_short.calls k aj bN bO bP a2 bQ bR bS w _ B35x1_ (Ae3 HB (IsS92.gf z) ad ah) A6.out) ?_; rintro fi ⟨hi, hb, hk⟩; replace l := am (KeepBut.blk hk (g' := J) (o := .cells #[.int .i64 0, .int .i64 0, .int .i64 0, .string (⟨#[]⟩ : ByteArray), .string (⟨#[]⟩ : ByteArray), .int .i64 0] 59 (0, 0)) (Ap1 l au) ar.out (by simp)); replace q := am (KeepBut.blk hk (g' := aa) (o := .cells #[.int .i64 al, .int .i64 aw, .int .i64 aG, .string aY, .string (⟨#[]⟩ : ByteArray), .int .i64 0] 59 (0, 0)) (Ap0 q) av.out (by simp)); replace HB := am hb; replace z := am hi; obtain ⟨aH, aI, aJ, aK, aL, aM, aN, aO, aP, aQ, aR, aS⟩ := cf6 q) | ((with_reducible refine gate_callee (f := 67) rfl ?_); refine gM (some 26) Try.func67 (impl_scan_number.calls k aj bQ bR bS a8 bT bU bV w _ B35x1_ (Ae3 HB (IsS92.gf z) ad ah) A7.out) ?_; rintro fj ⟨hi, hb, hk⟩; replace l := am (KeepBut.blk hk (g' := J) (o := .cells #[.int .i64 0, .int .i64 0, .int .i64 0, .string (⟨#[]⟩ : ByteArray), .string (⟨#[]⟩ : ByteArray), .int .i64 0] 59 (0, 0)) (Ap1 l au) ar.out (by simp)); replace q := am (KeepBut.blk hk (g' := aa) (o := .cells #[.int .i64 al, .int .i64 aw, .int .i64 aG, .string aY, .string a2, .int .i64 0] 59 (0, 0)) (Ap0 q) av.out (by simp)); replace HB := am hb; replace z := am hi; obtain ⟨aH, aI, aJ, aK, aL, aM, aN, aO, aP, aQ, aR, aS⟩ := cf6 q) | ((with_reducible refine gate_callee (f := 69) rfl ?_); refine gM (some 29) Try.func69 (impl_scan_done.calls aj bT bU bV true bW bX bY w _ B35x1_ (Ae3 HB (IsS92.gf z) ad ah) A8.out) ?_; rintro fk ⟨hi, hb, hk⟩; replace l := am (KeepBut.blk hk (g' := J) (o := .cells #[.int .i64 0, .int .i64 0, .int .i64 0, .string (⟨#[]⟩ : ByteArray), .string (⟨#[]⟩ : ByteArray), .int .i64 0] 59 (0, 0)) (Ap1 l au) ar.out (by simp)); replace q := am (KeepBut.blk hk (g' := aa) (o := .cells #[.int .i64 al, .int .i64 aw, .int .i64 aG, .string aY, .string a2, .int .i64 a8] 59 (0, 0)) (Ap0 q) av.out (by simp)); replace HB := am hb; replace z := am hi; obtain ⟨aH, aI, aJ, aK, aL, aM, aN, aO, aP, aQ, aR, aS⟩ := cf6 q) | (go_at_call 76; refine (impl_CommandOk.calls k al aw aG aY a2 a8 false _ cy.out).mono ?_; rintro e dZ ⟨rfl, hb⟩; replace l := bA l hb; replace q := bA q hb; replace HB := De3 HB (IsS92.gf z) ad ah hb; replace z := am (IsS92.below B35x1_ hb); have eM := ar.out; have eV := bD.out; obtain ⟨du, dv, dw, dx, dy, dz, dB, dC, dD, dE, dF, dG⟩ := cf6 l) | ((with_reducible refine gate_store (t := 59) (p := 2) rfl ?_); refine store_event (t := 59) (p := 2) (v := ?vo_w62) (w1 := ((((((dZ.setCell ⟨J, 0, none⟩ (.int .i64 0)).setCell ⟨J, 1, none⟩ (.int .i64 0)).setCell ⟨J, 2, none⟩ (.int .i64 0)).setCell ⟨J, 3, none⟩ (.string (⟨#[]⟩ : ByteArray))).setCell ⟨J, 4, none⟩ (.string (⟨#[]⟩ : ByteArray))).setCell ⟨J, 5, none⟩ (.int .i64 0))) ?hg ?ho ?hn ?hr ?_; (case ho => rfl); (case hg => rfl); (case hn => rfl); (case hr => exact gs_); intro cu hw; replace l : Hc cu J #[.int .i64 0, .int .i64 0, .int .i64 0, .string (⟨#[]⟩ : ByteArray), .string (⟨#[]⟩ : ByteArray), .int .i64 0] 59 := ⟨wAp0 l⟩; replace q : Hc cu aa #[.int .i64 al, .int .i64 aw, .int .i64 aG, .string aY, .string a2, .int .i64 a8] 59 := ⟨wAp1 q bu⟩; replace HB : Hb w cu := ⟨wAe3 HB (IsS92.gf z) ad ah⟩; replace z : Aside0 (IsS92 w cu aj bW bX bY) := ⟨(by rw [hw]; exact B35x1_)⟩; clear hw))
  refine bodyPost_ret (results_ct rfl _ _ J 59 #[.int .i64 0, .int .i64 0, .int .i64 0, .string (⟨#[]⟩ : ByteArray), .string (⟨#[]⟩ : ByteArray), .int .i64 0] (0, 0) _ rfl (Ab l) Try.underlying59 rfl gk_) rfl ?_; exact ⟨B35x17_, (Ae3 HB (IsS92.gf z) ad ah)⟩
 obtain ⟨rfl, rfl, rfl, rfl, rfl, rfl, rfl⟩ := s7 bk
 clear bk a3 a1 aF a4 be bh bm bi
 go_enter Try.func33, Try.ntmps33
 go_wp2_with (first | ((with_reducible refine gate_dst (N := 2) rfl ?_); refine bx (N := 2) (cs := #[.int .i64 0, .int .i64 0, .int .i64 0, .string (⟨#[]⟩ : ByteArray), .string (⟨#[]⟩ : ByteArray), .int .i64 0]) (t := 59) ?_; intro J hg fl hbox hb; have l := am hbox; have ad := gA hg HB; replace HB := hA HB hb; clear hb hbox hg) | ((with_reducible refine gate_dst (N := 8) rfl ?_); refine bx (N := 8) (cs := #[.string a0, .int .i64 0, .bool false]) (t := 92) ?_; intro aj hg fm hbox hb; have aU := am hbox; have bd := gA hg HB; replace HB := De1 HB ad hb; have ar := nA hg l; have bD := mA hg l; replace l := bA l hb; clear hb hbox hg) | ((with_reducible refine gate_dst (N := 5) rfl ?_); refine bx (N := 5) (cs := #[.int .i64 0, .int .i64 0, .int .i64 0, .string (⟨#[]⟩ : ByteArray), .string (⟨#[]⟩ : ByteArray), .int .i64 0]) (t := 59) ?_; intro aa hg d0 hbox hb; have q := am hbox; have ah := gA hg HB; replace HB := De2 HB ad bd hb; have au := nA hg l; have bu := mA hg l; replace l := bA l hb; have bn := nA hg aU; have av := mA hg aU; replace aU := bA aU hb; clear hb hbox hg; have eN := bu.out; have eW := au.out; have eO := av.out; have eX := bn.out; obtain ⟨aH, aI, aJ, aK, aL, aM, aN, aO, aP, aQ, aR, aS⟩ := cf6 q) | ((with_reducible refine gate_store (t := 59) (p := 5) rfl ?_); refine store_event (t := 59) (p := 5) (v := ?vo_w69) (w1 := ((((((d0.setCell ⟨aa, 0, none⟩ (.int .i64 0)).setCell ⟨aa, 1, none⟩ (.int .i64 0)).setCell ⟨aa, 2, none⟩ (.int .i64 0)).setCell ⟨aa, 3, none⟩ (.string (⟨#[]⟩ : ByteArray))).setCell ⟨aa, 4, none⟩ (.string (⟨#[]⟩ : ByteArray))).setCell ⟨aa, 5, none⟩ (.int .i64 0))) ?hg ?ho ?hn ?hr ?_; (case ho => rfl); (case hg => rfl); (case hn => rfl); (case hr => exact gs_); intro cv hw; replace l : Hc cv J #[.int .i64 0, .int .i64 0, .int .i64 0, .string (⟨#[]⟩ : ByteArray), .string (⟨#[]⟩ : ByteArray), .int .i64 0] 59 := ⟨wAp1 l au⟩; replace aU : Hc cv aj #[.string a0, .int .i64 0, .bool false] 92 := ⟨wAp1 aU bn⟩; replace q : Hc cv aa #[.int .i64 0, .int .i64 0, .int .i64 0, .string (⟨#[]⟩ : ByteArray), .string (⟨#[]⟩ : ByteArray), .int .i64 0] 59 := ⟨wAp0 q⟩; replace HB : Hb w cv := ⟨wAe3 HB ad bd ah⟩; clear hw) | ((with_reducible refine gate_callee (f := 78) rfl ?_); refine gM (some 11) Try.func78 (impl_scan_one.calls aj a0 0 false al bE bF bG w _ B35x28_ (Ae3 HB ad bd ah) A2.out) ?_; rintro fn ⟨hi, hb, hk⟩; replace l := kA hk l ar; replace q := kA hk q av; replace HB := am hb; have z := am hi; obtain ⟨aH, aI, aJ, aK, aL, aM, aN, aO, aP, aQ, aR, aS⟩ := cf6 q) | ((with_reducible refine gate_callee (f := 67) rfl ?_); refine gM (some 14) Try.func67 (impl_scan_number.calls k aj bE bF bG aw bH bI bJ w _ B35x1_ (Ae3 HB (IsS92.gf z) ad ah) A3.out) ?_; rintro fo ⟨hi, hb, hk⟩; replace l := am (KeepBut.blk hk (g' := J) (o := .cells #[.int .i64 0, .int .i64 0, .int .i64 0, .string (⟨#[]⟩ : ByteArray), .string (⟨#[]⟩ : ByteArray), .int .i64 0] 59 (0, 0)) (Ap1 l au) ar.out (by simp)); replace q := am (KeepBut.blk hk (g' := aa) (o := .cells #[.int .i64 al, .int .i64 0, .int .i64 0, .string (⟨#[]⟩ : ByteArray), .string (⟨#[]⟩ : ByteArray), .int .i64 0] 59 (0, 0)) (Ap0 q) av.out (by simp)); replace HB := am hb; replace z := am hi; obtain ⟨aH, aI, aJ, aK, aL, aM, aN, aO, aP, aQ, aR, aS⟩ := cf6 q) | ((with_reducible refine gate_callee (f := 67) rfl ?_); refine gM (some 17) Try.func67 (impl_scan_number.calls k aj bH bI bJ aG bK bL bM w _ B35x1_ (Ae3 HB (IsS92.gf z) ad ah) A4.out) ?_; rintro fp ⟨hi, hb, hk⟩; replace l := am (KeepBut.blk hk (g' := J) (o := .cells #[.int .i64 0, .int .i64 0, .int .i64 0, .string (⟨#[]⟩ : ByteArray), .string (⟨#[]⟩ : ByteArray), .int .i64 0] 59 (0, 0)) (Ap1 l au) ar.out (by simp)); replace q := am (KeepBut.blk hk (g' := aa) (o := .cells #[.int .i64 al, .int .i64 aw, .int .i64 0, .string (⟨#[]⟩ : ByteArray), .string (⟨#[]⟩ : ByteArray), .int .i64 0] 59 (0, 0)) (Ap0 q) av.out (by simp)); replace HB := am hb; replace z := am hi; obtain ⟨aH, aI, aJ, aK, aL, aM, aN, aO, aP, aQ, aR, aS⟩ := cf6 q) | ((with_reducible refine gate_callee (f := 68) rfl ?_); refine gM (some 20) Try.func68 (impl_scan_short.calls k aj bK bL bM aY bN bO bP w _ B35x1_ (Ae3 HB (IsS92.gf z) ad ah) A5.out) ?_; rintro fq ⟨hi, hb, hk⟩; replace l := am (KeepBut.blk hk (g' := J) (o := .cells #[.int .i64 0, .int .i64 0, .int .i64 0, .string (⟨#[]⟩ : ByteArray), .string (⟨#[]⟩ : ByteArray), .int .i64 0] 59 (0, 0)) (Ap1 l au) ar.out (by simp)); replace q := am (KeepBut.blk hk (g' := aa) (o := .cells #[.int .i64 al, .int .i64 aw, .int .i64 aG, .string (⟨#[]⟩ : ByteArray), .string (⟨#[]⟩ : ByteArray), .int .i64 0] 59 (0, 0)) (Ap0 q) av.out (by simp)); replace HB := am hb; replace z := am hi; obtain ⟨aH, aI, aJ, aK, aL, aM, aN, aO, aP, aQ, aR, aS⟩ := cf6 q) | ((with_reducible refine gate_callee (f := 68) rfl ?_); refine gM (some 23) Try.func68 (impl_scan_short.calls k aj bN bO bP a2 bQ bR bS w _ B35x1_ (Ae3 HB (IsS92.gf z) ad ah) A6.out) ?_; rintro fr ⟨hi, hb, hk⟩; replace l := am (KeepBut.blk hk (g' := J) (o := .cells #[.int .i64 0, .int .i64 0, .int .i64 0, .string (⟨#[]⟩ : ByteArray), .string (⟨#[]⟩ : ByteArray), .int .i64 0] 59 (0, 0)) (Ap1 l au) ar.out (by simp)); replace q := am (KeepBut.blk hk (g' := aa) (o := .cells #[.int .i64 al, .int .i64 aw, .int .i64 aG, .string aY, .string (⟨#[]⟩ : ByteArray), .int .i64 0] 59 (0, 0)) (Ap0 q) av.out (by simp)); replace HB := am hb; replace z := am hi; obtain ⟨aH, aI, aJ, aK, aL, aM, aN, aO, aP, aQ, aR, aS⟩ := cf6 q) | ((with_reducible refine gate_callee (f := 67) rfl ?_); refine gM (some 26) Try.func67 (impl_scan_number.calls k aj bQ bR bS a8 bT bU bV w _ B35x1_ (Ae3 HB (IsS92.gf z) ad ah) A7.out) ?_; rintro fs ⟨hi, hb, hk⟩; replace l := am (KeepBut.blk hk (g' := J) (o := .cells #[.int .i64 0, .int .i64 0, .int .i64 0, .string (⟨#[]⟩ : ByteArray), .string (⟨#[]⟩ : ByteArray), .int .i64 0] 59 (0, 0)) (Ap1 l au) ar.out (by simp)); replace q := am (KeepBut.blk hk (g' := aa) (o := .cells #[.int .i64 al, .int .i64 aw, .int .i64 aG, .string aY, .string a2, .int .i64 0] 59 (0, 0)) (Ap0 q) av.out (by simp)); replace HB := am hb; replace z := am hi; obtain ⟨aH, aI, aJ, aK, aL, aM, aN, aO, aP, aQ, aR, aS⟩ := cf6 q) | ((with_reducible refine gate_callee (f := 69) rfl ?_); refine gM (some 29) Try.func69 (impl_scan_done.calls aj bT bU bV false bW bX bY w _ B35x1_ (Ae3 HB (IsS92.gf z) ad ah) A8.out) ?_; rintro d1 ⟨hi, hb, hk⟩; replace l := am (KeepBut.blk hk (g' := J) (o := .cells #[.int .i64 0, .int .i64 0, .int .i64 0, .string (⟨#[]⟩ : ByteArray), .string (⟨#[]⟩ : ByteArray), .int .i64 0] 59 (0, 0)) (Ap1 l au) ar.out (by simp)); replace q := am (KeepBut.blk hk (g' := aa) (o := .cells #[.int .i64 al, .int .i64 aw, .int .i64 aG, .string aY, .string a2, .int .i64 a8] 59 (0, 0)) (Ap0 q) av.out (by simp)); replace HB := am hb; replace z := am hi; have eP := ar.out; have eY := bD.out; obtain ⟨du, dv, dw, dx, dy, dz, dB, dC, dD, dE, dF, dG⟩ := cf6 l) | ((with_reducible refine gate_store (t := 59) (p := 2) rfl ?_); refine store_event (t := 59) (p := 2) (v := ?vo_w85) (w1 := ((((((d1.setCell ⟨J, 0, none⟩ (.int .i64 0)).setCell ⟨J, 1, none⟩ (.int .i64 0)).setCell ⟨J, 2, none⟩ (.int .i64 0)).setCell ⟨J, 3, none⟩ (.string (⟨#[]⟩ : ByteArray))).setCell ⟨J, 4, none⟩ (.string (⟨#[]⟩ : ByteArray))).setCell ⟨J, 5, none⟩ (.int .i64 0))) ?hg ?ho ?hn ?hr ?_; (case ho => rfl); (case hg => rfl); (case hn => rfl); (case hr => exact gs_); intro cw hw; replace l : Hc cw J #[.int .i64 0, .int .i64 0, .int .i64 0, .string (⟨#[]⟩ : ByteArray), .string (⟨#[]⟩ : ByteArray), .int .i64 0] 59 := ⟨wAp0 l⟩; replace q : Hc cw aa #[.int .i64 al, .int .i64 aw, .int .i64 aG, .string aY, .string a2, .int .i64 a8] 59 := ⟨wAp1 q bu⟩; replace HB : Hb w cw := ⟨wAe3 HB (IsS92.gf z) ad ah⟩; replace z : Aside0 (IsS92 w cw aj bW bX bY) := ⟨(by rw [hw]; exact B35x1_)⟩; clear hw))
 refine bodyPost_ret (results_ct rfl _ _ J 59 #[.int .i64 0, .int .i64 0, .int .i64 0, .string (⟨#[]⟩ : ByteArray), .string (⟨#[]⟩ : ByteArray), .int .i64 0] (0, 0) _ rfl (Ab l) Try.underlying59 rfl gk_) rfl ?_
 exact ⟨B35x17_, (Ae3 HB (IsS92.gf z) ad ah)⟩
end
end Go.Proofs.Ytgffdijodnpolaa.QFnKeepTexts
