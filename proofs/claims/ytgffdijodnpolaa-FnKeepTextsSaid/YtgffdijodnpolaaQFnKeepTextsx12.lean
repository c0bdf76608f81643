/- Functions that a law reaches, as functions of Lean, and the walks that show that the calls come to their answers. No condition. -/
import Derived.Test.YtgffdijodnpolaaQFnKeepTextsx0
import Derived.Test.YtgffdijodnpolaaQFnKeepTextsx5
import Derived.Test.YtgffdijodnpolaaQFnKeepTextsx8
import Derived.Test.YtgffdijodnpolaaQFnKeepTextsx9
import Derived.Test.YtgffdijodnpolaaQFnKeepTextsx10
import Derived.Test.YtgffdijodnpolaaVFnKeepTextshort3
import Derived.Test.YtgffdijodnpolaaVFnKeepTextsShort
import Derived.Test.YtgffdijodnpolaaVFnKeepTextshort8
import Derived.Test.YtgffdijodnpolaaVFnKeepTextsShort2
namespace Go.Proofs.Ytgffdijodnpolaa.QFnKeepTexts
open Go.RowKit Go.Proofs.YtgffdijodnpolaaW.PrintWords Go.Proofs.YtgffdijodnpolaaW.PrintLast Go.Proofs.YtgffdijodnpolaaW.PrintMore Go.Proofs.Ytgffdijodnpolaa.Short
set_option linter.unusedVariables false
set_option linter.unusedSimpArgs false
set_option maxHeartbeats 8000000
set_option maxRecDepth 100000
variable {p : Prop}
theorem D12x0_ (h : p := by exact ⟨bc l 0, bc l 1, bc l 2, bc l 3, bc l 4, bc l 5⟩) : p := h
theorem D12x1_ (h : p := by exact ⟨(Ar D), (Ab l), (Ae1 HB ac)⟩) : p := h
theorem D12x2_ (h : p := by exact ⟨⟨gl_⟩, Cb af, Cb ai, Ce3 HB (IsS101.gf ap) ax az⟩) : p := h
section
attribute [local go_sem] max2_int min2_int max_two min_two max_three min_three max_four min_four
theorem B36x1_ (h : p := by first | (simp only [putAll, Act.put, List.setIfInBounds_toArray, List.set_cons_zero, List.set_cons_succ]; done) | (simp only [putAll, Act.put, List.setIfInBounds_toArray, List.set_cons_zero, List.set_cons_succ]; rfl)) : p := h
theorem B36x5_ (h : p := by exact (Reps.one (show Kd.M (Kd.int .u8) _ _ _ ((B) % 256) [.int .u8 ((B) % 256)] from rfl) (Reps.none _ _))) : p := h
theorem B36x9_ (h : p := by first | rfl | (simp [errW_none, errW_some] <;> rfl) | (simp [*, errW_none, errW_some] <;> rfl)) : p := h
def spec_CommandText.f (k : Nat) (B : Int) (M : Int) (U : Int) (Y : ByteArray) (Z : ByteArray) (aa : Int) : Option (ByteArray × Bool) := (spec_CommandOk.f k B M U Y Z aa).bind fun cp => (if cp = true then ((some (([(B) % 256] : List Int) : List Int)).bind fun ah => ((spec_l01Var.f k M).bind fun ag => (if (strOfNums ah).size + ag.size ≤ 9223372036854775807 then ((spec_l01Var.f k U).bind fun ak => (if ((strOfNums ah) ++ ag).size + ak.size ≤ 9223372036854775807 then ((spec_l16Short.f k Y).bind fun ar => (if (((strOfNums ah) ++ ag) ++ ak).size + ar.size ≤ 9223372036854775807 then ((spec_l16Short.f k Z).bind fun aA => (if ((((strOfNums ah) ++ ag) ++ ak) ++ ar).size + aA.size ≤ 9223372036854775807 then ((spec_l01Var.f k aa).bind fun aU => (if (((((strOfNums ah) ++ ag) ++ ak) ++ ar) ++ aA).size + aU.size ≤ 9223372036854775807 then (some ((((((strOfNums ah) ++ ag) ++ ak) ++ ar) ++ aA) ++ aU, true)) else (none))) else (none))) else (none))) else (none))) else (none)))) else (some ((⟨#[]⟩ : ByteArray), false)))
def spec_CommandText.T3 : Bool × List (List Nat × List Nat) := (true, [([], []), ([0], [0]), ([1], [1]), ([2], [2]), ([3], [3]), ([], []), ([5], [5]), ([6], [6]), ([4, 7], [4, 7]), ([], []), ([9], [9]), ([10, 7], [10]), ([8, 11], [8, 11]), ([], []), ([13], [13]), ([14, 11], [14]), ([12, 15], [12, 15]), ([], []), ([17], [17]), ([18, 15], [18]), ([16, 19], [16, 19]), ([], []), ([21], [21]), ([22, 19], [22]), ([20, 23], [20, 23]), ([24, 23, 0, 1, 2, 3, 4, 5, 6, 7, 8, 9, 10, 11, 12, 13, 14, 15, 16, 17, 18, 19, 20, 21, 22, 23, 24], [24]), ([25, 0, 1, 2, 3, 4, 5, 6, 7, 8, 9, 10, 11, 12, 13, 14, 15, 16, 17, 18, 19, 20, 21, 22, 23, 24, 25], [])])
def spec_CommandText.B3 : List Nat := [0, 1, 3, 7, 15, 0, 32, 96, 255, 0, 512, 1760, 4095, 0, 8192, 28384, 65535, 0, 131072, 454368, 1048575, 0, 2097152, 7270112, 16777215, 33554431, 67108863]
theorem spec_CommandText.tab3 : rtab .any (opsOf Try.f79 3) = spec_CommandText.T3 := by kernel_rfl
theorem spec_CommandText.bits3 : waitsOk spec_CommandText.T3.2 spec_CommandText.B3 = true := by kernel_rfl
theorem spec_CommandText.calls (k : Nat) (B : Int) (M : Int) (U : Int) (Y : ByteArray) (Z : ByteArray) (aa : Int) (r1 : ByteArray) (r2 : Bool) (w : World) (h : spec_CommandText.f k B M U Y Z aa = some (r1, r2)) :
  Calls Try.prog 79 #[.agg #[.int .i64 B, .int .i64 M, .int .i64 U, .string Y, .string Z, .int .i64 aa]] w fun e w' => e = .returned (.tuple #[.string r1, .bool r2]) ∧ Below w.heap.size w w' := by
 have dM := Try.underlying59
 have HB := am (Below.refl w.heap.size w)
 have aK := h
 clear h
 unfold spec_CommandText.f at aK
 obtain ⟨cp, A2, aH⟩ := bsi aK
 (try dsimp only at aH)
 obtain ⟨rfl, aD⟩ | ⟨rfl, aD⟩ := sb aH
 ·obtain ⟨ah, bH⟩ : ∃ y_ : List Int, y_ = (([(B) % 256] : List Int)) := ⟨_, rfl⟩
  (first | with_reducible replace aD := hq bH aD | rw [← bH] at aD | simp only [← bH] at aD)
  have aM := am bH; clear bH; obtain ⟨ag, A4, aQ⟩ := bsi aD; (try dsimp only at aQ); obtain ⟨c5, aX⟩ := yn aQ; have en := eq_true c5; have eo := decide_eq_true c5
  try have dn : (9223372036854775807 < (strOfNums ah).size + ag.size) = False := eq_false (Nat.not_lt.2 c5)
  try (have dp := dn; simp only [ByteArray.size_append] at dp)
  obtain ⟨ak, A6, aR⟩ := bsi aX; (try dsimp only at aR); obtain ⟨c7, bk⟩ := yn aR; have ep := eq_true c7; have eq := decide_eq_true c7
  try have ds : (9223372036854775807 < ((strOfNums ah) ++ ag).size + ak.size) = False := eq_false (Nat.not_lt.2 c7)
  try have er : (9223372036854775807 < (strOfNums ah).size + ag.size + ak.size) = False := eq_false (by have h_ := c7; simp only [ByteArray.size_append, ByteArray.size_extract, decide_eq_true_eq, decide_eq_false_iff_not] at *; omega)
  try (have dt := ds; simp only [ByteArray.size_append] at dt)
  obtain ⟨ar, A8, ba⟩ := bsi bk; (try dsimp only at ba); obtain ⟨c9, aL⟩ := yn ba; have et := eq_true c9; have eu := decide_eq_true c9
  try have du : (9223372036854775807 < (((strOfNums ah) ++ ag) ++ ak).size + ar.size) = False := eq_false (Nat.not_lt.2 c9)
  try have ev : (9223372036854775807 < (strOfNums ah).size + ag.size + ak.size + ar.size) = False := eq_false (by have h_ := c9; simp only [ByteArray.size_append, ByteArray.size_extract, decide_eq_true_eq, decide_eq_false_iff_not] at *; omega)
  try (have dv := du; simp only [ByteArray.size_append] at dv)
  obtain ⟨aA, bp, aO⟩ := bsi aL; (try dsimp only at aO); obtain ⟨bK, aW⟩ := yn aO; have eh := eq_true bK; have ei := decide_eq_true bK
  try have dj : (9223372036854775807 < ((((strOfNums ah) ++ ag) ++ ak) ++ ar).size + aA.size) = False := eq_false (Nat.not_lt.2 bK)
  try have ej : (9223372036854775807 < (strOfNums ah).size + ag.size + ak.size + ar.size + aA.size) = False := eq_false (by have h_ := bK; simp only [ByteArray.size_append, ByteArray.size_extract, decide_eq_true_eq, decide_eq_false_iff_not] at *; omega)
  try (have dk := dj; simp only [ByteArray.size_append] at dk)
  obtain ⟨aU, bq, aP⟩ := bsi aW; (try dsimp only at aP); obtain ⟨bL, a7⟩ := yn aP; have ek := eq_true bL; have el := decide_eq_true bL
  try have dl : (9223372036854775807 < (((((strOfNums ah) ++ ag) ++ ak) ++ ar) ++ aA).size + aU.size) = False := eq_false (Nat.not_lt.2 bL)
  try have em : (9223372036854775807 < (strOfNums ah).size + ag.size + ak.size + ar.size + aA.size + aU.size) = False := eq_false (by have h_ := bL; simp only [ByteArray.size_append, ByteArray.size_extract, decide_eq_true_eq, decide_eq_false_iff_not] at *; omega)
  try (have dm := dl; simp only [ByteArray.size_append] at dm)
  obtain ⟨rfl, rfl⟩ := s2 a7; clear a7 aK aH aD aQ aX aR bk ba aL aO aW aP; go_enter Try.func79, Try.ntmps79
  try go_wp2_with (first | ((with_reducible refine gate_dst (N := 1) rfl ?_); refine bx (N := 1) (cs := #[.int .i64 B, .int .i64 M, .int .i64 U, .string Y, .string Z, .int .i64 aa]) (t := 59) ?_; intro q hg fb hbox hb; have l := am hbox; have ac := gA hg HB; replace HB := hA HB hb; clear hb hbox hg; obtain ⟨d4, d5, d6, d7, d8, d9, ea, eb, ec, ed, ee, ef⟩ := cf6 l) | ((with_reducible refine gate_callee (f := 36) rfl ?_); refine gM (some 5) Try.func36 (spec_CommandOk.calls k B M U Y Z aa true _ A2.out) ?_; rintro b6 hb; replace l := bA l hb; replace HB := De1 HB ac hb))
  replace l := dA l; replace HB := bdr HB; refine st_ 27 (fun w' => w'.cell? ⟨q, 0, none⟩ = some (.int .i64 B) ∧ w'.cell? ⟨q, 1, none⟩ = some (.int .i64 M) ∧ w'.cell? ⟨q, 2, none⟩ = some (.int .i64 U) ∧ w'.cell? ⟨q, 3, none⟩ = some (.string Y) ∧ w'.cell? ⟨q, 4, none⟩ = some (.string Z) ∧ w'.cell? ⟨q, 5, none⟩ = some (.int .i64 aa)) [] spec_CommandText.tab3 spec_CommandText.bits3 D12x0_ (fun z J a6 => ?_); generalize b6.drew = dU at l HB z ⊢; refine pu_ 0 7 J ?_; refine pu_ 5 12 J ?_; refine pu_ 9 16 J ?_; refine pu_ 13 20 J ?_; refine pu_ 17 24 J ?_; refine pu_ 21 28 J ?_; refine ta_ 1 8 J a6 z ?_; refine pu_ 2 9 J ?_; refine ta_ 6 13 J a6 z ?_; refine ta_ 10 17 J a6 z ?_; refine ta_ 14 21 J a6 z ?_; refine ta_ 18 25 J a6 z ?_; refine ta_ 22 29 J a6 z ?_; refine join_ (σ := Value) 3 #[true, true, true, true, true, true, true, true, true, true, true, true, true, true, true, true, true, true, true, true, true, true, true, true, false, false, false] (fun s_ => [(10, s_), (11, .string (strOfNums ah)), (14, .string ag), (18, .string ak), (22, .string ar), (26, .string aA), (30, .string aU), (15, .string ((strOfNums ah) ++ ag)), (19, .string (((strOfNums ah) ++ ag) ++ ak)), (23, .string ((((strOfNums ah) ++ ag) ++ ak) ++ ar)), (27, .string (((((strOfNums ah) ++ ag) ++ ak) ++ ar) ++ aA))]) (fun s_ w' => (w'.cell? ⟨q, 0, none⟩ = some (.int .i64 B) ∧ w'.cell? ⟨q, 1, none⟩ = some (.int .i64 M) ∧ w'.cell? ⟨q, 2, none⟩ = some (.int .i64 U) ∧ w'.cell? ⟨q, 3, none⟩ = some (.string Y) ∧ w'.cell? ⟨q, 4, none⟩ = some (.string Z) ∧ w'.cell? ⟨q, 5, none⟩ = some (.int .i64 aa)) ∧ (Kd.R (Kd.int .u8) 5 w' w.heap.size (fun _ => True) s_ ah) ∧ (w'.heap[q]? = some (.cells #[.int .i64 B, .int .i64 M, .int .i64 U, .string Y, .string Z, .int .i64 aa] 59 (0, 0))) ∧ (Below w.heap.size w w')) ?_ ?_; rotate_left
  ·intro hJ3_4_7_11_15_19_23; refine join_ (σ := Value) 4 #[true, true, true, true, true, true, true, true, true, true, true, true, true, true, true, true, true, true, true, true, true, true, true, false, false, false, false] (fun s_ => [(10, s_), (11, .string (strOfNums ah)), (14, .string ag), (18, .string ak), (22, .string ar), (26, .string aA), (15, .string ((strOfNums ah) ++ ag)), (19, .string (((strOfNums ah) ++ ag) ++ ak)), (23, .string ((((strOfNums ah) ++ ag) ++ ak) ++ ar)), (27, .string (((((strOfNums ah) ++ ag) ++ ak) ++ ar) ++ aA))]) (fun s_ w' => (w'.cell? ⟨q, 0, none⟩ = some (.int .i64 B) ∧ w'.cell? ⟨q, 1, none⟩ = some (.int .i64 M) ∧ w'.cell? ⟨q, 2, none⟩ = some (.int .i64 U) ∧ w'.cell? ⟨q, 3, none⟩ = some (.string Y) ∧ w'.cell? ⟨q, 4, none⟩ = some (.string Z) ∧ w'.cell? ⟨q, 5, none⟩ = some (.int .i64 aa)) ∧ (Kd.R (Kd.int .u8) 5 w' w.heap.size (fun _ => True) s_ ah) ∧ (w'.heap[q]? = some (.cells #[.int .i64 B, .int .i64 M, .int .i64 U, .string Y, .string Z, .int .i64 aa] 59 (0, 0))) ∧ (Below w.heap.size w w')) ?_ ?_; rotate_left
   ·intro hJ3_4_7_11_15_19; refine join_ (σ := Value) 8 #[true, true, true, true, false, true, true, true, false, true, true, true, false, true, true, true, false, true, true, true, false, true, true, true, false, false, false] (fun s_ => [(10, s_), (14, .string ag), (18, .string ak), (22, .string ar), (26, .string aA), (30, .string aU)]) (fun s_ w' => (w'.cell? ⟨q, 0, none⟩ = some (.int .i64 B) ∧ w'.cell? ⟨q, 1, none⟩ = some (.int .i64 M) ∧ w'.cell? ⟨q, 2, none⟩ = some (.int .i64 U) ∧ w'.cell? ⟨q, 3, none⟩ = some (.string Y) ∧ w'.cell? ⟨q, 4, none⟩ = some (.string Z) ∧ w'.cell? ⟨q, 5, none⟩ = some (.int .i64 aa)) ∧ (Kd.R (Kd.int .u8) 5 w' w.heap.size (fun _ => True) s_ ah) ∧ (w'.heap[q]? = some (.cells #[.int .i64 B, .int .i64 M, .int .i64 U, .string Y, .string Z, .int .i64 aa] 59 (0, 0))) ∧ (Below w.heap.size w w')) ?_ ?_; rotate_left
    ·intro hJ3_7_11_15_19_23; refine join_ (σ := Value) 6 #[true, true, true, true, true, true, true, true, true, true, true, true, true, true, true, true, true, true, true, false, false, true, true, false, false, false, false] (fun s_ => [(10, s_), (11, .string (strOfNums ah)), (14, .string ag), (18, .string ak), (22, .string ar), (15, .string ((strOfNums ah) ++ ag)), (19, .string (((strOfNums ah) ++ ag) ++ ak)), (23, .string ((((strOfNums ah) ++ ag) ++ ak) ++ ar))]) (fun s_ w' => (w'.cell? ⟨q, 0, none⟩ = some (.int .i64 B) ∧ w'.cell? ⟨q, 1, none⟩ = some (.int .i64 M) ∧ w'.cell? ⟨q, 2, none⟩ = some (.int .i64 U) ∧ w'.cell? ⟨q, 3, none⟩ = some (.string Y) ∧ w'.cell? ⟨q, 4, none⟩ = some (.string Z) ∧ w'.cell? ⟨q, 5, none⟩ = some (.int .i64 aa)) ∧ (Kd.R (Kd.int .u8) 5 w' w.heap.size (fun _ => True) s_ ah) ∧ (w'.heap[q]? = some (.cells #[.int .i64 B, .int .i64 M, .int .i64 U, .string Y, .string Z, .int .i64 aa] 59 (0, 0))) ∧ (Below w.heap.size w w')) ?_ ?_; rotate_left
     ·intro hJ3_4_7_11_15; refine join_ (σ := Value) 9 #[true, true, true, true, false, true, true, true, false, true, true, true, false, true, true, true, false, true, true, true, false, true, true, false, false, false, false] (fun s_ => [(10, s_), (14, .string ag), (18, .string ak), (22, .string ar), (26, .string aA)]) (fun s_ w' => (w'.cell? ⟨q, 0, none⟩ = some (.int .i64 B) ∧ w'.cell? ⟨q, 1, none⟩ = some (.int .i64 M) ∧ w'.cell? ⟨q, 2, none⟩ = some (.int .i64 U) ∧ w'.cell? ⟨q, 3, none⟩ = some (.string Y) ∧ w'.cell? ⟨q, 4, none⟩ = some (.string Z) ∧ w'.cell? ⟨q, 5, none⟩ = some (.int .i64 aa)) ∧ (Kd.R (Kd.int .u8) 5 w' w.heap.size (fun _ => True) s_ ah) ∧ (w'.heap[q]? = some (.cells #[.int .i64 B, .int .i64 M, .int .i64 U, .string Y, .string Z, .int .i64 aa] 59 (0, 0))) ∧ (Below w.heap.size w w')) ?_ ?_; rotate_left
      ·intro hJ3_7_11_15_19; refine join_ (σ := Unit) 9 #[true, true, true, false, false, true, true, true, false, true, true, true, false, true, true, true, false, true, true, true, false, true, true, true, false, false, false] (fun s_ => [(14, .string ag), (18, .string ak), (22, .string ar), (26, .string aA), (30, .string aU)]) (fun s_ w' => (w'.cell? ⟨q, 0, none⟩ = some (.int .i64 B) ∧ w'.cell? ⟨q, 1, none⟩ = some (.int .i64 M) ∧ w'.cell? ⟨q, 2, none⟩ = some (.int .i64 U) ∧ w'.cell? ⟨q, 3, none⟩ = some (.string Y) ∧ w'.cell? ⟨q, 4, none⟩ = some (.string Z) ∧ w'.cell? ⟨q, 5, none⟩ = some (.int .i64 aa)) ∧ (w'.heap[q]? = some (.cells #[.int .i64 B, .int .i64 M, .int .i64 U, .string Y, .string Z, .int .i64 aa] 59 (0, 0))) ∧ (Below w.heap.size w w')) ?_ ?_; rotate_left
       ·intro hJ7_11_15_19_23; refine join_ (σ := Value) 8 #[true, true, true, true, true, true, true, true, true, true, true, true, true, true, true, false, false, true, true, false, false, true, true, false, false, false, false] (fun s_ => [(10, s_), (11, .string (strOfNums ah)), (14, .string ag), (18, .string ak), (15, .string ((strOfNums ah) ++ ag)), (19, .string (((strOfNums ah) ++ ag) ++ ak))]) (fun s_ w' => (w'.cell? ⟨q, 0, none⟩ = some (.int .i64 B) ∧ w'.cell? ⟨q, 1, none⟩ = some (.int .i64 M) ∧ w'.cell? ⟨q, 2, none⟩ = some (.int .i64 U) ∧ w'.cell? ⟨q, 3, none⟩ = some (.string Y) ∧ w'.cell? ⟨q, 4, none⟩ = some (.string Z) ∧ w'.cell? ⟨q, 5, none⟩ = some (.int .i64 aa)) ∧ (Kd.R (Kd.int .u8) 5 w' w.heap.size (fun _ => True) s_ ah) ∧ (w'.heap[q]? = some (.cells #[.int .i64 B, .int .i64 M, .int .i64 U, .string Y, .string Z, .int .i64 aa] 59 (0, 0))) ∧ (Below w.heap.size w w')) ?_ ?_; rotate_left
        ·intro hJ3_4_7_11; refine join_ (σ := Value) 10 #[true, true, true, true, false, true, true, true, false, true, true, true, false, true, true, true, false, true, true, false, false, true, true, false, false, false, false] (fun s_ => [(10, s_), (14, .string ag), (18, .string ak), (22, .string ar)]) (fun s_ w' => (w'.cell? ⟨q, 0, none⟩ = some (.int .i64 B) ∧ w'.cell? ⟨q, 1, none⟩ = some (.int .i64 M) ∧ w'.cell? ⟨q, 2, none⟩ = some (.int .i64 U) ∧ w'.cell? ⟨q, 3, none⟩ = some (.string Y) ∧ w'.cell? ⟨q, 4, none⟩ = some (.string Z) ∧ w'.cell? ⟨q, 5, none⟩ = some (.int .i64 aa)) ∧ (Kd.R (Kd.int .u8) 5 w' w.heap.size (fun _ => True) s_ ah) ∧ (w'.heap[q]? = some (.cells #[.int .i64 B, .int .i64 M, .int .i64 U, .string Y, .string Z, .int .i64 aa] 59 (0, 0))) ∧ (Below w.heap.size w w')) ?_ ?_; rotate_left
         ·intro hJ3_7_11_15; refine join_ (σ := Unit) 10 #[true, true, true, false, false, true, true, true, false, true, true, true, false, true, true, true, false, true, true, true, false, true, true, false, false, false, false] (fun s_ => [(14, .string ag), (18, .string ak), (22, .string ar), (26, .string aA)]) (fun s_ w' => (w'.cell? ⟨q, 0, none⟩ = some (.int .i64 B) ∧ w'.cell? ⟨q, 1, none⟩ = some (.int .i64 M) ∧ w'.cell? ⟨q, 2, none⟩ = some (.int .i64 U) ∧ w'.cell? ⟨q, 3, none⟩ = some (.string Y) ∧ w'.cell? ⟨q, 4, none⟩ = some (.string Z) ∧ w'.cell? ⟨q, 5, none⟩ = some (.int .i64 aa)) ∧ (w'.heap[q]? = some (.cells #[.int .i64 B, .int .i64 M, .int .i64 U, .string Y, .string Z, .int .i64 aa] 59 (0, 0))) ∧ (Below w.heap.size w w')) ?_ ?_; rotate_left
          ·intro hJ7_11_15_19; refine join_ (σ := Value) 10 #[true, true, true, true, true, true, true, true, true, true, true, false, false, true, true, false, false, true, true, false, false, true, true, false, false, false, false] (fun s_ => [(10, s_), (11, .string (strOfNums ah)), (14, .string ag), (15, .string ((strOfNums ah) ++ ag))]) (fun s_ w' => (w'.cell? ⟨q, 0, none⟩ = some (.int .i64 B) ∧ w'.cell? ⟨q, 1, none⟩ = some (.int .i64 M) ∧ w'.cell? ⟨q, 2, none⟩ = some (.int .i64 U) ∧ w'.cell? ⟨q, 3, none⟩ = some (.string Y) ∧ w'.cell? ⟨q, 4, none⟩ = some (.string Z) ∧ w'.cell? ⟨q, 5, none⟩ = some (.int .i64 aa)) ∧ (Kd.R (Kd.int .u8) 5 w' w.heap.size (fun _ => True) s_ ah) ∧ (w'.heap[q]? = some (.cells #[.int .i64 B, .int .i64 M, .int .i64 U, .string Y, .string Z, .int .i64 aa] 59 (0, 0))) ∧ (Below w.heap.size w w')) ?_ ?_; rotate_left
           ·intro hJ3_4_7; refine join_ (σ := Value) 11 #[true, true, true, true, false, true, true, true, false, true, true, true, false, true, true, false, false, true, true, false, false, true, true, false, false, false, false] (fun s_ => [(10, s_), (14, .string ag), (18, .string ak)]) (fun s_ w' => (w'.cell? ⟨q, 0, none⟩ = some (.int .i64 B) ∧ w'.cell? ⟨q, 1, none⟩ = some (.int .i64 M) ∧ w'.cell? ⟨q, 2, none⟩ = some (.int .i64 U) ∧ w'.cell? ⟨q, 3, none⟩ = some (.string Y) ∧ w'.cell? ⟨q, 4, none⟩ = some (.string Z) ∧ w'.cell? ⟨q, 5, none⟩ = some (.int .i64 aa)) ∧ (Kd.R (Kd.int .u8) 5 w' w.heap.size (fun _ => True) s_ ah) ∧ (w'.heap[q]? = some (.cells #[.int .i64 B, .int .i64 M, .int .i64 U, .string Y, .string Z, .int .i64 aa] 59 (0, 0))) ∧ (Below w.heap.size w w')) ?_ ?_; rotate_left
            ·intro hJ3_7_11; refine join_ (σ := Unit) 11 #[true, true, true, false, false, true, true, true, false, true, true, true, false, true, true, true, false, true, true, false, false, true, true, false, false, false, false] (fun s_ => [(14, .string ag), (18, .string ak), (22, .string ar)]) (fun s_ w' => (w'.cell? ⟨q, 0, none⟩ = some (.int .i64 B) ∧ w'.cell? ⟨q, 1, none⟩ = some (.int .i64 M) ∧ w'.cell? ⟨q, 2, none⟩ = some (.int .i64 U) ∧ w'.cell? ⟨q, 3, none⟩ = some (.string Y) ∧ w'.cell? ⟨q, 4, none⟩ = some (.string Z) ∧ w'.cell? ⟨q, 5, none⟩ = some (.int .i64 aa)) ∧ (w'.heap[q]? = some (.cells #[.int .i64 B, .int .i64 M, .int .i64 U, .string Y, .string Z, .int .i64 aa] 59 (0, 0))) ∧ (Below w.heap.size w w')) ?_ ?_; rotate_left
             ·intro hJ7_11_15; refine join_ (σ := Value) 12 #[true, true, true, true, true, true, true, false, false, true, true, false, false, true, true, false, false, true, true, false, false, true, true, false, false, false, false] (fun s_ => [(10, s_), (11, .string (strOfNums ah))]) (fun s_ w' => (w'.cell? ⟨q, 0, none⟩ = some (.int .i64 B) ∧ w'.cell? ⟨q, 1, none⟩ = some (.int .i64 M) ∧ w'.cell? ⟨q, 2, none⟩ = some (.int .i64 U) ∧ w'.cell? ⟨q, 3, none⟩ = some (.string Y) ∧ w'.cell? ⟨q, 4, none⟩ = some (.string Z) ∧ w'.cell? ⟨q, 5, none⟩ = some (.int .i64 aa)) ∧ (Kd.R (Kd.int .u8) 5 w' w.heap.size (fun _ => True) s_ ah) ∧ (w'.heap[q]? = some (.cells #[.int .i64 B, .int .i64 M, .int .i64 U, .string Y, .string Z, .int .i64 aa] 59 (0, 0))) ∧ (Below w.heap.size w w')) ?_ ?_; rotate_left
              ·intro hJ3_4; refine join_ (σ := Value) 12 #[true, true, true, true, false, true, true, true, false, true, true, false, false, true, true, false, false, true, true, false, false, true, true, false, false, false, false] (fun s_ => [(10, s_), (14, .string ag)]) (fun s_ w' => (w'.cell? ⟨q, 0, none⟩ = some (.int .i64 B) ∧ w'.cell? ⟨q, 1, none⟩ = some (.int .i64 M) ∧ w'.cell? ⟨q, 2, none⟩ = some (.int .i64 U) ∧ w'.cell? ⟨q, 3, none⟩ = some (.string Y) ∧ w'.cell? ⟨q, 4, none⟩ = some (.string Z) ∧ w'.cell? ⟨q, 5, none⟩ = some (.int .i64 aa)) ∧ (Kd.R (Kd.int .u8) 5 w' w.heap.size (fun _ => True) s_ ah) ∧ (w'.heap[q]? = some (.cells #[.int .i64 B, .int .i64 M, .int .i64 U, .string Y, .string Z, .int .i64 aa] 59 (0, 0))) ∧ (Below w.heap.size w w')) ?_ ?_; rotate_left
               ·intro hJ3_7; refine join_ (σ := Unit) 12 #[true, true, true, false, false, true, true, true, false, true, true, true, false, true, true, false, false, true, true, false, false, true, true, false, false, false, false] (fun s_ => [(14, .string ag), (18, .string ak)]) (fun s_ w' => (w'.cell? ⟨q, 0, none⟩ = some (.int .i64 B) ∧ w'.cell? ⟨q, 1, none⟩ = some (.int .i64 M) ∧ w'.cell? ⟨q, 2, none⟩ = some (.int .i64 U) ∧ w'.cell? ⟨q, 3, none⟩ = some (.string Y) ∧ w'.cell? ⟨q, 4, none⟩ = some (.string Z) ∧ w'.cell? ⟨q, 5, none⟩ = some (.int .i64 aa)) ∧ (w'.heap[q]? = some (.cells #[.int .i64 B, .int .i64 M, .int .i64 U, .string Y, .string Z, .int .i64 aa] 59 (0, 0))) ∧ (Below w.heap.size w w')) ?_ ?_; rotate_left
                ·intro hJ7_11; refine join_ (σ := Value) 13 #[true, true, true, true, false, true, true, false, false, true, true, false, false, true, true, false, false, true, true, false, false, true, true, false, false, false, false] (fun s_ => [(10, s_)]) (fun s_ w' => (w'.cell? ⟨q, 0, none⟩ = some (.int .i64 B) ∧ w'.cell? ⟨q, 1, none⟩ = some (.int .i64 M) ∧ w'.cell? ⟨q, 2, none⟩ = some (.int .i64 U) ∧ w'.cell? ⟨q, 3, none⟩ = some (.string Y) ∧ w'.cell? ⟨q, 4, none⟩ = some (.string Z) ∧ w'.cell? ⟨q, 5, none⟩ = some (.int .i64 aa)) ∧ (Kd.R (Kd.int .u8) 5 w' w.heap.size (fun _ => True) s_ ah) ∧ (w'.heap[q]? = some (.cells #[.int .i64 B, .int .i64 M, .int .i64 U, .string Y, .string Z, .int .i64 aa] 59 (0, 0))) ∧ (Below w.heap.size w w')) ?_ ?_; rotate_left
                 ·intro hJ3; refine join_ (σ := Unit) 13 #[true, true, true, false, false, true, true, true, false, true, true, false, false, true, true, false, false, true, true, false, false, true, true, false, false, false, false] (fun s_ => [(14, .string ag)]) (fun s_ w' => (w'.cell? ⟨q, 0, none⟩ = some (.int .i64 B) ∧ w'.cell? ⟨q, 1, none⟩ = some (.int .i64 M) ∧ w'.cell? ⟨q, 2, none⟩ = some (.int .i64 U) ∧ w'.cell? ⟨q, 3, none⟩ = some (.string Y) ∧ w'.cell? ⟨q, 4, none⟩ = some (.string Z) ∧ w'.cell? ⟨q, 5, none⟩ = some (.int .i64 aa)) ∧ (w'.heap[q]? = some (.cells #[.int .i64 B, .int .i64 M, .int .i64 U, .string Y, .string Z, .int .i64 aa] 59 (0, 0))) ∧ (Below w.heap.size w w')) ?_ ?_; rotate_left
                  ·intro hJ7; refine two_ (i := 3) (j := 7) (Ni := some 10) (Nj := some 14) #[true, true, true, true, false, true, true, false, false, true, true, false, false, true, true, false, false, true, true, false, false, true, true, false, false, false, false] #[true, true, true, false, false, true, true, true, false, true, true, false, false, true, true, false, false, true, true, false, false, true, true, false, false, false, false] rfl rfl rfl rfl (two_of J.out gk_) (by decide) (by decide) (fun K hK => ?_) (fun K hK => ?_)
                   ·skip
                    refine lS (Kd.int .u8) 5 10 ([(B) % 256] : List Int) [.int .u8 ((B) % 256)] B36x5_ ?_; intro aj b7 bB hb
                    (first | rw [← aM.out] at bB | (simp only [Int.reduceToNat] at bB; rw [← aM.out] at bB))
                    have D := am (Kd.R_lower bB (below_size (Ae1 HB ac))); replace l := bA l hb; replace HB := De1 HB ac hb; clear hb bB; refine hK.out _ _ D12x0_ (fun z => nm_ ?_); clear hK K; exact norm_ B36x1_ (hJ3 (aj) _ ⟨z, D12x1_⟩)
                   refine gT Try.func59 (spec_l01Var.calls k M ag _ A4.out) ?_; rintro b7 hb; replace l := bA l hb; replace HB := De1 HB ac hb; refine hK.out _ _ D12x0_ (fun z => nm_ ?_); clear hK K; exact norm_ B36x1_ (hJ7 () _ ⟨z, (Ab l), (Ae1 HB ac)⟩)
                  rintro _ a9 ⟨hS_, ae, ad⟩; replace l := am ae; replace HB := am ad; clear ae ad
                  have z : a9.cell? ⟨q, 0, none⟩ = some (.int .i64 B) ∧ a9.cell? ⟨q, 1, none⟩ = some (.int .i64 M) ∧ a9.cell? ⟨q, 2, none⟩ = some (.int .i64 U) ∧ a9.cell? ⟨q, 3, none⟩ = some (.string Y) ∧ a9.cell? ⟨q, 4, none⟩ = some (.string Z) ∧ a9.cell? ⟨q, 5, none⟩ = some (.int .i64 aa) := hS_
                  refine norm_ (a' := ?_) ?_ ?_; rotate_left
                  ·simp only [putAll, Act.put, List.setIfInBounds_toArray, List.set_cons_zero, List.set_cons_succ]; rfl
                  refine two_ (i := 3) (j := 11) (Ni := some 10) (Nj := some 18) #[true, true, true, true, false, true, true, true, false, true, true, false, false, true, true, false, false, true, true, false, false, true, true, false, false, false, false] #[true, true, true, false, false, true, true, true, false, true, true, true, false, true, true, false, false, true, true, false, false, true, true, false, false, false, false] rfl rfl rfl rfl (two_of J.out gk_) (by decide) (by decide) (fun K hK => ?_) (fun K hK => ?_)
                  ·skip
                   refine lS (Kd.int .u8) 5 10 ([(B) % 256] : List Int) [.int .u8 ((B) % 256)] B36x5_ ?_; intro aj ay bC hb
                   (first | rw [← aM.out] at bC | (simp only [Int.reduceToNat] at bC; rw [← aM.out] at bC))
                   have D := am (Kd.R_lower bC (below_size (Ae1 HB ac))); replace l := bA l hb; replace HB := De1 HB ac hb; clear hb bC; refine hK.out _ _ D12x0_ (fun z => nm_ ?_); clear hK K; exact norm_ B36x1_ (hJ3_7 (aj) _ ⟨z, D12x1_⟩)
                  refine gT Try.func59 (spec_l01Var.calls k U ak _ A6.out) ?_; rintro ay hb; replace l := bA l hb; replace HB := De1 HB ac hb; refine hK.out _ _ D12x0_ (fun z => nm_ ?_); clear hK K; exact norm_ B36x1_ (hJ7_11 () _ ⟨z, (Ab l), (Ae1 HB ac)⟩)
                 rintro aj ay ⟨hS_, ae, ad, al⟩; replace D := am ae; replace l := am ad; replace HB := am al; clear ae ad al
                 have z : ay.cell? ⟨q, 0, none⟩ = some (.int .i64 B) ∧ ay.cell? ⟨q, 1, none⟩ = some (.int .i64 M) ∧ ay.cell? ⟨q, 2, none⟩ = some (.int .i64 U) ∧ ay.cell? ⟨q, 3, none⟩ = some (.string Y) ∧ ay.cell? ⟨q, 4, none⟩ = some (.string Z) ∧ ay.cell? ⟨q, 5, none⟩ = some (.int .i64 aa) := hS_
                 refine norm_ (a' := ?_) ?_ ?_; rotate_left
                 ·simp only [putAll, Act.put, List.setIfInBounds_toArray, List.set_cons_zero, List.set_cons_succ]; rfl
                 refine two_ (i := 4) (j := 7) (Ni := some 11) (Nj := some 14) #[true, true, true, true, true, true, true, false, false, true, true, false, false, true, true, false, false, true, true, false, false, true, true, false, false, false, false] #[true, true, true, true, false, true, true, true, false, true, true, false, false, true, true, false, false, true, true, false, false, true, true, false, false, false, false] rfl rfl rfl rfl (two_of J.out gk_) (by decide) (by decide) (fun K hK => ?_) (fun K hK => ?_)
                 ·skip
                  have dB := own_string (P := Try.prog) Try.underlying22 Try.underlying5 Try.underlying9 (Kd.own_of_R D.out); refine value_ (w1 := ?_) (v := ?_) (by rfl) rfl ?_ ?_
                  rotate_left 2
                  ·go_simp
                   constructor
                   ·rfl
                   rfl
                  clear dB; refine hK.out _ _ D12x0_ (fun z => nm_ ?_); clear hK K; exact norm_ B36x1_ (hJ3_4 (aj) _ ⟨z, D12x1_⟩)
                 refine gT Try.func59 (spec_l01Var.calls k M ag _ A4.out) ?_; rintro aw hb; replace D := rA D hb; replace l := bA l hb; replace HB := De1 HB ac hb; refine hK.out _ _ D12x0_ (fun z => nm_ ?_); clear hK K; exact norm_ B36x1_ (hJ3_7 (aj) _ ⟨z, D12x1_⟩)
                rintro _ ay ⟨hS_, ae, ad⟩; replace l := am ae; replace HB := am ad; clear ae ad
                have z : ay.cell? ⟨q, 0, none⟩ = some (.int .i64 B) ∧ ay.cell? ⟨q, 1, none⟩ = some (.int .i64 M) ∧ ay.cell? ⟨q, 2, none⟩ = some (.int .i64 U) ∧ ay.cell? ⟨q, 3, none⟩ = some (.string Y) ∧ ay.cell? ⟨q, 4, none⟩ = some (.string Z) ∧ ay.cell? ⟨q, 5, none⟩ = some (.int .i64 aa) := hS_
                refine norm_ (a' := ?_) ?_ ?_; rotate_left
                ·simp only [putAll, Act.put, List.setIfInBounds_toArray, List.set_cons_zero, List.set_cons_succ]; rfl
                refine two_ (i := 3) (j := 15) (Ni := some 10) (Nj := some 22) #[true, true, true, true, false, true, true, true, false, true, true, true, false, true, true, false, false, true, true, false, false, true, true, false, false, false, false] #[true, true, true, false, false, true, true, true, false, true, true, true, false, true, true, true, false, true, true, false, false, true, true, false, false, false, false] rfl rfl rfl rfl (two_of J.out gk_) (by decide) (by decide) (fun K hK => ?_) (fun K hK => ?_)
                ·skip
                 refine lS (Kd.int .u8) 5 10 ([(B) % 256] : List Int) [.int .u8 ((B) % 256)] B36x5_ ?_; intro aj aw bD hb
                 (first | rw [← aM.out] at bD | (simp only [Int.reduceToNat] at bD; rw [← aM.out] at bD))
                 have D := am (Kd.R_lower bD (below_size (Ae1 HB ac))); replace l := bA l hb; replace HB := De1 HB ac hb; clear hb bD; refine hK.out _ _ D12x0_ (fun z => nm_ ?_); clear hK K; exact norm_ B36x1_ (hJ3_7_11 (aj) _ ⟨z, D12x1_⟩)
                refine gT Try.func60 (spec_l16Short.calls k Y ar _ A8.out) ?_; rintro aw hb; replace l := bA l hb; replace HB := De1 HB ac hb; refine hK.out _ _ D12x0_ (fun z => nm_ ?_); clear hK K; exact norm_ B36x1_ (hJ7_11_15 () _ ⟨z, (Ab l), (Ae1 HB ac)⟩)
               rintro aj aw ⟨hS_, ae, ad, al⟩; replace D := am ae; replace l := am ad; replace HB := am al; clear ae ad al
               have z : aw.cell? ⟨q, 0, none⟩ = some (.int .i64 B) ∧ aw.cell? ⟨q, 1, none⟩ = some (.int .i64 M) ∧ aw.cell? ⟨q, 2, none⟩ = some (.int .i64 U) ∧ aw.cell? ⟨q, 3, none⟩ = some (.string Y) ∧ aw.cell? ⟨q, 4, none⟩ = some (.string Z) ∧ aw.cell? ⟨q, 5, none⟩ = some (.int .i64 aa) := hS_
               refine norm_ (a' := ?_) ?_ ?_; rotate_left
               ·simp only [putAll, Act.put, List.setIfInBounds_toArray, List.set_cons_zero, List.set_cons_succ]; rfl
               refine two_ (i := 4) (j := 11) (Ni := some 11) (Nj := some 18) #[true, true, true, true, true, true, true, true, false, true, true, false, false, true, true, false, false, true, true, false, false, true, true, false, false, false, false] #[true, true, true, true, false, true, true, true, false, true, true, true, false, true, true, false, false, true, true, false, false, true, true, false, false, false, false] rfl rfl rfl rfl (two_of J.out gk_) (by decide) (by decide) (fun K hK => ?_) (fun K hK => ?_)
               ·skip
                have dC := own_string (P := Try.prog) Try.underlying22 Try.underlying5 Try.underlying9 (Kd.own_of_R D.out); refine value_ (w1 := ?_) (v := ?_) (by rfl) rfl ?_ ?_
                rotate_left 2
                ·go_simp
                 constructor
                 ·rfl
                 rfl
                clear dC; refine hK.out _ _ D12x0_ (fun z => nm_ ?_); clear hK K; refine pu_ 8 15 J ?_; exact norm_ B36x1_ (hJ3_4_7 (aj) _ ⟨z, D12x1_⟩)
               refine gT Try.func59 (spec_l01Var.calls k U ak _ A6.out) ?_; rintro au hb; replace D := rA D hb; replace l := bA l hb; replace HB := De1 HB ac hb; refine hK.out _ _ D12x0_ (fun z => nm_ ?_); clear hK K; exact norm_ B36x1_ (hJ3_7_11 (aj) _ ⟨z, D12x1_⟩)
              rintro aj aw ⟨hS_, ae, ad, al⟩; replace D := am ae; replace l := am ad; replace HB := am al; clear ae ad al
              have z : aw.cell? ⟨q, 0, none⟩ = some (.int .i64 B) ∧ aw.cell? ⟨q, 1, none⟩ = some (.int .i64 M) ∧ aw.cell? ⟨q, 2, none⟩ = some (.int .i64 U) ∧ aw.cell? ⟨q, 3, none⟩ = some (.string Y) ∧ aw.cell? ⟨q, 4, none⟩ = some (.string Z) ∧ aw.cell? ⟨q, 5, none⟩ = some (.int .i64 aa) := hS_
              refine norm_ (a' := ?_) ?_ ?_; rotate_left
              ·simp only [putAll, Act.put, List.setIfInBounds_toArray, List.set_cons_zero, List.set_cons_succ]; rfl
              refine on_ 7 (some 14) J (fun K hK => ?_); refine gT Try.func59 (spec_l01Var.calls k M ag _ A4.out) ?_; rintro au hb; replace D := rA D hb; replace l := bA l hb; replace HB := De1 HB ac hb; refine hK.out _ _ D12x0_ (fun z => nm_ ?_); clear hK K; refine pu_ 8 15 J ?_; exact norm_ B36x1_ (hJ3_4_7 (aj) _ ⟨z, D12x1_⟩)
             rintro _ aw ⟨hS_, ae, ad⟩; replace l := am ae; replace HB := am ad; clear ae ad
             have z : aw.cell? ⟨q, 0, none⟩ = some (.int .i64 B) ∧ aw.cell? ⟨q, 1, none⟩ = some (.int .i64 M) ∧ aw.cell? ⟨q, 2, none⟩ = some (.int .i64 U) ∧ aw.cell? ⟨q, 3, none⟩ = some (.string Y) ∧ aw.cell? ⟨q, 4, none⟩ = some (.string Z) ∧ aw.cell? ⟨q, 5, none⟩ = some (.int .i64 aa) := hS_
             refine norm_ (a' := ?_) ?_ ?_; rotate_left
             ·simp only [putAll, Act.put, List.setIfInBounds_toArray, List.set_cons_zero, List.set_cons_succ]; rfl
             refine two_ (i := 3) (j := 19) (Ni := some 10) (Nj := some 26) #[true, true, true, true, false, true, true, true, false, true, true, true, false, true, true, true, false, true, true, false, false, true, true, false, false, false, false] #[true, true, true, false, false, true, true, true, false, true, true, true, false, true, true, true, false, true, true, true, false, true, true, false, false, false, false] rfl rfl rfl rfl (two_of J.out gk_) (by decide) (by decide) (fun K hK => ?_) (fun K hK => ?_)
             ·skip
              refine lS (Kd.int .u8) 5 10 ([(B) % 256] : List Int) [.int .u8 ((B) % 256)] B36x5_ ?_; intro aj au bE hb
              (first | rw [← aM.out] at bE | (simp only [Int.reduceToNat] at bE; rw [← aM.out] at bE))
              have D := am (Kd.R_lower bE (below_size (Ae1 HB ac))); replace l := bA l hb; replace HB := De1 HB ac hb; clear hb bE; refine hK.out _ _ D12x0_ (fun z => nm_ ?_); clear hK K; exact norm_ B36x1_ (hJ3_7_11_15 (aj) _ ⟨z, D12x1_⟩)
             refine gT Try.func60 (spec_l16Short.calls k Z aA _ bp.out) ?_; rintro au hb; replace l := bA l hb; replace HB := De1 HB ac hb; refine hK.out _ _ D12x0_ (fun z => nm_ ?_); clear hK K; exact norm_ B36x1_ (hJ7_11_15_19 () _ ⟨z, (Ab l), (Ae1 HB ac)⟩)
            rintro aj au ⟨hS_, ae, ad, al⟩; replace D := am ae; replace l := am ad; replace HB := am al; clear ae ad al
            have z : au.cell? ⟨q, 0, none⟩ = some (.int .i64 B) ∧ au.cell? ⟨q, 1, none⟩ = some (.int .i64 M) ∧ au.cell? ⟨q, 2, none⟩ = some (.int .i64 U) ∧ au.cell? ⟨q, 3, none⟩ = some (.string Y) ∧ au.cell? ⟨q, 4, none⟩ = some (.string Z) ∧ au.cell? ⟨q, 5, none⟩ = some (.int .i64 aa) := hS_
            refine norm_ (a' := ?_) ?_ ?_; rotate_left
            ·simp only [putAll, Act.put, List.setIfInBounds_toArray, List.set_cons_zero, List.set_cons_succ]; rfl
            refine two_ (i := 4) (j := 15) (Ni := some 11) (Nj := some 22) #[true, true, true, true, true, true, true, true, false, true, true, true, false, true, true, false, false, true, true, false, false, true, true, false, false, false, false] #[true, true, true, true, false, true, true, true, false, true, true, true, false, true, true, true, false, true, true, false, false, true, true, false, false, false, false] rfl rfl rfl rfl (two_of J.out gk_) (by decide) (by decide) (fun K hK => ?_) (fun K hK => ?_)
            ·skip
             have dD := own_string (P := Try.prog) Try.underlying22 Try.underlying5 Try.underlying9 (Kd.own_of_R D.out); refine value_ (w1 := ?_) (v := ?_) (by rfl) rfl ?_ ?_
             rotate_left 2
             ·go_simp
              constructor
              ·rfl
              rfl
             clear dD; refine hK.out _ _ D12x0_ (fun z => nm_ ?_); clear hK K; refine pu_ 8 15 J ?_; refine pu_ 12 19 J ?_; exact norm_ B36x1_ (hJ3_4_7_11 (aj) _ ⟨z, D12x1_⟩)
            refine gT Try.func60 (spec_l16Short.calls k Y ar _ A8.out) ?_; rintro av hb; replace D := rA D hb; replace l := bA l hb; replace HB := De1 HB ac hb; refine hK.out _ _ D12x0_ (fun z => nm_ ?_); clear hK K; exact norm_ B36x1_ (hJ3_7_11_15 (aj) _ ⟨z, D12x1_⟩)
           rintro aj au ⟨hS_, ae, ad, al⟩; replace D := am ae; replace l := am ad; replace HB := am al; clear ae ad al
           have z : au.cell? ⟨q, 0, none⟩ = some (.int .i64 B) ∧ au.cell? ⟨q, 1, none⟩ = some (.int .i64 M) ∧ au.cell? ⟨q, 2, none⟩ = some (.int .i64 U) ∧ au.cell? ⟨q, 3, none⟩ = some (.string Y) ∧ au.cell? ⟨q, 4, none⟩ = some (.string Z) ∧ au.cell? ⟨q, 5, none⟩ = some (.int .i64 aa) := hS_
           refine norm_ (a' := ?_) ?_ ?_; rotate_left
           ·simp only [putAll, Act.put, List.setIfInBounds_toArray, List.set_cons_zero, List.set_cons_succ]; rfl
           refine on_ 11 (some 18) J (fun K hK => ?_); refine gT Try.func59 (spec_l01Var.calls k U ak _ A6.out) ?_; rintro av hb; replace D := rA D hb; replace l := bA l hb; replace HB := De1 HB ac hb; refine hK.out _ _ D12x0_ (fun z => nm_ ?_); clear hK K; refine pu_ 12 19 J ?_; exact norm_ B36x1_ (hJ3_4_7_11 (aj) _ ⟨z, D12x1_⟩)
          rintro _ au ⟨hS_, ae, ad⟩; replace l := am ae; replace HB := am ad; clear ae ad
          have z : au.cell? ⟨q, 0, none⟩ = some (.int .i64 B) ∧ au.cell? ⟨q, 1, none⟩ = some (.int .i64 M) ∧ au.cell? ⟨q, 2, none⟩ = some (.int .i64 U) ∧ au.cell? ⟨q, 3, none⟩ = some (.string Y) ∧ au.cell? ⟨q, 4, none⟩ = some (.string Z) ∧ au.cell? ⟨q, 5, none⟩ = some (.int .i64 aa) := hS_
          refine norm_ (a' := ?_) ?_ ?_; rotate_left
          ·simp only [putAll, Act.put, List.setIfInBounds_toArray, List.set_cons_zero, List.set_cons_succ]; rfl
          refine two_ (i := 3) (j := 23) (Ni := some 10) (Nj := some 30) #[true, true, true, true, false, true, true, true, false, true, true, true, false, true, true, true, false, true, true, true, false, true, true, false, false, false, false] #[true, true, true, false, false, true, true, true, false, true, true, true, false, true, true, true, false, true, true, true, false, true, true, true, false, false, false] rfl rfl rfl rfl (two_of J.out gk_) (by decide) (by decide) (fun K hK => ?_) (fun K hK => ?_)
          ·skip
           refine lS (Kd.int .u8) 5 10 ([(B) % 256] : List Int) [.int .u8 ((B) % 256)] B36x5_ ?_; intro aj av bF hb
           (first | rw [← aM.out] at bF | (simp only [Int.reduceToNat] at bF; rw [← aM.out] at bF))
           have D := am (Kd.R_lower bF (below_size (Ae1 HB ac))); replace l := bA l hb; replace HB := De1 HB ac hb; clear hb bF; refine hK.out _ _ D12x0_ (fun z => nm_ ?_); clear hK K; exact norm_ B36x1_ (hJ3_7_11_15_19 (aj) _ ⟨z, D12x1_⟩)
          refine gT Try.func59 (spec_l01Var.calls k aa aU _ bq.out) ?_; rintro av hb; replace l := bA l hb; replace HB := De1 HB ac hb; refine hK.out _ _ D12x0_ (fun z => nm_ ?_); clear hK K; exact norm_ B36x1_ (hJ7_11_15_19_23 () _ ⟨z, (Ab l), (Ae1 HB ac)⟩)
         rintro aj av ⟨hS_, ae, ad, al⟩; replace D := am ae; replace l := am ad; replace HB := am al; clear ae ad al
         have z : av.cell? ⟨q, 0, none⟩ = some (.int .i64 B) ∧ av.cell? ⟨q, 1, none⟩ = some (.int .i64 M) ∧ av.cell? ⟨q, 2, none⟩ = some (.int .i64 U) ∧ av.cell? ⟨q, 3, none⟩ = some (.string Y) ∧ av.cell? ⟨q, 4, none⟩ = some (.string Z) ∧ av.cell? ⟨q, 5, none⟩ = some (.int .i64 aa) := hS_
         refine norm_ (a' := ?_) ?_ ?_; rotate_left
         ·simp only [putAll, Act.put, List.setIfInBounds_toArray, List.set_cons_zero, List.set_cons_succ]; rfl
         refine two_ (i := 4) (j := 19) (Ni := some 11) (Nj := some 26) #[true, true, true, true, true, true, true, true, false, true, true, true, false, true, true, true, false, true, true, false, false, true, true, false, false, false, false] #[true, true, true, true, false, true, true, true, false, true, true, true, false, true, true, true, false, true, true, true, false, true, true, false, false, false, false] rfl rfl rfl rfl (two_of J.out gk_) (by decide) (by decide) (fun K hK => ?_) (fun K hK => ?_)
         ·skip
          have dE := own_string (P := Try.prog) Try.underlying22 Try.underlying5 Try.underlying9 (Kd.own_of_R D.out); refine value_ (w1 := ?_) (v := ?_) (by rfl) rfl ?_ ?_
          rotate_left 2
          ·go_simp
           constructor
           ·rfl
           rfl
          clear dE; refine hK.out _ _ D12x0_ (fun z => nm_ ?_); clear hK K; refine pu_ 8 15 J ?_; refine pu_ 12 19 J ?_; refine pu_ 16 23 J ?_; exact norm_ B36x1_ (hJ3_4_7_11_15 (aj) _ ⟨z, D12x1_⟩)
         refine gT Try.func60 (spec_l16Short.calls k Z aA _ bp.out) ?_; rintro aF hb; replace D := rA D hb; replace l := bA l hb; replace HB := De1 HB ac hb; refine hK.out _ _ D12x0_ (fun z => nm_ ?_); clear hK K; exact norm_ B36x1_ (hJ3_7_11_15_19 (aj) _ ⟨z, D12x1_⟩)
        rintro aj av ⟨hS_, ae, ad, al⟩; replace D := am ae; replace l := am ad; replace HB := am al; clear ae ad al
        have z : av.cell? ⟨q, 0, none⟩ = some (.int .i64 B) ∧ av.cell? ⟨q, 1, none⟩ = some (.int .i64 M) ∧ av.cell? ⟨q, 2, none⟩ = some (.int .i64 U) ∧ av.cell? ⟨q, 3, none⟩ = some (.string Y) ∧ av.cell? ⟨q, 4, none⟩ = some (.string Z) ∧ av.cell? ⟨q, 5, none⟩ = some (.int .i64 aa) := hS_
        refine norm_ (a' := ?_) ?_ ?_; rotate_left
        ·simp only [putAll, Act.put, List.setIfInBounds_toArray, List.set_cons_zero, List.set_cons_succ]; rfl
        refine on_ 15 (some 22) J (fun K hK => ?_); refine gT Try.func60 (spec_l16Short.calls k Y ar _ A8.out) ?_; rintro aF hb; replace D := rA D hb; replace l := bA l hb; replace HB := De1 HB ac hb; refine hK.out _ _ D12x0_ (fun z => nm_ ?_); clear hK K; refine pu_ 16 23 J ?_; exact norm_ B36x1_ (hJ3_4_7_11_15 (aj) _ ⟨z, D12x1_⟩)
       rintro _ av ⟨hS_, ae, ad⟩; replace l := am ae; replace HB := am ad; clear ae ad
       have z : av.cell? ⟨q, 0, none⟩ = some (.int .i64 B) ∧ av.cell? ⟨q, 1, none⟩ = some (.int .i64 M) ∧ av.cell? ⟨q, 2, none⟩ = some (.int .i64 U) ∧ av.cell? ⟨q, 3, none⟩ = some (.string Y) ∧ av.cell? ⟨q, 4, none⟩ = some (.string Z) ∧ av.cell? ⟨q, 5, none⟩ = some (.int .i64 aa) := hS_
       refine norm_ (a' := ?_) ?_ ?_; rotate_left
       ·simp only [putAll, Act.put, List.setIfInBounds_toArray, List.set_cons_zero, List.set_cons_succ]; rfl
       refine on_ 3 (some 10) J (fun K hK => ?_); refine lS (Kd.int .u8) 5 10 ([(B) % 256] : List Int) [.int .u8 ((B) % 256)] B36x5_ ?_; intro aj aF bG hb
       (first | rw [← aM.out] at bG | (simp only [Int.reduceToNat] at bG; rw [← aM.out] at bG))
       have D := am (Kd.R_lower bG (below_size (Ae1 HB ac))); replace l := bA l hb; replace HB := De1 HB ac hb; clear hb bG; refine hK.out _ _ D12x0_ (fun z => nm_ ?_); clear hK K; exact norm_ B36x1_ (hJ3_7_11_15_19_23 (aj) _ ⟨z, D12x1_⟩)
      rintro aj aF ⟨hS_, ae, ad, al⟩; replace D := am ae; replace l := am ad; replace HB := am al; clear ae ad al
      have z : aF.cell? ⟨q, 0, none⟩ = some (.int .i64 B) ∧ aF.cell? ⟨q, 1, none⟩ = some (.int .i64 M) ∧ aF.cell? ⟨q, 2, none⟩ = some (.int .i64 U) ∧ aF.cell? ⟨q, 3, none⟩ = some (.string Y) ∧ aF.cell? ⟨q, 4, none⟩ = some (.string Z) ∧ aF.cell? ⟨q, 5, none⟩ = some (.int .i64 aa) := hS_
      refine norm_ (a' := ?_) ?_ ?_; rotate_left
      ·simp only [putAll, Act.put, List.setIfInBounds_toArray, List.set_cons_zero, List.set_cons_succ]; rfl
      refine two_ (i := 4) (j := 23) (Ni := some 11) (Nj := some 30) #[true, true, true, true, true, true, true, true, false, true, true, true, false, true, true, true, false, true, true, true, false, true, true, false, false, false, false] #[true, true, true, true, false, true, true, true, false, true, true, true, false, true, true, true, false, true, true, true, false, true, true, true, false, false, false] rfl rfl rfl rfl (two_of J.out gk_) (by decide) (by decide) (fun K hK => ?_) (fun K hK => ?_)
      ·skip
       have dF := own_string (P := Try.prog) Try.underlying22 Try.underlying5 Try.underlying9 (Kd.own_of_R D.out); refine value_ (w1 := ?_) (v := ?_) (by rfl) rfl ?_ ?_
       rotate_left 2
       ·go_simp
        constructor
        ·rfl
        rfl
       clear dF; refine hK.out _ _ D12x0_ (fun z => nm_ ?_); clear hK K; refine pu_ 8 15 J ?_; refine pu_ 12 19 J ?_; refine pu_ 16 23 J ?_; refine pu_ 20 27 J ?_; exact norm_ B36x1_ (hJ3_4_7_11_15_19 (aj) _ ⟨z, D12x1_⟩)
      refine gT Try.func59 (spec_l01Var.calls k aa aU _ bq.out) ?_; rintro aG hb; replace D := rA D hb; replace l := bA l hb; replace HB := De1 HB ac hb; refine hK.out _ _ D12x0_ (fun z => nm_ ?_); clear hK K; exact norm_ B36x1_ (hJ3_7_11_15_19_23 (aj) _ ⟨z, D12x1_⟩)
     rintro aj aF ⟨hS_, ae, ad, al⟩; replace D := am ae; replace l := am ad; replace HB := am al; clear ae ad al
     have z : aF.cell? ⟨q, 0, none⟩ = some (.int .i64 B) ∧ aF.cell? ⟨q, 1, none⟩ = some (.int .i64 M) ∧ aF.cell? ⟨q, 2, none⟩ = some (.int .i64 U) ∧ aF.cell? ⟨q, 3, none⟩ = some (.string Y) ∧ aF.cell? ⟨q, 4, none⟩ = some (.string Z) ∧ aF.cell? ⟨q, 5, none⟩ = some (.int .i64 aa) := hS_
     refine norm_ (a' := ?_) ?_ ?_; rotate_left
     ·simp only [putAll, Act.put, List.setIfInBounds_toArray, List.set_cons_zero, List.set_cons_succ]; rfl
     refine on_ 19 (some 26) J (fun K hK => ?_); refine gT Try.func60 (spec_l16Short.calls k Z aA _ bp.out) ?_; rintro aG hb; replace D := rA D hb; replace l := bA l hb; replace HB := De1 HB ac hb; refine hK.out _ _ D12x0_ (fun z => nm_ ?_); clear hK K; refine pu_ 20 27 J ?_; exact norm_ B36x1_ (hJ3_4_7_11_15_19 (aj) _ ⟨z, D12x1_⟩)
    rintro aj aG ⟨hS_, ae, ad, al⟩; replace D := am ae; replace l := am ad; replace HB := am al; clear ae ad al
    have z : aG.cell? ⟨q, 0, none⟩ = some (.int .i64 B) ∧ aG.cell? ⟨q, 1, none⟩ = some (.int .i64 M) ∧ aG.cell? ⟨q, 2, none⟩ = some (.int .i64 U) ∧ aG.cell? ⟨q, 3, none⟩ = some (.string Y) ∧ aG.cell? ⟨q, 4, none⟩ = some (.string Z) ∧ aG.cell? ⟨q, 5, none⟩ = some (.int .i64 aa) := hS_
    refine norm_ (a' := ?_) ?_ ?_; rotate_left
    ·simp only [putAll, Act.put, List.setIfInBounds_toArray, List.set_cons_zero, List.set_cons_succ]; rfl
    refine on_ 4 (some 11) J (fun K hK => ?_); have dG := own_string (P := Try.prog) Try.underlying22 Try.underlying5 Try.underlying9 (Kd.own_of_R D.out); refine value_ (w1 := ?_) (v := ?_) (by rfl) rfl ?_ ?_
    rotate_left 2
    ·go_simp
     constructor
     ·rfl
     rfl
    clear dG; refine hK.out _ _ D12x0_ (fun z => nm_ ?_); clear hK K; refine pu_ 8 15 J ?_; refine pu_ 12 19 J ?_; refine pu_ 16 23 J ?_; refine pu_ 20 27 J ?_; exact norm_ B36x1_ (hJ3_4_7_11_15_19_23 (aj) _ ⟨z, D12x1_⟩)
   rintro aj aG ⟨hS_, ae, ad, al⟩; replace D := am ae; replace l := am ad; replace HB := am al; clear ae ad al
   have z : aG.cell? ⟨q, 0, none⟩ = some (.int .i64 B) ∧ aG.cell? ⟨q, 1, none⟩ = some (.int .i64 M) ∧ aG.cell? ⟨q, 2, none⟩ = some (.int .i64 U) ∧ aG.cell? ⟨q, 3, none⟩ = some (.string Y) ∧ aG.cell? ⟨q, 4, none⟩ = some (.string Z) ∧ aG.cell? ⟨q, 5, none⟩ = some (.int .i64 aa) := hS_
   refine norm_ (a' := ?_) ?_ ?_; rotate_left
   ·simp only [putAll, Act.put, List.setIfInBounds_toArray, List.set_cons_zero, List.set_cons_succ]; rfl
   refine on_ 23 (some 30) J (fun K hK => ?_); refine gT Try.func59 (spec_l01Var.calls k aa aU _ bq.out) ?_; rintro bj hb; replace D := rA D hb; replace l := bA l hb; replace HB := De1 HB ac hb; refine hK.out _ _ D12x0_ (fun z => nm_ ?_); clear hK K; exact norm_ B36x1_ (hJ3_4_7_11_15_19_23 (aj) _ ⟨z, D12x1_⟩)
  rintro aj bj ⟨hS_, ae, ad, al⟩; replace l := am ad; replace HB := am al; clear ae ad al
  have z : bj.cell? ⟨q, 0, none⟩ = some (.int .i64 B) ∧ bj.cell? ⟨q, 1, none⟩ = some (.int .i64 M) ∧ bj.cell? ⟨q, 2, none⟩ = some (.int .i64 U) ∧ bj.cell? ⟨q, 3, none⟩ = some (.string Y) ∧ bj.cell? ⟨q, 4, none⟩ = some (.string Z) ∧ bj.cell? ⟨q, 5, none⟩ = some (.int .i64 aa) := hS_
  refine norm_ (a' := ?_) ?_ ?_; rotate_left
  ·simp only [putAll, Act.put, List.setIfInBounds_toArray, List.set_cons_zero, List.set_cons_succ]; rfl
  refine pu_ 24 31 J ?_; refine pu_ 25 2 J ?_; refine pu_ 26 3 J ?_; refine done_ (done_of J.out gk_) ?_
  try go_wp2
  go_ret2
  exact ⟨B36x9_, (Ae1 HB ac)⟩
 obtain ⟨rfl, rfl⟩ := s2 aD
 clear aD aK aH
 go_enter Try.func79, Try.ntmps79
 go_wp2_with (first | ((with_reducible refine gate_dst (N := 1) rfl ?_); refine bx (N := 1) (cs := #[.int .i64 B, .int .i64 M, .int .i64 U, .string Y, .string Z, .int .i64 aa]) (t := 59) ?_; intro q hg dV hbox hb; have l := am hbox; have ac := gA hg HB; replace HB := hA HB hb; clear hb hbox hg; obtain ⟨d4, d5, d6, d7, d8, d9, ea, eb, ec, ed, ee, ef⟩ := cf6 l) | ((with_reducible refine gate_callee (f := 36) rfl ?_); refine gM (some 5) Try.func36 (spec_CommandOk.calls k B M U Y Z aa false _ A2.out) ?_; rintro fd hb; replace l := bA l hb; replace HB := De1 HB ac hb))
 go_ret2
 exact ⟨B36x9_, (Ae1 HB ac)⟩
theorem B37x1_ (h : p := by repeat (first | (with_reducible first | exact ap.out | apply IsS101.alloc | apply IsS101.drewN | apply IsS101.drew | apply IsS101.set_0 | apply IsS101.set_1 | apply IsS101.set_2 | refine IsS101.far ?_ ca.out _ | refine IsS101.far ?_ bm.out _) | exact ap.out)) : p := h
theorem B37x2_ (h : p := by repeat (first | (with_reducible first | exact aJ.out | apply IsS107.alloc | apply IsS107.drewN | apply IsS107.drew | apply IsS107.set_1 | apply IsS107.set_2) | exact aJ.out)) : p := h
theorem B37x20_ (h : p := by exact ⟨(Ab a3), bI.out⟩) : p := h
theorem B37x21_ (h : p := by simp only [putAll, Act.put, List.setIfInBounds_toArray, List.set_cons_zero, List.set_cons_succ]) : p := h
def spec_DrawReadCommand.f (k : Nat) (l0 : List Int) : Option (ByteArray) := (spec_l01New.f k l0).bind fun bw => ((spec_l15Keep.f k bw.1 bw.2.1 bw.2.2 8).bind fun bJ => ((spec_l15AnyCommand.f k bw.1 bJ.2.2.1 bJ.2.2.2 bJ.1 bJ.2.1).bind fun a8 => ((spec_CommandText.f k a8.1 a8.2.1 a8.2.2.1 a8.2.2.2.1 a8.2.2.2.2.1 a8.2.2.2.2.2.1).bind fun dh => ((spec_l02Spoilt.f k bw.1 a8.2.2.2.2.2.2.1 a8.2.2.2.2.2.2.2 dh.1).bind fun di => (some di.1)))))
theorem spec_DrawReadCommand.calls (k : Nat) (A0 : Option Addr) (c0 : Nat) (l0 : List Int) (r : ByteArray) (w : World) (co : Kd.C (Kd.int .u8) w A0 l0.length l0) (cn : l0.length ≤ c0) (h : spec_DrawReadCommand.f k l0 = some r) :
  Calls Try.prog 34 #[.slice A0 l0.length c0] w fun e w' => e = .returned (.string r) ∧ Below w.heap.size w w' := by
 have df := am co
 have de := am cn
 clear co cn
 have HB := am (Below.refl w.heap.size w)
 have aK := h
 clear h
 unfold spec_DrawReadCommand.f at aK
 obtain ⟨⟨aZ, cq, cr⟩, A2, aH⟩ := bsi aK
 (try dsimp only at aH)
 obtain ⟨⟨b4, b5, bn, bo⟩, A3, aD⟩ := bsi aH
 (try dsimp only at aD)
 obtain ⟨⟨ct, cu, cv, cw, cx, cy, bM, bN⟩, A4, aQ⟩ := bsi aD
 (try dsimp only at aQ)
 obtain ⟨⟨cz, dO⟩, A5, aX⟩ := bsi aQ
 (try dsimp only at aX)
 obtain ⟨⟨dP, dQ, dR⟩, A6, aR⟩ := bsi aX
 (try dsimp only at aR)
 obtain rfl := Option.some.inj aR
 clear aR aK aH aD aQ aX
 go_enter Try.func34, Try.ntmps34
 go_wp2_with (first | ((with_reducible refine gate_callee (f := 37) rfl ?_); refine gL (some 7) Try.func37 #[.slice A0 l0.length c0] ?_; refine (spec_l01New.calls k _ _ l0 aZ cq cr w _ (Ae0 HB) df.out de.out A2.out).mono ?_; rintro e w7 ⟨aS, rfl, hi, hb, ew⟩; refine ⟨_, rfl, ?_⟩; replace HB := am hb; have aJ := am hi) | ((with_reducible refine gate_callee (f := 75) rfl ?_); refine gL (some 11) Try.func75 #[.pointer (some ⟨aS, 0, none⟩), .int .i64 8] ?_; refine (spec_l15Keep.calls k aS aZ cq cr 8 b4 b5 bn bo w _ B37x2_ (Ae1 HB (IsS107.gf aJ)) A3.out).mono ?_; rintro e w8 ⟨e6, e7, rfl, dK, dL, hi, hb, hk⟩; refine ⟨_, rfl, ?_⟩; have a4 := am (Kd.R_lower dK (below_size (Ae1 HB (IsS107.gf aJ)))); have a5 := am (Kd.R_lower dL (below_size (Ae1 HB (IsS107.gf aJ)))); replace HB := am hb; replace aJ := am hi; obtain ⟨dd, dx, dz⟩ := Kd.R_slice a4.out; subst dz; obtain ⟨dc, dw, dy⟩ := Kd.R_slice a5.out; subst dy) | ((with_reducible refine gate_callee (f := 74) rfl ?_); refine gM (args := #[.pointer (some ⟨aS, 0, none⟩), .agg #[.slice dd b4.length dx, .slice dc b5.length dw]]) (some 12) Try.func74 (spec_l15AnyCommand.calls k aS aZ bn bo _ _ b4 _ _ b5 ct cu cv cw cx cy bM bN w _ B37x2_ (Ae1 HB (IsS107.gf aJ)) (Kd.C_foot_own (IsS107.apart (show IsS107 w _ aS aZ bn bo from B37x2_) (Ar a4) (by decide)) (fun _ h_ => h_.2)) ((Kd.R_reads' a4.out).2.1) (Kd.C_foot_own (IsS107.apart (show IsS107 w _ aS aZ bn bo from B37x2_) (Ar a5) (by decide)) (fun _ h_ => h_.2)) ((Kd.R_reads' a5.out).2.1) A4.out) ?_; rintro e8 ⟨hi, hb, hk⟩; replace a4 := am (Kd.R_mono (Kd.R_keep (IsS107.apart (show IsS107 w _ aS aZ bn bo from B37x2_) (Ar a4) (by decide)) hk (fun _ h => h.2)) (fun _ h => h.1)); replace a5 := am (Kd.R_mono (Kd.R_keep (IsS107.apart (show IsS107 w _ aS aZ bn bo from B37x2_) (Ar a5) (by decide)) hk (fun _ h => h.2)) (fun _ h => h.1)); replace HB := am hb; replace aJ := am hi) | ((with_reducible refine gate_callee (f := 79) rfl ?_); refine gM (some 13) Try.func79 (spec_CommandText.calls k ct cu cv cw cx cy cz dO _ A5.out) ?_; rintro e9 hb; replace a4 := rA a4 hb; replace a5 := rA a5 hb; replace HB := De1 HB (IsS107.gf aJ) hb; replace aJ := am (IsS107.below B37x2_ hb)) | ((with_reducible refine gate_callee (f := 71) rfl ?_); refine gM (some 18) Try.func71 (spec_l02Spoilt.calls k aS aZ bM bN cz dP dQ dR w _ B37x2_ (Ae1 HB (IsS107.gf aJ)) A6.out) ?_; rintro fa ⟨hi, hb, hk⟩; replace a4 := am (Kd.R_mono (Kd.R_keep (IsS107.apart (show IsS107 w _ aS aZ bM bN from B37x2_) (Ar a4) (by decide)) hk (fun _ h => h.2)) (fun _ h => h.1)); replace a5 := am (Kd.R_mono (Kd.R_keep (IsS107.apart (show IsS107 w _ aS aZ bM bN from B37x2_) (Ar a5) (by decide)) hk (fun _ h => h.2)) (fun _ h => h.1)); replace HB := am hb; replace aJ := am hi))
 go_ret
 exact ⟨B36x9_, (Ae1 HB (IsS107.gf aJ))⟩

def spec_ReadCommand.j0 : Nat → Bool → Int → Int → Int → ByteArray → ByteArray → Int → Option (Int × Int × Int × ByteArray × ByteArray × Int × Bool)
 | 0, _, _, _, _, _, _, _ => none
 | k + 1, dX, dY, dZ, d0, d1, d2, d3 => if dX = true then (some (0, 0, 0, (⟨#[]⟩ : ByteArray), (⟨#[]⟩ : ByteArray), 0, false)) else (some (dY, dZ, d0, d1, d2, d3, true))
def spec_ReadCommand.f (k : Nat) (a0 : ByteArray) : Option (Int × Int × Int × ByteArray × ByteArray × Int × Bool) := if a0.toList = ([] : List UInt8) then (some (0, 0, 0, (⟨#[]⟩ : ByteArray), (⟨#[]⟩ : ByteArray), 0, false)) else (if 0 < (a0.size : Int) then ((spec_l16Var.f k a0 1 false).bind fun bd => ((spec_l16Var.f k bd.2.1 bd.2.2.1 bd.2.2.2).bind fun be => ((spec_l16ReadShort.f k be.2.1 be.2.2.1 be.2.2.2).bind fun bh => ((spec_l16ReadShort.f k bh.2.1 bh.2.2.1 bh.2.2.2).bind fun bi => ((spec_l16Var.f k bi.2.1 bi.2.2.1 bi.2.2.2).bind fun bz => ((spec_CommandText.f k (wrap64 (bt a0 0)) bd.1 be.1 bh.1 bi.1 bz.1).bind fun cc => (if bz.2.2.2 = true then (spec_ReadCommand.j0 k true (wrap64 (bt a0 0)) bd.1 be.1 bh.1 bi.1 bz.1) else (if cc.2 = true then (spec_ReadCommand.j0 k (cc.1.toList != a0.toList) (wrap64 (bt a0 0)) bd.1 be.1 bh.1 bi.1 bz.1) else (spec_ReadCommand.j0 k true (wrap64 (bt a0 0)) bd.1 be.1 bh.1 bi.1 bz.1))))))))) else (none))
def spec_ReadCommand.T4 : Bool × List (List Nat × List Nat) := (true, [([], []), ([0], [0]), ([1], [1]), ([], []), ([3], [3]), ([2, 4], [2, 4]), ([], []), ([6, 5, 4, 0, 1, 2, 3, 4, 5, 6], [5, 6])])
def spec_ReadCommand.B4 : List Nat := [0, 1, 3, 0, 8, 31, 0, 127]
theorem spec_ReadCommand.tab4 : rtab .any (opsOf Try.f35 4) = spec_ReadCommand.T4 := by kernel_rfl
theorem spec_ReadCommand.bits4 : waitsOk spec_ReadCommand.T4.2 spec_ReadCommand.B4 = true := by kernel_rfl
theorem spec_ReadCommand.calls (k : Nat) (a0 : ByteArray) (r1 : Int) (r2 : Int) (r3 : Int) (r4 : ByteArray) (r5 : ByteArray) (r6 : Int) (r7 : Bool) (w : World) (h : spec_ReadCommand.f k a0 = some (r1, r2, r3, r4, r5, r6, r7)) :
  Calls Try.prog 35 #[.string a0] w fun e w' => e = .returned (.tuple #[.agg #[.int .i64 r1, .int .i64 r2, .int .i64 r3, .string r4, .string r5, .int .i64 r6], .bool r7]) ∧ Below w.heap.size w w' := by
 have dM := Try.underlying59
 have e4 := Try.underlying101
 have HB := am (Below.refl w.heap.size w)
 have aK := h
 clear h
 unfold spec_ReadCommand.f at aK
 obtain ⟨c2, aH⟩ | ⟨c2, aH⟩ := sp aK
 ·obtain ⟨cd, ce⟩ := yE c2; clear c2; obtain ⟨rfl, rfl, rfl, rfl, rfl, rfl, rfl⟩ := s7 aH; clear aH aK; go_enter Try.func35, Try.ntmps35
  go_wp2_with (first | ((with_reducible refine gate_dst (N := 2) rfl ?_); refine bx (N := 2) (cs := #[.int .i64 0, .int .i64 0, .int .i64 0, .string (⟨#[]⟩ : ByteArray), .string (⟨#[]⟩ : ByteArray), .int .i64 0]) (t := 59) ?_; intro ao hg w3 hbox hb; have af := am hbox; have ax := gA hg HB; replace HB := hA HB hb; clear hb hbox hg; obtain ⟨cO, cP, cQ, cR, cS, cT, cU, cV, cW, cX, cY, cZ⟩ := cf6 af) | ((with_reducible refine gate_store (t := 59) (p := 2) rfl ?_); refine store_event (t := 59) (p := 2) (v := ?vo_w5) (w1 := ((((((w3.setCell ⟨ao, 0, none⟩ (.int .i64 0)).setCell ⟨ao, 1, none⟩ (.int .i64 0)).setCell ⟨ao, 2, none⟩ (.int .i64 0)).setCell ⟨ao, 3, none⟩ (.string (⟨#[]⟩ : ByteArray))).setCell ⟨ao, 4, none⟩ (.string (⟨#[]⟩ : ByteArray))).setCell ⟨ao, 5, none⟩ (.int .i64 0))) ?hg ?ho ?hn ?hr ?_; (case ho => rfl); (case hg => rfl); (case hn => rfl); (case hr => exact gs_); intro w5 hw; replace af : Hc w5 ao #[.int .i64 0, .int .i64 0, .int .i64 0, .string (⟨#[]⟩ : ByteArray), .string (⟨#[]⟩ : ByteArray), .int .i64 0] 59 := ⟨wAp0 af⟩; replace HB : Hb w w5 := ⟨wAe1 HB ax⟩; clear hw))
  refine bodyPost_ret (results_ct rfl _ _ ao 59 #[.int .i64 0, .int .i64 0, .int .i64 0, .string (⟨#[]⟩ : ByteArray), .string (⟨#[]⟩ : ByteArray), .int .i64 0] (0, 0) _ rfl (Ab af) Try.underlying59 rfl gk_) rfl ?_; exact ⟨B36x9_, (Ae1 HB ax)⟩
 obtain ⟨cd, ce⟩ := nE c2
 obtain ⟨c6, aD⟩ := yn aH
 have dq := decide_eq_true c6
 have dr : decide (0 < a0.size) = true := decide_eq_true (by omega)
 clear c6
 obtain ⟨⟨aE, bO, bP, bQ⟩, A8, aQ⟩ := bsi aD
 (try dsimp only at aQ)
 obtain ⟨⟨aN, cA, cB, cC⟩, A9, aX⟩ := bsi aQ
 (try dsimp only at aX)
 obtain ⟨⟨aV, cD, cE, cF⟩, bp, aR⟩ := bsi aX
 (try dsimp only at aR)
 obtain ⟨⟨a1, cG, cH, cI⟩, da, bk⟩ := bsi aR
 (try dsimp only at bk)
 obtain ⟨⟨a2, cJ, cK, cL⟩, bq, ba⟩ := bsi bk
 (try dsimp only at ba)
 obtain ⟨⟨cM, dS⟩, db, aL⟩ := bsi ba
 (try dsimp only at aL)
 replace aL := am aL
 clear aK aH aD aQ aX aR bk ba
 go_enter Try.func35, Try.ntmps35
 try go_wp2_with (first | ((with_reducible refine gate_dst (N := 2) rfl ?_); refine bx (N := 2) (cs := #[.int .i64 0, .int .i64 0, .int .i64 0, .string (⟨#[]⟩ : ByteArray), .string (⟨#[]⟩ : ByteArray), .int .i64 0]) (t := 59) ?_; intro ao hg fc hbox hb; have af := am hbox; have ax := gA hg HB; replace HB := hA HB hb; clear hb hbox hg) | ((with_reducible refine gate_dst (N := 13) rfl ?_); refine bx (N := 13) (cs := #[.string a0, .int .i64 1, .bool false]) (t := 101) ?_; intro aT hg b6 hbox hb; have a3 := am hbox; have bI := gA hg HB; replace HB := De1 HB ax hb; have bl := nA hg af; have ca := mA hg af; replace af := bA af hb; clear hb hbox hg))
 replace af := dA af
 replace a3 := dA a3
 replace HB := bdr HB
 have p7 : 0 ≤ (0 : Int) := (by omega)
 have q7 : 0 < a0.size := (by have : (0 : Int) < (a0.size : Int) := dga; omega)
 have dN : ∀ h : 0 < a0.size, ((a0[0]'h).toNat : Int) = bt a0 0 := bt_at a0 0
 clear p7
 have qi7 : (0 < (a0.size : Int)) = True := eq_true (dga)
 replace q7 := eq_true q7
 refine st_ 8 (fun w' => True) [] spec_ReadCommand.tab4 spec_ReadCommand.bits4 trivial (fun z J a6 => ?_)
 generalize b6.drew = dU at af a3 HB z ⊢
 refine pu_ 0 14 J ?_
 refine pu_ 3 17 J ?_
 refine take_ (i := 1) (N := some 15) (v := ?_) (a' := ?_) #[true, true, false, true, false, false, false, false] rfl rfl (take_ofW J.out a6.out gk_) (fun _ _ _ h => h) (Or.inl ⟨(by rfl), ?_⟩) z ?_ ?_
 rotate_left
 ·intro w' _; go_simp; with_reducible rfl
 rotate_left
 ·simp only [Act.put, List.setIfInBounds_toArray, List.set_cons_zero, List.set_cons_succ, i64_w, i32_w]; rfl
 refine pu_ 2 16 J ?_
 refine join_ (σ := Nat) 1 #[true, true, true, true, true, true, true, false] (fun s_ => [(18, .int .i64 aE), (5, .pointer (some ⟨s_, 0, none⟩)), (19, .agg #[.int .i64 (wrap64 (bt a0 0)), .int .i64 aE, .int .i64 0, .string (⟨#[]⟩ : ByteArray), .string (⟨#[]⟩ : ByteArray), .int .i64 0])]) (fun s_ w' => (w'.heap[ao]? = some (.cells #[.int .i64 0, .int .i64 0, .int .i64 0, .string (⟨#[]⟩ : ByteArray), .string (⟨#[]⟩ : ByteArray), .int .i64 0] 59 (0, 0))) ∧ (w'.heap[s_]? = some (.cells #[.int .i64 0, .int .i64 0, .int .i64 0, .string (⟨#[]⟩ : ByteArray), .string (⟨#[]⟩ : ByteArray), .int .i64 0] 59 (0, 0))) ∧ (w.heap.size ≤ s_) ∧ (w.heap.size ≤ s_) ∧ (aT ≠ s_) ∧ (s_ ≠ aT) ∧ (ao ≠ s_) ∧ (s_ ≠ ao) ∧ (IsS101 w w' aT bO bP bQ) ∧ (Below w.heap.size w w')) ?_ ?_
 rotate_left
 ·intro cm; refine two_ (i := 4) (j := 6) (Ni := some 18) (Nj := some 5) #[true, true, true, true, true, false, false, false] #[true, true, true, true, false, false, true, false] rfl rfl rfl rfl (two_of J.out gk_) (by decide) (by decide) (fun K hK => ?_) (fun K hK => ?_)
  ·skip
   refine gT Try.func72 (spec_l16Var.calls k aT a0 1 false aE bO bP bQ w _ B37x20_ (Ae2 HB ax bI) A8.out) ?_; rintro b7 ⟨hi, hb, hk⟩; replace af := kA hk af bl; replace HB := am hb; have ap := am hi; refine hK.out _ _ trivial (fun z => nm_ ?_); clear hK K; refine pu_ 5 19 J ?_; refine on_ 6 (some 5) J (fun K hK => ?_); refine box_step ?hg (N := 5) ?hd (cs := #[.int .i64 0, .int .i64 0, .int .i64 0, .string (⟨#[]⟩ : ByteArray), .string (⟨#[]⟩ : ByteArray), .int .i64 0]) (t := 59) ?hr ?_; (case hd => rfl); (case hg => rfl); (case hr => exact gs_); intro aC hg a9 hbox hb; have ai := am hbox; have b3 := gA hg HB; have az := gA hg HB; replace HB := De2 HB (IsS101.gf ap) ax hb; have aB := nA hg af; have aI := mA hg af; replace af := bA af hb; have bm := am (nl hg (IsS101.lt ap.out)); have aY := am (ng hg (IsS101.lt ap.out)); replace ap := am (IsS101.below (by repeat (first | (with_reducible first | exact ap.out | apply IsS101.alloc | apply IsS101.drewN | apply IsS101.drew | apply IsS101.set_0 | apply IsS101.set_1 | apply IsS101.set_2 | refine IsS101.far ?_ ca.out _) | exact ap.out)) hb); clear hb hbox hg; refine hK.out _ _ trivial (fun z => nm_ ?_); clear hK K; exact norm_ B37x21_ (cm (aC) _ ⟨(Ab af), (Ab ai), b3.out, az.out, bm.out, aY.out, aB.out, aI.out, B37x1_, (Ae3 HB (IsS101.gf ap) ax az)⟩)
  refine box_step ?hg (N := 5) ?hd (cs := #[.int .i64 0, .int .i64 0, .int .i64 0, .string (⟨#[]⟩ : ByteArray), .string (⟨#[]⟩ : ByteArray), .int .i64 0]) (t := 59) ?hr ?_; (case hd => rfl); (case hg => rfl); (case hr => exact gs_); intro aC hg b7 hbox hb; have ai := am hbox; have b3 := gA hg HB; have az := gA hg HB; replace HB := De2 HB ax bI hb; have aB := nA hg af; have aI := mA hg af; replace af := bA af hb; have bm := nA hg a3; have aY := mA hg a3; replace a3 := bA a3 hb; clear hb hbox hg; refine hK.out _ _ trivial (fun z => nm_ ?_); clear hK K; refine on_ 4 (some 18) J (fun K hK => ?_); refine gS Try.func72 #[.pointer (some ⟨aT, 0, none⟩)] ?_
  with_reducible refine (spec_l16Var.calls k aT a0 1 false aE bO bP bQ w _ ?z1 ?z2 A8.out).mono ?_
  (case z1 => exact B37x20_)
  (case z2 => repeat (first | (with_reducible first | exact HB.out | apply below_alloc | apply pw_below_drewN | apply below_drew1 | refine below_set ?_ ax.out | refine below_set ?_ bI.out | refine below_set ?_ az.out) | exact HB.out))
  rintro e a9 ⟨rfl, hi, hb, hk⟩; refine ⟨_, rfl, ?_⟩; replace af := kA hk af bl; replace ai := kA hk ai aY; replace HB := am hb; have ap := am hi; refine hK.out _ _ trivial (fun z => nm_ ?_); clear hK K; refine pu_ 5 19 J ?_; exact norm_ B37x21_ (cm (aC) _ ⟨(Ab af), (Ab ai), b3.out, az.out, bm.out, aY.out, aB.out, aI.out, B37x1_, (Ae3 HB (IsS101.gf ap) ax az)⟩)
 rintro aC ay ⟨ae, ad, al, cf, cg, ch, ci, cj, ck, cl⟩
 replace af := am ae
 replace ai := am ad
 replace az := am cf
 replace bm := am cg
 replace aY := am ch
 replace aB := am ci
 replace aI := am cj
 replace ap := am ck
 replace HB := am cl
 clear ae ad al cf cg ch ci cj ck cl
 (try clear a3)
 have z := trivial
 refine norm_ (a' := ?_) ?_ ?_
 rotate_left
 ·simp only [putAll, Act.put, List.setIfInBounds_toArray, List.set_cons_zero, List.set_cons_succ]; rfl
 refine on_ 7 none J (fun K hK => ?_)
 have eY : ay.cell? ⟨aC, 0, none⟩ = some (.int .i64 0) := bc ai 0
 have ex := blk_frozen ai.out 0
 obtain ⟨eS, eE⟩ := o2_ aB aI
 have eZ : ay.cell? ⟨aC, 1, none⟩ = some (.int .i64 0) := bc ai 1
 have ey := blk_frozen ai.out 1
 obtain ⟨eT, eF⟩ := o2_ aB aI
 have e0 : ay.cell? ⟨aC, 2, none⟩ = some (.int .i64 0) := bc ai 2
 have ez := blk_frozen ai.out 2
 obtain ⟨eU, eG⟩ := o2_ aB aI
 have e1 : ay.cell? ⟨aC, 3, none⟩ = some (.string (⟨#[]⟩ : ByteArray)) := bc ai 3
 have eB := blk_frozen ai.out 3
 obtain ⟨eV, eH⟩ := o2_ aB aI
 have e2 : ay.cell? ⟨aC, 4, none⟩ = some (.string (⟨#[]⟩ : ByteArray)) := bc ai 4
 have eC := blk_frozen ai.out 4
 obtain ⟨eW, eI⟩ := o2_ aB aI
 have e3 : ay.cell? ⟨aC, 5, none⟩ = some (.int .i64 0) := bc ai 5
 have eD := blk_frozen ai.out 5
 obtain ⟨eX, eJ⟩ := o2_ aB aI
 refine skip_ (w1 := ?_) (by rfl) rfl ?_ ?_
 rotate_left
 ·go_simp; rfl
 refine hK.out _ _ trivial (fun z => ?_)
 clear hK K
 refine done_ (done_of J.out gk_) ?_
 go_upto_region 10 with (first | ((with_reducible refine gate_callee (f := 72) rfl ?_); refine gM (some 21) Try.func72 (spec_l16Var.calls k aT bO bP bQ aN cA cB cC w _ B37x1_ (Ae3 HB (IsS101.gf ap) ax az) A9.out) ?_; rintro dV ⟨hi, hb, hk⟩; replace af := am (KeepBut.blk hk (g' := ao) (o := .cells #[.int .i64 0, .int .i64 0, .int .i64 0, .string (⟨#[]⟩ : ByteArray), .string (⟨#[]⟩ : ByteArray), .int .i64 0] 59 (0, 0)) (Ap1 af aB) bl.out (by simp)); replace ai := am (KeepBut.blk hk (g' := aC) (o := .cells #[.int .i64 (wrap64 (bt a0 0)), .int .i64 aE, .int .i64 0, .string (⟨#[]⟩ : ByteArray), .string (⟨#[]⟩ : ByteArray), .int .i64 0] 59 (0, 0)) (Ap0 ai) aY.out (by simp)); replace HB := am hb; replace ap := am hi; have eK := aI.out; have eO := aB.out; have eL := aY.out; have eP := bm.out; obtain ⟨bR, bS, bT, bU, bV, bW, bX, bY, bZ, b0, b1, b2⟩ := cf6 ai) | ((with_reducible refine gate_callee (f := 73) rfl ?_); refine gM (some 24) Try.func73 (spec_l16ReadShort.calls k aT cA cB cC aV cD cE cF w _ B37x1_ (Ae3 HB (IsS101.gf ap) ax az) bp.out) ?_; rintro fe ⟨hi, hb, hk⟩; replace af := am (KeepBut.blk hk (g' := ao) (o := .cells #[.int .i64 0, .int .i64 0, .int .i64 0, .string (⟨#[]⟩ : ByteArray), .string (⟨#[]⟩ : ByteArray), .int .i64 0] 59 (0, 0)) (Ap1 af aB) bl.out (by simp)); replace ai := am (KeepBut.blk hk (g' := aC) (o := .cells #[.int .i64 (wrap64 (bt a0 0)), .int .i64 aE, .int .i64 aN, .string (⟨#[]⟩ : ByteArray), .string (⟨#[]⟩ : ByteArray), .int .i64 0] 59 (0, 0)) (Ap0 ai) aY.out (by simp)); replace HB := am hb; replace ap := am hi; obtain ⟨bR, bS, bT, bU, bV, bW, bX, bY, bZ, b0, b1, b2⟩ := cf6 ai) | ((with_reducible refine gate_callee (f := 73) rfl ?_); refine gM (some 27) Try.func73 (spec_l16ReadShort.calls k aT cD cE cF a1 cG cH cI w _ B37x1_ (Ae3 HB (IsS101.gf ap) ax az) da.out) ?_; rintro ff ⟨hi, hb, hk⟩; replace af := am (KeepBut.blk hk (g' := ao) (o := .cells #[.int .i64 0, .int .i64 0, .int .i64 0, .string (⟨#[]⟩ : ByteArray), .string (⟨#[]⟩ : ByteArray), .int .i64 0] 59 (0, 0)) (Ap1 af aB) bl.out (by simp)); replace ai := am (KeepBut.blk hk (g' := aC) (o := .cells #[.int .i64 (wrap64 (bt a0 0)), .int .i64 aE, .int .i64 aN, .string aV, .string (⟨#[]⟩ : ByteArray), .int .i64 0] 59 (0, 0)) (Ap0 ai) aY.out (by simp)); replace HB := am hb; replace ap := am hi; obtain ⟨bR, bS, bT, bU, bV, bW, bX, bY, bZ, b0, b1, b2⟩ := cf6 ai) | ((with_reducible refine gate_callee (f := 72) rfl ?_); refine gM (some 30) Try.func72 (spec_l16Var.calls k aT cG cH cI a2 cJ cK cL w _ B37x1_ (Ae3 HB (IsS101.gf ap) ax az) bq.out) ?_; rintro dW ⟨hi, hb, hk⟩; replace af := am (KeepBut.blk hk (g' := ao) (o := .cells #[.int .i64 0, .int .i64 0, .int .i64 0, .string (⟨#[]⟩ : ByteArray), .string (⟨#[]⟩ : ByteArray), .int .i64 0] 59 (0, 0)) (Ap1 af aB) bl.out (by simp)); replace ai := am (KeepBut.blk hk (g' := aC) (o := .cells #[.int .i64 (wrap64 (bt a0 0)), .int .i64 aE, .int .i64 aN, .string aV, .string a1, .int .i64 0] 59 (0, 0)) (Ap0 ai) aY.out (by simp)); replace HB := am hb; replace ap := am hi; obtain ⟨bR, bS, bT, bU, bV, bW, bX, bY, bZ, b0, b1, b2⟩ := cf6 ai) | ((with_reducible refine gate_callee (f := 79) rfl ?_); refine gM (some 34) Try.func79 (spec_CommandText.calls k (wrap64 (bt a0 0)) aE aN aV a1 a2 cM dS _ db.out) ?_; rintro fg hb; replace af := am (blk_below (g := ao) (o := .cells #[.int .i64 0, .int .i64 0, .int .i64 0, .string (⟨#[]⟩ : ByteArray), .string (⟨#[]⟩ : ByteArray), .int .i64 0] 59 (0, 0)) (Ap1 af aB) hb); replace ai := am (blk_below (g := aC) (o := .cells #[.int .i64 (wrap64 (bt a0 0)), .int .i64 aE, .int .i64 aN, .string aV, .string a1, .int .i64 a2] 59 (0, 0)) (Ap0 ai) hb); replace HB := De3 HB (IsS101.gf ap) ax az hb; replace ap := am (IsS101.below (show IsS101 w (dW.setCell ⟨aC, 5, none⟩ (.int .i64 a2)) aT cJ cK cL from B37x1_) hb)))
 (try simp only [Act.put, List.setIfInBounds_toArray, List.set_cons_zero, List.set_cons_succ])
 go_cut [49] (fun dT wc => ∃ (kq : Nat) (b9 : Bool), dT = .bool b9 ∧ Aside0 (spec_ReadCommand.j0 kq b9 (wrap64 (bt a0 0)) aE aN aV a1 a2 = some (r1, r2, r3, r4, r5, r6, r7)) ∧ Aside0 (kq ≤ k) ∧ Hc wc ao #[.int .i64 0, .int .i64 0, .int .i64 0, .string (⟨#[]⟩ : ByteArray), .string (⟨#[]⟩ : ByteArray), .int .i64 0] 59 ∧ Hc wc aC #[.int .i64 (wrap64 (bt a0 0)), .int .i64 aE, .int .i64 aN, .string aV, .string a1, .int .i64 a2] 59 ∧ Hb w wc)
 case first =>
  replace aL := aL.out
  obtain ⟨rfl, aO⟩ | ⟨rfl, aO⟩ := sb aL
  ·replace aO := am aO; clear aL; obtain ⟨br, dH⟩ := ap.out; have fh := cellS101_0 br; have fi := cellS101_1 br; have fj := cellS101_2 br; obtain ⟨fq, fr, fs⟩ := fr3 br; clear br dH
   go_wp2
   go_meet
   case rel => exact ⟨_, true, be_, aO, D12x2_⟩
  obtain ⟨rfl, aW⟩ | ⟨rfl, aW⟩ := sb aO
  ·replace aW := am aW; clear aL aO; obtain ⟨bu, dI⟩ := ap.out; have fk := cellS101_0 bu; have fl := cellS101_1 bu; have fm := cellS101_2 bu; obtain ⟨ft, fu, fv⟩ := fr3 bu; clear bu dI
   go_wp2
   go_meet
   case rel => exact ⟨_, ((cM.toList != a0.toList)), be_, aW, D12x2_⟩
  replace aW := am aW; clear aL aO; obtain ⟨bv, dJ⟩ := ap.out; have fn := cellS101_0 bv; have fo := cellS101_1 bv; have fp := cellS101_2 bv; obtain ⟨fw, fx, fy⟩ := fr3 bv; clear bv dJ
  go_wp2
  go_meet
  case rel => exact ⟨_, true, be_, aW, D12x2_⟩
 clear aL
 try clear c2
 try clear cd
 try clear ce
 try clear c6
 try clear dq
 try clear dr
 try clear p7
 try clear q7
 try clear dN
 try clear qi7
 try clear p7
 try clear q7
 obtain ⟨kq, b9, rfl, aP, eg, af, ai, HB⟩ := hcut
 cases kq with
 | zero => exact absurd aP.out (by simp [spec_ReadCommand.j0])
 | succ e5 => ?_
 replace aP := aP.out
 simp only [spec_ReadCommand.j0] at aP
 obtain ⟨rfl, a7⟩ | ⟨rfl, a7⟩ := sb aP
 ·obtain ⟨rfl, rfl, rfl, rfl, rfl, rfl, rfl⟩ := s7 a7; clear a7 aP; obtain ⟨eM, eQ⟩ := o2_ aB aI; obtain ⟨cO, cP, cQ, cR, cS, cT, cU, cV, cW, cX, cY, cZ⟩ := cf6 af
  go_wp2_with (first | ((with_reducible refine gate_store (t := 59) (p := 2) rfl ?_); refine store_event (t := 59) (p := 2) (v := ?vo_w46) (w1 := ((((((wc.setCell ⟨ao, 0, none⟩ (.int .i64 0)).setCell ⟨ao, 1, none⟩ (.int .i64 0)).setCell ⟨ao, 2, none⟩ (.int .i64 0)).setCell ⟨ao, 3, none⟩ (.string (⟨#[]⟩ : ByteArray))).setCell ⟨ao, 4, none⟩ (.string (⟨#[]⟩ : ByteArray))).setCell ⟨ao, 5, none⟩ (.int .i64 0))) ?hg ?ho ?hn ?hr ?_; (case ho => rfl); (case hg => rfl); (case hn => rfl); (case hr => exact gs_); intro b8 hw; replace af : Hc b8 ao #[.int .i64 0, .int .i64 0, .int .i64 0, .string (⟨#[]⟩ : ByteArray), .string (⟨#[]⟩ : ByteArray), .int .i64 0] 59 := ⟨wAp0 af⟩; replace ai : Hc b8 aC #[.int .i64 (wrap64 (bt a0 0)), .int .i64 aE, .int .i64 aN, .string aV, .string a1, .int .i64 a2] 59 := ⟨wAp1 ai aI⟩; replace HB : Hb w b8 := ⟨wAe2 HB ax az⟩; clear hw))
  refine bodyPost_ret (results_ct rfl _ _ ao 59 #[.int .i64 0, .int .i64 0, .int .i64 0, .string (⟨#[]⟩ : ByteArray), .string (⟨#[]⟩ : ByteArray), .int .i64 0] (0, 0) _ rfl (Ab af) Try.underlying59 rfl gk_) rfl ?_; exact ⟨B36x9_, (Ae2 HB ax az)⟩
 obtain ⟨rfl, rfl, rfl, rfl, rfl, rfl, rfl⟩ := s7 a7
 clear a7 aP
 obtain ⟨eN, eR⟩ := o2_ aI aB
 obtain ⟨bR, bS, bT, bU, bV, bW, bX, bY, bZ, b0, b1, b2⟩ := cf6 ai
 obtain ⟨cO, cP, cQ, cR, cS, cT, cU, cV, cW, cX, cY, cZ⟩ := cf6 af
 go_wp2_with (first | ((with_reducible refine gate_store (t := 59) (p := 2) rfl ?_); refine store_event (t := 59) (p := 2) (v := ?vo_w50) (w1 := ((((((wc.setCell ⟨ao, 0, none⟩ (.int .i64 (wrap64 (bt a0 0)))).setCell ⟨ao, 1, none⟩ (.int .i64 aE)).setCell ⟨ao, 2, none⟩ (.int .i64 aN)).setCell ⟨ao, 3, none⟩ (.string aV)).setCell ⟨ao, 4, none⟩ (.string a1)).setCell ⟨ao, 5, none⟩ (.int .i64 a2))) ?hg ?ho ?hn ?hr ?_; (case ho => rfl); (case hg => rfl); (case hn => rfl); (case hr => exact gs_); intro cN hw; replace af : Hc cN ao #[.int .i64 (wrap64 (bt a0 0)), .int .i64 aE, .int .i64 aN, .string aV, .string a1, .int .i64 a2] 59 := ⟨wAp0 af⟩; replace HB : Hb w cN := ⟨wAe2 HB ax az⟩; clear hw))
 refine bodyPost_ret (results_ct rfl _ _ ao 59 #[.int .i64 (wrap64 (bt a0 0)), .int .i64 aE, .int .i64 aN, .string aV, .string a1, .int .i64 a2] (0, 0) _ rfl (Ab af) Try.underlying59 rfl gk_) rfl ?_
 exact ⟨B36x9_, (Ae2 HB ax az)⟩
end
end Go.Proofs.Ytgffdijodnpolaa.QFnKeepTexts
