/- Functions that a law reaches, as functions of Lean, and the walks that show that the calls come to their answers. No condition. -/
import Derived.Test.YtjaamflffmhicaaQFnExactUnwrapx0
import Derived.Test.YtjaamflffmhicaaVFnExactUnwraphort3
import Derived.Test.YtjaamflffmhicaaVFnExactUnwraphort2
import Derived.Test.YtjaamflffmhicaaVFnExactUnwraphort
import Derived.Test.YtjaamflffmhicaaVFnExactUnwraphort8
namespace Go.Proofs.Ytjaamflffmhicaa.QFnExactUnwrap
open Go.RowKit Go.Proofs.YtjaamflffmhicaaW.PrintWords Go.Proofs.YtjaamflffmhicaaW.PrintLast Go.Proofs.YtjaamflffmhicaaW.PrintMore Go.Proofs.Ytjaamflffmhicaa.Short
set_option linter.unusedVariables false
set_option linter.unusedSimpArgs false
set_option maxHeartbeats 8000000
set_option maxRecDepth 100000
variable {p : Prop}
theorem D1x0_ (h : p := by exact ⟨bc l 0, bc l 1, bc l 2, bc l 3, bc l 4, bc l 5⟩) : p := h
theorem D1x1_ (h : p := by exact ⟨(Ab l), (Ae1 HB ac)⟩) : p := h
theorem D1x2_ (h : p := by exact ⟨bc ao 0, bc ao 1, bc ao 2, bc ao 3, bc ao 4, bc ao 5⟩) : p := h
section
attribute [local go_sem] max2_int min2_int max_two min_two max_three min_three max_four min_four
theorem B4x1_ (h : p := by first | (simp only [putAll, Act.put, List.setIfInBounds_toArray, List.set_cons_zero, List.set_cons_succ]; done) | (simp only [putAll, Act.put, List.setIfInBounds_toArray, List.set_cons_zero, List.set_cons_succ]; rfl)) : p := h
theorem B4x5_ (h : p := by exact (Reps.one (show Kd.M (Kd.int .u8) _ _ _ ((wrap64 (Int.tdiv U 8)) % 256) [.int .u8 ((wrap64 (Int.tdiv U 8)) % 256)] from rfl) (Reps.one (show Kd.M (Kd.int .u8) _ _ _ aw [.int .u8 aw] from rfl) (Reps.none _ _)))) : p := h
theorem B4x7_ (h : p := by exact (Reps.one (show Kd.M (Kd.int .u8) _ _ _ ((J) % 256) [.int .u8 ((J) % 256)] from rfl) (Reps.one (show Kd.M (Kd.int .u8) _ _ _ ((M) % 256) [.int .u8 ((M) % 256)] from rfl) (Reps.none _ _)))) : p := h
theorem B4x8_ (h : p := by (with_reducible repeat (first | apply Kd.R_alloc | apply Kd.R_drewN | apply Kd.R_drew)); exact Kd.R_mono ad.out (fun _ hk => hk.2)) : p := h
theorem B4x9_ (h : p := by (with_reducible repeat (first | apply Kd.R_alloc | apply Kd.R_drewN | apply Kd.R_drew)); exact Kd.R_mono ae.out (fun _ hk => hk.2)) : p := h
def spec_l11Head.j0 : Nat → Int → Int → Int → Int → Int → Bool → ByteArray → Option (ByteArray)
 | 0, _, _, _, _, _, _, _ => none
 | k + 1, x3, dj, dk, dl, dm, eD, eE => (some (([(dj) % 256, (dk) % 256] : List Int) : List Int)).bind fun aA => ((spec_l11Two.f dl).bind fun az => (if (strOfNums aA).size + az.size ≤ 9223372036854775807 then ((some (([(wrap64 (Int.tdiv dm 8)) % 256, x3] : List Int) : List Int)).bind fun aH => (if ((strOfNums aA) ++ az).size + (strOfNums aH).size ≤ 9223372036854775807 then (some (((strOfNums aA) ++ az) ++ (strOfNums aH))) else (none))) else (none)))
def spec_l11Head.f (k : Nat) (J : Int) (M : Int) (Y : Int) (U : Int) (aa : Bool) (Z : ByteArray) : Option (ByteArray) := if aa = true then (spec_l11Head.j0 k 1 J M Y U aa Z) else (spec_l11Head.j0 k 0 J M Y U aa Z)
def spec_l11Head.T4 : Bool × List (List Nat × List Nat) := (true, [([], []), ([0], [0]), ([1], [1]), ([], []), ([3], [3]), ([4], [4]), ([2, 5], [2, 5]), ([6], [6]), ([], []), ([8], [8]), ([9], [9]), ([7, 10], [7, 10]), ([], []), ([12], [12]), ([13], [13]), ([14], [14]), ([], []), ([15, 16], [15, 16]), ([17], [17]), ([11, 18], [11, 18]), ([19, 10, 0, 1, 2, 3, 4, 5, 6, 7, 8, 9, 10, 11, 12, 13, 14, 15, 16, 17, 18, 19], [19])])
def spec_l11Head.B4 : List Nat := [0, 1, 3, 0, 8, 24, 63, 127, 0, 256, 768, 2047, 0, 4096, 12288, 28672, 0, 126976, 258048, 524287, 1048575]
theorem spec_l11Head.tab4 : rtab .any (opsOf Try.f60 4) = spec_l11Head.T4 := by kernel_rfl
theorem spec_l11Head.bits4 : waitsOk spec_l11Head.T4.2 spec_l11Head.B4 = true := by kernel_rfl
theorem spec_l11Head.calls (k : Nat) (J : Int) (M : Int) (Y : Int) (U : Int) (aa : Bool) (Z : ByteArray) (r : ByteArray) (w : World) (h : spec_l11Head.f k J M Y U aa Z = some r) :
  Calls Try.prog 60 #[.agg #[.int .i64 J, .int .i64 M, .int .i64 Y, .int .i64 U, .bool aa, .string Z]] w fun e w' => e = .returned (.string r) ∧ Below w.heap.size w w' := by
 have cj := Try.underlying44
 have HB := am (Below.refl w.heap.size w)
 have au := h
 clear h
 unfold spec_l11Head.f at au
 replace au := am au
 go_enter Try.func60, Try.ntmps60
 go_upto_if 5 with (first | ((with_reducible refine gate_dst (N := 1) rfl ?_); refine bx (N := 1) (cs := #[.int .i64 J, .int .i64 M, .int .i64 Y, .int .i64 U, .bool aa, .string Z]) (t := 44) ?_; intro q hg w3 hbox hb; have l := am hbox; have ac := gA hg HB; replace HB := hA HB hb; clear hb hbox hg; obtain ⟨eF, eG, eH, eI, eJ, eK, eL, eM, eN, eO, eP, eQ⟩ := cf6 l))
 (try simp only [Act.put, List.setIfInBounds_toArray, List.set_cons_zero, List.set_cons_succ])
 go_cut [3] (fun v3 wc => ∃ (kq : Nat) (aw : Int), v3 = .int .u8 aw ∧ Aside0 (spec_l11Head.j0 kq aw J M Y U aa Z = some r) ∧ Aside0 (kq ≤ k) ∧ Hc wc q #[.int .i64 J, .int .i64 M, .int .i64 Y, .int .i64 U, .bool aa, .string Z] 44 ∧ Hb w wc)
 case first =>
  replace au := au.out
  obtain ⟨rfl, av⟩ | ⟨rfl, av⟩ := sb au
  ·replace av := am av; clear au
   go_wp2
   go_meet
   case rel => exact ⟨_, 1, be_, av, ⟨gl_⟩, Cb l, Ce1 HB ac⟩
  replace av := am av; clear au
  go_wp2
  go_meet
  case rel => exact ⟨_, 0, be_, av, ⟨gl_⟩, Cb l, Ce1 HB ac⟩
 clear au
 obtain ⟨kq, aw, rfl, ax, cN, l, HB⟩ := hcut
 cases kq with
 | zero => exact absurd ax.out (by simp [spec_l11Head.j0])
 | succ bv => ?_
 replace ax := ax.out
 simp only [spec_l11Head.j0] at ax
 obtain ⟨aA, bj⟩ : ∃ y_ : List Int, y_ = (([(J) % 256, (M) % 256] : List Int)) := ⟨_, rfl⟩
 (first | with_reducible replace ax := hq bj ax | rw [← bj] at ax | simp only [← bj] at ax)
 have aU := am bj
 clear bj
 obtain ⟨az, A6, aI⟩ := bsi ax
 (try dsimp only at aI)
 obtain ⟨c7, aB⟩ := yn aI
 have ci := eq_true c7
 have cS := decide_eq_true c7
 try have bG : (9223372036854775807 < (strOfNums aA).size + az.size) = False := eq_false (Nat.not_lt.2 c7)
 try (have bH := bG; simp only [ByteArray.size_append] at bH)
 obtain ⟨aH, bk⟩ : ∃ y_ : List Int, y_ = (([(wrap64 (Int.tdiv U 8)) % 256, aw] : List Int)) := ⟨_, rfl⟩
 (first | with_reducible replace aB := hq bk aB | rw [← bk] at aB | simp only [← bk] at aB)
 have aV := am bk
 clear bk
 obtain ⟨c8, aP⟩ := yn aB
 have cT := eq_true c8
 have cU := decide_eq_true c8
 try have bI : (9223372036854775807 < ((strOfNums aA) ++ az).size + (strOfNums aH).size) = False := eq_false (Nat.not_lt.2 c8)
 try have cV : (9223372036854775807 < (strOfNums aA).size + az.size + (strOfNums aH).size) = False := eq_false (by have h_ := c8; simp only [ByteArray.size_append, ByteArray.size_extract, decide_eq_true_eq, decide_eq_false_iff_not] at *; omega)
 try (have bJ := bI; simp only [ByteArray.size_append] at bJ)
 obtain rfl := Option.some.inj aP
 clear aP ax aI aB
 try go_wp2
 replace l := dA l
 replace HB := bdr HB
 refine st_ 21 (fun w' => w'.cell? ⟨q, 0, none⟩ = some (.int .i64 J) ∧ w'.cell? ⟨q, 1, none⟩ = some (.int .i64 M) ∧ w'.cell? ⟨q, 2, none⟩ = some (.int .i64 Y) ∧ w'.cell? ⟨q, 3, none⟩ = some (.int .i64 U) ∧ w'.cell? ⟨q, 4, none⟩ = some (.bool aa) ∧ w'.cell? ⟨q, 5, none⟩ = some (.string Z)) [] spec_l11Head.tab4 spec_l11Head.bits4 D1x0_ (fun B D aJ => ?_)
 generalize wc.drew = w9 at l HB B ⊢
 refine pu_ 0 6 D ?_
 refine pu_ 3 9 D ?_
 refine pu_ 8 14 D ?_
 refine pu_ 12 18 D ?_
 refine pu_ 16 22 D ?_
 refine ta_ 1 7 D aJ B ?_
 refine pu_ 2 8 D ?_
 refine ta_ 4 10 D aJ B ?_
 refine pu_ 5 11 D ?_
 refine ta_ 9 15 D aJ B ?_
 refine ta_ 13 19 D aJ B ?_
 refine pu_ 14 20 D ?_
 refine pu_ 15 21 D ?_
 refine join_ (σ := Value × Value) 2 #[true, true, true, true, true, true, true, true, true, true, true, true, true, true, true, true, true, true, true, false, false] (fun s_ => [(12, s_.1), (13, .string (strOfNums aA)), (16, .string az), (23, s_.2), (24, .string (strOfNums aH)), (17, .string ((strOfNums aA) ++ az))]) (fun s_ w' => (w'.cell? ⟨q, 0, none⟩ = some (.int .i64 J) ∧ w'.cell? ⟨q, 1, none⟩ = some (.int .i64 M) ∧ w'.cell? ⟨q, 2, none⟩ = some (.int .i64 Y) ∧ w'.cell? ⟨q, 3, none⟩ = some (.int .i64 U) ∧ w'.cell? ⟨q, 4, none⟩ = some (.bool aa) ∧ w'.cell? ⟨q, 5, none⟩ = some (.string Z)) ∧ (Kd.R (Kd.int .u8) 5 w' w.heap.size (fun k_ => some k_ ≠ (s_.2 : Value).ownBlock) s_.1 aA) ∧ (Kd.R (Kd.int .u8) 5 w' w.heap.size (fun k_ => some k_ ≠ (s_.1 : Value).ownBlock) s_.2 aH) ∧ (w'.heap[q]? = some (.cells #[.int .i64 J, .int .i64 M, .int .i64 Y, .int .i64 U, .bool aa, .string Z] 44 (0, 0))) ∧ (Below w.heap.size w w')) ?_ ?_
 rotate_left
 ·intro hJ6_7_10_17_18; refine join_ (σ := Value × Value) 3 #[true, true, true, true, true, true, true, true, true, true, true, true, true, true, true, true, true, true, false, false, false] (fun s_ => [(12, s_.1), (13, .string (strOfNums aA)), (16, .string az), (23, s_.2), (17, .string ((strOfNums aA) ++ az))]) (fun s_ w' => (w'.cell? ⟨q, 0, none⟩ = some (.int .i64 J) ∧ w'.cell? ⟨q, 1, none⟩ = some (.int .i64 M) ∧ w'.cell? ⟨q, 2, none⟩ = some (.int .i64 Y) ∧ w'.cell? ⟨q, 3, none⟩ = some (.int .i64 U) ∧ w'.cell? ⟨q, 4, none⟩ = some (.bool aa) ∧ w'.cell? ⟨q, 5, none⟩ = some (.string Z)) ∧ (Kd.R (Kd.int .u8) 5 w' w.heap.size (fun k_ => some k_ ≠ (s_.2 : Value).ownBlock) s_.1 aA) ∧ (Kd.R (Kd.int .u8) 5 w' w.heap.size (fun k_ => some k_ ≠ (s_.1 : Value).ownBlock) s_.2 aH) ∧ (w'.heap[q]? = some (.cells #[.int .i64 J, .int .i64 M, .int .i64 Y, .int .i64 U, .bool aa, .string Z] 44 (0, 0))) ∧ (Below w.heap.size w w')) ?_ ?_; rotate_left
  ·intro hJ6_7_10_17; refine join_ (σ := Value × Value) 4 #[true, true, true, true, true, true, true, true, true, true, false, false, true, true, true, true, true, true, true, false, false] (fun s_ => [(12, s_.1), (13, .string (strOfNums aA)), (23, s_.2), (24, .string (strOfNums aH))]) (fun s_ w' => (w'.cell? ⟨q, 0, none⟩ = some (.int .i64 J) ∧ w'.cell? ⟨q, 1, none⟩ = some (.int .i64 M) ∧ w'.cell? ⟨q, 2, none⟩ = some (.int .i64 Y) ∧ w'.cell? ⟨q, 3, none⟩ = some (.int .i64 U) ∧ w'.cell? ⟨q, 4, none⟩ = some (.bool aa) ∧ w'.cell? ⟨q, 5, none⟩ = some (.string Z)) ∧ (Kd.R (Kd.int .u8) 5 w' w.heap.size (fun k_ => some k_ ≠ (s_.2 : Value).ownBlock) s_.1 aA) ∧ (Kd.R (Kd.int .u8) 5 w' w.heap.size (fun k_ => some k_ ≠ (s_.1 : Value).ownBlock) s_.2 aH) ∧ (w'.heap[q]? = some (.cells #[.int .i64 J, .int .i64 M, .int .i64 Y, .int .i64 U, .bool aa, .string Z] 44 (0, 0))) ∧ (Below w.heap.size w w')) ?_ ?_; rotate_left
   ·intro hJ6_7_17_18; refine join_ (σ := Value × Value) 4 #[true, true, true, true, true, true, true, false, true, true, true, false, true, true, true, true, true, true, true, false, false] (fun s_ => [(12, s_.1), (16, .string az), (23, s_.2), (24, .string (strOfNums aH))]) (fun s_ w' => (w'.cell? ⟨q, 0, none⟩ = some (.int .i64 J) ∧ w'.cell? ⟨q, 1, none⟩ = some (.int .i64 M) ∧ w'.cell? ⟨q, 2, none⟩ = some (.int .i64 Y) ∧ w'.cell? ⟨q, 3, none⟩ = some (.int .i64 U) ∧ w'.cell? ⟨q, 4, none⟩ = some (.bool aa) ∧ w'.cell? ⟨q, 5, none⟩ = some (.string Z)) ∧ (Kd.R (Kd.int .u8) 5 w' w.heap.size (fun k_ => some k_ ≠ (s_.2 : Value).ownBlock) s_.1 aA) ∧ (Kd.R (Kd.int .u8) 5 w' w.heap.size (fun k_ => some k_ ≠ (s_.1 : Value).ownBlock) s_.2 aH) ∧ (w'.heap[q]? = some (.cells #[.int .i64 J, .int .i64 M, .int .i64 Y, .int .i64 U, .bool aa, .string Z] 44 (0, 0))) ∧ (Below w.heap.size w w')) ?_ ?_; rotate_left
    ·intro hJ6_10_17_18; refine join_ (σ := Value) 4 #[true, true, true, true, true, true, true, true, true, true, true, true, true, true, true, true, true, false, false, false, false] (fun s_ => [(12, s_), (13, .string (strOfNums aA)), (16, .string az), (17, .string ((strOfNums aA) ++ az))]) (fun s_ w' => (w'.cell? ⟨q, 0, none⟩ = some (.int .i64 J) ∧ w'.cell? ⟨q, 1, none⟩ = some (.int .i64 M) ∧ w'.cell? ⟨q, 2, none⟩ = some (.int .i64 Y) ∧ w'.cell? ⟨q, 3, none⟩ = some (.int .i64 U) ∧ w'.cell? ⟨q, 4, none⟩ = some (.bool aa) ∧ w'.cell? ⟨q, 5, none⟩ = some (.string Z)) ∧ (Kd.R (Kd.int .u8) 5 w' w.heap.size (fun _ => True) s_ aA) ∧ (w'.heap[q]? = some (.cells #[.int .i64 J, .int .i64 M, .int .i64 Y, .int .i64 U, .bool aa, .string Z] 44 (0, 0))) ∧ (Below w.heap.size w w')) ?_ ?_; rotate_left
     ·intro hJ6_7_10; refine join_ (σ := Value × Value) 5 #[true, true, true, true, true, true, true, true, true, true, false, false, true, true, true, true, true, true, false, false, false] (fun s_ => [(12, s_.1), (13, .string (strOfNums aA)), (23, s_.2)]) (fun s_ w' => (w'.cell? ⟨q, 0, none⟩ = some (.int .i64 J) ∧ w'.cell? ⟨q, 1, none⟩ = some (.int .i64 M) ∧ w'.cell? ⟨q, 2, none⟩ = some (.int .i64 Y) ∧ w'.cell? ⟨q, 3, none⟩ = some (.int .i64 U) ∧ w'.cell? ⟨q, 4, none⟩ = some (.bool aa) ∧ w'.cell? ⟨q, 5, none⟩ = some (.string Z)) ∧ (Kd.R (Kd.int .u8) 5 w' w.heap.size (fun k_ => some k_ ≠ (s_.2 : Value).ownBlock) s_.1 aA) ∧ (Kd.R (Kd.int .u8) 5 w' w.heap.size (fun k_ => some k_ ≠ (s_.1 : Value).ownBlock) s_.2 aH) ∧ (w'.heap[q]? = some (.cells #[.int .i64 J, .int .i64 M, .int .i64 Y, .int .i64 U, .bool aa, .string Z] 44 (0, 0))) ∧ (Below w.heap.size w w')) ?_ ?_; rotate_left
      ·intro hJ6_7_17; refine join_ (σ := Value × Value) 5 #[true, true, true, true, true, true, true, false, true, true, true, false, true, true, true, true, true, true, false, false, false] (fun s_ => [(12, s_.1), (16, .string az), (23, s_.2)]) (fun s_ w' => (w'.cell? ⟨q, 0, none⟩ = some (.int .i64 J) ∧ w'.cell? ⟨q, 1, none⟩ = some (.int .i64 M) ∧ w'.cell? ⟨q, 2, none⟩ = some (.int .i64 Y) ∧ w'.cell? ⟨q, 3, none⟩ = some (.int .i64 U) ∧ w'.cell? ⟨q, 4, none⟩ = some (.bool aa) ∧ w'.cell? ⟨q, 5, none⟩ = some (.string Z)) ∧ (Kd.R (Kd.int .u8) 5 w' w.heap.size (fun k_ => some k_ ≠ (s_.2 : Value).ownBlock) s_.1 aA) ∧ (Kd.R (Kd.int .u8) 5 w' w.heap.size (fun k_ => some k_ ≠ (s_.1 : Value).ownBlock) s_.2 aH) ∧ (w'.heap[q]? = some (.cells #[.int .i64 J, .int .i64 M, .int .i64 Y, .int .i64 U, .bool aa, .string Z] 44 (0, 0))) ∧ (Below w.heap.size w w')) ?_ ?_; rotate_left
       ·intro hJ6_10_17; refine join_ (σ := Value × Value) 5 #[true, true, true, true, true, true, true, false, true, true, false, false, true, true, true, true, true, true, true, false, false] (fun s_ => [(12, s_.1), (23, s_.2), (24, .string (strOfNums aH))]) (fun s_ w' => (w'.cell? ⟨q, 0, none⟩ = some (.int .i64 J) ∧ w'.cell? ⟨q, 1, none⟩ = some (.int .i64 M) ∧ w'.cell? ⟨q, 2, none⟩ = some (.int .i64 Y) ∧ w'.cell? ⟨q, 3, none⟩ = some (.int .i64 U) ∧ w'.cell? ⟨q, 4, none⟩ = some (.bool aa) ∧ w'.cell? ⟨q, 5, none⟩ = some (.string Z)) ∧ (Kd.R (Kd.int .u8) 5 w' w.heap.size (fun k_ => some k_ ≠ (s_.2 : Value).ownBlock) s_.1 aA) ∧ (Kd.R (Kd.int .u8) 5 w' w.heap.size (fun k_ => some k_ ≠ (s_.1 : Value).ownBlock) s_.2 aH) ∧ (w'.heap[q]? = some (.cells #[.int .i64 J, .int .i64 M, .int .i64 Y, .int .i64 U, .bool aa, .string Z] 44 (0, 0))) ∧ (Below w.heap.size w w')) ?_ ?_; rotate_left
        ·intro hJ6_17_18; refine join_ (σ := Value) 5 #[true, true, true, true, true, true, false, false, true, true, true, false, true, true, true, true, true, true, true, false, false] (fun s_ => [(16, .string az), (23, s_), (24, .string (strOfNums aH))]) (fun s_ w' => (w'.cell? ⟨q, 0, none⟩ = some (.int .i64 J) ∧ w'.cell? ⟨q, 1, none⟩ = some (.int .i64 M) ∧ w'.cell? ⟨q, 2, none⟩ = some (.int .i64 Y) ∧ w'.cell? ⟨q, 3, none⟩ = some (.int .i64 U) ∧ w'.cell? ⟨q, 4, none⟩ = some (.bool aa) ∧ w'.cell? ⟨q, 5, none⟩ = some (.string Z)) ∧ (Kd.R (Kd.int .u8) 5 w' w.heap.size (fun _ => True) s_ aH) ∧ (w'.heap[q]? = some (.cells #[.int .i64 J, .int .i64 M, .int .i64 Y, .int .i64 U, .bool aa, .string Z] 44 (0, 0))) ∧ (Below w.heap.size w w')) ?_ ?_; rotate_left
         ·intro hJ10_17_18; refine join_ (σ := Value) 6 #[true, true, true, true, true, true, true, true, true, true, false, false, true, true, true, true, true, false, false, false, false] (fun s_ => [(12, s_), (13, .string (strOfNums aA))]) (fun s_ w' => (w'.cell? ⟨q, 0, none⟩ = some (.int .i64 J) ∧ w'.cell? ⟨q, 1, none⟩ = some (.int .i64 M) ∧ w'.cell? ⟨q, 2, none⟩ = some (.int .i64 Y) ∧ w'.cell? ⟨q, 3, none⟩ = some (.int .i64 U) ∧ w'.cell? ⟨q, 4, none⟩ = some (.bool aa) ∧ w'.cell? ⟨q, 5, none⟩ = some (.string Z)) ∧ (Kd.R (Kd.int .u8) 5 w' w.heap.size (fun _ => True) s_ aA) ∧ (w'.heap[q]? = some (.cells #[.int .i64 J, .int .i64 M, .int .i64 Y, .int .i64 U, .bool aa, .string Z] 44 (0, 0))) ∧ (Below w.heap.size w w')) ?_ ?_; rotate_left
          ·intro hJ6_7; refine join_ (σ := Value) 6 #[true, true, true, true, true, true, true, false, true, true, true, false, true, true, true, true, true, false, false, false, false] (fun s_ => [(12, s_), (16, .string az)]) (fun s_ w' => (w'.cell? ⟨q, 0, none⟩ = some (.int .i64 J) ∧ w'.cell? ⟨q, 1, none⟩ = some (.int .i64 M) ∧ w'.cell? ⟨q, 2, none⟩ = some (.int .i64 Y) ∧ w'.cell? ⟨q, 3, none⟩ = some (.int .i64 U) ∧ w'.cell? ⟨q, 4, none⟩ = some (.bool aa) ∧ w'.cell? ⟨q, 5, none⟩ = some (.string Z)) ∧ (Kd.R (Kd.int .u8) 5 w' w.heap.size (fun _ => True) s_ aA) ∧ (w'.heap[q]? = some (.cells #[.int .i64 J, .int .i64 M, .int .i64 Y, .int .i64 U, .bool aa, .string Z] 44 (0, 0))) ∧ (Below w.heap.size w w')) ?_ ?_; rotate_left
           ·intro hJ6_10; refine join_ (σ := Value × Value) 6 #[true, true, true, true, true, true, true, false, true, true, false, false, true, true, true, true, true, true, false, false, false] (fun s_ => [(12, s_.1), (23, s_.2)]) (fun s_ w' => (w'.cell? ⟨q, 0, none⟩ = some (.int .i64 J) ∧ w'.cell? ⟨q, 1, none⟩ = some (.int .i64 M) ∧ w'.cell? ⟨q, 2, none⟩ = some (.int .i64 Y) ∧ w'.cell? ⟨q, 3, none⟩ = some (.int .i64 U) ∧ w'.cell? ⟨q, 4, none⟩ = some (.bool aa) ∧ w'.cell? ⟨q, 5, none⟩ = some (.string Z)) ∧ (Kd.R (Kd.int .u8) 5 w' w.heap.size (fun k_ => some k_ ≠ (s_.2 : Value).ownBlock) s_.1 aA) ∧ (Kd.R (Kd.int .u8) 5 w' w.heap.size (fun k_ => some k_ ≠ (s_.1 : Value).ownBlock) s_.2 aH) ∧ (w'.heap[q]? = some (.cells #[.int .i64 J, .int .i64 M, .int .i64 Y, .int .i64 U, .bool aa, .string Z] 44 (0, 0))) ∧ (Below w.heap.size w w')) ?_ ?_; rotate_left
            ·intro hJ6_17; refine join_ (σ := Value) 6 #[true, true, true, true, true, true, false, false, true, true, true, false, true, true, true, true, true, true, false, false, false] (fun s_ => [(16, .string az), (23, s_)]) (fun s_ w' => (w'.cell? ⟨q, 0, none⟩ = some (.int .i64 J) ∧ w'.cell? ⟨q, 1, none⟩ = some (.int .i64 M) ∧ w'.cell? ⟨q, 2, none⟩ = some (.int .i64 Y) ∧ w'.cell? ⟨q, 3, none⟩ = some (.int .i64 U) ∧ w'.cell? ⟨q, 4, none⟩ = some (.bool aa) ∧ w'.cell? ⟨q, 5, none⟩ = some (.string Z)) ∧ (Kd.R (Kd.int .u8) 5 w' w.heap.size (fun _ => True) s_ aH) ∧ (w'.heap[q]? = some (.cells #[.int .i64 J, .int .i64 M, .int .i64 Y, .int .i64 U, .bool aa, .string Z] 44 (0, 0))) ∧ (Below w.heap.size w w')) ?_ ?_; rotate_left
             ·intro hJ10_17; refine join_ (σ := Value) 6 #[true, true, true, true, true, true, false, false, true, true, false, false, true, true, true, true, true, true, true, false, false] (fun s_ => [(23, s_), (24, .string (strOfNums aH))]) (fun s_ w' => (w'.cell? ⟨q, 0, none⟩ = some (.int .i64 J) ∧ w'.cell? ⟨q, 1, none⟩ = some (.int .i64 M) ∧ w'.cell? ⟨q, 2, none⟩ = some (.int .i64 Y) ∧ w'.cell? ⟨q, 3, none⟩ = some (.int .i64 U) ∧ w'.cell? ⟨q, 4, none⟩ = some (.bool aa) ∧ w'.cell? ⟨q, 5, none⟩ = some (.string Z)) ∧ (Kd.R (Kd.int .u8) 5 w' w.heap.size (fun _ => True) s_ aH) ∧ (w'.heap[q]? = some (.cells #[.int .i64 J, .int .i64 M, .int .i64 Y, .int .i64 U, .bool aa, .string Z] 44 (0, 0))) ∧ (Below w.heap.size w w')) ?_ ?_; rotate_left
              ·intro hJ17_18; refine join_ (σ := Value) 7 #[true, true, true, true, true, true, true, false, true, true, false, false, true, true, true, true, true, false, false, false, false] (fun s_ => [(12, s_)]) (fun s_ w' => (w'.cell? ⟨q, 0, none⟩ = some (.int .i64 J) ∧ w'.cell? ⟨q, 1, none⟩ = some (.int .i64 M) ∧ w'.cell? ⟨q, 2, none⟩ = some (.int .i64 Y) ∧ w'.cell? ⟨q, 3, none⟩ = some (.int .i64 U) ∧ w'.cell? ⟨q, 4, none⟩ = some (.bool aa) ∧ w'.cell? ⟨q, 5, none⟩ = some (.string Z)) ∧ (Kd.R (Kd.int .u8) 5 w' w.heap.size (fun _ => True) s_ aA) ∧ (w'.heap[q]? = some (.cells #[.int .i64 J, .int .i64 M, .int .i64 Y, .int .i64 U, .bool aa, .string Z] 44 (0, 0))) ∧ (Below w.heap.size w w')) ?_ ?_; rotate_left
               ·intro hJ6; refine join_ (σ := Unit) 7 #[true, true, true, true, true, true, false, false, true, true, true, false, true, true, true, true, true, false, false, false, false] (fun s_ => [(16, .string az)]) (fun s_ w' => (w'.cell? ⟨q, 0, none⟩ = some (.int .i64 J) ∧ w'.cell? ⟨q, 1, none⟩ = some (.int .i64 M) ∧ w'.cell? ⟨q, 2, none⟩ = some (.int .i64 Y) ∧ w'.cell? ⟨q, 3, none⟩ = some (.int .i64 U) ∧ w'.cell? ⟨q, 4, none⟩ = some (.bool aa) ∧ w'.cell? ⟨q, 5, none⟩ = some (.string Z)) ∧ (w'.heap[q]? = some (.cells #[.int .i64 J, .int .i64 M, .int .i64 Y, .int .i64 U, .bool aa, .string Z] 44 (0, 0))) ∧ (Below w.heap.size w w')) ?_ ?_; rotate_left
                ·intro hJ10; refine join_ (σ := Value) 7 #[true, true, true, true, true, true, false, false, true, true, false, false, true, true, true, true, true, true, false, false, false] (fun s_ => [(23, s_)]) (fun s_ w' => (w'.cell? ⟨q, 0, none⟩ = some (.int .i64 J) ∧ w'.cell? ⟨q, 1, none⟩ = some (.int .i64 M) ∧ w'.cell? ⟨q, 2, none⟩ = some (.int .i64 Y) ∧ w'.cell? ⟨q, 3, none⟩ = some (.int .i64 U) ∧ w'.cell? ⟨q, 4, none⟩ = some (.bool aa) ∧ w'.cell? ⟨q, 5, none⟩ = some (.string Z)) ∧ (Kd.R (Kd.int .u8) 5 w' w.heap.size (fun _ => True) s_ aH) ∧ (w'.heap[q]? = some (.cells #[.int .i64 J, .int .i64 M, .int .i64 Y, .int .i64 U, .bool aa, .string Z] 44 (0, 0))) ∧ (Below w.heap.size w w')) ?_ ?_; rotate_left
                 ·intro hJ17; refine three_ (i := 6) (j := 10) (k := 17) (Ni := some 12) (Nj := some 16) (Nk := some 23) #[true, true, true, true, true, true, true, false, true, true, false, false, true, true, true, true, true, false, false, false, false] #[true, true, true, true, true, true, false, false, true, true, true, false, true, true, true, true, true, false, false, false, false] #[true, true, true, true, true, true, false, false, true, true, false, false, true, true, true, true, true, true, false, false, false] rfl rfl rfl rfl rfl rfl (three_of D.out gk_) (by decide) (by decide) (by decide) (fun K hK => ?_) (fun K hK => ?_) (fun K hK => ?_)
                  ·skip
                   refine lS (Kd.int .u8) 5 12 ([(J) % 256, (M) % 256] : List Int) [.int .u8 ((J) % 256), .int .u8 ((M) % 256)] B4x7_ ?_; intro ai cl aW hb
                   (first | rw [← aU.out] at aW | (simp only [Int.reduceToNat] at aW; rw [← aU.out] at aW))
                   have ad := am (Kd.R_lower aW (below_size (Ae1 HB ac))); replace l := bA l hb; replace HB := De1 HB ac hb; clear hb aW; refine hK.out _ _ D1x0_ (fun B => nm_ ?_); clear hK K; exact norm_ B4x1_ (hJ6 (ai) _ ⟨B, (Ar ad), D1x1_⟩)
                  ·skip
                   refine gT Try.func61 (spec_l11Two.calls Y az _ A6.out) ?_; rintro cl hb; replace l := bA l hb; replace HB := De1 HB ac hb; refine hK.out _ _ D1x0_ (fun B => nm_ ?_); clear hK K; exact norm_ B4x1_ (hJ10 () _ ⟨B, D1x1_⟩)
                  refine lS (Kd.int .u8) 5 23 ([(wrap64 (Int.tdiv U 8)) % 256, aw] : List Int) [.int .u8 ((wrap64 (Int.tdiv U 8)) % 256), .int .u8 aw] B4x5_ ?_; intro aj cl aW hb
                  (first | rw [← aV.out] at aW | (simp only [Int.reduceToNat] at aW; rw [← aV.out] at aW))
                  have ae := am (Kd.R_lower aW (below_size (Ae1 HB ac))); replace l := bA l hb; replace HB := De1 HB ac hb; clear hb aW; refine hK.out _ _ D1x0_ (fun B => nm_ ?_); clear hK K; exact norm_ B4x1_ (hJ17 (aj) _ ⟨B, (Ar ae), D1x1_⟩)
                 rintro aj aO ⟨hS_, af, ag, ah⟩; replace ae := am af; replace l := am ag; replace HB := am ah; clear af ag ah
                 have B : aO.cell? ⟨q, 0, none⟩ = some (.int .i64 J) ∧ aO.cell? ⟨q, 1, none⟩ = some (.int .i64 M) ∧ aO.cell? ⟨q, 2, none⟩ = some (.int .i64 Y) ∧ aO.cell? ⟨q, 3, none⟩ = some (.int .i64 U) ∧ aO.cell? ⟨q, 4, none⟩ = some (.bool aa) ∧ aO.cell? ⟨q, 5, none⟩ = some (.string Z) := hS_
                 refine norm_ (a' := ?_) ?_ ?_; rotate_left
                 ·simp only [putAll, Act.put, List.setIfInBounds_toArray, List.set_cons_zero, List.set_cons_succ]; rfl
                 refine three_ (i := 6) (j := 10) (k := 18) (Ni := some 12) (Nj := some 16) (Nk := some 24) #[true, true, true, true, true, true, true, false, true, true, false, false, true, true, true, true, true, true, false, false, false] #[true, true, true, true, true, true, false, false, true, true, true, false, true, true, true, true, true, true, false, false, false] #[true, true, true, true, true, true, false, false, true, true, false, false, true, true, true, true, true, true, true, false, false] rfl rfl rfl rfl rfl rfl (three_of D.out gk_) (by decide) (by decide) (by decide) (fun K hK => ?_) (fun K hK => ?_) (fun K hK => ?_)
                 ·skip
                  refine lS (Kd.int .u8) 5 12 ([(J) % 256, (M) % 256] : List Int) [.int .u8 ((J) % 256), .int .u8 ((M) % 256)] B4x7_ ?_; intro ai ap aS hb
                  (first | rw [← aU.out] at aS | (simp only [Int.reduceToNat] at aS; rw [← aU.out] at aS))
                  have ad := am (Kd.R_lower (Kd.R_new' aS (Kd.R_lt (Ar ae))) (below_size (Ae1 HB ac))); replace ae := am (Kd.R_elder' (Ar ae) (Kd.R_base aS) hb); replace l := bA l hb; replace HB := De1 HB ac hb; clear hb aS; refine hK.out _ _ D1x0_ (fun B => nm_ ?_); clear hK K; exact norm_ B4x1_ (hJ6_17 (ai, aj) _ ⟨B, B4x8_, B4x9_, D1x1_⟩)
                 ·skip
                  refine gT Try.func61 (spec_l11Two.calls Y az _ A6.out) ?_; rintro ap hb; replace ae := rA ae hb; replace l := bA l hb; replace HB := De1 HB ac hb; refine hK.out _ _ D1x0_ (fun B => nm_ ?_); clear hK K; exact norm_ B4x1_ (hJ10_17 (aj) _ ⟨B, (Ar ae), D1x1_⟩)
                 have bK := own_string (P := Try.prog) Try.underlying90 Try.underlying5 Try.underlying9 (Kd.own_of_R ae.out); refine value_ (w1 := ?_) (v := ?_) (by rfl) rfl ?_ ?_
                 rotate_left 2
                 ·go_simp
                  constructor
                  ·rfl
                  rfl
                 clear bK; refine hK.out _ _ D1x0_ (fun B => nm_ ?_); clear hK K; exact norm_ B4x1_ (hJ17_18 (aj) _ ⟨B, (Ar ae), D1x1_⟩)
                rintro _ a7 ⟨hS_, af, ag⟩; replace l := am af; replace HB := am ag; clear af ag
                have B : a7.cell? ⟨q, 0, none⟩ = some (.int .i64 J) ∧ a7.cell? ⟨q, 1, none⟩ = some (.int .i64 M) ∧ a7.cell? ⟨q, 2, none⟩ = some (.int .i64 Y) ∧ a7.cell? ⟨q, 3, none⟩ = some (.int .i64 U) ∧ a7.cell? ⟨q, 4, none⟩ = some (.bool aa) ∧ a7.cell? ⟨q, 5, none⟩ = some (.string Z) := hS_
                refine norm_ (a' := ?_) ?_ ?_; rotate_left
                ·simp only [putAll, Act.put, List.setIfInBounds_toArray, List.set_cons_zero, List.set_cons_succ]; rfl
                refine two_ (i := 6) (j := 17) (Ni := some 12) (Nj := some 23) #[true, true, true, true, true, true, true, false, true, true, true, false, true, true, true, true, true, false, false, false, false] #[true, true, true, true, true, true, false, false, true, true, true, false, true, true, true, true, true, true, false, false, false] rfl rfl rfl rfl (two_of D.out gk_) (by decide) (by decide) (fun K hK => ?_) (fun K hK => ?_)
                ·skip
                 refine lS (Kd.int .u8) 5 12 ([(J) % 256, (M) % 256] : List Int) [.int .u8 ((J) % 256), .int .u8 ((M) % 256)] B4x7_ ?_; intro ai aO aX hb
                 (first | rw [← aU.out] at aX | (simp only [Int.reduceToNat] at aX; rw [← aU.out] at aX))
                 have ad := am (Kd.R_lower aX (below_size (Ae1 HB ac))); replace l := bA l hb; replace HB := De1 HB ac hb; clear hb aX; refine hK.out _ _ D1x0_ (fun B => nm_ ?_); clear hK K; exact norm_ B4x1_ (hJ6_10 (ai) _ ⟨B, (Ar ad), D1x1_⟩)
                refine lS (Kd.int .u8) 5 23 ([(wrap64 (Int.tdiv U 8)) % 256, aw] : List Int) [.int .u8 ((wrap64 (Int.tdiv U 8)) % 256), .int .u8 aw] B4x5_ ?_; intro aj aO aX hb
                (first | rw [← aV.out] at aX | (simp only [Int.reduceToNat] at aX; rw [← aV.out] at aX))
                have ae := am (Kd.R_lower aX (below_size (Ae1 HB ac))); replace l := bA l hb; replace HB := De1 HB ac hb; clear hb aX; refine hK.out _ _ D1x0_ (fun B => nm_ ?_); clear hK K; exact norm_ B4x1_ (hJ10_17 (aj) _ ⟨B, (Ar ae), D1x1_⟩)
               rintro ai aO ⟨hS_, af, ag, ah⟩; replace ad := am af; replace l := am ag; replace HB := am ah; clear af ag ah
               have B : aO.cell? ⟨q, 0, none⟩ = some (.int .i64 J) ∧ aO.cell? ⟨q, 1, none⟩ = some (.int .i64 M) ∧ aO.cell? ⟨q, 2, none⟩ = some (.int .i64 Y) ∧ aO.cell? ⟨q, 3, none⟩ = some (.int .i64 U) ∧ aO.cell? ⟨q, 4, none⟩ = some (.bool aa) ∧ aO.cell? ⟨q, 5, none⟩ = some (.string Z) := hS_
               refine norm_ (a' := ?_) ?_ ?_; rotate_left
               ·simp only [putAll, Act.put, List.setIfInBounds_toArray, List.set_cons_zero, List.set_cons_succ]; rfl
               refine three_ (i := 7) (j := 10) (k := 17) (Ni := some 13) (Nj := some 16) (Nk := some 23) #[true, true, true, true, true, true, true, true, true, true, false, false, true, true, true, true, true, false, false, false, false] #[true, true, true, true, true, true, true, false, true, true, true, false, true, true, true, true, true, false, false, false, false] #[true, true, true, true, true, true, true, false, true, true, false, false, true, true, true, true, true, true, false, false, false] rfl rfl rfl rfl rfl rfl (three_of D.out gk_) (by decide) (by decide) (by decide) (fun K hK => ?_) (fun K hK => ?_) (fun K hK => ?_)
               ·skip
                have bK := own_string (P := Try.prog) Try.underlying90 Try.underlying5 Try.underlying9 (Kd.own_of_R ad.out); refine value_ (w1 := ?_) (v := ?_) (by rfl) rfl ?_ ?_
                rotate_left 2
                ·go_simp
                 constructor
                 ·rfl
                 rfl
                clear bK; refine hK.out _ _ D1x0_ (fun B => nm_ ?_); clear hK K; exact norm_ B4x1_ (hJ6_7 (ai) _ ⟨B, (Ar ad), D1x1_⟩)
               ·skip
                refine gT Try.func61 (spec_l11Two.calls Y az _ A6.out) ?_; rintro ap hb; replace ad := rA ad hb; replace l := bA l hb; replace HB := De1 HB ac hb; refine hK.out _ _ D1x0_ (fun B => nm_ ?_); clear hK K; exact norm_ B4x1_ (hJ6_10 (ai) _ ⟨B, (Ar ad), D1x1_⟩)
               refine lS (Kd.int .u8) 5 23 ([(wrap64 (Int.tdiv U 8)) % 256, aw] : List Int) [.int .u8 ((wrap64 (Int.tdiv U 8)) % 256), .int .u8 aw] B4x5_ ?_; intro aj ap aS hb
               (first | rw [← aV.out] at aS | (simp only [Int.reduceToNat] at aS; rw [← aV.out] at aS))
               have ae := am (Kd.R_lower (Kd.R_new' aS (Kd.R_lt (Ar ad))) (below_size (Ae1 HB ac))); replace ad := am (Kd.R_elder' (Ar ad) (Kd.R_base aS) hb); replace l := bA l hb; replace HB := De1 HB ac hb; clear hb aS; refine hK.out _ _ D1x0_ (fun B => nm_ ?_); clear hK K; exact norm_ B4x1_ (hJ6_17 (ai, aj) _ ⟨B, B4x8_, B4x9_, D1x1_⟩)
              rintro aj ap ⟨hS_, af, ag, ah⟩; replace ae := am af; replace l := am ag; replace HB := am ah; clear af ag ah
              have B : ap.cell? ⟨q, 0, none⟩ = some (.int .i64 J) ∧ ap.cell? ⟨q, 1, none⟩ = some (.int .i64 M) ∧ ap.cell? ⟨q, 2, none⟩ = some (.int .i64 Y) ∧ ap.cell? ⟨q, 3, none⟩ = some (.int .i64 U) ∧ ap.cell? ⟨q, 4, none⟩ = some (.bool aa) ∧ ap.cell? ⟨q, 5, none⟩ = some (.string Z) := hS_
              refine norm_ (a' := ?_) ?_ ?_; rotate_left
              ·simp only [putAll, Act.put, List.setIfInBounds_toArray, List.set_cons_zero, List.set_cons_succ]; rfl
              refine two_ (i := 6) (j := 10) (Ni := some 12) (Nj := some 16) #[true, true, true, true, true, true, true, false, true, true, false, false, true, true, true, true, true, true, true, false, false] #[true, true, true, true, true, true, false, false, true, true, true, false, true, true, true, true, true, true, true, false, false] rfl rfl rfl rfl (two_of D.out gk_) (by decide) (by decide) (fun K hK => ?_) (fun K hK => ?_)
              ·skip
               refine lS (Kd.int .u8) 5 12 ([(J) % 256, (M) % 256] : List Int) [.int .u8 ((J) % 256), .int .u8 ((M) % 256)] B4x7_ ?_; intro ai aD aC hb
               (first | rw [← aU.out] at aC | (simp only [Int.reduceToNat] at aC; rw [← aU.out] at aC))
               have ad := am (Kd.R_lower (Kd.R_new' aC (Kd.R_lt (Ar ae))) (below_size (Ae1 HB ac))); replace ae := am (Kd.R_elder' (Ar ae) (Kd.R_base aC) hb); replace l := bA l hb; replace HB := De1 HB ac hb; clear hb aC; refine hK.out _ _ D1x0_ (fun B => nm_ ?_); clear hK K; exact norm_ B4x1_ (hJ6_17_18 (ai, aj) _ ⟨B, B4x8_, B4x9_, D1x1_⟩)
              refine gT Try.func61 (spec_l11Two.calls Y az _ A6.out) ?_; rintro aD hb; replace ae := rA ae hb; replace l := bA l hb; replace HB := De1 HB ac hb; refine hK.out _ _ D1x0_ (fun B => nm_ ?_); clear hK K; exact norm_ B4x1_ (hJ10_17_18 (aj) _ ⟨B, (Ar ae), D1x1_⟩)
             rintro aj ap ⟨hS_, af, ag, ah⟩; replace ae := am af; replace l := am ag; replace HB := am ah; clear af ag ah
             have B : ap.cell? ⟨q, 0, none⟩ = some (.int .i64 J) ∧ ap.cell? ⟨q, 1, none⟩ = some (.int .i64 M) ∧ ap.cell? ⟨q, 2, none⟩ = some (.int .i64 Y) ∧ ap.cell? ⟨q, 3, none⟩ = some (.int .i64 U) ∧ ap.cell? ⟨q, 4, none⟩ = some (.bool aa) ∧ ap.cell? ⟨q, 5, none⟩ = some (.string Z) := hS_
             refine norm_ (a' := ?_) ?_ ?_; rotate_left
             ·simp only [putAll, Act.put, List.setIfInBounds_toArray, List.set_cons_zero, List.set_cons_succ]; rfl
             refine two_ (i := 6) (j := 18) (Ni := some 12) (Nj := some 24) #[true, true, true, true, true, true, true, false, true, true, true, false, true, true, true, true, true, true, false, false, false] #[true, true, true, true, true, true, false, false, true, true, true, false, true, true, true, true, true, true, true, false, false] rfl rfl rfl rfl (two_of D.out gk_) (by decide) (by decide) (fun K hK => ?_) (fun K hK => ?_)
             ·skip
              refine lS (Kd.int .u8) 5 12 ([(J) % 256, (M) % 256] : List Int) [.int .u8 ((J) % 256), .int .u8 ((M) % 256)] B4x7_ ?_; intro ai aD aC hb
              (first | rw [← aU.out] at aC | (simp only [Int.reduceToNat] at aC; rw [← aU.out] at aC))
              have ad := am (Kd.R_lower (Kd.R_new' aC (Kd.R_lt (Ar ae))) (below_size (Ae1 HB ac))); replace ae := am (Kd.R_elder' (Ar ae) (Kd.R_base aC) hb); replace l := bA l hb; replace HB := De1 HB ac hb; clear hb aC; refine hK.out _ _ D1x0_ (fun B => nm_ ?_); clear hK K; exact norm_ B4x1_ (hJ6_10_17 (ai, aj) _ ⟨B, B4x8_, B4x9_, D1x1_⟩)
             have bL := own_string (P := Try.prog) Try.underlying90 Try.underlying5 Try.underlying9 (Kd.own_of_R ae.out); refine value_ (w1 := ?_) (v := ?_) (by rfl) rfl ?_ ?_
             rotate_left 2
             ·go_simp
              constructor
              ·rfl
              rfl
             clear bL; refine hK.out _ _ D1x0_ (fun B => nm_ ?_); clear hK K; exact norm_ B4x1_ (hJ10_17_18 (aj) _ ⟨B, (Ar ae), D1x1_⟩)
            rintro ⟨ai, aj⟩ aD ⟨hS_, af, ag, ah, aF⟩; replace ad := am af; replace ae := am ag; replace l := am ah; replace HB := am aF; clear af ag ah aF
            have B : aD.cell? ⟨q, 0, none⟩ = some (.int .i64 J) ∧ aD.cell? ⟨q, 1, none⟩ = some (.int .i64 M) ∧ aD.cell? ⟨q, 2, none⟩ = some (.int .i64 Y) ∧ aD.cell? ⟨q, 3, none⟩ = some (.int .i64 U) ∧ aD.cell? ⟨q, 4, none⟩ = some (.bool aa) ∧ aD.cell? ⟨q, 5, none⟩ = some (.string Z) := hS_
            refine norm_ (a' := ?_) ?_ ?_; rotate_left
            ·simp only [putAll, Act.put, List.setIfInBounds_toArray, List.set_cons_zero, List.set_cons_succ]; rfl
            refine three_ (i := 7) (j := 10) (k := 18) (Ni := some 13) (Nj := some 16) (Nk := some 24) #[true, true, true, true, true, true, true, true, true, true, false, false, true, true, true, true, true, true, false, false, false] #[true, true, true, true, true, true, true, false, true, true, true, false, true, true, true, true, true, true, false, false, false] #[true, true, true, true, true, true, true, false, true, true, false, false, true, true, true, true, true, true, true, false, false] rfl rfl rfl rfl rfl rfl (three_of D.out gk_) (by decide) (by decide) (by decide) (fun K hK => ?_) (fun K hK => ?_) (fun K hK => ?_)
            ·skip
             have bM := own_string (P := Try.prog) Try.underlying90 Try.underlying5 Try.underlying9 (Kd.own_of_R ad.out); refine value_ (w1 := ?_) (v := ?_) (by rfl) rfl ?_ ?_
             rotate_left 2
             ·go_simp
              constructor
              ·rfl
              rfl
             clear bM; refine hK.out _ _ D1x0_ (fun B => nm_ ?_); clear hK K; exact norm_ B4x1_ (hJ6_7_17 (ai, aj) _ ⟨B, (Ar ad), (Ar ae), D1x1_⟩)
            ·skip
             refine gT Try.func61 (spec_l11Two.calls Y az _ A6.out) ?_; rintro aE hb; replace ad := rA ad hb; replace ae := rA ae hb; replace l := bA l hb; replace HB := De1 HB ac hb; refine hK.out _ _ D1x0_ (fun B => nm_ ?_); clear hK K; exact norm_ B4x1_ (hJ6_10_17 (ai, aj) _ ⟨B, (Ar ad), (Ar ae), D1x1_⟩)
            have bM := own_string (P := Try.prog) Try.underlying90 Try.underlying5 Try.underlying9 (Kd.own_of_R ae.out); refine value_ (w1 := ?_) (v := ?_) (by rfl) rfl ?_ ?_
            rotate_left 2
            ·go_simp
             constructor
             ·rfl
             rfl
            clear bM; refine hK.out _ _ D1x0_ (fun B => nm_ ?_); clear hK K; exact norm_ B4x1_ (hJ6_17_18 (ai, aj) _ ⟨B, (Ar ad), (Ar ae), D1x1_⟩)
           rintro ai ap ⟨hS_, af, ag, ah⟩; replace ad := am af; replace l := am ag; replace HB := am ah; clear af ag ah
           have B : ap.cell? ⟨q, 0, none⟩ = some (.int .i64 J) ∧ ap.cell? ⟨q, 1, none⟩ = some (.int .i64 M) ∧ ap.cell? ⟨q, 2, none⟩ = some (.int .i64 Y) ∧ ap.cell? ⟨q, 3, none⟩ = some (.int .i64 U) ∧ ap.cell? ⟨q, 4, none⟩ = some (.bool aa) ∧ ap.cell? ⟨q, 5, none⟩ = some (.string Z) := hS_
           refine norm_ (a' := ?_) ?_ ?_; rotate_left
           ·simp only [putAll, Act.put, List.setIfInBounds_toArray, List.set_cons_zero, List.set_cons_succ]; rfl
           refine two_ (i := 7) (j := 17) (Ni := some 13) (Nj := some 23) #[true, true, true, true, true, true, true, true, true, true, true, false, true, true, true, true, true, false, false, false, false] #[true, true, true, true, true, true, true, false, true, true, true, false, true, true, true, true, true, true, false, false, false] rfl rfl rfl rfl (two_of D.out gk_) (by decide) (by decide) (fun K hK => ?_) (fun K hK => ?_)
           ·skip
            have bL := own_string (P := Try.prog) Try.underlying90 Try.underlying5 Try.underlying9 (Kd.own_of_R ad.out); refine value_ (w1 := ?_) (v := ?_) (by rfl) rfl ?_ ?_
            rotate_left 2
            ·go_simp
             constructor
             ·rfl
             rfl
            clear bL; refine hK.out _ _ D1x0_ (fun B => nm_ ?_); clear hK K; refine pu_ 11 17 D ?_; exact norm_ B4x1_ (hJ6_7_10 (ai) _ ⟨B, (Ar ad), D1x1_⟩)
           refine lS (Kd.int .u8) 5 23 ([(wrap64 (Int.tdiv U 8)) % 256, aw] : List Int) [.int .u8 ((wrap64 (Int.tdiv U 8)) % 256), .int .u8 aw] B4x5_ ?_; intro aj aD aC hb
           (first | rw [← aV.out] at aC | (simp only [Int.reduceToNat] at aC; rw [← aV.out] at aC))
           have ae := am (Kd.R_lower (Kd.R_new' aC (Kd.R_lt (Ar ad))) (below_size (Ae1 HB ac))); replace ad := am (Kd.R_elder' (Ar ad) (Kd.R_base aC) hb); replace l := bA l hb; replace HB := De1 HB ac hb; clear hb aC; refine hK.out _ _ D1x0_ (fun B => nm_ ?_); clear hK K; exact norm_ B4x1_ (hJ6_10_17 (ai, aj) _ ⟨B, B4x8_, B4x9_, D1x1_⟩)
          rintro ai ap ⟨hS_, af, ag, ah⟩; replace ad := am af; replace l := am ag; replace HB := am ah; clear af ag ah
          have B : ap.cell? ⟨q, 0, none⟩ = some (.int .i64 J) ∧ ap.cell? ⟨q, 1, none⟩ = some (.int .i64 M) ∧ ap.cell? ⟨q, 2, none⟩ = some (.int .i64 Y) ∧ ap.cell? ⟨q, 3, none⟩ = some (.int .i64 U) ∧ ap.cell? ⟨q, 4, none⟩ = some (.bool aa) ∧ ap.cell? ⟨q, 5, none⟩ = some (.string Z) := hS_
          refine norm_ (a' := ?_) ?_ ?_; rotate_left
          ·simp only [putAll, Act.put, List.setIfInBounds_toArray, List.set_cons_zero, List.set_cons_succ]; rfl
          refine two_ (i := 10) (j := 17) (Ni := some 16) (Nj := some 23) #[true, true, true, true, true, true, true, true, true, true, true, false, true, true, true, true, true, false, false, false, false] #[true, true, true, true, true, true, true, true, true, true, false, false, true, true, true, true, true, true, false, false, false] rfl rfl rfl rfl (two_of D.out gk_) (by decide) (by decide) (fun K hK => ?_) (fun K hK => ?_)
          ·skip
           refine gT Try.func61 (spec_l11Two.calls Y az _ A6.out) ?_; rintro aD hb; replace ad := rA ad hb; replace l := bA l hb; replace HB := De1 HB ac hb; refine hK.out _ _ D1x0_ (fun B => nm_ ?_); clear hK K; refine pu_ 11 17 D ?_; exact norm_ B4x1_ (hJ6_7_10 (ai) _ ⟨B, (Ar ad), D1x1_⟩)
          refine lS (Kd.int .u8) 5 23 ([(wrap64 (Int.tdiv U 8)) % 256, aw] : List Int) [.int .u8 ((wrap64 (Int.tdiv U 8)) % 256), .int .u8 aw] B4x5_ ?_; intro aj aD aC hb
          (first | rw [← aV.out] at aC | (simp only [Int.reduceToNat] at aC; rw [← aV.out] at aC))
          have ae := am (Kd.R_lower (Kd.R_new' aC (Kd.R_lt (Ar ad))) (below_size (Ae1 HB ac))); replace ad := am (Kd.R_elder' (Ar ad) (Kd.R_base aC) hb); replace l := bA l hb; replace HB := De1 HB ac hb; clear hb aC; refine hK.out _ _ D1x0_ (fun B => nm_ ?_); clear hK K; exact norm_ B4x1_ (hJ6_7_17 (ai, aj) _ ⟨B, B4x8_, B4x9_, D1x1_⟩)
         rintro aj aD ⟨hS_, af, ag, ah⟩; replace ae := am af; replace l := am ag; replace HB := am ah; clear af ag ah
         have B : aD.cell? ⟨q, 0, none⟩ = some (.int .i64 J) ∧ aD.cell? ⟨q, 1, none⟩ = some (.int .i64 M) ∧ aD.cell? ⟨q, 2, none⟩ = some (.int .i64 Y) ∧ aD.cell? ⟨q, 3, none⟩ = some (.int .i64 U) ∧ aD.cell? ⟨q, 4, none⟩ = some (.bool aa) ∧ aD.cell? ⟨q, 5, none⟩ = some (.string Z) := hS_
         refine norm_ (a' := ?_) ?_ ?_; rotate_left
         ·simp only [putAll, Act.put, List.setIfInBounds_toArray, List.set_cons_zero, List.set_cons_succ]; rfl
         refine on_ 6 (some 12) D (fun K hK => ?_); refine lS (Kd.int .u8) 5 12 ([(J) % 256, (M) % 256] : List Int) [.int .u8 ((J) % 256), .int .u8 ((M) % 256)] B4x7_ ?_; intro ai aE aT hb
         (first | rw [← aU.out] at aT | (simp only [Int.reduceToNat] at aT; rw [← aU.out] at aT))
         have ad := am (Kd.R_lower (Kd.R_new' aT (Kd.R_lt (Ar ae))) (below_size (Ae1 HB ac))); replace ae := am (Kd.R_elder' (Ar ae) (Kd.R_base aT) hb); replace l := bA l hb; replace HB := De1 HB ac hb; clear hb aT; refine hK.out _ _ D1x0_ (fun B => nm_ ?_); clear hK K; exact norm_ B4x1_ (hJ6_10_17_18 (ai, aj) _ ⟨B, B4x8_, B4x9_, D1x1_⟩)
        rintro ⟨ai, aj⟩ aE ⟨hS_, af, ag, ah, aF⟩; replace ad := am af; replace ae := am ag; replace l := am ah; replace HB := am aF; clear af ag ah aF
        have B : aE.cell? ⟨q, 0, none⟩ = some (.int .i64 J) ∧ aE.cell? ⟨q, 1, none⟩ = some (.int .i64 M) ∧ aE.cell? ⟨q, 2, none⟩ = some (.int .i64 Y) ∧ aE.cell? ⟨q, 3, none⟩ = some (.int .i64 U) ∧ aE.cell? ⟨q, 4, none⟩ = some (.bool aa) ∧ aE.cell? ⟨q, 5, none⟩ = some (.string Z) := hS_
        refine norm_ (a' := ?_) ?_ ?_; rotate_left
        ·simp only [putAll, Act.put, List.setIfInBounds_toArray, List.set_cons_zero, List.set_cons_succ]; rfl
        refine two_ (i := 7) (j := 10) (Ni := some 13) (Nj := some 16) #[true, true, true, true, true, true, true, true, true, true, false, false, true, true, true, true, true, true, true, false, false] #[true, true, true, true, true, true, true, false, true, true, true, false, true, true, true, true, true, true, true, false, false] rfl rfl rfl rfl (two_of D.out gk_) (by decide) (by decide) (fun K hK => ?_) (fun K hK => ?_)
        ·skip
         have a6 := own_string (P := Try.prog) Try.underlying90 Try.underlying5 Try.underlying9 (Kd.own_of_R ad.out); refine value_ (w1 := ?_) (v := ?_) (by rfl) rfl ?_ ?_
         rotate_left 2
         ·go_simp
          constructor
          ·rfl
          rfl
         clear a6; refine hK.out _ _ D1x0_ (fun B => nm_ ?_); clear hK K; exact norm_ B4x1_ (hJ6_7_17_18 (ai, aj) _ ⟨B, (Ar ad), (Ar ae), D1x1_⟩)
        refine gT Try.func61 (spec_l11Two.calls Y az _ A6.out) ?_; rintro aG hb; replace ad := rA ad hb; replace ae := rA ae hb; replace l := bA l hb; replace HB := De1 HB ac hb; refine hK.out _ _ D1x0_ (fun B => nm_ ?_); clear hK K; exact norm_ B4x1_ (hJ6_10_17_18 (ai, aj) _ ⟨B, (Ar ad), (Ar ae), D1x1_⟩)
       rintro ⟨ai, aj⟩ aE ⟨hS_, af, ag, ah, aF⟩; replace ad := am af; replace ae := am ag; replace l := am ah; replace HB := am aF; clear af ag ah aF
       have B : aE.cell? ⟨q, 0, none⟩ = some (.int .i64 J) ∧ aE.cell? ⟨q, 1, none⟩ = some (.int .i64 M) ∧ aE.cell? ⟨q, 2, none⟩ = some (.int .i64 Y) ∧ aE.cell? ⟨q, 3, none⟩ = some (.int .i64 U) ∧ aE.cell? ⟨q, 4, none⟩ = some (.bool aa) ∧ aE.cell? ⟨q, 5, none⟩ = some (.string Z) := hS_
       refine norm_ (a' := ?_) ?_ ?_; rotate_left
       ·simp only [putAll, Act.put, List.setIfInBounds_toArray, List.set_cons_zero, List.set_cons_succ]; rfl
       refine two_ (i := 7) (j := 18) (Ni := some 13) (Nj := some 24) #[true, true, true, true, true, true, true, true, true, true, true, false, true, true, true, true, true, true, false, false, false] #[true, true, true, true, true, true, true, false, true, true, true, false, true, true, true, true, true, true, true, false, false] rfl rfl rfl rfl (two_of D.out gk_) (by decide) (by decide) (fun K hK => ?_) (fun K hK => ?_)
       ·skip
        have a6 := own_string (P := Try.prog) Try.underlying90 Try.underlying5 Try.underlying9 (Kd.own_of_R ad.out); refine value_ (w1 := ?_) (v := ?_) (by rfl) rfl ?_ ?_
        rotate_left 2
        ·go_simp
         constructor
         ·rfl
         rfl
        clear a6; refine hK.out _ _ D1x0_ (fun B => nm_ ?_); clear hK K; refine pu_ 11 17 D ?_; exact norm_ B4x1_ (hJ6_7_10_17 (ai, aj) _ ⟨B, (Ar ad), (Ar ae), D1x1_⟩)
       have a6 := own_string (P := Try.prog) Try.underlying90 Try.underlying5 Try.underlying9 (Kd.own_of_R ae.out); refine value_ (w1 := ?_) (v := ?_) (by rfl) rfl ?_ ?_
       rotate_left 2
       ·go_simp
        constructor
        ·rfl
        rfl
       clear a6; refine hK.out _ _ D1x0_ (fun B => nm_ ?_); clear hK K; exact norm_ B4x1_ (hJ6_10_17_18 (ai, aj) _ ⟨B, (Ar ad), (Ar ae), D1x1_⟩)
      rintro ⟨ai, aj⟩ aE ⟨hS_, af, ag, ah, aF⟩; replace ad := am af; replace ae := am ag; replace l := am ah; replace HB := am aF; clear af ag ah aF
      have B : aE.cell? ⟨q, 0, none⟩ = some (.int .i64 J) ∧ aE.cell? ⟨q, 1, none⟩ = some (.int .i64 M) ∧ aE.cell? ⟨q, 2, none⟩ = some (.int .i64 Y) ∧ aE.cell? ⟨q, 3, none⟩ = some (.int .i64 U) ∧ aE.cell? ⟨q, 4, none⟩ = some (.bool aa) ∧ aE.cell? ⟨q, 5, none⟩ = some (.string Z) := hS_
      refine norm_ (a' := ?_) ?_ ?_; rotate_left
      ·simp only [putAll, Act.put, List.setIfInBounds_toArray, List.set_cons_zero, List.set_cons_succ]; rfl
      refine two_ (i := 10) (j := 18) (Ni := some 16) (Nj := some 24) #[true, true, true, true, true, true, true, true, true, true, true, false, true, true, true, true, true, true, false, false, false] #[true, true, true, true, true, true, true, true, true, true, false, false, true, true, true, true, true, true, true, false, false] rfl rfl rfl rfl (two_of D.out gk_) (by decide) (by decide) (fun K hK => ?_) (fun K hK => ?_)
      ·skip
       refine gT Try.func61 (spec_l11Two.calls Y az _ A6.out) ?_; rintro aG hb; replace ad := rA ad hb; replace ae := rA ae hb; replace l := bA l hb; replace HB := De1 HB ac hb; refine hK.out _ _ D1x0_ (fun B => nm_ ?_); clear hK K; refine pu_ 11 17 D ?_; exact norm_ B4x1_ (hJ6_7_10_17 (ai, aj) _ ⟨B, (Ar ad), (Ar ae), D1x1_⟩)
      have a6 := own_string (P := Try.prog) Try.underlying90 Try.underlying5 Try.underlying9 (Kd.own_of_R ae.out); refine value_ (w1 := ?_) (v := ?_) (by rfl) rfl ?_ ?_
      rotate_left 2
      ·go_simp
       constructor
       ·rfl
       rfl
      clear a6; refine hK.out _ _ D1x0_ (fun B => nm_ ?_); clear hK K; exact norm_ B4x1_ (hJ6_7_17_18 (ai, aj) _ ⟨B, (Ar ad), (Ar ae), D1x1_⟩)
     rintro ai aD ⟨hS_, af, ag, ah⟩; replace ad := am af; replace l := am ag; replace HB := am ah; clear af ag ah
     have B : aD.cell? ⟨q, 0, none⟩ = some (.int .i64 J) ∧ aD.cell? ⟨q, 1, none⟩ = some (.int .i64 M) ∧ aD.cell? ⟨q, 2, none⟩ = some (.int .i64 Y) ∧ aD.cell? ⟨q, 3, none⟩ = some (.int .i64 U) ∧ aD.cell? ⟨q, 4, none⟩ = some (.bool aa) ∧ aD.cell? ⟨q, 5, none⟩ = some (.string Z) := hS_
     refine norm_ (a' := ?_) ?_ ?_; rotate_left
     ·simp only [putAll, Act.put, List.setIfInBounds_toArray, List.set_cons_zero, List.set_cons_succ]; rfl
     refine on_ 17 (some 23) D (fun K hK => ?_); refine lS (Kd.int .u8) 5 23 ([(wrap64 (Int.tdiv U 8)) % 256, aw] : List Int) [.int .u8 ((wrap64 (Int.tdiv U 8)) % 256), .int .u8 aw] B4x5_ ?_; intro aj aE aT hb
     (first | rw [← aV.out] at aT | (simp only [Int.reduceToNat] at aT; rw [← aV.out] at aT))
     have ae := am (Kd.R_lower (Kd.R_new' aT (Kd.R_lt (Ar ad))) (below_size (Ae1 HB ac))); replace ad := am (Kd.R_elder' (Ar ad) (Kd.R_base aT) hb); replace l := bA l hb; replace HB := De1 HB ac hb; clear hb aT; refine hK.out _ _ D1x0_ (fun B => nm_ ?_); clear hK K; exact norm_ B4x1_ (hJ6_7_10_17 (ai, aj) _ ⟨B, B4x8_, B4x9_, D1x1_⟩)
    rintro ⟨ai, aj⟩ aG ⟨hS_, af, ag, ah, aF⟩; replace ad := am af; replace ae := am ag; replace l := am ah; replace HB := am aF; clear af ag ah aF
    have B : aG.cell? ⟨q, 0, none⟩ = some (.int .i64 J) ∧ aG.cell? ⟨q, 1, none⟩ = some (.int .i64 M) ∧ aG.cell? ⟨q, 2, none⟩ = some (.int .i64 Y) ∧ aG.cell? ⟨q, 3, none⟩ = some (.int .i64 U) ∧ aG.cell? ⟨q, 4, none⟩ = some (.bool aa) ∧ aG.cell? ⟨q, 5, none⟩ = some (.string Z) := hS_
    refine norm_ (a' := ?_) ?_ ?_; rotate_left
    ·simp only [putAll, Act.put, List.setIfInBounds_toArray, List.set_cons_zero, List.set_cons_succ]; rfl
    refine on_ 7 (some 13) D (fun K hK => ?_); have bN := own_string (P := Try.prog) Try.underlying90 Try.underlying5 Try.underlying9 (Kd.own_of_R ad.out); refine value_ (w1 := ?_) (v := ?_) (by rfl) rfl ?_ ?_
    rotate_left 2
    ·go_simp
     constructor
     ·rfl
     rfl
    clear bN; refine hK.out _ _ D1x0_ (fun B => nm_ ?_); clear hK K; refine pu_ 11 17 D ?_; exact norm_ B4x1_ (hJ6_7_10_17_18 (ai, aj) _ ⟨B, (Ar ad), (Ar ae), D1x1_⟩)
   rintro ⟨ai, aj⟩ aG ⟨hS_, af, ag, ah, aF⟩; replace ad := am af; replace ae := am ag; replace l := am ah; replace HB := am aF; clear af ag ah aF
   have B : aG.cell? ⟨q, 0, none⟩ = some (.int .i64 J) ∧ aG.cell? ⟨q, 1, none⟩ = some (.int .i64 M) ∧ aG.cell? ⟨q, 2, none⟩ = some (.int .i64 Y) ∧ aG.cell? ⟨q, 3, none⟩ = some (.int .i64 U) ∧ aG.cell? ⟨q, 4, none⟩ = some (.bool aa) ∧ aG.cell? ⟨q, 5, none⟩ = some (.string Z) := hS_
   refine norm_ (a' := ?_) ?_ ?_; rotate_left
   ·simp only [putAll, Act.put, List.setIfInBounds_toArray, List.set_cons_zero, List.set_cons_succ]; rfl
   refine on_ 10 (some 16) D (fun K hK => ?_); refine gT Try.func61 (spec_l11Two.calls Y az _ A6.out) ?_; rintro a8 hb; replace ad := rA ad hb; replace ae := rA ae hb; replace l := bA l hb; replace HB := De1 HB ac hb; refine hK.out _ _ D1x0_ (fun B => nm_ ?_); clear hK K; refine pu_ 11 17 D ?_; exact norm_ B4x1_ (hJ6_7_10_17_18 (ai, aj) _ ⟨B, (Ar ad), (Ar ae), D1x1_⟩)
  rintro ⟨ai, aj⟩ aG ⟨hS_, af, ag, ah, aF⟩; replace ad := am af; replace ae := am ag; replace l := am ah; replace HB := am aF; clear af ag ah aF
  have B : aG.cell? ⟨q, 0, none⟩ = some (.int .i64 J) ∧ aG.cell? ⟨q, 1, none⟩ = some (.int .i64 M) ∧ aG.cell? ⟨q, 2, none⟩ = some (.int .i64 Y) ∧ aG.cell? ⟨q, 3, none⟩ = some (.int .i64 U) ∧ aG.cell? ⟨q, 4, none⟩ = some (.bool aa) ∧ aG.cell? ⟨q, 5, none⟩ = some (.string Z) := hS_
  refine norm_ (a' := ?_) ?_ ?_; rotate_left
  ·simp only [putAll, Act.put, List.setIfInBounds_toArray, List.set_cons_zero, List.set_cons_succ]; rfl
  refine on_ 18 (some 24) D (fun K hK => ?_); have bN := own_string (P := Try.prog) Try.underlying90 Try.underlying5 Try.underlying9 (Kd.own_of_R ae.out); refine value_ (w1 := ?_) (v := ?_) (by rfl) rfl ?_ ?_
  rotate_left 2
  ·go_simp
   constructor
   ·rfl
   rfl
  clear bN; refine hK.out _ _ D1x0_ (fun B => nm_ ?_); clear hK K; exact norm_ B4x1_ (hJ6_7_10_17_18 (ai, aj) _ ⟨B, (Ar ad), (Ar ae), D1x1_⟩)
 rintro ⟨ai, aj⟩ a8 ⟨hS_, af, ag, ah, aF⟩
 replace HB := am aF
 clear af ag ah aF
 have B : a8.cell? ⟨q, 0, none⟩ = some (.int .i64 J) ∧ a8.cell? ⟨q, 1, none⟩ = some (.int .i64 M) ∧ a8.cell? ⟨q, 2, none⟩ = some (.int .i64 Y) ∧ a8.cell? ⟨q, 3, none⟩ = some (.int .i64 U) ∧ a8.cell? ⟨q, 4, none⟩ = some (.bool aa) ∧ a8.cell? ⟨q, 5, none⟩ = some (.string Z) := hS_
 refine norm_ (a' := ?_) ?_ ?_
 rotate_left
 ·simp only [putAll, Act.put, List.setIfInBounds_toArray, List.set_cons_zero, List.set_cons_succ]; rfl
 refine pu_ 19 25 D ?_
 refine pu_ 20 2 D ?_
 refine done_ (done_of D.out gk_) ?_
 try go_wp2
 go_ret
 exact ⟨(by first | rfl | (simp [errW_none, errW_some] <;> rfl) | (simp [*, errW_none, errW_some] <;> rfl)), (Ae1 HB ac)⟩
theorem B5x5_ (h : p := by first | rfl | (simp; done) | (simp only [← bi] <;> (first | rfl | simp)) | (simp [*]; done)) : p := h
theorem B5x6_ (h : p := by first | rfl | (simp [errW_none, errW_some] <;> rfl) | (simp [*, errW_none, errW_some] <;> rfl)) : p := h
theorem B5x8_ (h : p := by have := bd.out; omega) : p := h
def spec_SumOnes.l0 : Nat → ByteArray → Int → Int → Option (Int)
 | 0, _, _, _ => none
 | k + 1, x0, x3, x4 => if x4 < (x0.size : Int) then (if 0 ≤ x4 then (if (wrap64 (x4 + 1)) < (x0.size : Int) then (if 0 ≤ (wrap64 (x4 + 1)) then (if (wrap64 (x3 + (wrap64 ((wrap64 (256 * (wrap64 (bt x0 x4)))) + (wrap64 (bt x0 (wrap64 (x4 + 1)))))))) > 65535 then (spec_SumOnes.l0 k x0 (wrap64 ((wrap64 (x3 + (wrap64 ((wrap64 (256 * (wrap64 (bt x0 x4)))) + (wrap64 (bt x0 (wrap64 (x4 + 1)))))))) - 65535)) (wrap64 (x4 + 2))) else (spec_SumOnes.l0 k x0 (wrap64 (x3 + (wrap64 ((wrap64 (256 * (wrap64 (bt x0 x4)))) + (wrap64 (bt x0 (wrap64 (x4 + 1)))))))) (wrap64 (x4 + 2)))) else (none)) else (if (wrap64 (x3 + (wrap64 (256 * (wrap64 (bt x0 x4)))))) > 65535 then (spec_SumOnes.l0 k x0 (wrap64 ((wrap64 (x3 + (wrap64 (256 * (wrap64 (bt x0 x4)))))) - 65535)) (wrap64 (x4 + 2))) else (spec_SumOnes.l0 k x0 (wrap64 (x3 + (wrap64 (256 * (wrap64 (bt x0 x4)))))) (wrap64 (x4 + 2))))) else (none)) else (some (wrap64 (65535 - x3)))
def spec_SumOnes.f (k : Nat) (z : ByteArray) : Option (Int) := spec_SumOnes.l0 k z 0 0
theorem spec_SumOnes.calls (k : Nat) (z : ByteArray) (r : Int) (w : World) (h : spec_SumOnes.f k z = some r) :
  Calls Try.prog 62 #[.string z] w fun e w' => e = .returned (.int .i64 r) ∧ Drawn0 w w' := by
 have au := h
 clear h
 unfold spec_SumOnes.f at au
 replace au := am au
 go_enter Try.func62, Try.ntmps62
 go_wp2
 go_loopg [3, 4] k (fun kq v3 v4 w' => ∃ (aw : Int) (ay : Int), v3 = .int .i64 aw ∧ v4 = .int .i64 ay ∧ Aside0 (spec_SumOnes.l0 kq z aw ay = some r) ∧ Aside0 (kq ≤ k) ∧ Drawn0 w w')
 case atStart => exact ⟨(0), 0, be_, be_, au, ⟨Nat.le_refl _⟩, gd_⟩
 case round =>
  clear au; obtain ⟨aw, ay, rfl, rfl, av, bd, ⟨m1, rfl⟩⟩ := hrel
  cases gk with
  | zero => exact absurd av.out (by simp [spec_SumOnes.l0])
  | succ k1 => ?_
  replace av := av.out; simp only [spec_SumOnes.l0] at av
  obtain ⟨cQ, ax⟩ | ⟨cQ, ax⟩ := sd av
  ·obtain ⟨dD, aI⟩ := yd ax
   obtain ⟨bF, aB⟩ | ⟨bF, aB⟩ := sd aI
   ·obtain ⟨aY, bi⟩ : ∃ j_ : Int, (wrap64 (ay + 1)) = j_ := ⟨_, rfl⟩
    (first | rw [bi] at aB | simp only [bi] at aB)
    (try rw [bi] at bF)
    have dR : (IntKind.i64.wrap (ay + 1)) = aY := (i64_w _).trans bi
    obtain ⟨ci, aP⟩ := yd aB
    obtain ⟨c9, aQ⟩ | ⟨c9, aQ⟩ := sp aP
    ·have cW : decide (65535 < (wrap64 (aw + (wrap64 ((wrap64 (256 * (wrap64 (bt z ay)))) + (wrap64 (bt z (aY)))))))) = true := decide_eq_true c9
     clear c9; replace aQ := am aQ; clear av ax aI aB aP
     have p4 : 0 ≤ (ay : Int) := dga
     have q4 : ay < (z.size : Int) := dga
     have bO := bt_at z ay; replace p4 := eq_true p4; replace q4 := eq_true q4
     have p8 : 0 ≤ ((aY) : Int) := dga
     have q8 : (aY) < (z.size : Int) := dga
     have dd := bt_at z (aY); replace p8 := eq_true p8; replace q8 := eq_true q8
     go_wp2
     go_roundg k1
     case measure => have := bd.out; omega
     case rel => exact ⟨(wrap64 ((wrap64 (aw + (wrap64 ((wrap64 (256 * (wrap64 (bt z ay)))) + (wrap64 (bt z (aY))))))) - 65535)), (wrap64 (ay + 2)), B5x5_, be_, aQ, ⟨B5x8_⟩, gd_⟩
    ·have cW : decide (65535 < (wrap64 (aw + (wrap64 ((wrap64 (256 * (wrap64 (bt z ay)))) + (wrap64 (bt z (aY)))))))) = false := decide_eq_false c9
     clear c9; replace aQ := am aQ; clear av ax aI aB aP
     have p4 : 0 ≤ (ay : Int) := dga
     have q4 : ay < (z.size : Int) := dga
     have bO := bt_at z ay; replace p4 := eq_true p4; replace q4 := eq_true q4
     have p8 : 0 ≤ ((aY) : Int) := dga
     have q8 : (aY) < (z.size : Int) := dga
     have dd := bt_at z (aY); replace p8 := eq_true p8; replace q8 := eq_true q8
     go_wp2
     go_roundg k1
     case measure => have := bd.out; omega
     case rel => exact ⟨(wrap64 (aw + (wrap64 ((wrap64 (256 * (wrap64 (bt z ay)))) + (wrap64 (bt z (aY))))))), (wrap64 (ay + 2)), B5x5_, be_, aQ, ⟨B5x8_⟩, gd_⟩
   ·obtain ⟨c10, aR⟩ | ⟨c10, aR⟩ := sp aB
    ·have cc : decide (65535 < (wrap64 (aw + (wrap64 (256 * (wrap64 (bt z ay))))))) = true := decide_eq_true c10
     clear c10; replace aR := am aR; clear av ax aI aB
     have p4 : 0 ≤ (ay : Int) := dga
     have q4 : ay < (z.size : Int) := dga
     have bO := bt_at z ay; replace p4 := eq_true p4; replace q4 := eq_true q4
     go_wp2
     go_roundg k1
     case measure => have := bd.out; omega
     case rel => exact ⟨(wrap64 ((wrap64 (aw + (wrap64 (256 * (wrap64 (bt z ay)))))) - 65535)), (wrap64 (ay + 2)), be_, be_, aR, ⟨B5x8_⟩, gd_⟩
    ·have cc : decide (65535 < (wrap64 (aw + (wrap64 (256 * (wrap64 (bt z ay))))))) = false := decide_eq_false c10
     clear c10; replace aR := am aR; clear av ax aI aB
     have p4 : 0 ≤ (ay : Int) := dga
     have q4 : ay < (z.size : Int) := dga
     have bO := bt_at z ay; replace p4 := eq_true p4; replace q4 := eq_true q4
     go_wp2
     go_roundg k1
     case measure => have := bd.out; omega
     case rel => exact ⟨(wrap64 (aw + (wrap64 (256 * (wrap64 (bt z ay)))))), (wrap64 (ay + 2)), be_, be_, aR, ⟨B5x8_⟩, gd_⟩
  ·obtain rfl := Option.some.inj ax; clear ax av
   go_wp2
   go_ret; exact ⟨gr_, gd_⟩

def spec_DgramText.f (k : Nat) (J : Int) (M : Int) (Y : Int) (U : Int) (aa : Bool) (Z : ByteArray) : Option (ByteArray × Bool) := (spec_DgramOk.f J M Y U aa Z).bind fun ck => (if ck = true then ((spec_l11Head.f k J M Y U aa Z).bind fun a2 => ((spec_SumOnes.f k a2).bind fun bw => ((spec_l11Two.f bw).bind fun a3 => (if a2.size + a3.size ≤ 9223372036854775807 then (if (a2 ++ a3).size + Z.size ≤ 9223372036854775807 then (some ((a2 ++ a3) ++ Z, true)) else (none)) else (none))))) else (some ((⟨#[]⟩ : ByteArray), false)))
def spec_DgramText.T4 : Bool × List (List Nat × List Nat) := (true, [([], []), ([], []), ([1], [1]), ([2, 2], [2]), ([0, 3], [0, 3]), ([], []), ([5], [5]), ([4, 6], [4, 6]), ([7, 3, 0, 1, 2, 3, 4, 5, 6, 7], [7]), ([8, 0, 1, 2, 3, 4, 5, 6, 7, 8], [])])
def spec_DgramText.B4 : List Nat := [0, 0, 2, 6, 15, 0, 32, 127, 255, 511]
theorem spec_DgramText.tab4 : rtab .any (opsOf Try.f33 4) = spec_DgramText.T4 := by kernel_rfl
theorem spec_DgramText.bits4 : waitsOk spec_DgramText.T4.2 spec_DgramText.B4 = true := by kernel_rfl
theorem spec_DgramText.calls (k : Nat) (J : Int) (M : Int) (Y : Int) (U : Int) (aa : Bool) (Z : ByteArray) (r1 : ByteArray) (r2 : Bool) (w : World) (h : spec_DgramText.f k J M Y U aa Z = some (r1, r2)) :
  Calls Try.prog 33 #[.agg #[.int .i64 J, .int .i64 M, .int .i64 Y, .int .i64 U, .bool aa, .string Z]] w fun e w' => e = .returned (.tuple #[.string r1, .bool r2]) ∧ Below w.heap.size w w' := by
 have cj := Try.underlying44
 have HB := am (Below.refl w.heap.size w)
 have au := h
 clear h
 unfold spec_DgramText.f at au
 obtain ⟨ck, A2, av⟩ := bsi au
 (try dsimp only at av)
 obtain ⟨rfl, ax⟩ | ⟨rfl, ax⟩ := sb av
 ·obtain ⟨a2, A4, aI⟩ := bsi ax; (try dsimp only at aI); obtain ⟨bw, A5, aB⟩ := bsi aI; (try dsimp only at aB); obtain ⟨a3, A6, aP⟩ := bsi aB; (try dsimp only at aP); obtain ⟨c7, aQ⟩ := yn aP; have ci := eq_true c7; have cS := decide_eq_true c7
  try have bG : (9223372036854775807 < a2.size + a3.size) = False := eq_false (Nat.not_lt.2 c7)
  try (have bH := bG; simp only [ByteArray.size_append] at bH)
  obtain ⟨c8, aR⟩ := yn aQ; have cT := eq_true c8; have cU := decide_eq_true c8
  try have bI : (9223372036854775807 < (a2 ++ a3).size + Z.size) = False := eq_false (Nat.not_lt.2 c8)
  try have cV : (9223372036854775807 < a2.size + a3.size + Z.size) = False := eq_false (by have h_ := c8; simp only [ByteArray.size_append, ByteArray.size_extract, decide_eq_true_eq, decide_eq_false_iff_not] at *; omega)
  try (have bJ := bI; simp only [ByteArray.size_append] at bJ)
  obtain ⟨rfl, rfl⟩ := s2 aR; clear aR au av ax aI aB aP aQ; go_enter Try.func33, Try.ntmps33
  try go_wp2_with (first | ((with_reducible refine gate_dst (N := 1) rfl ?_); refine bx (N := 1) (cs := #[.int .i64 J, .int .i64 M, .int .i64 Y, .int .i64 U, .bool aa, .string Z]) (t := 44) ?_; intro a5 hg w9 hbox hb; have ao := am hbox; have a4 := gA hg HB; replace HB := hA HB hb; clear hb hbox hg; obtain ⟨co, cp, cq, cr, ct, cu, cB, cC, cD, cE, cF, cG⟩ := cf6 ao) | ((with_reducible refine gate_callee (f := 34) rfl ?_); refine gM (some 6) Try.func34 (spec_DgramOk.calls J M Y U aa Z true _ A2.out) ?_; rintro a7 hb; replace ao := bA ao hb; replace HB := De1 HB a4 hb; obtain ⟨co, cp, cq, cr, ct, cu, cB, cC, cD, cE, cF, cG⟩ := cf6 ao) | ((with_reducible refine gate_callee (f := 60) rfl ?_); refine gM (some 9) Try.func60 (spec_l11Head.calls k J M Y U aa Z a2 _ A4.out) ?_; rintro ap hb; replace ao := bA ao hb; replace HB := De1 HB a4 hb))
  replace ao := dA ao; replace HB := bdr HB; refine st_ 10 (fun w' => w'.cell? ⟨a5, 0, none⟩ = some (.int .i64 J) ∧ w'.cell? ⟨a5, 1, none⟩ = some (.int .i64 M) ∧ w'.cell? ⟨a5, 2, none⟩ = some (.int .i64 Y) ∧ w'.cell? ⟨a5, 3, none⟩ = some (.int .i64 U) ∧ w'.cell? ⟨a5, 4, none⟩ = some (.bool aa) ∧ w'.cell? ⟨a5, 5, none⟩ = some (.string Z)) [] spec_DgramText.tab4 spec_DgramText.bits4 D1x2_ (fun B D aJ => ?_); generalize ap.drew = aD at ao HB B ⊢; refine pu_ 0 10 D ?_; refine pu_ 1 11 D ?_; refine pu_ 5 15 D ?_; refine ta_ 6 16 D aJ B ?_; refine on_ 2 (some 12) D (fun K hK => ?_); refine gT Try.func62 (spec_SumOnes.calls k a2 bw _ A5.out) ?_; rintro w' ⟨nd, rfl⟩; refine hK.out _ _ D1x2_ (fun B => nm_ ?_); clear hK K; refine on_ 3 (some 13) D (fun K hK => ?_); refine gT Try.func61 (spec_l11Two.calls bw a3 _ A6.out) ?_; rintro aE hb; replace ao := bA ao hb; replace HB := De1 HB a4 hb; refine hK.out _ _ D1x2_ (fun B => nm_ ?_); clear hK K; refine pu_ 4 14 D ?_; refine pu_ 7 17 D ?_; refine pu_ 8 2 D ?_; refine pu_ 9 3 D ?_; refine done_ (done_of D.out gk_) ?_
  try go_wp2
  go_ret2
  exact ⟨B5x6_, (Ae1 HB a4)⟩
 obtain ⟨rfl, rfl⟩ := s2 ax
 clear ax au av
 go_enter Try.func33, Try.ntmps33
 go_wp2_with (first | ((with_reducible refine gate_dst (N := 1) rfl ?_); refine bx (N := 1) (cs := #[.int .i64 J, .int .i64 M, .int .i64 Y, .int .i64 U, .bool aa, .string Z]) (t := 44) ?_; intro a5 hg aG hbox hb; have ao := am hbox; have a4 := gA hg HB; replace HB := hA HB hb; clear hb hbox hg; obtain ⟨co, cp, cq, cr, ct, cu, cB, cC, cD, cE, cF, cG⟩ := cf6 ao) | ((with_reducible refine gate_callee (f := 34) rfl ?_); refine gM (some 6) Try.func34 (spec_DgramOk.calls J M Y U aa Z false _ A2.out) ?_; rintro ez hb; replace ao := bA ao hb; replace HB := De1 HB a4 hb))
 go_ret2
 exact ⟨B5x6_, (Ae1 HB a4)⟩
def spec_ReadDgram.j0 : Nat → ByteArray → Bool → Option (Int × Int × Int × Int × Bool × ByteArray × Bool)
 | 0, _, _ => none
 | k + 1, x0, dn => if dn = true then (some (0, 0, 0, 0, false, (⟨#[]⟩ : ByteArray), false)) else (if 0 < (x0.size : Int) then (if 1 < (x0.size : Int) then (if 2 < (x0.size : Int) then (if 3 < (x0.size : Int) then (if 4 < (x0.size : Int) then (if 5 < (x0.size : Int) then (if 8 ≤ (x0.size : Int) then ((spec_DgramText.f k (wrap64 (bt x0 0)) (wrap64 (bt x0 1)) (wrap64 ((wrap64 (256 * (wrap64 (bt x0 2)))) + (wrap64 (bt x0 3)))) (wrap64 (8 * (wrap64 (bt x0 4)))) ((bt x0 5) == 1) (x0.extract 8 x0.size)).bind fun ca => (if ca.2 = true then (if ca.1.toList = x0.toList then (some (wrap64 (bt x0 0), wrap64 (bt x0 1), wrap64 ((wrap64 (256 * (wrap64 (bt x0 2)))) + (wrap64 (bt x0 3))), wrap64 (8 * (wrap64 (bt x0 4))), ((bt x0 5) == 1), x0.extract 8 x0.size, true)) else (some (0, 0, 0, 0, false, (⟨#[]⟩ : ByteArray), false))) else (some (0, 0, 0, 0, false, (⟨#[]⟩ : ByteArray), false)))) else (none)) else (none)) else (none)) else (none)) else (none)) else (none)) else (none))
def spec_ReadDgram.f (k : Nat) (z : ByteArray) : Option (Int × Int × Int × Int × Bool × ByteArray × Bool) := if (z.size : Int) < 9 then (spec_ReadDgram.j0 k z true) else (if 5 < (z.size : Int) then (spec_ReadDgram.j0 k z (decide ((bt z 5) > 1))) else (none))
def spec_ReadDgram.T3 : Bool × List (List Nat × List Nat) := (true, [([], []), ([0], [0]), ([1], [1]), ([], []), ([3], [3]), ([4], [4]), ([], []), ([6], [6]), ([7], [7]), ([8], [8]), ([], []), ([10], [10]), ([11], [11]), ([9, 12], [9, 12]), ([], []), ([14], [14]), ([15], [15]), ([16], [16]), ([], []), ([18], [18]), ([19], [19]), ([], []), ([21], [21]), ([2, 5, 13, 17, 20, 22], [2, 5, 13, 17, 20, 22]), ([], []), ([24, 23, 0, 1, 2, 3, 4, 5, 6, 7, 8, 9, 10, 11, 12, 13, 14, 15, 16, 17, 18, 19, 20, 21, 22, 23, 24], [23, 24])])
def spec_ReadDgram.B3 : List Nat := [0, 1, 3, 0, 8, 24, 0, 64, 192, 448, 0, 1024, 3072, 8128, 0, 16384, 49152, 114688, 0, 262144, 786432, 0, 2097152, 8388607, 0, 33554431]
theorem spec_ReadDgram.tab3 : rtab .any (opsOf Try.f14 3) = spec_ReadDgram.T3 := by kernel_rfl
theorem spec_ReadDgram.bits3 : waitsOk spec_ReadDgram.T3.2 spec_ReadDgram.B3 = true := by kernel_rfl
theorem spec_ReadDgram.calls (k : Nat) (z : ByteArray) (r1 : Int) (r2 : Int) (r3 : Int) (r4 : Int) (r5 : Bool) (r6 : ByteArray) (r7 : Bool) (w : World) (h : spec_ReadDgram.f k z = some (r1, r2, r3, r4, r5, r6, r7)) :
  Calls Try.prog 14 #[.string z] w fun e w' => e = .returned (.tuple #[.agg #[.int .i64 r1, .int .i64 r2, .int .i64 r3, .int .i64 r4, .bool r5, .string r6], .bool r7]) ∧ Below w.heap.size w w' := by
 have cj := Try.underlying44
 have HB := am (Below.refl w.heap.size w)
 have au := h
 clear h
 unfold spec_ReadDgram.f at au
 replace au := am au
 go_enter Try.func14, Try.ntmps14
 go_upto_region 1 with (first | ((with_reducible refine gate_dst (N := 2) rfl ?_); refine bx (N := 2) (cs := #[.int .i64 0, .int .i64 0, .int .i64 0, .int .i64 0, .bool false, .string (⟨#[]⟩ : ByteArray)]) (t := 44) ?_; intro al hg w3 hbox hb; have ak := am hbox; have aM := gA hg HB; replace HB := hA HB hb; clear hb hbox hg))
 (try simp only [Act.put, List.setIfInBounds_toArray, List.set_cons_zero, List.set_cons_succ])
 go_cut [14] (fun de wc => ∃ (kq : Nat) (bX : Bool), de = .bool bX ∧ Aside0 (spec_ReadDgram.j0 kq z bX = some (r1, r2, r3, r4, r5, r6, r7)) ∧ Aside0 (kq ≤ k) ∧ Hc wc al #[.int .i64 0, .int .i64 0, .int .i64 0, .int .i64 0, .bool false, .string (⟨#[]⟩ : ByteArray)] 44 ∧ Hb w wc)
 case first =>
  replace au := au.out
  obtain ⟨c4, av⟩ | ⟨c4, av⟩ := sp au
  ·have bh := decide_eq_true c4
   have cR : decide (z.size < 9) = true := decide_eq_true (by omega)
   clear c4
   (first | rw [bh] | (simp only [i64_w, i32_w]; rw [bh]) | skip)
   replace av := am av; clear au
   go_wp2
   go_meet
   case rel => exact ⟨_, true, be_, av, ⟨gl_⟩, Cb ak, Ce1 HB aM⟩
  have bh := decide_eq_false c4
  have cR : decide (z.size < 9) = false := decide_eq_false (by omega)
  clear c4
  (first | rw [bh] | (simp only [i64_w, i32_w]; rw [bh]) | skip)
  obtain ⟨c5, ax⟩ := yn av; have bF := decide_eq_true c5
  have dE : decide (5 < z.size) = true := decide_eq_true (by omega)
  clear c5; replace ax := am ax; clear au av
  have p6 : 0 ≤ (5 : Int) := (by omega)
  have q6 : 5 < z.size := (by have : (5 : Int) < (z.size : Int) := dga; omega)
  have ex : ∀ h : 5 < z.size, ((z[5]'h).toNat : Int) = bt z 5 := bt_at z 5
  clear p6
  have qi6 : (5 < (z.size : Int)) = True := eq_true (dga)
  replace q6 := eq_true q6
  go_wp2
  go_meet
  case rel => exact ⟨_, (decide ((bt z 5) > 1)), be_, ax, ⟨gl_⟩, Cb ak, Ce1 HB aM⟩
 clear au
 obtain ⟨kq, bX, rfl, aI, cN, ak, HB⟩ := hcut
 cases kq with
 | zero => exact absurd aI.out (by simp [spec_ReadDgram.j0])
 | succ bv => ?_
 replace aI := aI.out
 simp only [spec_ReadDgram.j0] at aI
 obtain ⟨rfl, aB⟩ | ⟨rfl, aB⟩ := sb aI
 ·obtain ⟨rfl, rfl, rfl, rfl, rfl, rfl, rfl⟩ := s7 aB; clear aB aI; obtain ⟨bY, bZ, b0, b1, b2, b3, b4, b5, b6, b7, b8, b9⟩ := cf6 ak
  go_wp2_with (first | ((with_reducible refine gate_store (t := 44) (p := 2) rfl ?_); refine store_event (t := 44) (p := 2) (v := ?vo_w9) (w1 := ((((((wc.setCell ⟨al, 0, none⟩ (.int .i64 0)).setCell ⟨al, 1, none⟩ (.int .i64 0)).setCell ⟨al, 2, none⟩ (.int .i64 0)).setCell ⟨al, 3, none⟩ (.int .i64 0)).setCell ⟨al, 4, none⟩ (.bool false)).setCell ⟨al, 5, none⟩ (.string (⟨#[]⟩ : ByteArray)))) ?hg ?ho ?hn ?hr ?_; (case ho => rfl); (case hg => rfl); (case hn => rfl); (case hr => exact gs_); intro w9 hw; replace ak : Hc w9 al #[.int .i64 0, .int .i64 0, .int .i64 0, .int .i64 0, .bool false, .string (⟨#[]⟩ : ByteArray)] 44 := ⟨wAp0 ak⟩; replace HB : Hb w w9 := ⟨wAe1 HB aM⟩; clear hw))
  refine bodyPost_ret (results_ct rfl _ _ al 44 #[.int .i64 0, .int .i64 0, .int .i64 0, .int .i64 0, .bool false, .string (⟨#[]⟩ : ByteArray)] (0, 0) _ rfl (Ab ak) Try.underlying44 rfl gk_) rfl ?_; exact ⟨B5x6_, (Ae1 HB aM)⟩
 obtain ⟨c10, aP⟩ := yn aB
 have cc := decide_eq_true c10
 have dp : decide (0 < z.size) = true := decide_eq_true (by omega)
 clear c10
 obtain ⟨cd, aQ⟩ := yn aP
 have dq := decide_eq_true cd
 have dr : decide (1 < z.size) = true := decide_eq_true (by omega)
 clear cd
 obtain ⟨ce, aR⟩ := yn aQ
 have ds := decide_eq_true ce
 have dt : decide (2 < z.size) = true := decide_eq_true (by omega)
 clear ce
 obtain ⟨cf, bE⟩ := yn aR
 have du := decide_eq_true cf
 have dv : decide (3 < z.size) = true := decide_eq_true (by omega)
 clear cf
 obtain ⟨cg, bB⟩ := yn bE
 have dw := decide_eq_true cg
 have dx : decide (4 < z.size) = true := decide_eq_true (by omega)
 clear cg
 obtain ⟨ch, bC⟩ := yn bB
 have dy := decide_eq_true ch
 have dz : decide (5 < z.size) = true := decide_eq_true (by omega)
 clear ch
 obtain ⟨dB, dC, bD⟩ := ye bC
 obtain ⟨⟨bV, ey⟩, bz, br⟩ := bsi bD
 (try dsimp only at br)
 obtain ⟨rfl, a1⟩ | ⟨rfl, a1⟩ := sb br
 ·replace a1 := am a1; clear aI aB aP aQ aR bE bB bC bD br
  try go_wp2
  replace ak := dA ak; replace HB := bdr HB
  have bP : 0 ≤ (0 : Int) := (by omega)
  have bl : 0 < z.size := (by have : (0 : Int) < (z.size : Int) := dga; omega)
  have cX : ∀ h : 0 < z.size, ((z[0]'h).toNat : Int) = bt z 0 := bt_at z 0
  clear bP
  have qi11 : (0 < (z.size : Int)) = True := eq_true (dga)
  replace bl := eq_true bl
  have bQ : 0 ≤ (1 : Int) := (by omega)
  have bm : 1 < z.size := (by have : (1 : Int) < (z.size : Int) := dga; omega)
  have cY : ∀ h : 1 < z.size, ((z[1]'h).toNat : Int) = bt z 1 := bt_at z 1
  clear bQ
  have qi13 : (1 < (z.size : Int)) = True := eq_true (dga)
  replace bm := eq_true bm
  have bR : 0 ≤ (2 : Int) := (by omega)
  have bn : 2 < z.size := (by have : (2 : Int) < (z.size : Int) := dga; omega)
  have cZ : ∀ h : 2 < z.size, ((z[2]'h).toNat : Int) = bt z 2 := bt_at z 2
  clear bR
  have qi15 : (2 < (z.size : Int)) = True := eq_true (dga)
  replace bn := eq_true bn
  have bS : 0 ≤ (3 : Int) := (by omega)
  have bo : 3 < z.size := (by have : (3 : Int) < (z.size : Int) := dga; omega)
  have da : ∀ h : 3 < z.size, ((z[3]'h).toNat : Int) = bt z 3 := bt_at z 3
  clear bS
  have qi17 : (3 < (z.size : Int)) = True := eq_true (dga)
  replace bo := eq_true bo
  have bT : 0 ≤ (4 : Int) := (by omega)
  have bp : 4 < z.size := (by have : (4 : Int) < (z.size : Int) := dga; omega)
  have db : ∀ h : 4 < z.size, ((z[4]'h).toNat : Int) = bt z 4 := bt_at z 4
  clear bT
  have qi19 : (4 < (z.size : Int)) = True := eq_true (dga)
  replace bp := eq_true bp
  have bU : 0 ≤ (5 : Int) := (by omega)
  have bq : 5 < z.size := (by have : (5 : Int) < (z.size : Int) := dga; omega)
  have dc : ∀ h : 5 < z.size, ((z[5]'h).toNat : Int) = bt z 5 := bt_at z 5
  clear bU
  have qi21 : (5 < (z.size : Int)) = True := eq_true (dga)
  replace bq := eq_true bq; refine st_ 26 (fun w' => True) [] spec_ReadDgram.tab3 spec_ReadDgram.bits3 trivial (fun B D aJ => ?_); generalize wc.drew = eB at ak HB B ⊢; refine pu_ 0 16 D ?_; refine pu_ 3 19 D ?_; refine pu_ 6 22 D ?_; refine pu_ 10 26 D ?_; refine pu_ 14 30 D ?_; refine pu_ 18 34 D ?_; refine pu_ 21 37 D ?_; refine pu_ 22 38 D ?_; refine take_ (i := 1) (N := some 17) (v := ?_) (a' := ?_) #[true, true, false, true, false, false, true, false, false, false, true, false, false, false, true, false, false, false, true, false, false, true, true, false, false, false] rfl rfl (take_ofW D.out aJ.out gk_) (fun _ _ _ h => h) (Or.inl ⟨(by rfl), ?_⟩) B ?_ ?_; rotate_left
  ·intro w' _; go_simp; with_reducible rfl
  rotate_left
  ·simp only [Act.put, List.setIfInBounds_toArray, List.set_cons_zero, List.set_cons_succ, i64_w, i32_w]; rfl
  refine pu_ 2 18 D ?_; refine take_ (i := 4) (N := some 20) (v := ?_) (a' := ?_) #[true, true, true, true, true, false, true, false, false, false, true, false, false, false, true, false, false, false, true, false, false, true, true, false, false, false] rfl rfl (take_ofW D.out aJ.out gk_) (fun _ _ _ h => h) (Or.inl ⟨(by rfl), ?_⟩) B ?_ ?_; rotate_left
  ·intro w' _; go_simp; with_reducible rfl
  rotate_left
  ·simp only [Act.put, List.setIfInBounds_toArray, List.set_cons_zero, List.set_cons_succ, i64_w, i32_w]; rfl
  refine pu_ 5 21 D ?_; refine take_ (i := 7) (N := some 23) (v := ?_) (a' := ?_) #[true, true, true, true, true, true, true, true, false, false, true, false, false, false, true, false, false, false, true, false, false, true, true, false, false, false] rfl rfl (take_ofW D.out aJ.out gk_) (fun _ _ _ h => h) (Or.inl ⟨(by rfl), ?_⟩) B ?_ ?_; rotate_left
  ·intro w' _; go_simp; with_reducible rfl
  rotate_left
  ·simp only [Act.put, List.setIfInBounds_toArray, List.set_cons_zero, List.set_cons_succ, i64_w, i32_w]; rfl
  refine pu_ 8 24 D ?_; refine pu_ 9 25 D ?_; refine take_ (i := 11) (N := some 27) (v := ?_) (a' := ?_) #[true, true, true, true, true, true, true, true, true, true, true, true, false, false, true, false, false, false, true, false, false, true, true, false, false, false] rfl rfl (take_ofW D.out aJ.out gk_) (fun _ _ _ h => h) (Or.inl ⟨(by rfl), ?_⟩) B ?_ ?_; rotate_left
  ·intro w' _; go_simp; with_reducible rfl
  rotate_left
  ·simp only [Act.put, List.setIfInBounds_toArray, List.set_cons_zero, List.set_cons_succ, i64_w, i32_w]; rfl
  refine pu_ 12 28 D ?_; refine pu_ 13 29 D ?_; refine take_ (i := 15) (N := some 31) (v := ?_) (a' := ?_) #[true, true, true, true, true, true, true, true, true, true, true, true, true, true, true, true, false, false, true, false, false, true, true, false, false, false] rfl rfl (take_ofW D.out aJ.out gk_) (fun _ _ _ h => h) (Or.inl ⟨(by rfl), ?_⟩) B ?_ ?_; rotate_left
  ·intro w' _; go_simp; with_reducible rfl
  rotate_left
  ·simp only [Act.put, List.setIfInBounds_toArray, List.set_cons_zero, List.set_cons_succ, i64_w, i32_w]; rfl
  refine pu_ 16 32 D ?_; refine pu_ 17 33 D ?_; refine take_ (i := 19) (N := some 35) (v := ?_) (a' := ?_) #[true, true, true, true, true, true, true, true, true, true, true, true, true, true, true, true, true, true, true, true, false, true, true, false, false, false] rfl rfl (take_ofW D.out aJ.out gk_) (fun _ _ _ h => h) (Or.inl ⟨(by rfl), ?_⟩) B ?_ ?_; rotate_left
  ·intro w' _; go_simp; with_reducible rfl
  rotate_left
  ·simp only [Act.put, List.setIfInBounds_toArray, List.set_cons_zero, List.set_cons_succ, i64_w, i32_w]; rfl
  refine pu_ 20 36 D ?_; refine pu_ 23 39 D ?_; refine on_ 24 (some 4) D (fun K hK => ?_); refine box_step ?hg (N := 4) ?hd (cs := #[.int .i64 0, .int .i64 0, .int .i64 0, .int .i64 0, .bool false, .string (⟨#[]⟩ : ByteArray)]) (t := 44) ?hr ?_; (case hd => rfl); (case hg => rfl); (case hr => exact gs_); intro aN hg a9 hbox hb; have ar := am hbox; have aZ := gA hg HB; replace HB := De1 HB aM hb; have aK := nA hg ak; have aL := mA hg ak; replace ak := bA ak hb; clear hb hbox hg; refine hK.out _ _ trivial (fun B => nm_ ?_); clear hK K; refine on_ 25 none D (fun K hK => ?_)
  have ek : a9.cell? ⟨aN, 0, none⟩ = some (.int .i64 0) := bc ar 0
  have dF := blk_frozen ar.out 0; obtain ⟨d8, dS⟩ := o2_ aK aL
  have el : a9.cell? ⟨aN, 1, none⟩ = some (.int .i64 0) := bc ar 1
  have dG := blk_frozen ar.out 1; obtain ⟨d9, dT⟩ := o2_ aK aL
  have em : a9.cell? ⟨aN, 2, none⟩ = some (.int .i64 0) := bc ar 2
  have dH := blk_frozen ar.out 2; obtain ⟨ea, dU⟩ := o2_ aK aL
  have en : a9.cell? ⟨aN, 3, none⟩ = some (.int .i64 0) := bc ar 3
  have dI := blk_frozen ar.out 3; obtain ⟨eb, dV⟩ := o2_ aK aL
  have eo : a9.cell? ⟨aN, 4, none⟩ = some (.bool false) := bc ar 4
  have dJ := blk_frozen ar.out 4; obtain ⟨ec, dW⟩ := o2_ aK aL
  have ep : a9.cell? ⟨aN, 5, none⟩ = some (.string (⟨#[]⟩ : ByteArray)) := bc ar 5
  have dK := blk_frozen ar.out 5; obtain ⟨ed, dX⟩ := o2_ aK aL; refine skip_ (w1 := ?_) (by rfl) rfl ?_ ?_; rotate_left
  ·go_simp; rfl
  refine hK.out _ _ trivial (fun B => ?_); clear hK K; refine done_ (done_of D.out gk_) ?_; obtain ⟨d4, d6⟩ := o2_ aL aK; obtain ⟨cv, cw, cx, cy, cz, cA, cH, cI, cJ, cK, cL, cM⟩ := cf6 ar; replace a1 := a1.out
  obtain ⟨bu, be⟩ | ⟨bu, be⟩ := sp a1
  ·obtain ⟨cO, cP⟩ := yE bu; clear bu; obtain ⟨rfl, rfl, rfl, rfl, rfl, rfl, rfl⟩ := s7 be; clear be a1
   try go_wp2_with (first | ((with_reducible refine gate_callee (f := 33) rfl ?_); refine gM (some 42) Try.func33 (spec_DgramText.calls bv (wrap64 (bt z 0)) (wrap64 (bt z 1)) (wrap64 ((wrap64 (256 * (wrap64 (bt z 2)))) + (wrap64 (bt z 3)))) (wrap64 (8 * (wrap64 (bt z 4)))) ((bt z 5) == 1) (z.extract 8 z.size) bV true _ bz.out) ?_; rintro df hb; replace ak := am (blk_below (g := al) (o := .cells #[.int .i64 0, .int .i64 0, .int .i64 0, .int .i64 0, .bool false, .string (⟨#[]⟩ : ByteArray)] 44 (0, 0)) (Ap1 ak aK) hb); replace ar := am (blk_below (g := aN) (o := .cells #[.int .i64 (wrap64 (bt z 0)), .int .i64 (wrap64 (bt z 1)), .int .i64 (wrap64 ((wrap64 (256 * (wrap64 (bt z 2)))) + (wrap64 (bt z 3)))), .int .i64 (wrap64 (8 * (wrap64 (bt z 4)))), .bool ((bt z 5) == 1), .string (z.extract 8 z.size)] 44 (0, 0)) (Ap0 ar) hb); replace HB := De2 HB aM aZ hb; obtain ⟨cv, cw, cx, cy, cz, cA, cH, cI, cJ, cK, cL, cM⟩ := cf6 ar; obtain ⟨bY, bZ, b0, b1, b2, b3, b4, b5, b6, b7, b8, b9⟩ := cf6 ak) | ((with_reducible refine gate_store (t := 44) (p := 2) rfl ?_); refine store_event (t := 44) (p := 2) (v := ?vo_w39) (w1 := ((((((df.setCell ⟨al, 0, none⟩ (.int .i64 (wrap64 (bt z 0)))).setCell ⟨al, 1, none⟩ (.int .i64 (wrap64 (bt z 1)))).setCell ⟨al, 2, none⟩ (.int .i64 (wrap64 ((wrap64 (256 * (wrap64 (bt z 2)))) + (wrap64 (bt z 3)))))).setCell ⟨al, 3, none⟩ (.int .i64 (wrap64 (8 * (wrap64 (bt z 4)))))).setCell ⟨al, 4, none⟩ (.bool ((bt z 5) == 1))).setCell ⟨al, 5, none⟩ (.string (z.extract 8 z.size)))) ?hg ?ho ?hn ?hr ?_; (case ho => rfl); (case hg => rfl); (case hn => rfl); (case hr => exact gs_); intro bW hw; replace ak : Hc bW al #[.int .i64 (wrap64 (bt z 0)), .int .i64 (wrap64 (bt z 1)), .int .i64 (wrap64 ((wrap64 (256 * (wrap64 (bt z 2)))) + (wrap64 (bt z 3)))), .int .i64 (wrap64 (8 * (wrap64 (bt z 4)))), .bool ((bt z 5) == 1), .string (z.extract 8 z.size)] 44 := ⟨wAp0 ak⟩; replace ar : Hc bW aN #[.int .i64 (wrap64 (bt z 0)), .int .i64 (wrap64 (bt z 1)), .int .i64 (wrap64 ((wrap64 (256 * (wrap64 (bt z 2)))) + (wrap64 (bt z 3)))), .int .i64 (wrap64 (8 * (wrap64 (bt z 4)))), .bool ((bt z 5) == 1), .string (z.extract 8 z.size)] 44 := ⟨wAp1 ar aL⟩; replace HB : Hb w bW := ⟨wAe2 HB aM aZ⟩; clear hw))
   refine bodyPost_ret (results_ct rfl _ _ al 44 #[.int .i64 (wrap64 (bt z 0)), .int .i64 (wrap64 (bt z 1)), .int .i64 (wrap64 ((wrap64 (256 * (wrap64 (bt z 2)))) + (wrap64 (bt z 3)))), .int .i64 (wrap64 (8 * (wrap64 (bt z 4)))), .bool ((bt z 5) == 1), .string (z.extract 8 z.size)] (0, 0) _ rfl (Ab ak) Try.underlying44 rfl gk_) rfl ?_; exact ⟨B5x6_, (Ae2 HB aM aZ)⟩
  obtain ⟨cO, cP⟩ := nE bu; obtain ⟨rfl, rfl, rfl, rfl, rfl, rfl, rfl⟩ := s7 be; clear be a1
  try go_wp2_with (first | ((with_reducible refine gate_callee (f := 33) rfl ?_); refine gM (some 42) Try.func33 (spec_DgramText.calls bv (wrap64 (bt z 0)) (wrap64 (bt z 1)) (wrap64 ((wrap64 (256 * (wrap64 (bt z 2)))) + (wrap64 (bt z 3)))) (wrap64 (8 * (wrap64 (bt z 4)))) ((bt z 5) == 1) (z.extract 8 z.size) bV true _ bz.out) ?_; rintro dh hb; replace ak := am (blk_below (g := al) (o := .cells #[.int .i64 0, .int .i64 0, .int .i64 0, .int .i64 0, .bool false, .string (⟨#[]⟩ : ByteArray)] 44 (0, 0)) (Ap1 ak aK) hb); replace HB := De2 HB aM aZ hb; obtain ⟨bY, bZ, b0, b1, b2, b3, b4, b5, b6, b7, b8, b9⟩ := cf6 ak) | ((with_reducible refine gate_store (t := 44) (p := 2) rfl ?_); refine store_event (t := 44) (p := 2) (v := ?vo_w52) (w1 := ((((((dh.setCell ⟨al, 0, none⟩ (.int .i64 0)).setCell ⟨al, 1, none⟩ (.int .i64 0)).setCell ⟨al, 2, none⟩ (.int .i64 0)).setCell ⟨al, 3, none⟩ (.int .i64 0)).setCell ⟨al, 4, none⟩ (.bool false)).setCell ⟨al, 5, none⟩ (.string (⟨#[]⟩ : ByteArray)))) ?hg ?ho ?hn ?hr ?_; (case ho => rfl); (case hg => rfl); (case hn => rfl); (case hr => exact gs_); intro cm hw; replace ak : Hc cm al #[.int .i64 0, .int .i64 0, .int .i64 0, .int .i64 0, .bool false, .string (⟨#[]⟩ : ByteArray)] 44 := ⟨wAp0 ak⟩; replace HB : Hb w cm := ⟨wAe2 HB aM aZ⟩; clear hw))
  refine bodyPost_ret (results_ct rfl _ _ al 44 #[.int .i64 0, .int .i64 0, .int .i64 0, .int .i64 0, .bool false, .string (⟨#[]⟩ : ByteArray)] (0, 0) _ rfl (Ab ak) Try.underlying44 rfl gk_) rfl ?_; exact ⟨B5x6_, (Ae2 HB aM aZ)⟩
 obtain ⟨rfl, rfl, rfl, rfl, rfl, rfl, rfl⟩ := s7 a1
 clear a1 aI aB aP aQ aR bE bB bC bD br
 try go_wp2
 replace ak := dA ak
 replace HB := bdr HB
 have bP : 0 ≤ (0 : Int) := (by omega)
 have bl : 0 < z.size := (by have : (0 : Int) < (z.size : Int) := dga; omega)
 have cX : ∀ h : 0 < z.size, ((z[0]'h).toNat : Int) = bt z 0 := bt_at z 0
 clear bP
 have qi11 : (0 < (z.size : Int)) = True := eq_true (dga)
 replace bl := eq_true bl
 have bQ : 0 ≤ (1 : Int) := (by omega)
 have bm : 1 < z.size := (by have : (1 : Int) < (z.size : Int) := dga; omega)
 have cY : ∀ h : 1 < z.size, ((z[1]'h).toNat : Int) = bt z 1 := bt_at z 1
 clear bQ
 have qi13 : (1 < (z.size : Int)) = True := eq_true (dga)
 replace bm := eq_true bm
 have bR : 0 ≤ (2 : Int) := (by omega)
 have bn : 2 < z.size := (by have : (2 : Int) < (z.size : Int) := dga; omega)
 have cZ : ∀ h : 2 < z.size, ((z[2]'h).toNat : Int) = bt z 2 := bt_at z 2
 clear bR
 have qi15 : (2 < (z.size : Int)) = True := eq_true (dga)
 replace bn := eq_true bn
 have bS : 0 ≤ (3 : Int) := (by omega)
 have bo : 3 < z.size := (by have : (3 : Int) < (z.size : Int) := dga; omega)
 have da : ∀ h : 3 < z.size, ((z[3]'h).toNat : Int) = bt z 3 := bt_at z 3
 clear bS
 have qi17 : (3 < (z.size : Int)) = True := eq_true (dga)
 replace bo := eq_true bo
 have bT : 0 ≤ (4 : Int) := (by omega)
 have bp : 4 < z.size := (by have : (4 : Int) < (z.size : Int) := dga; omega)
 have db : ∀ h : 4 < z.size, ((z[4]'h).toNat : Int) = bt z 4 := bt_at z 4
 clear bT
 have qi19 : (4 < (z.size : Int)) = True := eq_true (dga)
 replace bp := eq_true bp
 have bU : 0 ≤ (5 : Int) := (by omega)
 have bq : 5 < z.size := (by have : (5 : Int) < (z.size : Int) := dga; omega)
 have dc : ∀ h : 5 < z.size, ((z[5]'h).toNat : Int) = bt z 5 := bt_at z 5
 clear bU
 have qi21 : (5 < (z.size : Int)) = True := eq_true (dga)
 replace bq := eq_true bq
 refine st_ 26 (fun w' => True) [] spec_ReadDgram.tab3 spec_ReadDgram.bits3 trivial (fun B D aJ => ?_)
 generalize wc.drew = eC at ak HB B ⊢
 refine pu_ 0 16 D ?_
 refine pu_ 3 19 D ?_
 refine pu_ 6 22 D ?_
 refine pu_ 10 26 D ?_
 refine pu_ 14 30 D ?_
 refine pu_ 18 34 D ?_
 refine pu_ 21 37 D ?_
 refine pu_ 22 38 D ?_
 refine take_ (i := 1) (N := some 17) (v := ?_) (a' := ?_) #[true, true, false, true, false, false, true, false, false, false, true, false, false, false, true, false, false, false, true, false, false, true, true, false, false, false] rfl rfl (take_ofW D.out aJ.out gk_) (fun _ _ _ h => h) (Or.inl ⟨(by rfl), ?_⟩) B ?_ ?_
 rotate_left
 ·intro w' _; go_simp; with_reducible rfl
 rotate_left
 ·simp only [Act.put, List.setIfInBounds_toArray, List.set_cons_zero, List.set_cons_succ, i64_w, i32_w]; rfl
 refine pu_ 2 18 D ?_
 refine take_ (i := 4) (N := some 20) (v := ?_) (a' := ?_) #[true, true, true, true, true, false, true, false, false, false, true, false, false, false, true, false, false, false, true, false, false, true, true, false, false, false] rfl rfl (take_ofW D.out aJ.out gk_) (fun _ _ _ h => h) (Or.inl ⟨(by rfl), ?_⟩) B ?_ ?_
 rotate_left
 ·intro w' _; go_simp; with_reducible rfl
 rotate_left
 ·simp only [Act.put, List.setIfInBounds_toArray, List.set_cons_zero, List.set_cons_succ, i64_w, i32_w]; rfl
 refine pu_ 5 21 D ?_
 refine take_ (i := 7) (N := some 23) (v := ?_) (a' := ?_) #[true, true, true, true, true, true, true, true, false, false, true, false, false, false, true, false, false, false, true, false, false, true, true, false, false, false] rfl rfl (take_ofW D.out aJ.out gk_) (fun _ _ _ h => h) (Or.inl ⟨(by rfl), ?_⟩) B ?_ ?_
 rotate_left
 ·intro w' _; go_simp; with_reducible rfl
 rotate_left
 ·simp only [Act.put, List.setIfInBounds_toArray, List.set_cons_zero, List.set_cons_succ, i64_w, i32_w]; rfl
 refine pu_ 8 24 D ?_
 refine pu_ 9 25 D ?_
 refine take_ (i := 11) (N := some 27) (v := ?_) (a' := ?_) #[true, true, true, true, true, true, true, true, true, true, true, true, false, false, true, false, false, false, true, false, false, true, true, false, false, false] rfl rfl (take_ofW D.out aJ.out gk_) (fun _ _ _ h => h) (Or.inl ⟨(by rfl), ?_⟩) B ?_ ?_
 rotate_left
 ·intro w' _; go_simp; with_reducible rfl
 rotate_left
 ·simp only [Act.put, List.setIfInBounds_toArray, List.set_cons_zero, List.set_cons_succ, i64_w, i32_w]; rfl
 refine pu_ 12 28 D ?_
 refine pu_ 13 29 D ?_
 refine take_ (i := 15) (N := some 31) (v := ?_) (a' := ?_) #[true, true, true, true, true, true, true, true, true, true, true, true, true, true, true, true, false, false, true, false, false, true, true, false, false, false] rfl rfl (take_ofW D.out aJ.out gk_) (fun _ _ _ h => h) (Or.inl ⟨(by rfl), ?_⟩) B ?_ ?_
 rotate_left
 ·intro w' _; go_simp; with_reducible rfl
 rotate_left
 ·simp only [Act.put, List.setIfInBounds_toArray, List.set_cons_zero, List.set_cons_succ, i64_w, i32_w]; rfl
 refine pu_ 16 32 D ?_
 refine pu_ 17 33 D ?_
 refine take_ (i := 19) (N := some 35) (v := ?_) (a' := ?_) #[true, true, true, true, true, true, true, true, true, true, true, true, true, true, true, true, true, true, true, true, false, true, true, false, false, false] rfl rfl (take_ofW D.out aJ.out gk_) (fun _ _ _ h => h) (Or.inl ⟨(by rfl), ?_⟩) B ?_ ?_
 rotate_left
 ·intro w' _; go_simp; with_reducible rfl
 rotate_left
 ·simp only [Act.put, List.setIfInBounds_toArray, List.set_cons_zero, List.set_cons_succ, i64_w, i32_w]; rfl
 refine pu_ 20 36 D ?_
 refine pu_ 23 39 D ?_
 refine on_ 24 (some 4) D (fun K hK => ?_)
 refine box_step ?hg (N := 4) ?hd (cs := #[.int .i64 0, .int .i64 0, .int .i64 0, .int .i64 0, .bool false, .string (⟨#[]⟩ : ByteArray)]) (t := 44) ?hr ?_; (case hd => rfl); (case hg => rfl); (case hr => exact gs_)
 intro aN hg ba hbox hb
 have ar := am hbox
 have aZ := gA hg HB
 replace HB := De1 HB aM hb
 have aK := nA hg ak
 have aL := mA hg ak
 replace ak := bA ak hb
 clear hb hbox hg
 refine hK.out _ _ trivial (fun B => nm_ ?_)
 clear hK K
 refine on_ 25 none D (fun K hK => ?_)
 have eq : ba.cell? ⟨aN, 0, none⟩ = some (.int .i64 0) := bc ar 0
 have dL := blk_frozen ar.out 0
 obtain ⟨ee, dY⟩ := o2_ aK aL
 have er : ba.cell? ⟨aN, 1, none⟩ = some (.int .i64 0) := bc ar 1
 have dM := blk_frozen ar.out 1
 obtain ⟨ef, dZ⟩ := o2_ aK aL
 have et : ba.cell? ⟨aN, 2, none⟩ = some (.int .i64 0) := bc ar 2
 have dN := blk_frozen ar.out 2
 obtain ⟨eg, d0⟩ := o2_ aK aL
 have eu : ba.cell? ⟨aN, 3, none⟩ = some (.int .i64 0) := bc ar 3
 have dO := blk_frozen ar.out 3
 obtain ⟨eh, d1⟩ := o2_ aK aL
 have ev : ba.cell? ⟨aN, 4, none⟩ = some (.bool false) := bc ar 4
 have dP := blk_frozen ar.out 4
 obtain ⟨ei, d2⟩ := o2_ aK aL
 have ew : ba.cell? ⟨aN, 5, none⟩ = some (.string (⟨#[]⟩ : ByteArray)) := bc ar 5
 have dQ := blk_frozen ar.out 5
 obtain ⟨ej, d3⟩ := o2_ aK aL
 refine skip_ (w1 := ?_) (by rfl) rfl ?_ ?_
 rotate_left
 ·go_simp; rfl
 refine hK.out _ _ trivial (fun B => ?_)
 clear hK K
 refine done_ (done_of D.out gk_) ?_
 obtain ⟨d5, d7⟩ := o2_ aL aK
 obtain ⟨cv, cw, cx, cy, cz, cA, cH, cI, cJ, cK, cL, cM⟩ := cf6 ar
 try go_wp2_with (first | ((with_reducible refine gate_callee (f := 33) rfl ?_); refine gM (some 42) Try.func33 (spec_DgramText.calls bv (wrap64 (bt z 0)) (wrap64 (bt z 1)) (wrap64 ((wrap64 (256 * (wrap64 (bt z 2)))) + (wrap64 (bt z 3)))) (wrap64 (8 * (wrap64 (bt z 4)))) ((bt z 5) == 1) (z.extract 8 z.size) bV false _ bz.out) ?_; rintro di hb; replace ak := am (blk_below (g := al) (o := .cells #[.int .i64 0, .int .i64 0, .int .i64 0, .int .i64 0, .bool false, .string (⟨#[]⟩ : ByteArray)] 44 (0, 0)) (Ap1 ak aK) hb); replace HB := De2 HB aM aZ hb; obtain ⟨bY, bZ, b0, b1, b2, b3, b4, b5, b6, b7, b8, b9⟩ := cf6 ak) | ((with_reducible refine gate_store (t := 44) (p := 2) rfl ?_); refine store_event (t := 44) (p := 2) (v := ?vo_w65) (w1 := ((((((di.setCell ⟨al, 0, none⟩ (.int .i64 0)).setCell ⟨al, 1, none⟩ (.int .i64 0)).setCell ⟨al, 2, none⟩ (.int .i64 0)).setCell ⟨al, 3, none⟩ (.int .i64 0)).setCell ⟨al, 4, none⟩ (.bool false)).setCell ⟨al, 5, none⟩ (.string (⟨#[]⟩ : ByteArray)))) ?hg ?ho ?hn ?hr ?_; (case ho => rfl); (case hg => rfl); (case hn => rfl); (case hr => exact gs_); intro cn hw; replace ak : Hc cn al #[.int .i64 0, .int .i64 0, .int .i64 0, .int .i64 0, .bool false, .string (⟨#[]⟩ : ByteArray)] 44 := ⟨wAp0 ak⟩; replace HB : Hb w cn := ⟨wAe2 HB aM aZ⟩; clear hw))
 refine bodyPost_ret (results_ct rfl _ _ al 44 #[.int .i64 0, .int .i64 0, .int .i64 0, .int .i64 0, .bool false, .string (⟨#[]⟩ : ByteArray)] (0, 0) _ rfl (Ab ak) Try.underlying44 rfl gk_) rfl ?_
 exact ⟨B5x6_, (Ae2 HB aM aZ)⟩
end
end Go.Proofs.Ytjaamflffmhicaa.QFnExactUnwrap
