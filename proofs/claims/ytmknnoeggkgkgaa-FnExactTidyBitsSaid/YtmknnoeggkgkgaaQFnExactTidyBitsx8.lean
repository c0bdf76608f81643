/- Functions that a law reaches, as functions of Lean, and the walks that show that the calls come to their answers: by hand. No condition. -/
import Derived.Test.YtmknnoeggkgkgaaQFnExactTidyBitsx0
import Derived.Test.YtmknnoeggkgkgaaQFnExactTidyBitsx1
import Derived.Test.YtmknnoeggkgkgaaQFnExactTidyBitsx2
import Derived.Test.YtmknnoeggkgkgaaQFnExactTidyBitsx3
import Derived.Test.YtmknnoeggkgkgaaQFnExactTidyBitsx4
import Derived.Test.YtmknnoeggkgkgaaQFnExactTidyBitsx5
import Derived.Test.YtmknnoeggkgkgaaQFnExactTidyBitsx6
import Derived.Test.YtmknnoeggkgkgaaQFnExactTidyBitsx7
import Derived.Test.YtmknnoeggkgkgaaSq
import Derived.Test.YtmknnoeggkgkgaaShort2
import Derived.Test.YtmknnoeggkgkgaaShort4
import Derived.Test.YtmknnoeggkgkgaaShort3
import Derived.Test.YtmknnoeggkgkgaaShort
import Derived.Test.YtmknnoeggkgkgaaShort5
namespace Go.Proofs.Ytmknnoeggkgkgaa.QFnExactTidyBits
open Go.RowKit Go.Proofs.YtmknnoeggkgkgaaW.PrintWords Go.Proofs.YtmknnoeggkgkgaaW.PrintLast Go.Proofs.YtmknnoeggkgkgaaW.PrintMore Go.Proofs.Ytmknnoeggkgkgaa.Short Go.Proofs.Ytmknnoeggkgkgaa.Sq
set_option linter.unusedVariables false
set_option linter.unusedSimpArgs false

/-! ### laws_FnExactTidyBits: the law, where it answers true: by hand -/
/-- What is told by blocks that are ok, told at W: it is told at W'. -/
def Same (ok : Nat → Prop) (W W' : World) : Prop := W.heap.size ≤ W'.heap.size ∧ ∀ k, ok k → k < W.heap.size → W'.heap[k]? = W.heap[k]?
theorem Same.refl (ok : Nat → Prop) (W : World) : Same ok W W := ⟨Nat.le_refl _, fun _ _ _ => rfl⟩
theorem Same.below {ok : Nat → Prop} {W W' W2 : World} (h : Same ok W W') (hb : Below W'.heap.size W' W2) : Same ok W W2 := ⟨Nat.le_trans h.1 hb.size, fun k hk hlt => (hb.block k (Nat.lt_of_lt_of_le hlt h.1)).trans (h.2 k hk hlt)⟩
theorem Same.kept {ok P : Nat → Prop} {W W' W2 : World} (h : Same ok W W') (hk : Kept W' W2 P) (hn : ∀ k, ok k → k < W.heap.size → ¬ P k) : Same ok W W2 := ⟨Nat.le_trans h.1 hk.1, fun k ho hlt => (hk.2 k (Nat.lt_of_lt_of_le hlt h.1) (hn k ho hlt)).trans (h.2 k ho hlt)⟩
/-- Blocks from a on, ahead of b. -/
def rng (a b : Nat) : Nat → Prop := fun k => a ≤ k ∧ k < b
theorem rng_S {e base : Nat} {ok : Nat → Prop} {W : World} {v : Value} {l : List S82} (h : Kd.S k82 e W base ok v l) : Kd.S k82 e W base (rng base W.heap.size) v l := Kd.S_mono (Kd.S_bound h) (fun _ hk => ⟨hk.2.1, hk.2.2.1⟩)
theorem rng_SQ {e base : Nat} {ok : Nat → Prop} {W : World} {v : Value} {l : List S82} (h : SQ k82 e W base ok v l) : SQ k82 e W base (rng base W.heap.size) v l := SQ_mono (SQ_bound h) (fun _ hk => ⟨hk.2.1, hk.2.2.1⟩)
/-- A row, told at an elder world, is read. -/
theorem SQ_now {e base : Nat} {ok : Nat → Prop} {W W' : World} {v : Value} {l : List S82} (h : SQ k82 e W base ok v l) (hs : Same ok W W') : SQ k82 e W' base ok v l := SQ_step h hs.2
theorem F_now82 {ok : Nat → Prop} {W W' : World} {A : Option Addr} {l : List S82} (h : Kd.F k82 W ok A l.length l) (hs : Same ok W W') : Kd.C k82 W' A l.length l := h W' hs.2
/-- heldBitsS over a row told by its form. -/
theorem laws_heldBitsS.calls2 (k : Nat) {e base : Nat} {ok : Nat → Prop} (A : Option Addr) (n c : Nat) (l0 : List (S82)) (a1 : Int) (r : Int) (w : World) (hq : SQ k82 e w base ok (.slice A n c) l0) (h : laws_heldBitsS.f k l0 a1 = some r) :
  Calls Try.prog 46 #[.slice A n c, .int .i64 a1] w fun e w' => e = .returned (.int .i64 r) ∧ Below w.heap.size w w' := by
  obtain ⟨rfl, h2, h3⟩ := SQ_reads' hq
  exact laws_heldBitsS.calls k _ _ l0 a1 r w h3 h2 h
def laws_FnExactTidyBits.f (k : Nat) (l0 : List S133) (a1 : Int) : Option Bool :=
  (laws_szBitsS.f k l0 1048576).bind fun left => if left < 0 then some true else (laws_toBitsS.f k l0).bind fun t => (spec_TidyBits.f k t a1).bind fun w0 => (impl_TidyBits.f k t a1).bind fun g0 => (laws_eqBitsS.f k g0 w0).bind fun b1 => (laws_eqBitsS.f k t t).bind fun b2 => (laws_markBitsS.f k t 1).bind fun x => (laws_markBitsS.f k g0 1).bind fun m => (laws_heldBitsS.f k m.2 1).bind fun q => if b1 = true ∧ b2 = true ∧ 0 ≤ x.1 ∧ 0 ≤ m.1 ∧ q = m.1 then some true else none
set_option maxHeartbeats 8000000 in
set_option maxRecDepth 100000 in
theorem laws_FnExactTidyBits.calls (k : Nat) (A0 : Option Addr) (c0 : Nat) (l0 : List (S133)) (a1 : Int) (r : Bool) (w : World) (hr0 : Kd.C k133 w A0 l0.length l0) (hc0 : l0.length ≤ c0) (h : laws_FnExactTidyBits.f k l0 a1 = some r) (hr_ : Aside0 (r = true)) :
  Calls Try.prog 7 #[.slice A0 l0.length c0, .int .i64 a1] w fun e w' => e = .returned (.bool r) ∧ Below w.heap.size w w' := by
  have HR0 := Aside0.mk hr0
  have HC0 := Aside0.mk hc0
  have HB := Aside0.mk (Below.refl w.heap.size w)
  obtain rfl := hr_.out
  clear hr0 hc0 hr_
  unfold laws_FnExactTidyBits.f at h
  obtain ⟨left, AL, H⟩ := bsi h
  clear h
  by_cases hl : left < 0
  · have c1 := decide_eq_true hl
    clear H hl
    go_enter Try.func7, Try.ntmps7
    go_wp2_with ((with_reducible refine gate_callee (f := 40) rfl ?_); refine goesL_ (some 15) rfl rfl Try.func40 (by kernel_rfl) rfl #[.slice A0 l0.length c0, .int .i64 1048576] rfl gm_ ?_; (with_reducible refine (laws_szBitsS.calls k _ _ l0 1048576 left _ ?side1 ?side2 AL.out).mono ?_); (case side1 => exact HR0.out); (case side2 => exact HC0.out); rintro e w1 ⟨rfl, hb⟩; refine ⟨_, rfl, ?_⟩; replace HB := Aside0.mk (below_step HB.out hb); clear hb)
    go_ret
    exact ⟨rfl, HB.out⟩
  rw [if_neg hl] at H
  have c1 := decide_eq_false hl
  clear hl
  obtain ⟨t, AT, H⟩ := bsi H
  obtain ⟨w0, AW, H⟩ := bsi H
  obtain ⟨g0, AG, H⟩ := bsi H
  obtain ⟨b1, AE, H⟩ := bsi H
  obtain ⟨b2, AF, H⟩ := bsi H
  obtain ⟨⟨x1, x2⟩, AX, H⟩ := bsi H
  obtain ⟨⟨m1, m2⟩, AM, H⟩ := bsi H
  obtain ⟨q, AQ, H⟩ := bsi H
  by_cases hc : b1 = true ∧ b2 = true ∧ 0 ≤ x1 ∧ 0 ≤ m1 ∧ q = m1
  rotate_left
  · exact absurd ((if_neg hc).symm.trans H) (by simp)
  obtain ⟨rfl, rfl, hx, hm, rfl⟩ := hc
  have c2 : decide (x1 < 0) = false := decide_eq_false (by omega)
  have c3 : decide (q < 0) = false := decide_eq_false (by omega)
  have c4 : (q != q) = false := by simp
  clear H hx hm
  go_enter Try.func7, Try.ntmps7
  go_wp2_with (first | ((with_reducible refine gate_callee (f := 40) rfl ?_); refine goesL_ (some 15) rfl rfl Try.func40 (by kernel_rfl) rfl #[.slice A0 l0.length c0, .int .i64 1048576] rfl gm_ ?_; (with_reducible refine (laws_szBitsS.calls k _ _ l0 1048576 left _ ?side1 ?side2 AL.out).mono ?_); (case side1 => exact HR0.out); (case side2 => exact HC0.out); rintro e w1 ⟨rfl, hb⟩; refine ⟨_, rfl, ?_⟩; replace HB := Aside0.mk (below_step HB.out hb); clear hb) | ((with_reducible refine gate_callee (f := 42) rfl ?_); refine goesL_ (some 19) rfl rfl Try.func42 (by kernel_rfl) rfl #[.slice A0 l0.length c0] rfl gm_ ?_; (with_reducible refine (laws_toBitsS.calls k _ _ l0 t _ ?side1 ?side2 AT.out).mono ?_); (case side1 => exact (Kd.C_below HR0.out HB.out)); (case side2 => exact HC0.out); rintro e w2 ⟨v2, rfl, ho, hb⟩; refine ⟨_, rfl, ?_⟩; obtain ⟨A2, n2, rfl⟩ := Kd.S_slice ho; have T1 := Aside0.mk (rng_S ho); replace HB := Aside0.mk (below_step HB.out hb); clear hb ho) | ((with_reducible refine gate_callee (f := 41) rfl ?_); refine goesL_ (some 21) rfl rfl Try.func41 (by kernel_rfl) rfl #[.slice A2 t.length n2, .int .i64 a1] rfl gm_ ?_; (with_reducible refine (spec_TidyBits.calls k (rng w1.heap.size w2.heap.size) _ _ t a1 w0 _ ?side1 AW.out).mono ?_); (case side1 => exact Kd.N_V (base' := 0) (Kd.S_N T1.out)); rintro e w3 ⟨v3, rfl, ho, hb⟩; refine ⟨_, rfl, ?_⟩; obtain ⟨A3, n3, hv3, hn3, hF⟩ := Kd.N_V (base' := 0) (Kd.N_bound ho); subst hv3; have WF := Aside0.mk hF; have WN := Aside0.mk hn3; have SW := Aside0.mk (Same.refl (fun k_ => (rng w1.heap.size w2.heap.size k_ ∨ w2.heap.size ≤ k_) ∧ k_ < w3.heap.size) w3); replace HB := Aside0.mk (below_step HB.out hb); clear hb ho hF hn3 T1) | ((with_reducible refine gate_callee (f := 42) rfl ?_); refine goesL_ (some 23) rfl rfl Try.func42 (by kernel_rfl) rfl #[.slice A0 l0.length c0] rfl gm_ ?_; (with_reducible refine (laws_toBitsS.calls k _ _ l0 t _ ?side1 ?side2 AT.out).mono ?_); (case side1 => exact (Kd.C_below HR0.out HB.out)); (case side2 => exact HC0.out); rintro e w4 ⟨v4, rfl, ho, hb⟩; refine ⟨_, rfl, ?_⟩; obtain ⟨A4, n4, rfl⟩ := Kd.S_slice ho; have X := Aside0.mk (rng_S ho); have HS34 := Aside0.mk hb.size; have HS3 := Aside0.mk (below_size HB.out); replace SW := Aside0.mk (SW.out.below hb); replace HB := Aside0.mk (below_step HB.out hb); have SX := Aside0.mk (Same.refl (rng w3.heap.size w4.heap.size) w4); clear hb ho) | ((with_reducible refine gate_callee (f := 43) rfl ?_); refine goesL_ (some 26) rfl rfl Try.func43 (by kernel_rfl) rfl #[.slice A4 t.length n4, .int .i64 a1] rfl gm_ ?_; (with_reducible refine (impl_TidyBits.calls k _ _ t a1 g0 _ ?side1 ?side2 AG.out).mono ?_); (case side1 => exact (SQ_reads' (SQ_now (SQ_of X.out) SX.out)).2.2); (case side2 => exact (SQ_reads' (SQ_now (SQ_of X.out) SX.out)).2.1); rintro e w5 ⟨v5, rfl, ho, hb⟩; refine ⟨_, rfl, ?_⟩; obtain ⟨A5, n5, rfl⟩ := Kd.S_slice ho; have G := Aside0.mk (rng_S ho); have HS4 := Aside0.mk (below_size HB.out); replace SW := Aside0.mk (SW.out.below hb); replace SX := Aside0.mk (SX.out.below hb); replace HB := Aside0.mk (below_step HB.out hb); have SG := Aside0.mk (Same.refl (rng w4.heap.size w5.heap.size) w5); clear hb ho) | ((with_reducible refine gate_callee (f := 44) rfl ?_); refine goesL_ (some 29) rfl rfl Try.func44 (by kernel_rfl) rfl #[.slice A5 g0.length n5, .slice A3 w0.length n3] rfl gm_ ?_; (with_reducible refine (laws_eqBitsS.calls k _ _ g0 _ _ w0 true _ ?side1 ?side2 ?side3 ?side4 AE.out).mono ?_); (case side1 => exact (SQ_reads' (SQ_now (SQ_of G.out) SG.out)).2.2); (case side2 => exact (SQ_reads' (SQ_now (SQ_of G.out) SG.out)).2.1); (case side3 => exact (F_now82 WF.out SW.out)); (case side4 => exact WN.out); rintro e w6 ⟨rfl, hb⟩; refine ⟨_, rfl, ?_⟩; replace SW := Aside0.mk (SW.out.below hb); replace SX := Aside0.mk (SX.out.below hb); replace SG := Aside0.mk (SG.out.below hb); replace HB := Aside0.mk (below_step HB.out hb); clear hb) | ((with_reducible refine gate_callee (f := 42) rfl ?_); refine goesL_ (some 33) rfl rfl Try.func42 (by kernel_rfl) rfl #[.slice A0 l0.length c0] rfl gm_ ?_; (with_reducible refine (laws_toBitsS.calls k _ _ l0 t _ ?side1 ?side2 AT.out).mono ?_); (case side1 => exact (Kd.C_below HR0.out HB.out)); (case side2 => exact HC0.out); rintro e w7 ⟨v7, rfl, ho, hb⟩; refine ⟨_, rfl, ?_⟩; obtain ⟨A7, n7, rfl⟩ := Kd.S_slice ho; have Y := Aside0.mk ho; replace SW := Aside0.mk (SW.out.below hb); replace SX := Aside0.mk (SX.out.below hb); replace SG := Aside0.mk (SG.out.below hb); replace HB := Aside0.mk (below_step HB.out hb); clear hb ho) | ((with_reducible refine gate_callee (f := 44) rfl ?_); refine goesL_ (some 34) rfl rfl Try.func44 (by kernel_rfl) rfl #[.slice A4 t.length n4, .slice A7 t.length n7] rfl gm_ ?_; (with_reducible refine (laws_eqBitsS.calls k _ _ t _ _ t true _ ?side1 ?side2 ?side3 ?side4 AF.out).mono ?_); (case side1 => exact (SQ_reads' (SQ_now (SQ_of X.out) SX.out)).2.2); (case side2 => exact (SQ_reads' (SQ_now (SQ_of X.out) SX.out)).2.1); (case side3 => exact (Kd.S_reads' Y.out).2.2); (case side4 => exact (Kd.S_reads' Y.out).2.1); rintro e w8 ⟨rfl, hb⟩; refine ⟨_, rfl, ?_⟩; replace SW := Aside0.mk (SW.out.below hb); replace SX := Aside0.mk (SX.out.below hb); replace SG := Aside0.mk (SG.out.below hb); replace HB := Aside0.mk (below_step HB.out hb); clear hb Y) | ((with_reducible refine gate_callee (f := 45) rfl ?_); refine goesL_ (some 38) rfl rfl Try.func45 (by kernel_rfl) rfl #[.slice A4 t.length n4, .int .i64 1] rfl gm_ ?_; (with_reducible refine (laws_markBitsS.calls k (rng w3.heap.size w4.heap.size) _ t 1 x1 x2 w _ HB.out ?side1 AX.out).mono ?_); (case side1 => exact SQ_lower (SQ_now (SQ_of X.out) SX.out) HS3.out); rintro e w9 ⟨rfl, hx_, hb, hk⟩; refine ⟨_, rfl, ?_⟩; replace SW := Aside0.mk (SW.out.kept hk (fun k_ h1 h2 h3 => by have h4 := h3.1; omega)); replace SG := Aside0.mk (SG.out.kept hk (fun k_ h1 h2 h3 => by have h4 := h3.2; have h5 := h1.1; omega)); replace HB := Aside0.mk hb; clear hb hk hx_ X SX) | ((with_reducible refine gate_callee (f := 45) rfl ?_); refine goesL_ (some 49) rfl rfl Try.func45 (by kernel_rfl) rfl #[.slice A5 g0.length n5, .int .i64 1] rfl gm_ ?_; (with_reducible refine (laws_markBitsS.calls k (rng w4.heap.size w5.heap.size) _ g0 1 q m2 w _ HB.out ?side1 AM.out).mono ?_); (case side1 => exact SQ_lower (SQ_now (SQ_of G.out) SG.out) HS4.out); rintro e w11 ⟨rfl, hx_, hb, hk⟩; refine ⟨_, rfl, ?_⟩; replace SW := Aside0.mk (SW.out.kept hk (fun k_ h1 h2 h3 => by have h4 := h3.1; have h5 := h1.2; have h6 := HS34.out; omega)); obtain ⟨A11, n11, hv11⟩ := SQ_slice hx_; have M := Aside0.mk hx_; have HV := Aside0.mk hv11; have SM := Aside0.mk (Same.refl (rng w4.heap.size w5.heap.size) w11); replace HB := Aside0.mk hb; clear hb hk hx_ hv11 G SG) | ((with_reducible refine gate_callee (f := 46) rfl ?_); refine goesL_ (some 52) rfl rfl Try.func46 (by kernel_rfl) rfl #[.slice A5 g0.length n5, .int .i64 1] rfl gm_ ?_; (with_reducible refine (laws_heldBitsS.calls2 k _ _ _ m2 1 q _ (SQ_now M.out SM.out) AQ.out).mono ?_); rintro e w12 ⟨rfl, hb⟩; refine ⟨_, rfl, ?_⟩; replace SW := Aside0.mk (SW.out.below hb); replace SM := Aside0.mk (SM.out.below hb); replace HB := Aside0.mk (below_step HB.out hb); clear hb) | ((with_reducible refine gate_callee (f := 42) rfl ?_); refine goesL_ (some 59) rfl rfl Try.func42 (by kernel_rfl) rfl #[.slice A0 l0.length c0] rfl gm_ ?_; (with_reducible refine (laws_toBitsS.calls k _ _ l0 t _ ?side1 ?side2 AT.out).mono ?_); (case side1 => exact (Kd.C_below HR0.out HB.out)); (case side2 => exact HC0.out); rintro e w13 ⟨v13, rfl, ho, hb⟩; refine ⟨_, rfl, ?_⟩; obtain ⟨A13, n13, rfl⟩ := Kd.S_slice ho; have Y := Aside0.mk ho; replace SW := Aside0.mk (SW.out.below hb); replace SM := Aside0.mk (SM.out.below hb); replace HB := Aside0.mk (below_step HB.out hb); clear hb ho) | ((with_reducible refine gate_callee (f := 43) rfl ?_); refine goesL_ (some 61) rfl rfl Try.func43 (by kernel_rfl) rfl #[.slice A13 t.length n13, .int .i64 a1] rfl gm_ ?_; (with_reducible refine (impl_TidyBits.calls k _ _ t a1 g0 _ ?side1 ?side2 AG.out).mono ?_); (case side1 => exact (Kd.S_reads' Y.out).2.2); (case side2 => exact (Kd.S_reads' Y.out).2.1); rintro e w14 ⟨v14, rfl, ho, hb⟩; refine ⟨_, rfl, ?_⟩; obtain ⟨A14, n14, rfl⟩ := Kd.S_slice ho; have Z := Aside0.mk ho; replace SW := Aside0.mk (SW.out.below hb); replace SM := Aside0.mk (SM.out.below hb); replace HB := Aside0.mk (below_step HB.out hb); clear hb ho Y) | ((with_reducible refine gate_callee (f := 44) rfl ?_); refine goesL_ (some 64) rfl rfl Try.func44 (by kernel_rfl) rfl #[.slice A14 g0.length n14, .slice A3 w0.length n3] rfl gm_ ?_; (with_reducible refine (laws_eqBitsS.calls k _ _ g0 _ _ w0 true _ ?side1 ?side2 ?side3 ?side4 AE.out).mono ?_); (case side1 => exact (Kd.S_reads' Z.out).2.2); (case side2 => exact (Kd.S_reads' Z.out).2.1); (case side3 => exact (F_now82 WF.out SW.out)); (case side4 => exact WN.out); rintro e w15 ⟨rfl, hb⟩; refine ⟨_, rfl, ?_⟩; replace SM := Aside0.mk (SM.out.below hb); replace HB := Aside0.mk (below_step HB.out hb); clear hb) | ((with_reducible refine gate_callee (f := 46) rfl ?_); refine goesL_ (some 68) rfl rfl Try.func46 (by kernel_rfl) rfl #[.slice A5 g0.length n5, .int .i64 1] rfl gm_ ?_; (with_reducible refine (laws_heldBitsS.calls2 k _ _ _ m2 1 q _ (SQ_now M.out SM.out) AQ.out).mono ?_); rintro e w16 ⟨rfl, hb⟩; refine ⟨_, rfl, ?_⟩; replace SM := Aside0.mk (SM.out.below hb); replace HB := Aside0.mk (below_step HB.out hb); clear hb) | (go_at_call 44; (with_reducible refine (laws_eqBitsS.calls k _ _ g0 _ _ w0 true _ ?side1 ?side2 ?side3 ?side4 AE.out).mono ?_); (case side1 => exact (SQ_reads' (SQ_now (SQ_of G.out) SG.out)).2.2); (case side2 => exact (SQ_reads' (SQ_now (SQ_of G.out) SG.out)).2.1); (case side3 => exact (F_now82 WF.out SW.out)); (case side4 => exact WN.out); rintro e w10 ⟨rfl, hb⟩; replace SW := Aside0.mk (SW.out.below hb); replace SG := Aside0.mk (SG.out.below hb); replace HB := Aside0.mk (below_step HB.out hb); clear hb))
  go_ret
  exact ⟨rfl, HB.out⟩

end Go.Proofs.Ytmknnoeggkgkgaa.QFnExactTidyBits
