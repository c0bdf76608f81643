/- Functions that a law reaches, as functions of Lean, and the walks that show that the calls come to their answers: by hand. No condition. -/
import Derived.Test.YtmknnoeggkgkgaaQFnExactJoinBitsx0
import Derived.Test.YtmknnoeggkgkgaaQFnExactJoinBitsx1
import Derived.Test.YtmknnoeggkgkgaaQFnExactJoinBitsx2
import Derived.Test.YtmknnoeggkgkgaaQFnExactJoinBitsx3
import Derived.Test.YtmknnoeggkgkgaaQFnExactJoinBitsx4
import Derived.Test.YtmknnoeggkgkgaaQFnExactJoinBitsx5
import Derived.Test.YtmknnoeggkgkgaaQFnExactJoinBitsx6
import Derived.Test.YtmknnoeggkgkgaaQFnExactJoinBitsx7
import Derived.Test.YtmknnoeggkgkgaaQFnExactJoinBitsx8
import Derived.Test.YtmknnoeggkgkgaaQFnExactJoinBitsx9
import Derived.Test.YtmknnoeggkgkgaaQFnExactJoinBitsx10
import Derived.Test.YtmknnoeggkgkgaaSq
import Derived.Test.YtmknnoeggkgkgaaSq2
import Derived.Test.YtmknnoeggkgkgaaVFnExactJoinBitsShort2
import Derived.Test.YtmknnoeggkgkgaaVFnExactJoinBitshort4
import Derived.Test.YtmknnoeggkgkgaaVFnExactJoinBitshort3
import Derived.Test.YtmknnoeggkgkgaaVFnExactJoinBitsShort
import Derived.Test.YtmknnoeggkgkgaaVFnExactJoinBitshort5
namespace Go.Proofs.Ytmknnoeggkgkgaa.QFnExactJoinBits
open Go.RowKit Go.Proofs.YtmknnoeggkgkgaaW.PrintWords Go.Proofs.YtmknnoeggkgkgaaW.PrintLast Go.Proofs.YtmknnoeggkgkgaaW.PrintMore Go.Proofs.Ytmknnoeggkgkgaa.Short Go.Proofs.Ytmknnoeggkgkgaa.Sq
set_option linter.unusedVariables false
set_option linter.unusedSimpArgs false

/-! ### laws_FnExactJoinBits: the law, where it answers true: by hand -/
/-- What is told by blocks that are ok, told at W: it is told at W'. -/
def Same (ok : Nat → Prop) (W W' : World) : Prop := W.heap.size ≤ W'.heap.size ∧ ∀ k, ok k → k < W.heap.size → W'.heap[k]? = W.heap[k]?
theorem Same.refl (ok : Nat → Prop) (W : World) : Same ok W W := ⟨Nat.le_refl _, fun _ _ _ => rfl⟩
theorem Same.below {ok : Nat → Prop} {W W' W2 : World} (h : Same ok W W') (hb : Below W'.heap.size W' W2) : Same ok W W2 := ⟨Nat.le_trans h.1 hb.size, fun k hk hlt => (hb.block k (Nat.lt_of_lt_of_le hlt h.1)).trans (h.2 k hk hlt)⟩
theorem Same.kept {ok P : Nat → Prop} {W W' W2 : World} (h : Same ok W W') (hk : Kept W' W2 P) (hn : ∀ k, ok k → k < W.heap.size → ¬ P k) : Same ok W W2 := ⟨Nat.le_trans h.1 hk.1, fun k ho hlt => (hk.2 k (Nat.lt_of_lt_of_le hlt h.1) (hn k ho hlt)).trans (h.2 k ho hlt)⟩
/-- Blocks from a on, ahead of b. -/
def rng (a b : Nat) : Nat → Prop := fun k => a ≤ k ∧ k < b
theorem rng_S {e base : Nat} {ok : Nat → Prop} {W : World} {v : Value} {l : List S82} (h : Kd.S k82 e W base ok v l) : Kd.S k82 e W base (rng base W.heap.size) v l := Kd.S_mono (Kd.S_bound h) (fun _ hk => ⟨hk.2.1, hk.2.2.1⟩)
theorem rng_SQ {e base : Nat} {ok : Nat → Prop} {W : World} {v : Value} {l : List S82} (h : SQ k82 e W base ok v l) : SQ k82 e W base (rng base W.heap.size) v l := SQ_mono (SQ_bound h) (fun _ hk => ⟨hk.2.1, hk.2.2.1⟩)
/-- A row, told at an elder world, is read. -/
theorem SQ_now {e base : Nat} {ok : Nat → Prop} {W W' : World} {v : Value} {l : List S82} (h : SQ k82 e W base ok v l) (hs : Same ok W W') : SQ k82 e W' base ok v l := SQ_step h hs.2
theorem F_now82 {ok : Nat → Prop} {W W' : World} {A : Option Addr} {l : List S82} (h : Kd.F k82 W ok A l.length l) (hs : Same ok W W') : Kd.C k82 W' A l.length l := h W' hs.2
/-- heldBitsS over a row told by its form. -/
theorem laws_heldBitsS.calls2 (k : Nat) {e base : Nat} {ok : Nat → Prop} (A : Option Addr) (n c : Nat) (l0 : List (S82)) (a1 : Int) (r : Int) (w : World) (hq : SQ k82 e w base ok (.slice A n c) l0) (h : laws_heldBitsS.f k l0 a1 = some r) :
  Calls Try.prog 46 #[.slice A n c, .int .i64 a1] w fun e w' => e = .returned (.int .i64 r) ∧ Below w.heap.size w w' := by
  obtain ⟨rfl, h2, h3⟩ := SQ_reads' hq
  exact laws_heldBitsS.calls k _ _ l0 a1 r w h3 h2 h
section
variable {W : World} {g : Nat} {v0 v1 v2 v3 v4 v5 : Value}
theorem Same.drew {ok : Nat → Prop} {W0 : World} (h : Same ok W0 W) : Same ok W0 W.drew := ⟨h.1, h.2⟩
theorem Same.set {ok : Nat → Prop} {W0 : World} {i : Nat} {v : Value} (h : Same ok W0 W) (hn : ∀ k, ok k → k < W0.heap.size → k ≠ g) : Same ok W0 (W.setCell ⟨g, i, none⟩ v) :=
  ⟨zs h.1, fun k hk hlt => (Below.heap_setCell W _ _ _ (hn k hk hlt)).trans (h.2 k hk hlt)⟩
theorem six_same {ok : Nat → Prop} {W0 : World} (h : Same ok W0 W) (hn : ∀ k, ok k → k < W0.heap.size → k ≠ g) : Same ok W0 ((((((W.setCell ⟨g, 0, none⟩ v0).setCell ⟨g, 1, none⟩ v1).setCell ⟨g, 2, none⟩ v2).setCell ⟨g, 3, none⟩ v3).setCell ⟨g, 4, none⟩ v4).setCell ⟨g, 5, none⟩ v5) := ((((((h.set hn).set hn).set hn).set hn).set hn).set hn)
theorem six_far {b t : Nat} {cs : Array Value} (h : W.heap[b]? = some (.cells cs t (0, 0))) (hn : b ≠ g) : (((((((W.setCell ⟨g, 0, none⟩ v0).setCell ⟨g, 1, none⟩ v1).setCell ⟨g, 2, none⟩ v2).setCell ⟨g, 3, none⟩ v3).setCell ⟨g, 4, none⟩ v4).setCell ⟨g, 5, none⟩ v5)).heap[b]? = some (.cells cs t (0, 0)) := bf hn (bf hn (bf hn (bf hn (bf hn (bf hn h)))))
theorem six_own {t : Nat} {c0 c1 c2 c3 c4 c5 : Value} (h : W.heap[g]? = some (.cells #[c0, c1, c2, c3, c4, c5] t (0, 0))) : (((((((W.setCell ⟨g, 0, none⟩ v0).setCell ⟨g, 1, none⟩ v1).setCell ⟨g, 2, none⟩ v2).setCell ⟨g, 3, none⟩ v3).setCell ⟨g, 4, none⟩ v4).setCell ⟨g, 5, none⟩ v5)).heap[g]? = some (.cells #[v0, v1, v2, v3, v4, v5] t (0, 0)) := blk_put (blk_put (blk_put (blk_put (blk_put (blk_put h 0 _ rfl) 1 _ rfl) 2 _ rfl) 3 _ rfl) 4 _ rfl) 5 _ rfl
theorem six_below {w : World} (h : Below w.heap.size w W) (hg : w.heap.size ≤ g) : Below w.heap.size w ((((((W.setCell ⟨g, 0, none⟩ v0).setCell ⟨g, 1, none⟩ v1).setCell ⟨g, 2, none⟩ v2).setCell ⟨g, 3, none⟩ v3).setCell ⟨g, 4, none⟩ v4).setCell ⟨g, 5, none⟩ v5) := below_set (below_set (below_set (below_set (below_set (below_set h hg) hg) hg) hg) hg) hg
theorem blk_kept {P : Nat → Prop} {W2 : World} {b : Nat} {o : Obj} (h : W.heap[b]? = some o) (hk : Kept W W2 P) (hn : ¬ P b) : W2.heap[b]? = some o := (hk.2 b (blk_lt h) hn).trans h
end
theorem Same.ofS {e base : Nat} {ok : Nat → Prop} {W : World} {v : Value} {l : List S82} (_ : Kd.S k82 e W base ok v l) : Same ok W W := Same.refl _ _
theorem Same.ofQ {e base : Nat} {ok : Nat → Prop} {W : World} {v : Value} {l : List S82} (_ : SQ k82 e W base ok v l) : Same ok W W := Same.refl _ _
theorem jr_ {p : Prop} (h : p := by first | (go_simp; done) | (go_simp; rfl)) : p := h
theorem jk_ {p : Prop} (h : p := by kernel_rfl) : p := h
theorem jp_ {p : Prop} (h : p := by simp only [putAll, Act.put, List.setIfInBounds_toArray, List.set_cons_zero, List.set_cons_succ]) : p := h
theorem jz_ {p : Prop} (h : p := by repeat (first | (with_reducible first | exact HZ.out | apply below_alloc | apply pw_below_drewN | apply below_drew1) | exact HZ.out)) : p := h
theorem jb_ {p : Prop} (h : p := by repeat (first | (with_reducible first | exact HB.out | apply below_alloc | apply pw_below_drewN | apply below_drew1) | exact HB.out)) : p := h
theorem jt_ {p : Prop} (h : p := by repeat (first | exact TC.out | (with_reducible refine Kd.C_alloc ?_ _) | (with_reducible refine Kd.C_drewN ?_ _) | (with_reducible refine Kd.C_drew ?_))) : p := h
def laws_FnExactJoinBits.T : Bool × List (List Nat × List Nat) := (true, [([], []), ([0], [0]), ([], []), ([2, 1], [2]), ([], []), ([1, 3, 4, 3], [1, 3, 4]), ([5], [5]), ([6], [6]), ([6], [6]), ([6], [6]), ([], []), ([7, 5, 0, 1, 2, 3, 4, 5, 6, 7, 10], [7]), ([10, 8, 11, 0, 1, 2, 3, 4, 5, 6, 7, 8, 10, 11], [8, 10]), ([9, 12, 0, 1, 2, 3, 4, 5, 6, 7, 8, 9, 10, 11, 12], [9])])
def laws_FnExactJoinBits.B : List Nat := [0, 1, 0, 7, 0, 31, 63, 127, 127, 127, 0, 1279, 3583, 8191]
theorem laws_FnExactJoinBits.tab8 : rtab .any (opsOf Try.f9 8) = laws_FnExactJoinBits.T := by kernel_rfl
theorem laws_FnExactJoinBits.tab27 : rtab .any (opsOf Try.f9 27) = laws_FnExactJoinBits.T := by kernel_rfl
theorem laws_FnExactJoinBits.bits : waitsOk laws_FnExactJoinBits.T.2 laws_FnExactJoinBits.B = true := by kernel_rfl
def laws_FnExactJoinBits.f (k : Nat) (l0 : List S133) (a1_0 : Int) (a1_1 : Int) (a1_2 : Int) (a1_3 : Int) (a1_4 : Bool) (a1_5 : ByteArray) (a2 : Int) : Option Bool :=
  (laws_szBitsS.f k l0 1048576).bind fun left => if left < 0 then some true else (laws_szDgram.f a1_0 a1_1 a1_2 a1_3 a1_4 a1_5 left).bind fun left2 => if left2 < 0 then some true else (laws_toBitsS.f k l0).bind fun t => (laws_toDgram.f a1_0 a1_1 a1_2 a1_3 a1_4 a1_5).bind fun d => (spec_JoinBits.f k t d.1 d.2.1 d.2.2.1 d.2.2.2.1 d.2.2.2.2.1 d.2.2.2.2.2 a2).bind fun s => (impl_JoinBits.f k t d.1 d.2.1 d.2.2.1 d.2.2.2.1 d.2.2.2.2.1 d.2.2.2.2.2 a2).bind fun g => (laws_eqBitsS.f k g.1 s.1).bind fun b1 => (laws_eqBitsS.f k t t).bind fun b2 => (laws_eqDgram.f g.2.1 g.2.2.1 g.2.2.2.1 g.2.2.2.2.1 g.2.2.2.2.2.1 g.2.2.2.2.2.2.1 s.2.1 s.2.2.1 s.2.2.2.1 s.2.2.2.2.1 s.2.2.2.2.2.1 s.2.2.2.2.2.2.1).bind fun b3 => (laws_markBitsS.f k t 1).bind fun x => (laws_markBitsS.f k g.1 1).bind fun m => (laws_heldBitsS.f k m.2 1).bind fun q => if b1 = true ∧ b2 = true ∧ b3 = true ∧ g.2.2.2.2.2.2.2 = s.2.2.2.2.2.2.2 ∧ 0 ≤ x.1 ∧ 0 ≤ m.1 ∧ q = m.1 then some true else none
set_option maxHeartbeats 8000000 in
set_option maxRecDepth 100000 in
theorem laws_FnExactJoinBits.calls (k : Nat) (A0 : Option Addr) (c0 : Nat) (l0 : List (S133)) (a1_0 : Int) (a1_1 : Int) (a1_2 : Int) (a1_3 : Int) (a1_4 : Bool) (a1_5 : ByteArray) (a2 : Int) (r : Bool) (w : World) (hr0 : Kd.C k133 w A0 l0.length l0) (hc0 : l0.length ≤ c0) (h : laws_FnExactJoinBits.f k l0 a1_0 a1_1 a1_2 a1_3 a1_4 a1_5 a2 = some r) (hr_ : Aside0 (r = true)) :
  Calls Try.prog 9 #[.slice A0 l0.length c0, .agg #[.int .i64 a1_0, .int .i64 a1_1, .int .i64 a1_2, .int .i64 a1_3, .bool a1_4, .string a1_5], .int .i64 a2] w fun e w' => e = .returned (.bool r) ∧ Below w.heap.size w w' := by
 have hu83 := Try.underlying83
 have hu62 := Try.underlying62
 have HR0 := Aside0.mk hr0
 have HC0 := Aside0.mk hc0
 have HB := Aside0.mk (Below.refl w.heap.size w)
 obtain rfl := hr_.out
 clear hr0 hc0 hr_
 unfold laws_FnExactJoinBits.f at h
 obtain ⟨left, AL, H⟩ := bsi h
 clear h
 by_cases hl : left < 0
 · have c1 := decide_eq_true hl
   clear H hl
   go_enter Try.func9, Try.ntmps9
   go_wp2_with (first | ((with_reducible refine gate_dst (N := 4) rfl ?_); refine box_event ?hg (N := 4) ?hd (cs := #[.int .i64 a1_0, .int .i64 a1_1, .int .i64 a1_2, .int .i64 a1_3, .bool a1_4, .string a1_5]) (t := 83) ?hr ?_; (case hd => rfl); (case hg => rfl); (case hr => exact jr_); intro gb0 hg w1 hbox hb; have BK0 := Aside0.mk hbox; have GE0 := Aside0.mk (bs hg (below_size HB.out)); replace HB := Aside0.mk (below_step jb_ hb); clear hb hbox hg) | ((with_reducible refine gate_callee (f := 40) rfl ?_); refine goesL_ (some 23) rfl rfl Try.func40 (by kernel_rfl) rfl #[.slice A0 l0.length c0, .int .i64 1048576] rfl gm_ ?_; (with_reducible refine (laws_szBitsS.calls k _ _ l0 1048576 left _ ?side1 ?side2 AL.out).mono ?_); (case side1 => exact (Kd.C_below HR0.out HB.out)); (case side2 => exact HC0.out); rintro e w2 ⟨rfl, hb⟩; refine ⟨_, rfl, ?_⟩; replace BK0 := Aside0.mk (bb BK0.out hb); replace HB := Aside0.mk (below_step jb_ hb); clear hb; obtain ⟨hcz2_0, hcz2_1, hcz2_2, hcz2_3, hcz2_4, hcz2_5⟩ := cl6 BK0.out; obtain ⟨hfz2_0, hfz2_1, hfz2_2, hfz2_3, hfz2_4, hfz2_5⟩ := fr6 BK0.out))
   go_ret
   exact ⟨rfl, HB.out⟩
 rw [if_neg hl] at H
 have c1 := decide_eq_false hl
 clear hl
 obtain ⟨left2, AM2, H⟩ := bsi H
 by_cases hl : left2 < 0
 · have c2 := decide_eq_true hl
   clear H hl
   go_enter Try.func9, Try.ntmps9
   go_wp2_with (first | ((with_reducible refine gate_dst (N := 4) rfl ?_); refine box_event ?hg (N := 4) ?hd (cs := #[.int .i64 a1_0, .int .i64 a1_1, .int .i64 a1_2, .int .i64 a1_3, .bool a1_4, .string a1_5]) (t := 83) ?hr ?_; (case hd => rfl); (case hg => rfl); (case hr => exact jr_); intro gb0 hg w1 hbox hb; have BK0 := Aside0.mk hbox; have GE0 := Aside0.mk (bs hg (below_size HB.out)); replace HB := Aside0.mk (below_step jb_ hb); clear hb hbox hg) | ((with_reducible refine gate_callee (f := 40) rfl ?_); refine goesL_ (some 23) rfl rfl Try.func40 (by kernel_rfl) rfl #[.slice A0 l0.length c0, .int .i64 1048576] rfl gm_ ?_; (with_reducible refine (laws_szBitsS.calls k _ _ l0 1048576 left _ ?side1 ?side2 AL.out).mono ?_); (case side1 => exact (Kd.C_below HR0.out HB.out)); (case side2 => exact HC0.out); rintro e w2 ⟨rfl, hb⟩; refine ⟨_, rfl, ?_⟩; replace BK0 := Aside0.mk (bb BK0.out hb); replace HB := Aside0.mk (below_step jb_ hb); clear hb; obtain ⟨hcz2_0, hcz2_1, hcz2_2, hcz2_3, hcz2_4, hcz2_5⟩ := cl6 BK0.out; obtain ⟨hfz2_0, hfz2_1, hfz2_2, hfz2_3, hfz2_4, hfz2_5⟩ := fr6 BK0.out) | ((with_reducible refine gate_callee (f := 49) rfl ?_); refine goesL_ (some 28) rfl rfl Try.func49 (by kernel_rfl) rfl #[.agg #[.int .i64 a1_0, .int .i64 a1_1, .int .i64 a1_2, .int .i64 a1_3, .bool a1_4, .string a1_5], .int .i64 left] rfl gm_ ?_; (with_reducible refine (laws_szDgram.calls a1_0 a1_1 a1_2 a1_3 a1_4 a1_5 left left2 _ AM2.out).mono ?_); rintro e w3 ⟨rfl, hb⟩; refine ⟨_, rfl, ?_⟩; replace BK0 := Aside0.mk (bb BK0.out hb); replace HB := Aside0.mk (below_step jb_ hb); clear hb))
   go_ret
   exact ⟨rfl, HB.out⟩
 rw [if_neg hl] at H
 have c2 := decide_eq_false hl
 clear hl
 obtain ⟨t, AT, H⟩ := bsi H
 obtain ⟨⟨d1, d2, d3, d4, d5, d6⟩, AD, H⟩ := bsi H
 obtain ⟨⟨s0, s1, s2, s3, s4, s5, s6, s7⟩, AS, H⟩ := bsi H
 obtain ⟨⟨g0, g1, g2, g3, g4, g5, g6, g7⟩, AG, H⟩ := bsi H
 obtain ⟨b1, AE, H⟩ := bsi H
 obtain ⟨b2, AF, H⟩ := bsi H
 obtain ⟨b3, AI, H⟩ := bsi H
 obtain ⟨⟨x1, x2⟩, AX, H⟩ := bsi H
 obtain ⟨⟨m1, m2⟩, AM, H⟩ := bsi H
 obtain ⟨q, AQ, H⟩ := bsi H
 by_cases hc : b1 = true ∧ b2 = true ∧ b3 = true ∧ g7 = s7 ∧ 0 ≤ x1 ∧ 0 ≤ m1 ∧ q = m1
 rotate_left
 · exact absurd ((if_neg hc).symm.trans H) (by simp)
 obtain ⟨rfl, rfl, rfl, rfl, hx, hm, rfl⟩ := hc
 have c3 : decide (x1 < 0) = false := decide_eq_false (by omega)
 have c4 : decide (q < 0) = false := decide_eq_false (by omega)
 have c5 : (q != q) = false := by simp
 have c6 : (g7 != g7) = false := by simp
 clear H hx hm
 go_enter Try.func9, Try.ntmps9
 try go_wp2_with (first | ((with_reducible refine gate_dst (N := 4) rfl ?_); refine box_event ?hg (N := 4) ?hd (cs := #[.int .i64 a1_0, .int .i64 a1_1, .int .i64 a1_2, .int .i64 a1_3, .bool a1_4, .string a1_5]) (t := 83) ?hr ?_; (case hd => rfl); (case hg => rfl); (case hr => exact jr_); intro gb0 hg w1 hbox hb; have BK0 := Aside0.mk hbox; have GE0 := Aside0.mk (bs hg (below_size HB.out)); replace HB := Aside0.mk (below_step jb_ hb); clear hb hbox hg) | ((with_reducible refine gate_callee (f := 40) rfl ?_); refine goesL_ (some 23) rfl rfl Try.func40 (by kernel_rfl) rfl #[.slice A0 l0.length c0, .int .i64 1048576] rfl gm_ ?_; (with_reducible refine (laws_szBitsS.calls k _ _ l0 1048576 left _ ?side1 ?side2 AL.out).mono ?_); (case side1 => exact (Kd.C_below HR0.out HB.out)); (case side2 => exact HC0.out); rintro e w2 ⟨rfl, hb⟩; refine ⟨_, rfl, ?_⟩; replace BK0 := Aside0.mk (bb BK0.out hb); replace HB := Aside0.mk (below_step jb_ hb); clear hb; obtain ⟨hcz2_0, hcz2_1, hcz2_2, hcz2_3, hcz2_4, hcz2_5⟩ := cl6 BK0.out; obtain ⟨hfz2_0, hfz2_1, hfz2_2, hfz2_3, hfz2_4, hfz2_5⟩ := fr6 BK0.out) | ((with_reducible refine gate_callee (f := 49) rfl ?_); refine goesL_ (some 28) rfl rfl Try.func49 (by kernel_rfl) rfl #[.agg #[.int .i64 a1_0, .int .i64 a1_1, .int .i64 a1_2, .int .i64 a1_3, .bool a1_4, .string a1_5], .int .i64 left] rfl gm_ ?_; (with_reducible refine (laws_szDgram.calls a1_0 a1_1 a1_2 a1_3 a1_4 a1_5 left left2 _ AM2.out).mono ?_); rintro e w3 ⟨rfl, hb⟩; refine ⟨_, rfl, ?_⟩; replace BK0 := Aside0.mk (bb BK0.out hb); replace HB := Aside0.mk (below_step jb_ hb); clear hb))
 replace HB := Aside0.mk (below_drew1 HB.out)
 replace BK0 := Aside0.mk (blk_drew BK0.out)
 refine start_ (n := 14) (S := fun w' => w'.cell? ⟨gb0, 0, none⟩ = some (.int .i64 a1_0) ∧ w'.cell? ⟨gb0, 1, none⟩ = some (.int .i64 a1_1) ∧ w'.cell? ⟨gb0, 2, none⟩ = some (.int .i64 a1_2) ∧ w'.cell? ⟨gb0, 3, none⟩ = some (.int .i64 a1_3) ∧ w'.cell? ⟨gb0, 4, none⟩ = some (.bool a1_4) ∧ w'.cell? ⟨gb0, 5, none⟩ = some (.string a1_5)) (ds := []) #[false, false, false, false, false, false, false, false, false, false, false, false, false, false] jk_ rfl rfl ⟨(blk_cell BK0.out 0).trans rfl, (blk_cell BK0.out 1).trans rfl, (blk_cell BK0.out 2).trans rfl, (blk_cell BK0.out 3).trans rfl, (blk_cell BK0.out 4).trans rfl, (blk_cell BK0.out 5).trans rfl⟩ (fun hHeld => ?_); refine with_tabW laws_FnExactJoinBits.tab8 laws_FnExactJoinBits.bits (fun HT_ HW_ => ?_)
 generalize w3.drew = wS8 at HB BK0 hHeld ⊢
 have HZ := Aside0.mk (Below.refl wS8.heap.size wS8)
 refine pu_ 0 32 HT_ ?_
 refine pu_ 4 36 HT_ ?_
 refine ta_ 2 34 HT_ HW_ hHeld ?_
 refine join_ (σ := Value × Value × Nat) 3 #[true, true, true, true, true, true, true, true, true, true, true, false, false, false] (fun s_ => [(33, s_.1), (35, .agg #[.int .i64 d1, .int .i64 d2, .int .i64 d3, .int .i64 d4, .bool d5, .string d6]), (37, .tuple #[s_.2.1, .agg #[.int .i64 s1, .int .i64 s2, .int .i64 s3, .int .i64 s4, .bool s5, .string s6], .bool g7]), (9, .pointer (some ⟨s_.2.2, 0, none⟩)), (31, .tuple #[s_.2.1, .agg #[.int .i64 s1, .int .i64 s2, .int .i64 s3, .int .i64 s4, .bool s5, .string s6], .bool g7]), (38, s_.2.1), (39, .agg #[.int .i64 s1, .int .i64 s2, .int .i64 s3, .int .i64 s4, .bool s5, .string s6]), (40, .bool g7)]) (fun s_ w' => (w'.cell? ⟨gb0, 0, none⟩ = some (.int .i64 a1_0) ∧ w'.cell? ⟨gb0, 1, none⟩ = some (.int .i64 a1_1) ∧ w'.cell? ⟨gb0, 2, none⟩ = some (.int .i64 a1_2) ∧ w'.cell? ⟨gb0, 3, none⟩ = some (.int .i64 a1_3) ∧ w'.cell? ⟨gb0, 4, none⟩ = some (.bool a1_4) ∧ w'.cell? ⟨gb0, 5, none⟩ = some (.string a1_5)) ∧ (Kd.N k82 82 w' wS8.heap.size (fun k_ => k_ ≠ s_.2.2) s_.2.1 s0) ∧ (w'.heap[s_.2.2]? = some (.cells #[.int .i64 0, .int .i64 0, .int .i64 0, .int .i64 0, .bool false, .string (⟨#[]⟩ : ByteArray)] 62 (0, 0))) ∧ (wS8.heap.size ≤ s_.2.2) ∧ (Below wS8.heap.size wS8 w')) ?_ ?_
 rotate_left
 ·intro hCont
  refine two_ (i := 1) (j := 10) (Ni := some 33) (Nj := some 9) #[true, true, true, false, true, false, false, false, false, false, false, false, false, false] #[true, false, true, false, true, false, false, false, false, false, true, false, false, false] rfl rfl rfl rfl (two_of HT_.out jk_) (by decide) (by decide) (fun K hK => ?_) (fun K hK => ?_)
  ·skip
   refine goes_ Try.func42 jk_ rfl #[.slice A0 l0.length c0] (by rfl) rfl rfl gm_ ?_
   with_reducible refine (laws_toBitsS.calls k _ _ l0 t _ ?side1 ?side2 AT.out).mono ?_
   (case side1 => exact (Kd.C_below (Kd.C_below HR0.out HB.out) jz_))
   (case side2 => exact HC0.out)
   rintro e w11 ⟨vT, rfl, ho0, hb⟩
   refine ⟨_, rfl, ?_⟩
   obtain ⟨Ax, nx, rfl⟩ := Kd.S_slice ho0
   have TC := Aside0.mk (Kd.S_reads' ho0).2.2
   have TL := Aside0.mk (Kd.S_reads' ho0).2.1
   replace BK0 := Aside0.mk (bb BK0.out hb)
   replace HZ := Aside0.mk (below_step jz_ hb)
   clear hb ho0
   refine hK.out _ _ ⟨(blk_cell BK0.out 0).trans rfl, (blk_cell BK0.out 1).trans rfl, (blk_cell BK0.out 2).trans rfl, (blk_cell BK0.out 3).trans rfl, (blk_cell BK0.out 4).trans rfl, (blk_cell BK0.out 5).trans rfl⟩ (fun hHeld => ?_)
   clear hK K
   refine norm_ (a' := ?_) ?_ ?_
   rotate_left
   ·show Act.put _ (some 33) _ = _
    simp only [Act.put, List.setIfInBounds_toArray, List.set_cons_zero, List.set_cons_succ, i64_w, i32_w]
    rfl
   refine two_ (i := 3) (j := 10) (Ni := some 35) (Nj := some 9) #[true, true, true, true, true, false, false, false, false, false, false, false, false, false] #[true, true, true, false, true, false, false, false, false, false, true, false, false, false] rfl rfl rfl rfl (two_of HT_.out jk_) (by decide) (by decide) (fun K hK => ?_) (fun K hK => ?_)
   ·skip
    refine goes_ Try.func50 jk_ rfl #[.agg #[.int .i64 a1_0, .int .i64 a1_1, .int .i64 a1_2, .int .i64 a1_3, .bool a1_4, .string a1_5]] (by rfl) rfl rfl gm_ ?_
    with_reducible refine (laws_toDgram.calls a1_0 a1_1 a1_2 a1_3 a1_4 a1_5 d1 d2 d3 d4 d5 d6 _ AD.out).mono ?_
    rintro e w12 ⟨rfl, hb⟩
    refine ⟨_, rfl, ?_⟩
    replace BK0 := Aside0.mk (bb BK0.out hb)
    replace TC := Aside0.mk (Kd.C_below jt_ hb)
    replace HZ := Aside0.mk (below_step jz_ hb)
    clear hb
    refine hK.out _ _ ⟨(blk_cell BK0.out 0).trans rfl, (blk_cell BK0.out 1).trans rfl, (blk_cell BK0.out 2).trans rfl, (blk_cell BK0.out 3).trans rfl, (blk_cell BK0.out 4).trans rfl, (blk_cell BK0.out 5).trans rfl⟩ (fun hHeld => ?_)
    clear hK K
    refine norm_ (a' := ?_) ?_ ?_
    rotate_left
    ·show Act.put _ (some 35) _ = _
     simp only [Act.put, List.setIfInBounds_toArray, List.set_cons_zero, List.set_cons_succ, i64_w, i32_w]
     rfl
    refine two_ (i := 5) (j := 10) (Ni := some 37) (Nj := some 9) #[true, true, true, true, true, true, false, false, false, false, false, false, false, false] #[true, true, true, true, true, false, false, false, false, false, true, false, false, false] rfl rfl rfl rfl (two_of HT_.out jk_) (by decide) (by decide) (fun K hK => ?_) (fun K hK => ?_)
    ·skip
     refine goes_ Try.func48 jk_ rfl #[.slice Ax t.length nx, .agg #[.int .i64 d1, .int .i64 d2, .int .i64 d3, .int .i64 d4, .bool d5, .string d6], .int .i64 a2] (by rfl) rfl rfl gm_ ?_
     with_reducible refine (spec_JoinBits.calls k _ _ t d1 d2 d3 d4 d5 d6 a2 s0 s1 s2 s3 s4 s5 s6 g7 _ ?side1 ?side2 AS.out).mono ?_
     (case side1 => exact jt_)
     (case side2 => exact TL.out)
     rintro e w13 ⟨vJ, rfl, ho0, hb⟩
     refine ⟨_, rfl, ?_⟩
     have HH := Aside0.mk (Kd.N_lower (Kd.N_bound ho0) (below_size HZ.out))
     replace BK0 := Aside0.mk (bb BK0.out hb)
     replace TC := Aside0.mk (Kd.C_below jt_ hb)
     replace HZ := Aside0.mk (below_step jz_ hb)
     clear hb ho0
     refine hK.out _ _ ⟨(blk_cell BK0.out 0).trans rfl, (blk_cell BK0.out 1).trans rfl, (blk_cell BK0.out 2).trans rfl, (blk_cell BK0.out 3).trans rfl, (blk_cell BK0.out 4).trans rfl, (blk_cell BK0.out 5).trans rfl⟩ (fun hHeld => ?_)
     clear hK K
     refine norm_ (a' := ?_) ?_ ?_
     rotate_left
     ·show Act.put _ (some 37) _ = _
      simp only [Act.put, List.setIfInBounds_toArray, List.set_cons_zero, List.set_cons_succ, i64_w, i32_w]
      rfl
     refine pu_ 6 31 HT_ ?_
     refine pu_ 7 38 HT_ ?_
     refine pu_ 8 39 HT_ ?_
     refine pu_ 9 40 HT_ ?_
     refine one_ (i := 10) (N := some 9) #[true, true, true, true, true, true, true, true, true, true, true, false, false, false] rfl rfl (one_of HT_.out jk_) (by decide) (fun K hK => ?_)
     refine box_step ?hg (N := 9) ?hd (cs := #[.int .i64 0, .int .i64 0, .int .i64 0, .int .i64 0, .bool false, .string (⟨#[]⟩ : ByteArray)]) (t := 62) ?hr ?_; (case hd => rfl); (case hg => rfl); (case hr => exact jr_)
     intro gX hg w14 hbox hb
     have BX := Aside0.mk hbox
     have GX := Aside0.mk (bs hg (below_size HZ.out))
     have GL := Aside0.mk (Nat.le_of_eq hg.symm)
     replace HH := Aside0.mk (Kd.N_mono HH.out (fun k_ hk => Nat.ne_of_lt (Nat.lt_of_lt_of_le hk.2 GL.out)))
     replace BK0 := Aside0.mk (bb BK0.out hb)
     replace TC := Aside0.mk (Kd.C_below jt_ hb)
     replace HH := Aside0.mk (Kd.N_below HH.out hb)
     replace HZ := Aside0.mk (below_step jz_ hb)
     clear hb hbox hg
     refine hK.out _ _ ⟨(blk_cell BK0.out 0).trans rfl, (blk_cell BK0.out 1).trans rfl, (blk_cell BK0.out 2).trans rfl, (blk_cell BK0.out 3).trans rfl, (blk_cell BK0.out 4).trans rfl, (blk_cell BK0.out 5).trans rfl⟩ (fun hHeld => ?_)
     clear hK K
     refine norm_ (a' := ?_) ?_ ?_
     rotate_left
     ·show Act.put _ (some 9) _ = _
      simp only [Act.put, List.setIfInBounds_toArray, List.set_cons_zero, List.set_cons_succ, i64_w, i32_w]
      rfl
     exact norm_ jp_ (hCont (.slice Ax t.length nx, vJ, gX) _ ⟨hHeld, HH.out, BX.out, GX.out, HZ.out⟩)
    ·skip
     refine box_step ?hg (N := 9) ?hd (cs := #[.int .i64 0, .int .i64 0, .int .i64 0, .int .i64 0, .bool false, .string (⟨#[]⟩ : ByteArray)]) (t := 62) ?hr ?_; (case hd => rfl); (case hg => rfl); (case hr => exact jr_)
     intro gX hg w15 hbox hb
     have BX := Aside0.mk hbox
     have GX := Aside0.mk (bs hg (below_size HZ.out))
     replace BK0 := Aside0.mk (bb BK0.out hb)
     replace TC := Aside0.mk (Kd.C_below jt_ hb)
     replace HZ := Aside0.mk (below_step jz_ hb)
     clear hb hbox hg
     refine hK.out _ _ ⟨(blk_cell BK0.out 0).trans rfl, (blk_cell BK0.out 1).trans rfl, (blk_cell BK0.out 2).trans rfl, (blk_cell BK0.out 3).trans rfl, (blk_cell BK0.out 4).trans rfl, (blk_cell BK0.out 5).trans rfl⟩ (fun hHeld => ?_)
     clear hK K
     refine norm_ (a' := ?_) ?_ ?_
     rotate_left
     ·show Act.put _ (some 9) _ = _
      simp only [Act.put, List.setIfInBounds_toArray, List.set_cons_zero, List.set_cons_succ, i64_w, i32_w]
      rfl
     refine one_ (i := 5) (N := some 37) #[true, true, true, true, true, true, false, false, false, false, true, false, false, false] rfl rfl (one_of HT_.out jk_) (by decide) (fun K hK => ?_)
     refine goes_ Try.func48 jk_ rfl #[.slice Ax t.length nx, .agg #[.int .i64 d1, .int .i64 d2, .int .i64 d3, .int .i64 d4, .bool d5, .string d6], .int .i64 a2] (by rfl) rfl rfl gm_ ?_
     with_reducible refine (spec_JoinBits.calls k _ _ t d1 d2 d3 d4 d5 d6 a2 s0 s1 s2 s3 s4 s5 s6 g7 _ ?side1 ?side2 AS.out).mono ?_
     (case side1 => exact jt_)
     (case side2 => exact TL.out)
     rintro e w16 ⟨vJ, rfl, ho0, hb⟩
     refine ⟨_, rfl, ?_⟩
     have HH := Aside0.mk (Kd.N_lower (Kd.N_bound ho0) (below_size HZ.out))
     have GL := Aside0.mk (blk_lt BX.out)
     replace HH := Aside0.mk (Kd.N_mono HH.out (fun k_ hk => Nat.ne_of_gt (Nat.lt_of_lt_of_le GL.out hk.1)))
     replace BK0 := Aside0.mk (bb BK0.out hb)
     replace BX := Aside0.mk (bb BX.out hb)
     replace TC := Aside0.mk (Kd.C_below jt_ hb)
     replace HZ := Aside0.mk (below_step jz_ hb)
     clear hb ho0
     refine hK.out _ _ ⟨(blk_cell BK0.out 0).trans rfl, (blk_cell BK0.out 1).trans rfl, (blk_cell BK0.out 2).trans rfl, (blk_cell BK0.out 3).trans rfl, (blk_cell BK0.out 4).trans rfl, (blk_cell BK0.out 5).trans rfl⟩ (fun hHeld => ?_)
     clear hK K
     refine norm_ (a' := ?_) ?_ ?_
     rotate_left
     ·show Act.put _ (some 37) _ = _
      simp only [Act.put, List.setIfInBounds_toArray, List.set_cons_zero, List.set_cons_succ, i64_w, i32_w]
      rfl
     refine pu_ 6 31 HT_ ?_
     refine pu_ 7 38 HT_ ?_
     refine pu_ 8 39 HT_ ?_
     refine pu_ 9 40 HT_ ?_
     exact norm_ jp_ (hCont (.slice Ax t.length nx, vJ, gX) _ ⟨hHeld, HH.out, BX.out, GX.out, HZ.out⟩)
   ·skip
    refine box_step ?hg (N := 9) ?hd (cs := #[.int .i64 0, .int .i64 0, .int .i64 0, .int .i64 0, .bool false, .string (⟨#[]⟩ : ByteArray)]) (t := 62) ?hr ?_; (case hd => rfl); (case hg => rfl); (case hr => exact jr_)
    intro gX hg w17 hbox hb
    have BX := Aside0.mk hbox
    have GX := Aside0.mk (bs hg (below_size HZ.out))
    replace BK0 := Aside0.mk (bb BK0.out hb)
    replace TC := Aside0.mk (Kd.C_below jt_ hb)
    replace HZ := Aside0.mk (below_step jz_ hb)
    clear hb hbox hg
    refine hK.out _ _ ⟨(blk_cell BK0.out 0).trans rfl, (blk_cell BK0.out 1).trans rfl, (blk_cell BK0.out 2).trans rfl, (blk_cell BK0.out 3).trans rfl, (blk_cell BK0.out 4).trans rfl, (blk_cell BK0.out 5).trans rfl⟩ (fun hHeld => ?_)
    clear hK K
    refine norm_ (a' := ?_) ?_ ?_
    rotate_left
    ·show Act.put _ (some 9) _ = _
     simp only [Act.put, List.setIfInBounds_toArray, List.set_cons_zero, List.set_cons_succ, i64_w, i32_w]
     rfl
    refine one_ (i := 3) (N := some 35) #[true, true, true, true, true, false, false, false, false, false, true, false, false, false] rfl rfl (one_of HT_.out jk_) (by decide) (fun K hK => ?_)
    refine goes_ Try.func50 jk_ rfl #[.agg #[.int .i64 a1_0, .int .i64 a1_1, .int .i64 a1_2, .int .i64 a1_3, .bool a1_4, .string a1_5]] (by rfl) rfl rfl gm_ ?_
    with_reducible refine (laws_toDgram.calls a1_0 a1_1 a1_2 a1_3 a1_4 a1_5 d1 d2 d3 d4 d5 d6 _ AD.out).mono ?_
    rintro e w18 ⟨rfl, hb⟩
    refine ⟨_, rfl, ?_⟩
    replace BK0 := Aside0.mk (bb BK0.out hb)
    replace BX := Aside0.mk (bb BX.out hb)
    replace TC := Aside0.mk (Kd.C_below jt_ hb)
    replace HZ := Aside0.mk (below_step jz_ hb)
    clear hb
    refine hK.out _ _ ⟨(blk_cell BK0.out 0).trans rfl, (blk_cell BK0.out 1).trans rfl, (blk_cell BK0.out 2).trans rfl, (blk_cell BK0.out 3).trans rfl, (blk_cell BK0.out 4).trans rfl, (blk_cell BK0.out 5).trans rfl⟩ (fun hHeld => ?_)
    clear hK K
    refine norm_ (a' := ?_) ?_ ?_
    rotate_left
    ·show Act.put _ (some 35) _ = _
     simp only [Act.put, List.setIfInBounds_toArray, List.set_cons_zero, List.set_cons_succ, i64_w, i32_w]
     rfl
    refine one_ (i := 5) (N := some 37) #[true, true, true, true, true, true, false, false, false, false, true, false, false, false] rfl rfl (one_of HT_.out jk_) (by decide) (fun K hK => ?_)
    refine goes_ Try.func48 jk_ rfl #[.slice Ax t.length nx, .agg #[.int .i64 d1, .int .i64 d2, .int .i64 d3, .int .i64 d4, .bool d5, .string d6], .int .i64 a2] (by rfl) rfl rfl gm_ ?_
    with_reducible refine (spec_JoinBits.calls k _ _ t d1 d2 d3 d4 d5 d6 a2 s0 s1 s2 s3 s4 s5 s6 g7 _ ?side1 ?side2 AS.out).mono ?_
    (case side1 => exact jt_)
    (case side2 => exact TL.out)
    rintro e w19 ⟨vJ, rfl, ho0, hb⟩
    refine ⟨_, rfl, ?_⟩
    have HH := Aside0.mk (Kd.N_lower (Kd.N_bound ho0) (below_size HZ.out))
    have GL := Aside0.mk (blk_lt BX.out)
    replace HH := Aside0.mk (Kd.N_mono HH.out (fun k_ hk => Nat.ne_of_gt (Nat.lt_of_lt_of_le GL.out hk.1)))
    replace BK0 := Aside0.mk (bb BK0.out hb)
    replace BX := Aside0.mk (bb BX.out hb)
    replace TC := Aside0.mk (Kd.C_below jt_ hb)
    replace HZ := Aside0.mk (below_step jz_ hb)
    clear hb ho0
    refine hK.out _ _ ⟨(blk_cell BK0.out 0).trans rfl, (blk_cell BK0.out 1).trans rfl, (blk_cell BK0.out 2).trans rfl, (blk_cell BK0.out 3).trans rfl, (blk_cell BK0.out 4).trans rfl, (blk_cell BK0.out 5).trans rfl⟩ (fun hHeld => ?_)
    clear hK K
    refine norm_ (a' := ?_) ?_ ?_
    rotate_left
    ·show Act.put _ (some 37) _ = _
     simp only [Act.put, List.setIfInBounds_toArray, List.set_cons_zero, List.set_cons_succ, i64_w, i32_w]
     rfl
    refine pu_ 6 31 HT_ ?_
    refine pu_ 7 38 HT_ ?_
    refine pu_ 8 39 HT_ ?_
    refine pu_ 9 40 HT_ ?_
    exact norm_ jp_ (hCont (.slice Ax t.length nx, vJ, gX) _ ⟨hHeld, HH.out, BX.out, GX.out, HZ.out⟩)
  ·skip
   refine box_step ?hg (N := 9) ?hd (cs := #[.int .i64 0, .int .i64 0, .int .i64 0, .int .i64 0, .bool false, .string (⟨#[]⟩ : ByteArray)]) (t := 62) ?hr ?_; (case hd => rfl); (case hg => rfl); (case hr => exact jr_)
   intro gX hg w20 hbox hb
   have BX := Aside0.mk hbox
   have GX := Aside0.mk (bs hg (below_size HZ.out))
   replace BK0 := Aside0.mk (bb BK0.out hb)
   replace HZ := Aside0.mk (below_step jz_ hb)
   clear hb hbox hg
   refine hK.out _ _ ⟨(blk_cell BK0.out 0).trans rfl, (blk_cell BK0.out 1).trans rfl, (blk_cell BK0.out 2).trans rfl, (blk_cell BK0.out 3).trans rfl, (blk_cell BK0.out 4).trans rfl, (blk_cell BK0.out 5).trans rfl⟩ (fun hHeld => ?_)
   clear hK K
   refine norm_ (a' := ?_) ?_ ?_
   rotate_left
   ·show Act.put _ (some 9) _ = _
    simp only [Act.put, List.setIfInBounds_toArray, List.set_cons_zero, List.set_cons_succ, i64_w, i32_w]
    rfl
   refine one_ (i := 1) (N := some 33) #[true, true, true, false, true, false, false, false, false, false, true, false, false, false] rfl rfl (one_of HT_.out jk_) (by decide) (fun K hK => ?_)
   refine goes_ Try.func42 jk_ rfl #[.slice A0 l0.length c0] (by rfl) rfl rfl gm_ ?_
   with_reducible refine (laws_toBitsS.calls k _ _ l0 t _ ?side1 ?side2 AT.out).mono ?_
   (case side1 => exact (Kd.C_below (Kd.C_below HR0.out HB.out) jz_))
   (case side2 => exact HC0.out)
   rintro e w21 ⟨vT, rfl, ho0, hb⟩
   refine ⟨_, rfl, ?_⟩
   obtain ⟨Ax, nx, rfl⟩ := Kd.S_slice ho0
   have TC := Aside0.mk (Kd.S_reads' ho0).2.2
   have TL := Aside0.mk (Kd.S_reads' ho0).2.1
   replace BK0 := Aside0.mk (bb BK0.out hb)
   replace BX := Aside0.mk (bb BX.out hb)
   replace HZ := Aside0.mk (below_step jz_ hb)
   clear hb ho0
   refine hK.out _ _ ⟨(blk_cell BK0.out 0).trans rfl, (blk_cell BK0.out 1).trans rfl, (blk_cell BK0.out 2).trans rfl, (blk_cell BK0.out 3).trans rfl, (blk_cell BK0.out 4).trans rfl, (blk_cell BK0.out 5).trans rfl⟩ (fun hHeld => ?_)
   clear hK K
   refine norm_ (a' := ?_) ?_ ?_
   rotate_left
   ·show Act.put _ (some 33) _ = _
    simp only [Act.put, List.setIfInBounds_toArray, List.set_cons_zero, List.set_cons_succ, i64_w, i32_w]
    rfl
   refine one_ (i := 3) (N := some 35) #[true, true, true, true, true, false, false, false, false, false, true, false, false, false] rfl rfl (one_of HT_.out jk_) (by decide) (fun K hK => ?_)
   refine goes_ Try.func50 jk_ rfl #[.agg #[.int .i64 a1_0, .int .i64 a1_1, .int .i64 a1_2, .int .i64 a1_3, .bool a1_4, .string a1_5]] (by rfl) rfl rfl gm_ ?_
   with_reducible refine (laws_toDgram.calls a1_0 a1_1 a1_2 a1_3 a1_4 a1_5 d1 d2 d3 d4 d5 d6 _ AD.out).mono ?_
   rintro e w22 ⟨rfl, hb⟩
   refine ⟨_, rfl, ?_⟩
   replace BK0 := Aside0.mk (bb BK0.out hb)
   replace BX := Aside0.mk (bb BX.out hb)
   replace TC := Aside0.mk (Kd.C_below jt_ hb)
   replace HZ := Aside0.mk (below_step jz_ hb)
   clear hb
   refine hK.out _ _ ⟨(blk_cell BK0.out 0).trans rfl, (blk_cell BK0.out 1).trans rfl, (blk_cell BK0.out 2).trans rfl, (blk_cell BK0.out 3).trans rfl, (blk_cell BK0.out 4).trans rfl, (blk_cell BK0.out 5).trans rfl⟩ (fun hHeld => ?_)
   clear hK K
   refine norm_ (a' := ?_) ?_ ?_
   rotate_left
   ·show Act.put _ (some 35) _ = _
    simp only [Act.put, List.setIfInBounds_toArray, List.set_cons_zero, List.set_cons_succ, i64_w, i32_w]
    rfl
   refine one_ (i := 5) (N := some 37) #[true, true, true, true, true, true, false, false, false, false, true, false, false, false] rfl rfl (one_of HT_.out jk_) (by decide) (fun K hK => ?_)
   refine goes_ Try.func48 jk_ rfl #[.slice Ax t.length nx, .agg #[.int .i64 d1, .int .i64 d2, .int .i64 d3, .int .i64 d4, .bool d5, .string d6], .int .i64 a2] (by rfl) rfl rfl gm_ ?_
   with_reducible refine (spec_JoinBits.calls k _ _ t d1 d2 d3 d4 d5 d6 a2 s0 s1 s2 s3 s4 s5 s6 g7 _ ?side1 ?side2 AS.out).mono ?_
   (case side1 => exact jt_)
   (case side2 => exact TL.out)
   rintro e w23 ⟨vJ, rfl, ho0, hb⟩
   refine ⟨_, rfl, ?_⟩
   have HH := Aside0.mk (Kd.N_lower (Kd.N_bound ho0) (below_size HZ.out))
   have GL := Aside0.mk (blk_lt BX.out)
   replace HH := Aside0.mk (Kd.N_mono HH.out (fun k_ hk => Nat.ne_of_gt (Nat.lt_of_lt_of_le GL.out hk.1)))
   replace BK0 := Aside0.mk (bb BK0.out hb)
   replace BX := Aside0.mk (bb BX.out hb)
   replace TC := Aside0.mk (Kd.C_below jt_ hb)
   replace HZ := Aside0.mk (below_step jz_ hb)
   clear hb ho0
   refine hK.out _ _ ⟨(blk_cell BK0.out 0).trans rfl, (blk_cell BK0.out 1).trans rfl, (blk_cell BK0.out 2).trans rfl, (blk_cell BK0.out 3).trans rfl, (blk_cell BK0.out 4).trans rfl, (blk_cell BK0.out 5).trans rfl⟩ (fun hHeld => ?_)
   clear hK K
   refine norm_ (a' := ?_) ?_ ?_
   rotate_left
   ·show Act.put _ (some 37) _ = _
    simp only [Act.put, List.setIfInBounds_toArray, List.set_cons_zero, List.set_cons_succ, i64_w, i32_w]
    rfl
   refine pu_ 6 31 HT_ ?_
   refine pu_ 7 38 HT_ ?_
   refine pu_ 8 39 HT_ ?_
   refine pu_ 9 40 HT_ ?_
   exact norm_ jp_ (hCont (.slice Ax t.length nx, vJ, gX) _ ⟨hHeld, HH.out, BX.out, GX.out, HZ.out⟩)
 rintro ⟨vT, vJ, gs⟩ wJ8 ⟨hS_, h0_, h1_, h2_, h3_⟩
 have HH : Aside0 (Kd.N k82 82 wJ8 wS8.heap.size (fun k_ => k_ ≠ gs) vJ s0) := ⟨h0_⟩
 have Bgs : Aside0 (wJ8.heap[gs]? = some (.cells #[.int .i64 0, .int .i64 0, .int .i64 0, .int .i64 0, .bool false, .string (⟨#[]⟩ : ByteArray)] 62 (0, 0))) := ⟨h1_⟩
 have GEgs : Aside0 (wS8.heap.size ≤ gs) := ⟨h2_⟩
 replace HZ : Aside0 (Below wS8.heap.size wS8 wJ8) := ⟨h3_⟩
 clear h0_ h1_ h2_ h3_
 have Ngb0_gs : gb0 ≠ gs := by have h4_ := blk_lt BK0.out; have h5_ := GEgs.out; omega
 have Ngs_gb0 : gs ≠ gb0 := Ngb0_gs.symm
 have GWgs := Aside0.mk (Nat.le_trans (below_size HB.out) GEgs.out)
 have hHeld : wJ8.cell? ⟨gb0, 0, none⟩ = some (.int .i64 a1_0) ∧ wJ8.cell? ⟨gb0, 1, none⟩ = some (.int .i64 a1_1) ∧ wJ8.cell? ⟨gb0, 2, none⟩ = some (.int .i64 a1_2) ∧ wJ8.cell? ⟨gb0, 3, none⟩ = some (.int .i64 a1_3) ∧ wJ8.cell? ⟨gb0, 4, none⟩ = some (.bool a1_4) ∧ wJ8.cell? ⟨gb0, 5, none⟩ = some (.string a1_5) := hS_
 refine norm_ (a' := ?_) ?_ ?_
 rotate_left
 ·simp only [putAll, Act.put, List.setIfInBounds_toArray, List.set_cons_zero, List.set_cons_succ]
  rfl
 refine pu_ 11 8 HT_ ?_
 refine one_ (i := 12) (N := none) #[true, true, true, true, true, true, true, true, true, true, true, true, true, false] rfl rfl (one_of HT_.out jk_) (by decide) (fun K hK => ?_)
 obtain ⟨hs_0, hs_1, hs_2, hs_3, hs_4, hs_5⟩ := cl6 Bgs.out
 obtain ⟨hf_0, hf_1, hf_2, hf_3, hf_4, hf_5⟩ := fr6 Bgs.out
 refine skip_ (w1 := ?_) (by rfl) rfl ?_ ?_
 rotate_left
 ·go_simp
  rfl
 clear hs_0 hs_1 hs_2 hs_3 hs_4 hs_5 hf_0 hf_1 hf_2 hf_3 hf_4 hf_5
 replace BK0 : Aside0 ((((((((wJ8.setCell ⟨gs, 0, none⟩ (.int .i64 s1)).setCell ⟨gs, 1, none⟩ (.int .i64 s2)).setCell ⟨gs, 2, none⟩ (.int .i64 s3)).setCell ⟨gs, 3, none⟩ (.int .i64 s4)).setCell ⟨gs, 4, none⟩ (.bool s5)).setCell ⟨gs, 5, none⟩ (.string s6))).heap[gb0]? = some (.cells #[.int .i64 a1_0, .int .i64 a1_1, .int .i64 a1_2, .int .i64 a1_3, .bool a1_4, .string a1_5] 83 (0, 0))) := ⟨six_far (bb BK0.out HZ.out) Ngb0_gs⟩
 replace Bgs : Aside0 ((((((((wJ8.setCell ⟨gs, 0, none⟩ (.int .i64 s1)).setCell ⟨gs, 1, none⟩ (.int .i64 s2)).setCell ⟨gs, 2, none⟩ (.int .i64 s3)).setCell ⟨gs, 3, none⟩ (.int .i64 s4)).setCell ⟨gs, 4, none⟩ (.bool s5)).setCell ⟨gs, 5, none⟩ (.string s6))).heap[gs]? = some (.cells #[.int .i64 s1, .int .i64 s2, .int .i64 s3, .int .i64 s4, .bool s5, .string s6] 62 (0, 0))) := ⟨six_own Bgs.out⟩
 replace HB := Aside0.mk (show Below w.heap.size w ((((((wJ8.setCell ⟨gs, 0, none⟩ (.int .i64 s1)).setCell ⟨gs, 1, none⟩ (.int .i64 s2)).setCell ⟨gs, 2, none⟩ (.int .i64 s3)).setCell ⟨gs, 3, none⟩ (.int .i64 s4)).setCell ⟨gs, 4, none⟩ (.bool s5)).setCell ⟨gs, 5, none⟩ (.string s6)) from six_below (below_step HB.out HZ.out) GWgs.out)
 obtain ⟨A3, n3, hv3, hn3, hF⟩ := Kd.N_V (base' := 0) (Kd.N_bound HH.out)
 subst hv3
 have WF := Aside0.mk hF
 have WN := Aside0.mk hn3
 have SW := Aside0.mk (show Same (fun k_ => k_ ≠ gs ∧ k_ < wJ8.heap.size) wJ8 ((((((wJ8.setCell ⟨gs, 0, none⟩ (.int .i64 s1)).setCell ⟨gs, 1, none⟩ (.int .i64 s2)).setCell ⟨gs, 2, none⟩ (.int .i64 s3)).setCell ⟨gs, 3, none⟩ (.int .i64 s4)).setCell ⟨gs, 4, none⟩ (.bool s5)).setCell ⟨gs, 5, none⟩ (.string s6)) from six_same (Same.refl _ _) (fun k_ h1_ _ => h1_.1))
 clear HH hF hn3
 have hn1_ := Ngb0_gs
 have hn2_ := Ngs_gb0
 clear HZ
 refine hK.out _ _ ⟨(blk_cell BK0.out 0).trans rfl, (blk_cell BK0.out 1).trans rfl, (blk_cell BK0.out 2).trans rfl, (blk_cell BK0.out 3).trans rfl, (blk_cell BK0.out 4).trans rfl, (blk_cell BK0.out 5).trans rfl⟩ (fun hHeld => ?_)
 clear hK K
 refine pu_ 13 10 HT_ ?_
 refine done_ (done_of HT_.out jk_) ?_
 try go_wp2_with (first | ((with_reducible refine gate_callee (f := 42) rfl ?_); refine goesL_ (some 42) rfl rfl Try.func42 (by kernel_rfl) rfl #[.slice A0 l0.length c0] rfl gm_ ?_; (with_reducible refine (laws_toBitsS.calls k _ _ l0 t _ ?side1 ?side2 AT.out).mono ?_); (case side1 => exact (Kd.C_below HR0.out HB.out)); (case side2 => exact HC0.out); rintro e w101 ⟨v101, rfl, ho, hb⟩; refine ⟨_, rfl, ?_⟩; obtain ⟨A4, n4, rfl⟩ := Kd.S_slice ho; have X := Aside0.mk (rng_S ho); have Q1 := Aside0.mk (blk_lt BK0.out); have Q2 := Aside0.mk (blk_lt Bgs.out); have Q3 := Aside0.mk SW.out.1; have Q4 := Aside0.mk (below_size HB.out); replace BK0 := Aside0.mk (bb BK0.out hb); replace Bgs := Aside0.mk (bb Bgs.out hb); replace SW := Aside0.mk (SW.out.below hb); replace HB := Aside0.mk (below_step jb_ hb); clear hb; have SX := Aside0.mk (Same.ofS X.out); clear ho; obtain ⟨hczaBK0_0, hczaBK0_1, hczaBK0_2, hczaBK0_3, hczaBK0_4, hczaBK0_5⟩ := cl6 BK0.out; obtain ⟨hfzaBK0_0, hfzaBK0_1, hfzaBK0_2, hfzaBK0_3, hfzaBK0_4, hfzaBK0_5⟩ := fr6 BK0.out) | ((with_reducible refine gate_callee (f := 50) rfl ?_); refine goesL_ (some 46) rfl rfl Try.func50 (by kernel_rfl) rfl #[.agg #[.int .i64 a1_0, .int .i64 a1_1, .int .i64 a1_2, .int .i64 a1_3, .bool a1_4, .string a1_5]] rfl gm_ ?_; (with_reducible refine (laws_toDgram.calls a1_0 a1_1 a1_2 a1_3 a1_4 a1_5 d1 d2 d3 d4 d5 d6 _ AD.out).mono ?_); rintro e w102 ⟨rfl, hb⟩; refine ⟨_, rfl, ?_⟩; replace BK0 := Aside0.mk (bb BK0.out hb); replace Bgs := Aside0.mk (bb Bgs.out hb); replace SW := Aside0.mk (SW.out.below hb); replace SX := Aside0.mk (SX.out.below hb); replace HB := Aside0.mk (below_step jb_ hb); clear hb) | ((with_reducible refine gate_callee (f := 39) rfl ?_); refine goesL_ (some 48) rfl rfl Try.func39 (by kernel_rfl) rfl #[.slice A4 t.length n4, .agg #[.int .i64 d1, .int .i64 d2, .int .i64 d3, .int .i64 d4, .bool d5, .string d6], .int .i64 a2] rfl gm_ ?_; (with_reducible refine (impl_JoinBits.calls k _ _ t d1 d2 d3 d4 d5 d6 a2 g0 g1 g2 g3 g4 g5 g6 g7 _ ?side1 ?side2 AG.out).mono ?_); (case side1 => exact (SQ_reads' (SQ_now (SQ_of X.out) SX.out)).2.2); (case side2 => exact (SQ_reads' (SQ_now (SQ_of X.out) SX.out)).2.1); rintro e w103 ⟨v103, rfl, ho, hb⟩; refine ⟨_, rfl, ?_⟩; obtain ⟨A5, n5, hv5⟩ := SQ_slice ho; subst hv5; have G := Aside0.mk (rng_SQ ho); have R1 := Aside0.mk (blk_lt BK0.out); have R2 := Aside0.mk (blk_lt Bgs.out); have R3 := Aside0.mk SW.out.1; have R4 := Aside0.mk (below_size HB.out); have R5 := Aside0.mk SX.out.1; have R6 := Aside0.mk hb.size; replace BK0 := Aside0.mk (bb BK0.out hb); replace Bgs := Aside0.mk (bb Bgs.out hb); replace SW := Aside0.mk (SW.out.below hb); replace SX := Aside0.mk (SX.out.below hb); replace HB := Aside0.mk (below_step jb_ hb); clear hb; have SG := Aside0.mk (Same.ofQ G.out); clear ho) | ((with_reducible refine gate_dst (N := 13) rfl ?_); refine box_event ?hg (N := 13) ?hd (cs := #[.int .i64 0, .int .i64 0, .int .i64 0, .int .i64 0, .bool false, .string (⟨#[]⟩ : ByteArray)]) (t := 62) ?hr ?_; (case hd => rfl); (case hg => rfl); (case hr => exact jr_); intro gg hg w104 hbox hb; have Bgg := Aside0.mk hbox; have GEgg := Aside0.mk (bs hg (below_size HB.out)); have U1 := Aside0.mk (Nat.le_of_eq hg.symm); have U2 := Aside0.mk SW.out.1; have U3 := Aside0.mk SX.out.1; have Ngb0_gg := nl hg (blk_lt BK0.out); have Ngs_gg := nl hg (blk_lt Bgs.out); have Ngg_gb0 := Ngb0_gg.symm; have Ngg_gs := Ngs_gg.symm; replace BK0 := Aside0.mk (bb BK0.out hb); replace Bgs := Aside0.mk (bb Bgs.out hb); replace SW := Aside0.mk (SW.out.below hb); replace SX := Aside0.mk (SX.out.below hb); replace SG := Aside0.mk (SG.out.below hb); replace HB := Aside0.mk (below_step jb_ hb); clear hb; clear hbox hg; obtain ⟨hczbBgg_0, hczbBgg_1, hczbBgg_2, hczbBgg_3, hczbBgg_4, hczbBgg_5⟩ := cl6 Bgg.out; obtain ⟨hfzbBgg_0, hfzbBgg_1, hfzbBgg_2, hfzbBgg_3, hfzbBgg_4, hfzbBgg_5⟩ := fr6 Bgg.out) | ((with_reducible refine gate_store (t := 62) (p := 13) rfl ?_); refine store_event (t := 62) (p := 13) (v := ?vo_w48) (w1 := ((((((w104.setCell ⟨gg, 0, none⟩ (.int .i64 g1)).setCell ⟨gg, 1, none⟩ (.int .i64 g2)).setCell ⟨gg, 2, none⟩ (.int .i64 g3)).setCell ⟨gg, 3, none⟩ (.int .i64 g4)).setCell ⟨gg, 4, none⟩ (.bool g5)).setCell ⟨gg, 5, none⟩ (.string g6))) ?hg ?ho ?hn ?hr ?_; (case ho => rfl); (case hg => rfl); (case hn => rfl); (case hr => exact jr_); intro w105 hw; replace BK0 : Aside0 (w105.heap[gb0]? = some (.cells #[.int .i64 a1_0, .int .i64 a1_1, .int .i64 a1_2, .int .i64 a1_3, .bool a1_4, .string a1_5] 83 (0, 0))) := ⟨by rw [hw]; exact six_far BK0.out Ngb0_gg⟩; replace Bgs : Aside0 (w105.heap[gs]? = some (.cells #[.int .i64 s1, .int .i64 s2, .int .i64 s3, .int .i64 s4, .bool s5, .string s6] 62 (0, 0))) := ⟨by rw [hw]; exact six_far Bgs.out Ngs_gg⟩; replace Bgg : Aside0 (w105.heap[gg]? = some (.cells #[.int .i64 g1, .int .i64 g2, .int .i64 g3, .int .i64 g4, .bool g5, .string g6] 62 (0, 0))) := ⟨by rw [hw]; exact six_own Bgg.out⟩; replace SW := Aside0.mk (show Same _ _ w105 from by rw [hw]; exact six_same SW.out (fun k_ h1_ h2_ => by have h3_ := U1.out; have h4_ := U2.out; omega)); replace SX := Aside0.mk (show Same _ _ w105 from by rw [hw]; exact six_same SX.out (fun k_ h1_ h2_ => by have h3_ := U1.out; have h4_ := U3.out; omega)); replace SG := Aside0.mk (show Same _ _ w105 from by rw [hw]; exact six_same SG.out (fun k_ h1_ h2_ => by have h3_ := U1.out; omega)); replace HB : Aside0 (Below w.heap.size w w105) := ⟨by rw [hw]; exact six_below HB.out GEgg.out⟩; clear hw) | ((with_reducible refine gate_callee (f := 44) rfl ?_); refine goesL_ (some 54) rfl rfl Try.func44 (by kernel_rfl) rfl #[.slice A5 g0.length n5, .slice A3 s0.length n3] rfl gm_ ?_; (with_reducible refine (laws_eqBitsS.calls k _ _ g0 _ _ s0 true _ ?side1 ?side2 ?side3 ?side4 AE.out).mono ?_); (case side1 => exact (SQ_reads' (SQ_now G.out SG.out)).2.2); (case side2 => exact (SQ_reads' (SQ_now G.out SG.out)).2.1); (case side3 => exact (F_now82 WF.out SW.out)); (case side4 => exact WN.out); rintro e w106 ⟨rfl, hb⟩; refine ⟨_, rfl, ?_⟩; replace BK0 := Aside0.mk (bb BK0.out hb); replace Bgs := Aside0.mk (bb Bgs.out hb); replace SW := Aside0.mk (SW.out.below hb); replace SX := Aside0.mk (SX.out.below hb); replace SG := Aside0.mk (SG.out.below hb); replace Bgg := Aside0.mk (bb Bgg.out hb); replace HB := Aside0.mk (below_step jb_ hb); clear hb; obtain ⟨hczcBgg_0, hczcBgg_1, hczcBgg_2, hczcBgg_3, hczcBgg_4, hczcBgg_5⟩ := cl6 Bgg.out; obtain ⟨hfzcBgg_0, hfzcBgg_1, hfzcBgg_2, hfzcBgg_3, hfzcBgg_4, hfzcBgg_5⟩ := fr6 Bgg.out; obtain ⟨hczcBgs_0, hczcBgs_1, hczcBgs_2, hczcBgs_3, hczcBgs_4, hczcBgs_5⟩ := cl6 Bgs.out; obtain ⟨hfzcBgs_0, hfzcBgs_1, hfzcBgs_2, hfzcBgs_3, hfzcBgs_4, hfzcBgs_5⟩ := fr6 Bgs.out) | ((with_reducible refine gate_callee (f := 42) rfl ?_); refine goesL_ (some 69) rfl rfl Try.func42 (by kernel_rfl) rfl #[.slice A0 l0.length c0] rfl gm_ ?_; (with_reducible refine (laws_toBitsS.calls k _ _ l0 t _ ?side1 ?side2 AT.out).mono ?_); (case side1 => exact (Kd.C_below HR0.out HB.out)); (case side2 => exact HC0.out); rintro e w107 ⟨v107, rfl, ho, hb⟩; refine ⟨_, rfl, ?_⟩; obtain ⟨A7, n7, rfl⟩ := Kd.S_slice ho; have Y := Aside0.mk ho; replace BK0 := Aside0.mk (bb BK0.out hb); replace Bgs := Aside0.mk (bb Bgs.out hb); replace SW := Aside0.mk (SW.out.below hb); replace SX := Aside0.mk (SX.out.below hb); replace SG := Aside0.mk (SG.out.below hb); replace Bgg := Aside0.mk (bb Bgg.out hb); replace HB := Aside0.mk (below_step jb_ hb); clear hb; clear ho) | ((with_reducible refine gate_callee (f := 44) rfl ?_); refine goesL_ (some 70) rfl rfl Try.func44 (by kernel_rfl) rfl #[.slice A4 t.length n4, .slice A7 t.length n7] rfl gm_ ?_; (with_reducible refine (laws_eqBitsS.calls k _ _ t _ _ t true _ ?side1 ?side2 ?side3 ?side4 AF.out).mono ?_); (case side1 => exact (SQ_reads' (SQ_now (SQ_of X.out) SX.out)).2.2); (case side2 => exact (SQ_reads' (SQ_now (SQ_of X.out) SX.out)).2.1); (case side3 => exact (Kd.S_reads' Y.out).2.2); (case side4 => exact (Kd.S_reads' Y.out).2.1); rintro e w108 ⟨rfl, hb⟩; refine ⟨_, rfl, ?_⟩; replace BK0 := Aside0.mk (bb BK0.out hb); replace Bgs := Aside0.mk (bb Bgs.out hb); replace SW := Aside0.mk (SW.out.below hb); replace SX := Aside0.mk (SX.out.below hb); replace SG := Aside0.mk (SG.out.below hb); replace Bgg := Aside0.mk (bb Bgg.out hb); replace HB := Aside0.mk (below_step jb_ hb); clear hb; clear Y) | ((with_reducible refine gate_callee (f := 45) rfl ?_); refine goesL_ (some 74) rfl rfl Try.func45 (by kernel_rfl) rfl #[.slice A4 t.length n4, .int .i64 1] rfl gm_ ?_; (with_reducible refine (laws_markBitsS.calls k _ _ t 1 x1 x2 w _ HB.out (SQ_lower (SQ_now (SQ_of X.out) SX.out) Q4.out) AX.out).mono ?_); rintro e w109 ⟨rfl, hx_, hb, hk⟩; refine ⟨_, rfl, ?_⟩; replace BK0 := Aside0.mk (blk_kept BK0.out hk (fun h3 => by have h4 := h3.1; have h5 := Q1.out; omega)); replace Bgs := Aside0.mk (blk_kept Bgs.out hk (fun h3 => by have h4 := h3.1; have h5 := Q2.out; omega)); replace SW := Aside0.mk (SW.out.kept hk (fun k_ h1 h2 h3 => by have h4 := h3.1; have h5 := Q3.out; omega)); replace SG := Aside0.mk (SG.out.kept hk (fun k_ h1 h2 h3 => by have h4 := h3.2; have h5 := h1.1; have h6 := R5.out; omega)); replace Bgg := Aside0.mk (blk_kept Bgg.out hk (fun h3 => by have h4 := h3.2; have h5 := U1.out; have h6 := R5.out; have h7 := R6.out; omega)); replace HB := Aside0.mk hb; clear hb hk; clear hx_ X SX) | ((with_reducible refine gate_callee (f := 45) rfl ?_); refine goesL_ (some 96) rfl rfl Try.func45 (by kernel_rfl) rfl #[.slice A5 g0.length n5, .int .i64 1] rfl gm_ ?_; (with_reducible refine (laws_markBitsS.calls k _ _ g0 1 q m2 w _ HB.out (SQ_lower (SQ_now G.out SG.out) R4.out) AM.out).mono ?_); rintro e w111 ⟨rfl, hx_, hb, hk⟩; refine ⟨_, rfl, ?_⟩; have M := Aside0.mk hx_; replace BK0 := Aside0.mk (blk_kept BK0.out hk (fun h3 => by have h4 := h3.1; have h5 := R1.out; omega)); replace Bgs := Aside0.mk (blk_kept Bgs.out hk (fun h3 => by have h4 := h3.1; have h5 := R2.out; omega)); replace SW := Aside0.mk (SW.out.kept hk (fun k_ h1 h2 h3 => by have h4 := h3.1; have h5 := R3.out; omega)); replace Bgg := Aside0.mk (blk_kept Bgg.out hk (fun h3 => by have h4 := h3.2; have h5 := U1.out; omega)); replace HB := Aside0.mk hb; clear hb hk; have SM := Aside0.mk (Same.ofQ M.out); clear hx_ G SG) | ((with_reducible refine gate_callee (f := 46) rfl ?_); refine goesL_ (some 99) rfl rfl Try.func46 (by kernel_rfl) rfl #[.slice A5 g0.length n5, .int .i64 1] rfl gm_ ?_; (with_reducible refine (laws_heldBitsS.calls2 k _ _ _ m2 1 q _ (SQ_now M.out SM.out) AQ.out).mono ?_); rintro e w112 ⟨rfl, hb⟩; refine ⟨_, rfl, ?_⟩; replace BK0 := Aside0.mk (bb BK0.out hb); replace Bgs := Aside0.mk (bb Bgs.out hb); replace SW := Aside0.mk (SW.out.below hb); replace Bgg := Aside0.mk (bb Bgg.out hb); replace SM := Aside0.mk (SM.out.below hb); replace HB := Aside0.mk (below_step jb_ hb); clear hb) | (go_at_call 44; (with_reducible refine (laws_eqBitsS.calls k _ _ g0 _ _ s0 true _ ?side1 ?side2 ?side3 ?side4 AE.out).mono ?_); (case side1 => exact (SQ_reads' (SQ_now G.out SG.out)).2.2); (case side2 => exact (SQ_reads' (SQ_now G.out SG.out)).2.1); (case side3 => exact (F_now82 WF.out SW.out)); (case side4 => exact WN.out); rintro e w110 ⟨rfl, hb⟩; replace BK0 := Aside0.mk (bb BK0.out hb); replace Bgs := Aside0.mk (bb Bgs.out hb); replace SW := Aside0.mk (SW.out.below hb); replace SG := Aside0.mk (SG.out.below hb); replace Bgg := Aside0.mk (bb Bgg.out hb); replace HB := Aside0.mk (below_step jb_ hb); clear hb; obtain ⟨hczdBgg_0, hczdBgg_1, hczdBgg_2, hczdBgg_3, hczdBgg_4, hczdBgg_5⟩ := cl6 Bgg.out; obtain ⟨hfzdBgg_0, hfzdBgg_1, hfzdBgg_2, hfzdBgg_3, hfzdBgg_4, hfzdBgg_5⟩ := fr6 Bgg.out; obtain ⟨hczdBgs_0, hczdBgs_1, hczdBgs_2, hczdBgs_3, hczdBgs_4, hczdBgs_5⟩ := cl6 Bgs.out; obtain ⟨hfzdBgs_0, hfzdBgs_1, hfzdBgs_2, hfzdBgs_3, hfzdBgs_4, hfzdBgs_5⟩ := fr6 Bgs.out) | (go_at_call 51; (with_reducible refine (laws_eqDgram.calls g1 g2 g3 g4 g5 g6 s1 s2 s3 s4 s5 s6 true _ AI.out).mono ?_); rintro e w113 ⟨rfl, hb⟩; have SX_ := SX; replace BK0 := Aside0.mk (bb BK0.out hb); replace Bgs := Aside0.mk (bb Bgs.out hb); replace SW := Aside0.mk (SW.out.below hb); replace SX := Aside0.mk (SX.out.below hb); replace SG := Aside0.mk (SG.out.below hb); replace Bgg := Aside0.mk (bb Bgg.out hb); replace HB := Aside0.mk (below_step jb_ hb); clear hb; clear SX_) | (go_at_call 51; (with_reducible refine (laws_eqDgram.calls g1 g2 g3 g4 g5 g6 s1 s2 s3 s4 s5 s6 true _ AI.out).mono ?_); rintro e w114 ⟨rfl, hb⟩; replace BK0 := Aside0.mk (bb BK0.out hb); replace Bgs := Aside0.mk (bb Bgs.out hb); replace SW := Aside0.mk (SW.out.below hb); replace SG := Aside0.mk (SG.out.below hb); replace Bgg := Aside0.mk (bb Bgg.out hb); replace HB := Aside0.mk (below_step jb_ hb); clear hb))
 replace HB := Aside0.mk (below_drew1 HB.out)
 replace BK0 := Aside0.mk (blk_drew BK0.out)
 replace Bgs := Aside0.mk (blk_drew Bgs.out)
 replace Bgg := Aside0.mk (blk_drew Bgg.out)
 replace SW := Aside0.mk (SW.out.drew)
 replace SM := Aside0.mk (SM.out.drew)
 refine start_ (n := 14) (S := fun w' => w'.cell? ⟨gb0, 0, none⟩ = some (.int .i64 a1_0) ∧ w'.cell? ⟨gb0, 1, none⟩ = some (.int .i64 a1_1) ∧ w'.cell? ⟨gb0, 2, none⟩ = some (.int .i64 a1_2) ∧ w'.cell? ⟨gb0, 3, none⟩ = some (.int .i64 a1_3) ∧ w'.cell? ⟨gb0, 4, none⟩ = some (.bool a1_4) ∧ w'.cell? ⟨gb0, 5, none⟩ = some (.string a1_5)) (ds := []) #[false, false, false, false, false, false, false, false, false, false, false, false, false, false] jk_ rfl rfl ⟨(blk_cell BK0.out 0).trans rfl, (blk_cell BK0.out 1).trans rfl, (blk_cell BK0.out 2).trans rfl, (blk_cell BK0.out 3).trans rfl, (blk_cell BK0.out 4).trans rfl, (blk_cell BK0.out 5).trans rfl⟩ (fun hHeld => ?_); refine with_tabW laws_FnExactJoinBits.tab27 laws_FnExactJoinBits.bits (fun HT_ HW_ => ?_)
 generalize w112.drew = wS27 at HB BK0 Bgs Bgg SW SM hHeld ⊢
 have HZ := Aside0.mk (Below.refl wS27.heap.size wS27)
 refine pu_ 0 106 HT_ ?_
 refine pu_ 4 110 HT_ ?_
 refine ta_ 2 108 HT_ HW_ hHeld ?_
 refine join_ (σ := Value × Value × Nat) 3 #[true, true, true, true, true, true, true, true, true, true, true, false, false, false] (fun s_ => [(107, s_.1), (109, .agg #[.int .i64 d1, .int .i64 d2, .int .i64 d3, .int .i64 d4, .bool d5, .string d6]), (111, .tuple #[s_.2.1, .agg #[.int .i64 g1, .int .i64 g2, .int .i64 g3, .int .i64 g4, .bool g5, .string g6], .bool g7]), (19, .pointer (some ⟨s_.2.2, 0, none⟩)), (105, .tuple #[s_.2.1, .agg #[.int .i64 g1, .int .i64 g2, .int .i64 g3, .int .i64 g4, .bool g5, .string g6], .bool g7]), (112, s_.2.1), (113, .agg #[.int .i64 g1, .int .i64 g2, .int .i64 g3, .int .i64 g4, .bool g5, .string g6]), (114, .bool g7)]) (fun s_ w' => (w'.cell? ⟨gb0, 0, none⟩ = some (.int .i64 a1_0) ∧ w'.cell? ⟨gb0, 1, none⟩ = some (.int .i64 a1_1) ∧ w'.cell? ⟨gb0, 2, none⟩ = some (.int .i64 a1_2) ∧ w'.cell? ⟨gb0, 3, none⟩ = some (.int .i64 a1_3) ∧ w'.cell? ⟨gb0, 4, none⟩ = some (.bool a1_4) ∧ w'.cell? ⟨gb0, 5, none⟩ = some (.string a1_5)) ∧ (SQ k82 82 w' wS27.heap.size (fun k_ => k_ ≠ s_.2.2) s_.2.1 g0) ∧ (w'.heap[s_.2.2]? = some (.cells #[.int .i64 0, .int .i64 0, .int .i64 0, .int .i64 0, .bool false, .string (⟨#[]⟩ : ByteArray)] 62 (0, 0))) ∧ (wS27.heap.size ≤ s_.2.2) ∧ (Below wS27.heap.size wS27 w')) ?_ ?_
 rotate_left
 ·intro hCont
  refine two_ (i := 1) (j := 10) (Ni := some 107) (Nj := some 19) #[true, true, true, false, true, false, false, false, false, false, false, false, false, false] #[true, false, true, false, true, false, false, false, false, false, true, false, false, false] rfl rfl rfl rfl (two_of HT_.out jk_) (by decide) (by decide) (fun K hK => ?_) (fun K hK => ?_)
  ·skip
   refine goes_ Try.func42 jk_ rfl #[.slice A0 l0.length c0] (by rfl) rfl rfl gm_ ?_
   with_reducible refine (laws_toBitsS.calls k _ _ l0 t _ ?side1 ?side2 AT.out).mono ?_
   (case side1 => exact (Kd.C_below (Kd.C_below HR0.out HB.out) jz_))
   (case side2 => exact HC0.out)
   rintro e w24 ⟨vT, rfl, ho0, hb⟩
   refine ⟨_, rfl, ?_⟩
   obtain ⟨Ax, nx, rfl⟩ := Kd.S_slice ho0
   have TC := Aside0.mk (Kd.S_reads' ho0).2.2
   have TL := Aside0.mk (Kd.S_reads' ho0).2.1
   replace BK0 := Aside0.mk (bb BK0.out hb)
   replace HZ := Aside0.mk (below_step jz_ hb)
   clear hb ho0
   refine hK.out _ _ ⟨(blk_cell BK0.out 0).trans rfl, (blk_cell BK0.out 1).trans rfl, (blk_cell BK0.out 2).trans rfl, (blk_cell BK0.out 3).trans rfl, (blk_cell BK0.out 4).trans rfl, (blk_cell BK0.out 5).trans rfl⟩ (fun hHeld => ?_)
   clear hK K
   refine norm_ (a' := ?_) ?_ ?_
   rotate_left
   ·show Act.put _ (some 107) _ = _
    simp only [Act.put, List.setIfInBounds_toArray, List.set_cons_zero, List.set_cons_succ, i64_w, i32_w]
    rfl
   refine two_ (i := 3) (j := 10) (Ni := some 109) (Nj := some 19) #[true, true, true, true, true, false, false, false, false, false, false, false, false, false] #[true, true, true, false, true, false, false, false, false, false, true, false, false, false] rfl rfl rfl rfl (two_of HT_.out jk_) (by decide) (by decide) (fun K hK => ?_) (fun K hK => ?_)
   ·skip
    refine goes_ Try.func50 jk_ rfl #[.agg #[.int .i64 a1_0, .int .i64 a1_1, .int .i64 a1_2, .int .i64 a1_3, .bool a1_4, .string a1_5]] (by rfl) rfl rfl gm_ ?_
    with_reducible refine (laws_toDgram.calls a1_0 a1_1 a1_2 a1_3 a1_4 a1_5 d1 d2 d3 d4 d5 d6 _ AD.out).mono ?_
    rintro e w25 ⟨rfl, hb⟩
    refine ⟨_, rfl, ?_⟩
    replace BK0 := Aside0.mk (bb BK0.out hb)
    replace TC := Aside0.mk (Kd.C_below jt_ hb)
    replace HZ := Aside0.mk (below_step jz_ hb)
    clear hb
    refine hK.out _ _ ⟨(blk_cell BK0.out 0).trans rfl, (blk_cell BK0.out 1).trans rfl, (blk_cell BK0.out 2).trans rfl, (blk_cell BK0.out 3).trans rfl, (blk_cell BK0.out 4).trans rfl, (blk_cell BK0.out 5).trans rfl⟩ (fun hHeld => ?_)
    clear hK K
    refine norm_ (a' := ?_) ?_ ?_
    rotate_left
    ·show Act.put _ (some 109) _ = _
     simp only [Act.put, List.setIfInBounds_toArray, List.set_cons_zero, List.set_cons_succ, i64_w, i32_w]
     rfl
    refine two_ (i := 5) (j := 10) (Ni := some 111) (Nj := some 19) #[true, true, true, true, true, true, false, false, false, false, false, false, false, false] #[true, true, true, true, true, false, false, false, false, false, true, false, false, false] rfl rfl rfl rfl (two_of HT_.out jk_) (by decide) (by decide) (fun K hK => ?_) (fun K hK => ?_)
    ·skip
     refine goes_ Try.func39 jk_ rfl #[.slice Ax t.length nx, .agg #[.int .i64 d1, .int .i64 d2, .int .i64 d3, .int .i64 d4, .bool d5, .string d6], .int .i64 a2] (by rfl) rfl rfl gm_ ?_
     with_reducible refine (impl_JoinBits.calls k _ _ t d1 d2 d3 d4 d5 d6 a2 g0 g1 g2 g3 g4 g5 g6 g7 _ ?side1 ?side2 AG.out).mono ?_
     (case side1 => exact jt_)
     (case side2 => exact TL.out)
     rintro e w26 ⟨vJ, rfl, ho0, hb⟩
     refine ⟨_, rfl, ?_⟩
     have HH := Aside0.mk (SQ_lower (rng_SQ ho0) (below_size HZ.out))
     replace BK0 := Aside0.mk (bb BK0.out hb)
     replace TC := Aside0.mk (Kd.C_below jt_ hb)
     replace HZ := Aside0.mk (below_step jz_ hb)
     clear hb ho0
     refine hK.out _ _ ⟨(blk_cell BK0.out 0).trans rfl, (blk_cell BK0.out 1).trans rfl, (blk_cell BK0.out 2).trans rfl, (blk_cell BK0.out 3).trans rfl, (blk_cell BK0.out 4).trans rfl, (blk_cell BK0.out 5).trans rfl⟩ (fun hHeld => ?_)
     clear hK K
     refine norm_ (a' := ?_) ?_ ?_
     rotate_left
     ·show Act.put _ (some 111) _ = _
      simp only [Act.put, List.setIfInBounds_toArray, List.set_cons_zero, List.set_cons_succ, i64_w, i32_w]
      rfl
     refine pu_ 6 105 HT_ ?_
     refine pu_ 7 112 HT_ ?_
     refine pu_ 8 113 HT_ ?_
     refine pu_ 9 114 HT_ ?_
     refine one_ (i := 10) (N := some 19) #[true, true, true, true, true, true, true, true, true, true, true, false, false, false] rfl rfl (one_of HT_.out jk_) (by decide) (fun K hK => ?_)
     refine box_step ?hg (N := 19) ?hd (cs := #[.int .i64 0, .int .i64 0, .int .i64 0, .int .i64 0, .bool false, .string (⟨#[]⟩ : ByteArray)]) (t := 62) ?hr ?_; (case hd => rfl); (case hg => rfl); (case hr => exact jr_)
     intro gX hg w27 hbox hb
     have BX := Aside0.mk hbox
     have GX := Aside0.mk (bs hg (below_size HZ.out))
     have GL := Aside0.mk (Nat.le_of_eq hg.symm)
     replace HH := Aside0.mk (SQ_mono HH.out (fun k_ hk => Nat.ne_of_lt (Nat.lt_of_lt_of_le hk.2 GL.out)))
     replace BK0 := Aside0.mk (bb BK0.out hb)
     replace TC := Aside0.mk (Kd.C_below jt_ hb)
     replace HH := Aside0.mk (SQ_step HH.out (fun k_ _ h_ => hb.block k_ h_))
     replace HZ := Aside0.mk (below_step jz_ hb)
     clear hb hbox hg
     refine hK.out _ _ ⟨(blk_cell BK0.out 0).trans rfl, (blk_cell BK0.out 1).trans rfl, (blk_cell BK0.out 2).trans rfl, (blk_cell BK0.out 3).trans rfl, (blk_cell BK0.out 4).trans rfl, (blk_cell BK0.out 5).trans rfl⟩ (fun hHeld => ?_)
     clear hK K
     refine norm_ (a' := ?_) ?_ ?_
     rotate_left
     ·show Act.put _ (some 19) _ = _
      simp only [Act.put, List.setIfInBounds_toArray, List.set_cons_zero, List.set_cons_succ, i64_w, i32_w]
      rfl
     exact norm_ jp_ (hCont (.slice Ax t.length nx, vJ, gX) _ ⟨hHeld, HH.out, BX.out, GX.out, HZ.out⟩)
    ·skip
     refine box_step ?hg (N := 19) ?hd (cs := #[.int .i64 0, .int .i64 0, .int .i64 0, .int .i64 0, .bool false, .string (⟨#[]⟩ : ByteArray)]) (t := 62) ?hr ?_; (case hd => rfl); (case hg => rfl); (case hr => exact jr_)
     intro gX hg w28 hbox hb
     have BX := Aside0.mk hbox
     have GX := Aside0.mk (bs hg (below_size HZ.out))
     replace BK0 := Aside0.mk (bb BK0.out hb)
     replace TC := Aside0.mk (Kd.C_below jt_ hb)
     replace HZ := Aside0.mk (below_step jz_ hb)
     clear hb hbox hg
     refine hK.out _ _ ⟨(blk_cell BK0.out 0).trans rfl, (blk_cell BK0.out 1).trans rfl, (blk_cell BK0.out 2).trans rfl, (blk_cell BK0.out 3).trans rfl, (blk_cell BK0.out 4).trans rfl, (blk_cell BK0.out 5).trans rfl⟩ (fun hHeld => ?_)
     clear hK K
     refine norm_ (a' := ?_) ?_ ?_
     rotate_left
     ·show Act.put _ (some 19) _ = _
      simp only [Act.put, List.setIfInBounds_toArray, List.set_cons_zero, List.set_cons_succ, i64_w, i32_w]
      rfl
     refine one_ (i := 5) (N := some 111) #[true, true, true, true, true, true, false, false, false, false, true, false, false, false] rfl rfl (one_of HT_.out jk_) (by decide) (fun K hK => ?_)
     refine goes_ Try.func39 jk_ rfl #[.slice Ax t.length nx, .agg #[.int .i64 d1, .int .i64 d2, .int .i64 d3, .int .i64 d4, .bool d5, .string d6], .int .i64 a2] (by rfl) rfl rfl gm_ ?_
     with_reducible refine (impl_JoinBits.calls k _ _ t d1 d2 d3 d4 d5 d6 a2 g0 g1 g2 g3 g4 g5 g6 g7 _ ?side1 ?side2 AG.out).mono ?_
     (case side1 => exact jt_)
     (case side2 => exact TL.out)
     rintro e w29 ⟨vJ, rfl, ho0, hb⟩
     refine ⟨_, rfl, ?_⟩
     have HH := Aside0.mk (SQ_lower (rng_SQ ho0) (below_size HZ.out))
     have GL := Aside0.mk (blk_lt BX.out)
     replace HH := Aside0.mk (SQ_mono HH.out (fun k_ hk => Nat.ne_of_gt (Nat.lt_of_lt_of_le GL.out hk.1)))
     replace BK0 := Aside0.mk (bb BK0.out hb)
     replace BX := Aside0.mk (bb BX.out hb)
     replace TC := Aside0.mk (Kd.C_below jt_ hb)
     replace HZ := Aside0.mk (below_step jz_ hb)
     clear hb ho0
     refine hK.out _ _ ⟨(blk_cell BK0.out 0).trans rfl, (blk_cell BK0.out 1).trans rfl, (blk_cell BK0.out 2).trans rfl, (blk_cell BK0.out 3).trans rfl, (blk_cell BK0.out 4).trans rfl, (blk_cell BK0.out 5).trans rfl⟩ (fun hHeld => ?_)
     clear hK K
     refine norm_ (a' := ?_) ?_ ?_
     rotate_left
     ·show Act.put _ (some 111) _ = _
      simp only [Act.put, List.setIfInBounds_toArray, List.set_cons_zero, List.set_cons_succ, i64_w, i32_w]
      rfl
     refine pu_ 6 105 HT_ ?_
     refine pu_ 7 112 HT_ ?_
     refine pu_ 8 113 HT_ ?_
     refine pu_ 9 114 HT_ ?_
     exact norm_ jp_ (hCont (.slice Ax t.length nx, vJ, gX) _ ⟨hHeld, HH.out, BX.out, GX.out, HZ.out⟩)
   ·skip
    refine box_step ?hg (N := 19) ?hd (cs := #[.int .i64 0, .int .i64 0, .int .i64 0, .int .i64 0, .bool false, .string (⟨#[]⟩ : ByteArray)]) (t := 62) ?hr ?_; (case hd => rfl); (case hg => rfl); (case hr => exact jr_)
    intro gX hg w30 hbox hb
    have BX := Aside0.mk hbox
    have GX := Aside0.mk (bs hg (below_size HZ.out))
    replace BK0 := Aside0.mk (bb BK0.out hb)
    replace TC := Aside0.mk (Kd.C_below jt_ hb)
    replace HZ := Aside0.mk (below_step jz_ hb)
    clear hb hbox hg
    refine hK.out _ _ ⟨(blk_cell BK0.out 0).trans rfl, (blk_cell BK0.out 1).trans rfl, (blk_cell BK0.out 2).trans rfl, (blk_cell BK0.out 3).trans rfl, (blk_cell BK0.out 4).trans rfl, (blk_cell BK0.out 5).trans rfl⟩ (fun hHeld => ?_)
    clear hK K
    refine norm_ (a' := ?_) ?_ ?_
    rotate_left
    ·show Act.put _ (some 19) _ = _
     simp only [Act.put, List.setIfInBounds_toArray, List.set_cons_zero, List.set_cons_succ, i64_w, i32_w]
     rfl
    refine one_ (i := 3) (N := some 109) #[true, true, true, true, true, false, false, false, false, false, true, false, false, false] rfl rfl (one_of HT_.out jk_) (by decide) (fun K hK => ?_)
    refine goes_ Try.func50 jk_ rfl #[.agg #[.int .i64 a1_0, .int .i64 a1_1, .int .i64 a1_2, .int .i64 a1_3, .bool a1_4, .string a1_5]] (by rfl) rfl rfl gm_ ?_
    with_reducible refine (laws_toDgram.calls a1_0 a1_1 a1_2 a1_3 a1_4 a1_5 d1 d2 d3 d4 d5 d6 _ AD.out).mono ?_
    rintro e w31 ⟨rfl, hb⟩
    refine ⟨_, rfl, ?_⟩
    replace BK0 := Aside0.mk (bb BK0.out hb)
    replace BX := Aside0.mk (bb BX.out hb)
    replace TC := Aside0.mk (Kd.C_below jt_ hb)
    replace HZ := Aside0.mk (below_step jz_ hb)
    clear hb
    refine hK.out _ _ ⟨(blk_cell BK0.out 0).trans rfl, (blk_cell BK0.out 1).trans rfl, (blk_cell BK0.out 2).trans rfl, (blk_cell BK0.out 3).trans rfl, (blk_cell BK0.out 4).trans rfl, (blk_cell BK0.out 5).trans rfl⟩ (fun hHeld => ?_)
    clear hK K
    refine norm_ (a' := ?_) ?_ ?_
    rotate_left
    ·show Act.put _ (some 109) _ = _
     simp only [Act.put, List.setIfInBounds_toArray, List.set_cons_zero, List.set_cons_succ, i64_w, i32_w]
     rfl
    refine one_ (i := 5) (N := some 111) #[true, true, true, true, true, true, false, false, false, false, true, false, false, false] rfl rfl (one_of HT_.out jk_) (by decide) (fun K hK => ?_)
    refine goes_ Try.func39 jk_ rfl #[.slice Ax t.length nx, .agg #[.int .i64 d1, .int .i64 d2, .int .i64 d3, .int .i64 d4, .bool d5, .string d6], .int .i64 a2] (by rfl) rfl rfl gm_ ?_
    with_reducible refine (impl_JoinBits.calls k _ _ t d1 d2 d3 d4 d5 d6 a2 g0 g1 g2 g3 g4 g5 g6 g7 _ ?side1 ?side2 AG.out).mono ?_
    (case side1 => exact jt_)
    (case side2 => exact TL.out)
    rintro e w32 ⟨vJ, rfl, ho0, hb⟩
    refine ⟨_, rfl, ?_⟩
    have HH := Aside0.mk (SQ_lower (rng_SQ ho0) (below_size HZ.out))
    have GL := Aside0.mk (blk_lt BX.out)
    replace HH := Aside0.mk (SQ_mono HH.out (fun k_ hk => Nat.ne_of_gt (Nat.lt_of_lt_of_le GL.out hk.1)))
    replace BK0 := Aside0.mk (bb BK0.out hb)
    replace BX := Aside0.mk (bb BX.out hb)
    replace TC := Aside0.mk (Kd.C_below jt_ hb)
    replace HZ := Aside0.mk (below_step jz_ hb)
    clear hb ho0
    refine hK.out _ _ ⟨(blk_cell BK0.out 0).trans rfl, (blk_cell BK0.out 1).trans rfl, (blk_cell BK0.out 2).trans rfl, (blk_cell BK0.out 3).trans rfl, (blk_cell BK0.out 4).trans rfl, (blk_cell BK0.out 5).trans rfl⟩ (fun hHeld => ?_)
    clear hK K
    refine norm_ (a' := ?_) ?_ ?_
    rotate_left
    ·show Act.put _ (some 111) _ = _
     simp only [Act.put, List.setIfInBounds_toArray, List.set_cons_zero, List.set_cons_succ, i64_w, i32_w]
     rfl
    refine pu_ 6 105 HT_ ?_
    refine pu_ 7 112 HT_ ?_
    refine pu_ 8 113 HT_ ?_
    refine pu_ 9 114 HT_ ?_
    exact norm_ jp_ (hCont (.slice Ax t.length nx, vJ, gX) _ ⟨hHeld, HH.out, BX.out, GX.out, HZ.out⟩)
  ·skip
   refine box_step ?hg (N := 19) ?hd (cs := #[.int .i64 0, .int .i64 0, .int .i64 0, .int .i64 0, .bool false, .string (⟨#[]⟩ : ByteArray)]) (t := 62) ?hr ?_; (case hd => rfl); (case hg => rfl); (case hr => exact jr_)
   intro gX hg w33 hbox hb
   have BX := Aside0.mk hbox
   have GX := Aside0.mk (bs hg (below_size HZ.out))
   replace BK0 := Aside0.mk (bb BK0.out hb)
   replace HZ := Aside0.mk (below_step jz_ hb)
   clear hb hbox hg
   refine hK.out _ _ ⟨(blk_cell BK0.out 0).trans rfl, (blk_cell BK0.out 1).trans rfl, (blk_cell BK0.out 2).trans rfl, (blk_cell BK0.out 3).trans rfl, (blk_cell BK0.out 4).trans rfl, (blk_cell BK0.out 5).trans rfl⟩ (fun hHeld => ?_)
   clear hK K
   refine norm_ (a' := ?_) ?_ ?_
   rotate_left
   ·show Act.put _ (some 19) _ = _
    simp only [Act.put, List.setIfInBounds_toArray, List.set_cons_zero, List.set_cons_succ, i64_w, i32_w]
    rfl
   refine one_ (i := 1) (N := some 107) #[true, true, true, false, true, false, false, false, false, false, true, false, false, false] rfl rfl (one_of HT_.out jk_) (by decide) (fun K hK => ?_)
   refine goes_ Try.func42 jk_ rfl #[.slice A0 l0.length c0] (by rfl) rfl rfl gm_ ?_
   with_reducible refine (laws_toBitsS.calls k _ _ l0 t _ ?side1 ?side2 AT.out).mono ?_
   (case side1 => exact (Kd.C_below (Kd.C_below HR0.out HB.out) jz_))
   (case side2 => exact HC0.out)
   rintro e w34 ⟨vT, rfl, ho0, hb⟩
   refine ⟨_, rfl, ?_⟩
   obtain ⟨Ax, nx, rfl⟩ := Kd.S_slice ho0
   have TC := Aside0.mk (Kd.S_reads' ho0).2.2
   have TL := Aside0.mk (Kd.S_reads' ho0).2.1
   replace BK0 := Aside0.mk (bb BK0.out hb)
   replace BX := Aside0.mk (bb BX.out hb)
   replace HZ := Aside0.mk (below_step jz_ hb)
   clear hb ho0
   refine hK.out _ _ ⟨(blk_cell BK0.out 0).trans rfl, (blk_cell BK0.out 1).trans rfl, (blk_cell BK0.out 2).trans rfl, (blk_cell BK0.out 3).trans rfl, (blk_cell BK0.out 4).trans rfl, (blk_cell BK0.out 5).trans rfl⟩ (fun hHeld => ?_)
   clear hK K
   refine norm_ (a' := ?_) ?_ ?_
   rotate_left
   ·show Act.put _ (some 107) _ = _
    simp only [Act.put, List.setIfInBounds_toArray, List.set_cons_zero, List.set_cons_succ, i64_w, i32_w]
    rfl
   refine one_ (i := 3) (N := some 109) #[true, true, true, true, true, false, false, false, false, false, true, false, false, false] rfl rfl (one_of HT_.out jk_) (by decide) (fun K hK => ?_)
   refine goes_ Try.func50 jk_ rfl #[.agg #[.int .i64 a1_0, .int .i64 a1_1, .int .i64 a1_2, .int .i64 a1_3, .bool a1_4, .string a1_5]] (by rfl) rfl rfl gm_ ?_
   with_reducible refine (laws_toDgram.calls a1_0 a1_1 a1_2 a1_3 a1_4 a1_5 d1 d2 d3 d4 d5 d6 _ AD.out).mono ?_
   rintro e w35 ⟨rfl, hb⟩
   refine ⟨_, rfl, ?_⟩
   replace BK0 := Aside0.mk (bb BK0.out hb)
   replace BX := Aside0.mk (bb BX.out hb)
   replace TC := Aside0.mk (Kd.C_below jt_ hb)
   replace HZ := Aside0.mk (below_step jz_ hb)
   clear hb
   refine hK.out _ _ ⟨(blk_cell BK0.out 0).trans rfl, (blk_cell BK0.out 1).trans rfl, (blk_cell BK0.out 2).trans rfl, (blk_cell BK0.out 3).trans rfl, (blk_cell BK0.out 4).trans rfl, (blk_cell BK0.out 5).trans rfl⟩ (fun hHeld => ?_)
   clear hK K
   refine norm_ (a' := ?_) ?_ ?_
   rotate_left
   ·show Act.put _ (some 109) _ = _
    simp only [Act.put, List.setIfInBounds_toArray, List.set_cons_zero, List.set_cons_succ, i64_w, i32_w]
    rfl
   refine one_ (i := 5) (N := some 111) #[true, true, true, true, true, true, false, false, false, false, true, false, false, false] rfl rfl (one_of HT_.out jk_) (by decide) (fun K hK => ?_)
   refine goes_ Try.func39 jk_ rfl #[.slice Ax t.length nx, .agg #[.int .i64 d1, .int .i64 d2, .int .i64 d3, .int .i64 d4, .bool d5, .string d6], .int .i64 a2] (by rfl) rfl rfl gm_ ?_
   with_reducible refine (impl_JoinBits.calls k _ _ t d1 d2 d3 d4 d5 d6 a2 g0 g1 g2 g3 g4 g5 g6 g7 _ ?side1 ?side2 AG.out).mono ?_
   (case side1 => exact jt_)
   (case side2 => exact TL.out)
   rintro e w36 ⟨vJ, rfl, ho0, hb⟩
   refine ⟨_, rfl, ?_⟩
   have HH := Aside0.mk (SQ_lower (rng_SQ ho0) (below_size HZ.out))
   have GL := Aside0.mk (blk_lt BX.out)
   replace HH := Aside0.mk (SQ_mono HH.out (fun k_ hk => Nat.ne_of_gt (Nat.lt_of_lt_of_le GL.out hk.1)))
   replace BK0 := Aside0.mk (bb BK0.out hb)
   replace BX := Aside0.mk (bb BX.out hb)
   replace TC := Aside0.mk (Kd.C_below jt_ hb)
   replace HZ := Aside0.mk (below_step jz_ hb)
   clear hb ho0
   refine hK.out _ _ ⟨(blk_cell BK0.out 0).trans rfl, (blk_cell BK0.out 1).trans rfl, (blk_cell BK0.out 2).trans rfl, (blk_cell BK0.out 3).trans rfl, (blk_cell BK0.out 4).trans rfl, (blk_cell BK0.out 5).trans rfl⟩ (fun hHeld => ?_)
   clear hK K
   refine norm_ (a' := ?_) ?_ ?_
   rotate_left
   ·show Act.put _ (some 111) _ = _
    simp only [Act.put, List.setIfInBounds_toArray, List.set_cons_zero, List.set_cons_succ, i64_w, i32_w]
    rfl
   refine pu_ 6 105 HT_ ?_
   refine pu_ 7 112 HT_ ?_
   refine pu_ 8 113 HT_ ?_
   refine pu_ 9 114 HT_ ?_
   exact norm_ jp_ (hCont (.slice Ax t.length nx, vJ, gX) _ ⟨hHeld, HH.out, BX.out, GX.out, HZ.out⟩)
 rintro ⟨vT, vJ, gh⟩ wJ27 ⟨hS_, h0_, h1_, h2_, h3_⟩
 have HH : Aside0 (SQ k82 82 wJ27 wS27.heap.size (fun k_ => k_ ≠ gh) vJ g0) := ⟨h0_⟩
 have Bgh : Aside0 (wJ27.heap[gh]? = some (.cells #[.int .i64 0, .int .i64 0, .int .i64 0, .int .i64 0, .bool false, .string (⟨#[]⟩ : ByteArray)] 62 (0, 0))) := ⟨h1_⟩
 have GEgh : Aside0 (wS27.heap.size ≤ gh) := ⟨h2_⟩
 replace HZ : Aside0 (Below wS27.heap.size wS27 wJ27) := ⟨h3_⟩
 clear h0_ h1_ h2_ h3_
 have Ngb0_gh : gb0 ≠ gh := by have h4_ := blk_lt BK0.out; have h5_ := GEgh.out; omega
 have Ngh_gb0 : gh ≠ gb0 := Ngb0_gh.symm
 have Ngs_gh : gs ≠ gh := by have h4_ := blk_lt Bgs.out; have h5_ := GEgh.out; omega
 have Ngh_gs : gh ≠ gs := Ngs_gh.symm
 have Ngg_gh : gg ≠ gh := by have h4_ := blk_lt Bgg.out; have h5_ := GEgh.out; omega
 have Ngh_gg : gh ≠ gg := Ngg_gh.symm
 have GWgh := Aside0.mk (Nat.le_trans (below_size HB.out) GEgh.out)
 have hHeld : wJ27.cell? ⟨gb0, 0, none⟩ = some (.int .i64 a1_0) ∧ wJ27.cell? ⟨gb0, 1, none⟩ = some (.int .i64 a1_1) ∧ wJ27.cell? ⟨gb0, 2, none⟩ = some (.int .i64 a1_2) ∧ wJ27.cell? ⟨gb0, 3, none⟩ = some (.int .i64 a1_3) ∧ wJ27.cell? ⟨gb0, 4, none⟩ = some (.bool a1_4) ∧ wJ27.cell? ⟨gb0, 5, none⟩ = some (.string a1_5) := hS_
 refine norm_ (a' := ?_) ?_ ?_
 rotate_left
 ·simp only [putAll, Act.put, List.setIfInBounds_toArray, List.set_cons_zero, List.set_cons_succ]
  rfl
 refine pu_ 11 18 HT_ ?_
 refine one_ (i := 12) (N := none) #[true, true, true, true, true, true, true, true, true, true, true, true, true, false] rfl rfl (one_of HT_.out jk_) (by decide) (fun K hK => ?_)
 obtain ⟨hs_0, hs_1, hs_2, hs_3, hs_4, hs_5⟩ := cl6 Bgh.out
 obtain ⟨hf_0, hf_1, hf_2, hf_3, hf_4, hf_5⟩ := fr6 Bgh.out
 refine skip_ (w1 := ?_) (by rfl) rfl ?_ ?_
 rotate_left
 ·go_simp
  rfl
 clear hs_0 hs_1 hs_2 hs_3 hs_4 hs_5 hf_0 hf_1 hf_2 hf_3 hf_4 hf_5
 replace BK0 : Aside0 ((((((((wJ27.setCell ⟨gh, 0, none⟩ (.int .i64 g1)).setCell ⟨gh, 1, none⟩ (.int .i64 g2)).setCell ⟨gh, 2, none⟩ (.int .i64 g3)).setCell ⟨gh, 3, none⟩ (.int .i64 g4)).setCell ⟨gh, 4, none⟩ (.bool g5)).setCell ⟨gh, 5, none⟩ (.string g6))).heap[gb0]? = some (.cells #[.int .i64 a1_0, .int .i64 a1_1, .int .i64 a1_2, .int .i64 a1_3, .bool a1_4, .string a1_5] 83 (0, 0))) := ⟨six_far (bb BK0.out HZ.out) Ngb0_gh⟩
 replace Bgs : Aside0 ((((((((wJ27.setCell ⟨gh, 0, none⟩ (.int .i64 g1)).setCell ⟨gh, 1, none⟩ (.int .i64 g2)).setCell ⟨gh, 2, none⟩ (.int .i64 g3)).setCell ⟨gh, 3, none⟩ (.int .i64 g4)).setCell ⟨gh, 4, none⟩ (.bool g5)).setCell ⟨gh, 5, none⟩ (.string g6))).heap[gs]? = some (.cells #[.int .i64 s1, .int .i64 s2, .int .i64 s3, .int .i64 s4, .bool s5, .string s6] 62 (0, 0))) := ⟨six_far (bb Bgs.out HZ.out) Ngs_gh⟩
 replace Bgg : Aside0 ((((((((wJ27.setCell ⟨gh, 0, none⟩ (.int .i64 g1)).setCell ⟨gh, 1, none⟩ (.int .i64 g2)).setCell ⟨gh, 2, none⟩ (.int .i64 g3)).setCell ⟨gh, 3, none⟩ (.int .i64 g4)).setCell ⟨gh, 4, none⟩ (.bool g5)).setCell ⟨gh, 5, none⟩ (.string g6))).heap[gg]? = some (.cells #[.int .i64 g1, .int .i64 g2, .int .i64 g3, .int .i64 g4, .bool g5, .string g6] 62 (0, 0))) := ⟨six_far (bb Bgg.out HZ.out) Ngg_gh⟩
 replace Bgh : Aside0 ((((((((wJ27.setCell ⟨gh, 0, none⟩ (.int .i64 g1)).setCell ⟨gh, 1, none⟩ (.int .i64 g2)).setCell ⟨gh, 2, none⟩ (.int .i64 g3)).setCell ⟨gh, 3, none⟩ (.int .i64 g4)).setCell ⟨gh, 4, none⟩ (.bool g5)).setCell ⟨gh, 5, none⟩ (.string g6))).heap[gh]? = some (.cells #[.int .i64 g1, .int .i64 g2, .int .i64 g3, .int .i64 g4, .bool g5, .string g6] 62 (0, 0))) := ⟨six_own Bgh.out⟩
 replace SW := Aside0.mk (show Same _ _ ((((((wJ27.setCell ⟨gh, 0, none⟩ (.int .i64 g1)).setCell ⟨gh, 1, none⟩ (.int .i64 g2)).setCell ⟨gh, 2, none⟩ (.int .i64 g3)).setCell ⟨gh, 3, none⟩ (.int .i64 g4)).setCell ⟨gh, 4, none⟩ (.bool g5)).setCell ⟨gh, 5, none⟩ (.string g6)) from six_same (SW.out.below HZ.out) (fun k_ h1_ h2_ => by have h3_ := GEgh.out; have h4_ := SW.out.1; omega))
 replace SM := Aside0.mk (show Same _ _ ((((((wJ27.setCell ⟨gh, 0, none⟩ (.int .i64 g1)).setCell ⟨gh, 1, none⟩ (.int .i64 g2)).setCell ⟨gh, 2, none⟩ (.int .i64 g3)).setCell ⟨gh, 3, none⟩ (.int .i64 g4)).setCell ⟨gh, 4, none⟩ (.bool g5)).setCell ⟨gh, 5, none⟩ (.string g6)) from six_same (SM.out.below HZ.out) (fun k_ h1_ h2_ => by have h3_ := GEgh.out; have h4_ := SM.out.1; omega))
 replace HB := Aside0.mk (show Below w.heap.size w ((((((wJ27.setCell ⟨gh, 0, none⟩ (.int .i64 g1)).setCell ⟨gh, 1, none⟩ (.int .i64 g2)).setCell ⟨gh, 2, none⟩ (.int .i64 g3)).setCell ⟨gh, 3, none⟩ (.int .i64 g4)).setCell ⟨gh, 4, none⟩ (.bool g5)).setCell ⟨gh, 5, none⟩ (.string g6)) from six_below (below_step HB.out HZ.out) GWgh.out)
 obtain ⟨A9, n9, hv9⟩ := SQ_slice HH.out
 subst hv9
 have SH := Aside0.mk (show Same (fun k_ => k_ ≠ gh) wJ27 ((((((wJ27.setCell ⟨gh, 0, none⟩ (.int .i64 g1)).setCell ⟨gh, 1, none⟩ (.int .i64 g2)).setCell ⟨gh, 2, none⟩ (.int .i64 g3)).setCell ⟨gh, 3, none⟩ (.int .i64 g4)).setCell ⟨gh, 4, none⟩ (.bool g5)).setCell ⟨gh, 5, none⟩ (.string g6)) from six_same (Same.refl _ _) (fun k_ h1_ _ => h1_))
 clear hn1_ hn2_
 clear HZ
 refine hK.out _ _ ⟨(blk_cell BK0.out 0).trans rfl, (blk_cell BK0.out 1).trans rfl, (blk_cell BK0.out 2).trans rfl, (blk_cell BK0.out 3).trans rfl, (blk_cell BK0.out 4).trans rfl, (blk_cell BK0.out 5).trans rfl⟩ (fun hHeld => ?_)
 clear hK K
 refine pu_ 13 20 HT_ ?_
 refine done_ (done_of HT_.out jk_) ?_
 go_wp2_with (first | ((with_reducible refine gate_callee (f := 44) rfl ?_); refine goesL_ (some 117) rfl rfl Try.func44 (by kernel_rfl) rfl #[.slice A9 g0.length n9, .slice A3 s0.length n3] rfl gm_ ?_; (with_reducible refine (laws_eqBitsS.calls k _ _ g0 _ _ s0 true _ ?side1 ?side2 ?side3 ?side4 AE.out).mono ?_); (case side1 => exact (SQ_reads' (SQ_now HH.out SH.out)).2.2); (case side2 => exact (SQ_reads' (SQ_now HH.out SH.out)).2.1); (case side3 => exact (F_now82 WF.out SW.out)); (case side4 => exact WN.out); rintro e w120 ⟨rfl, hb⟩; refine ⟨_, rfl, ?_⟩; replace BK0 := Aside0.mk (bb BK0.out hb); replace Bgs := Aside0.mk (bb Bgs.out hb); replace Bgg := Aside0.mk (bb Bgg.out hb); replace Bgh := Aside0.mk (bb Bgh.out hb); replace SW := Aside0.mk (SW.out.below hb); replace SM := Aside0.mk (SM.out.below hb); replace SH := Aside0.mk (SH.out.below hb); replace HB := Aside0.mk (below_step jb_ hb); clear hb; obtain ⟨hczeBgh_0, hczeBgh_1, hczeBgh_2, hczeBgh_3, hczeBgh_4, hczeBgh_5⟩ := cl6 Bgh.out; obtain ⟨hfzeBgh_0, hfzeBgh_1, hfzeBgh_2, hfzeBgh_3, hfzeBgh_4, hfzeBgh_5⟩ := fr6 Bgh.out; obtain ⟨hczeBgs_0, hczeBgs_1, hczeBgs_2, hczeBgs_3, hczeBgs_4, hczeBgs_5⟩ := cl6 Bgs.out; obtain ⟨hfzeBgs_0, hfzeBgs_1, hfzeBgs_2, hfzeBgs_3, hfzeBgs_4, hfzeBgs_5⟩ := fr6 Bgs.out) | (go_at_call 51; (with_reducible refine (laws_eqDgram.calls g1 g2 g3 g4 g5 g6 s1 s2 s3 s4 s5 s6 true _ AI.out).mono ?_); rintro e w121 ⟨rfl, hb⟩; replace BK0 := Aside0.mk (bb BK0.out hb); replace Bgs := Aside0.mk (bb Bgs.out hb); replace Bgg := Aside0.mk (bb Bgg.out hb); replace Bgh := Aside0.mk (bb Bgh.out hb); replace SW := Aside0.mk (SW.out.below hb); replace SM := Aside0.mk (SM.out.below hb); replace SH := Aside0.mk (SH.out.below hb); replace HB := Aside0.mk (below_step jb_ hb); clear hb) | ((with_reducible refine gate_callee (f := 46) rfl ?_); refine goesL_ (some 132) rfl rfl Try.func46 (by kernel_rfl) rfl #[.slice A5 g0.length n5, .int .i64 1] rfl gm_ ?_; (with_reducible refine (laws_heldBitsS.calls2 k _ _ _ m2 1 q _ (SQ_now M.out SM.out) AQ.out).mono ?_); rintro e w122 ⟨rfl, hb⟩; refine ⟨_, rfl, ?_⟩; replace BK0 := Aside0.mk (bb BK0.out hb); replace Bgs := Aside0.mk (bb Bgs.out hb); replace Bgg := Aside0.mk (bb Bgg.out hb); replace Bgh := Aside0.mk (bb Bgh.out hb); replace SW := Aside0.mk (SW.out.below hb); replace SM := Aside0.mk (SM.out.below hb); replace SH := Aside0.mk (SH.out.below hb); replace HB := Aside0.mk (below_step jb_ hb); clear hb))
 go_ret
 exact ⟨rfl, HB.out⟩

end Go.Proofs.Ytmknnoeggkgkgaa.QFnExactJoinBits
