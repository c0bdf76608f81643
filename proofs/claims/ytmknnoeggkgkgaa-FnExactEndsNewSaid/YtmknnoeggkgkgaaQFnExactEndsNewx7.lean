/- Functions that a law reaches, as functions of Lean, and the walks that show that the calls come to their answers: written by a program of this project out of the translation. No condition. -/
import Derived.Test.YtmknnoeggkgkgaaQFnExactEndsNewx0
import Derived.Test.YtmknnoeggkgkgaaQFnExactEndsNewx6
import Derived.Test.YtmknnoeggkgkgaaVFnExactEndsNewhort4
import Derived.Test.YtmknnoeggkgkgaaVFnExactEndsNewhort3
import Derived.Test.YtmknnoeggkgkgaaVFnExactEndsNewShort2
import Derived.Test.YtmknnoeggkgkgaaVFnExactEndsNewShort
import Derived.Test.YtmknnoeggkgkgaaVFnExactEndsNewhort8
namespace Go.Proofs.Ytmknnoeggkgkgaa.QFnExactEndsNew
open Go.RowKit Go.Proofs.YtmknnoeggkgkgaaW.PrintWords Go.Proofs.YtmknnoeggkgkgaaW.PrintLast Go.Proofs.YtmknnoeggkgkgaaW.PrintMore Go.Proofs.Ytmknnoeggkgkgaa.Short
attribute [local go_sem] max2_int min2_int max_two min_two max_three min_three max_four min_four   -- for this text's walks alone
set_option linter.unusedVariables false
set_option linter.unusedSimpArgs false

theorem B7x2_ {p : Prop} (h : p := by repeat (first | (with_reducible first | exact HK.out | apply Kept.alloc | apply Kept.drewN | apply Kept.drew | refine Kept.setCell ?_ (.inr GW257.out) _) | exact HK.out)) : p := h
theorem B7x5_ {p : Prop} (h : p := by first | rfl | (simp [errW_none, errW_some] <;> rfl) | (simp [*, errW_none, errW_some] <;> rfl)) : p := h
theorem B7x8_ {p : Prop} (h : p := by repeat (first | (with_reducible first | exact HK.out | apply Kept.alloc | apply Kept.drewN | apply Kept.drew) | exact HK.out)) : p := h
/-! ### laws_markEnds: function 31 -/
def laws_markEnds.f (k : Nat) (l0_0 : List (S39)) (l0_1 : List (List (S82))) (l0_2 : List Int) (l0_3 : List ByteArray) (a0_4 : Int) (a1 : Int) : Option (Int × (List (S39)) × List Int × List ByteArray) := (laws_markStreamS.f k l0_0 a1).bind fun bt258 => ((laws_markBitsSS.f k l0_1 bt258.1).bind fun t260 => ((laws_markIntS.f k l0_2 t260).bind fun bt261 => ((laws_markStringS.f k l0_3 bt261.1).bind fun bt263 => (some (bt263.1, bt258.2, bt261.2, bt263.2)))))
set_option maxHeartbeats 8000000 in
set_option maxRecDepth 100000 in
theorem laws_markEnds.calls (k : Nat) (P0_0_ : Nat → Prop) (u9000_ : Value) (l0_0 : List (S39)) (A0_1 : Option Addr) (c0_1 : Nat) (l0_1 : List (List (S82))) (P0_2_ : Nat → Prop) (u9001_ : Value) (l0_2 : List Int) (P0_3_ : Nat → Prop) (u9002_ : Value) (l0_3 : List ByteArray) (a0_4 : Int) (a1 : Int) (r1 : Int) (r2 : List (S39)) (r3 : List Int) (r4 : List ByteArray) (w0 w : World) (hB : Below w0.heap.size w0 w) (ho0_0 : Kd.N k39 39 w w0.heap.size P0_0_ u9000_ l0_0) (hp0_0_0_2 : ∀ k_, P0_0_ k_ → ¬ P0_2_ k_) (hp0_0_0_3 : ∀ k_, P0_0_ k_ → ¬ P0_3_ k_) (hr0_1 : ∀ W_, Kept w W_ (fun k_ => some k_ = (u9000_ : Value).ownBlock ∨ P0_2_ k_ ∨ P0_3_ k_) → Kd.C (Kd.slice 82 k82) W_ A0_1 l0_1.length l0_1) (hc0_1 : l0_1.length ≤ c0_1) (ho0_2 : Kd.R (Kd.int .i64) 3 w w0.heap.size P0_2_ u9001_ l0_2) (hp0_2_0_0 : ∀ k_, P0_2_ k_ → ¬ P0_0_ k_) (ho0_3 : Kd.R Kd.string 9 w w0.heap.size P0_3_ u9002_ l0_3) (hp0_3_0_0 : ∀ k_, P0_3_ k_ → ¬ P0_0_ k_) (h : laws_markEnds.f k l0_0 l0_1 l0_2 l0_3 a0_4 a1 = some (r1, r2, r3, r4)) :
  Calls Try.prog 31 #[.agg #[u9000_, .slice A0_1 l0_1.length c0_1, u9001_, u9002_, .int .i64 a0_4], .int .i64 a1] w fun e w' => e = .returned (.int .i64 r1) ∧ Kd.N k39 39 w' w0.heap.size (fun k_ => (P0_0_ k_ ∨ w.heap.size ≤ k_)) u9000_ r2 ∧ Kd.R (Kd.int .i64) 3 w' w0.heap.size (fun k_ => ((P0_0_ k_ ∨ P0_2_ k_ ∨ P0_3_ k_) ∨ w.heap.size ≤ k_)) u9001_ r3 ∧ Kd.R Kd.string 9 w' w0.heap.size (fun k_ => ((P0_0_ k_ ∨ P0_2_ k_ ∨ P0_3_ k_) ∨ w.heap.size ≤ k_)) u9002_ r4 ∧ Below w0.heap.size w0 w' ∧ Kept w w' (fun k_ => some k_ = (u9000_ : Value).ownBlock ∨ P0_2_ k_ ∨ P0_3_ k_) := by
 have hu53 := Try.underlying53
 have HO0_0 := am (show Kd.N k39 39 w w0.heap.size (fun k_ => (P0_0_ k_ ∨ w.heap.size ≤ k_) ∧ some k_ ≠ (u9001_ : Value).ownBlock ∧ some k_ ≠ (u9002_ : Value).ownBlock) u9000_ l0_0 from Kd.N_mono ho0_0 (fun k_ hk => ⟨(.inl hk), fun e_ => hp0_0_0_2 k_ hk (ho0_2.1 k_ e_.symm), fun e_ => hp0_0_0_3 k_ hk (ho0_3.1 k_ e_.symm)⟩))
 have HR0_1 := am hr0_1
 have HC0_1 := am hc0_1
 clear hr0_1 hc0_1
 have HO0_2 := am (show Kd.R (Kd.int .i64) 3 w w0.heap.size (fun k_ => ((P0_0_ k_ ∨ P0_2_ k_ ∨ P0_3_ k_) ∨ w.heap.size ≤ k_) ∧ some k_ ≠ (u9000_ : Value).ownBlock) u9001_ l0_2 from Kd.R_mono ho0_2 (fun k_ hk => ⟨(.inl (.inr (.inl hk))), fun e_ => hp0_2_0_0 k_ hk (ho0_0.1 k_ e_.symm)⟩))
 have HO0_3 := am (show Kd.R Kd.string 9 w w0.heap.size (fun k_ => ((P0_0_ k_ ∨ P0_2_ k_ ∨ P0_3_ k_) ∨ w.heap.size ≤ k_) ∧ some k_ ≠ (u9000_ : Value).ownBlock) u9002_ l0_3 from Kd.R_mono ho0_3 (fun k_ hk => ⟨(.inl (.inr (.inr hk))), fun e_ => hp0_3_0_0 k_ hk (ho0_0.1 k_ e_.symm)⟩))
 have HK := am (Kept.refl w (fun k_ => some k_ = (u9000_ : Value).ownBlock ∨ P0_2_ k_ ∨ P0_3_ k_))
 have HW0 := am hB.size
 have HB := am hB
 clear hB
 have HZ1 := h
 clear h
 unfold laws_markEnds.f at HZ1
 obtain ⟨⟨t258, t259⟩, A3, HZ2⟩ := bsi HZ1
 (try dsimp only at HZ2)
 obtain ⟨t260, A4, HZ3⟩ := bsi HZ2
 (try dsimp only at HZ3)
 obtain ⟨⟨t261, t262⟩, A5, HZ4⟩ := bsi HZ3
 (try dsimp only at HZ4)
 obtain ⟨⟨t263, t264⟩, A6, HZ5⟩ := bsi HZ4
 (try dsimp only at HZ5)
 obtain ⟨rfl, rfl, rfl, rfl⟩ := s4 HZ5
 clear HZ5 HZ1 HZ2 HZ3 HZ4
 obtain ⟨Ao7, co7, eo7⟩ := Kd.N_slice HO0_0.out
 subst eo7
 obtain ⟨Ao8, co8, eo8⟩ := Kd.R_slice HO0_2.out
 subst eo8
 obtain ⟨Ao9, co9, eo9⟩ := Kd.R_slice HO0_3.out
 subst eo9
 go_enter Try.func31, Try.ntmps31
 go_wp2_with (first | ((with_reducible refine gate_dst (N := 2) rfl ?_); refine bx (N := 2) (cs := #[.slice Ao7 l0_0.length co7, .slice A0_1 l0_1.length c0_1, .slice Ao8 l0_2.length co8, .slice Ao9 l0_3.length co9, .int .i64 a0_4]) (t := 53) ?_; intro gb257 hg w10 hbox hb; replace HO0_0 := am (Kd.N_below (Kd.N_elderB (by (with_reducible repeat (first | apply Kd.N_alloc | apply Kd.N_drewN | apply Kd.N_drew)); exact HO0_0.out) gb257 (Nat.le_of_eq hg.symm)) hb); replace HO0_2 := rA HO0_2 hb; replace HO0_3 := rA HO0_3 hb; have BK257 := am (hbox); have GW257 := am ((by rw [hg]; exact (by first | exact HK.out.1 | exact (show Kept w _ (fun k_ => some k_ = (Value.slice Ao7 l0_0.length co7).ownBlock ∨ P0_2_ k_ ∨ P0_3_ k_) from B7x8_).1) : w.heap.size ≤ gb257)); replace HK := am (Kept.below (S := (fun k_ => some k_ = (Value.slice Ao7 l0_0.length co7).ownBlock ∨ P0_2_ k_ ∨ P0_3_ k_)) B7x8_ hb); have GE257 := gA hg HB; replace HB := hA HB hb; clear hb hbox hg; obtain ⟨zc257_0, zc257_1, zc257_2, zc257_3, zc257_4, zf257_0, zf257_1, zf257_2, zf257_3, zf257_4⟩ := cf5 BK257) | ((with_reducible refine gate_callee (f := 85) rfl ?_); refine gM (some 8) Try.func85 (laws_markStreamS.calls k _ (.slice Ao7 l0_0.length co7) l0_0 a1 t258 t259 w0 _ (Ae1 HB GE257) HO0_0.out A3.out) ?_; rintro w12 ⟨hy0, hb, hkp⟩; have n0_ := am (Kd.N_mono (ok' := fun k_ => (P0_0_ k_ ∨ w.heap.size ≤ k_) ∧ some k_ ≠ (.slice Ao8 l0_2.length co8 : Value).ownBlock ∧ some k_ ≠ (.slice Ao9 l0_3.length co9 : Value).ownBlock ∧ k_ ≠ gb257) hy0 (fun k_ hk_ => Or.elim hk_ (fun h_ => ⟨h_.1.1, h_.1.2.1, h_.1.2.2, h_.2⟩) (fun hn_ => ⟨(.inr (Nat.le_trans (by first | exact HK.out.1 | exact (show Kept w _ (fun k_ => some k_ = (Value.slice Ao7 l0_0.length co7).ownBlock ∨ P0_2_ k_ ∨ P0_3_ k_) from B7x2_).1) hn_)), Kd.fresh' (Kd.R_lt (Ar HO0_2)) k_ hn_, Kd.fresh' (Kd.R_lt (Ar HO0_3)) k_ hn_, Kd.freshB (Ab BK257) k_ hn_⟩))); have n1_ := am (Kd.R_mono (ok' := fun k_ => ((P0_0_ k_ ∨ P0_2_ k_ ∨ P0_3_ k_) ∨ w.heap.size ≤ k_) ∧ some k_ ≠ (.slice Ao7 l0_0.length co7 : Value).ownBlock) (Kd.R_keptB (HO0_2.out) hkp (fun k_ hk_ hs_ => (hk_.2) hs_)) (fun k_ hk_ => ⟨hk_.1.1, hk_.1.2⟩)); have n2_ := am (Kd.R_mono (ok' := fun k_ => ((P0_0_ k_ ∨ P0_2_ k_ ∨ P0_3_ k_) ∨ w.heap.size ≤ k_) ∧ some k_ ≠ (.slice Ao7 l0_0.length co7 : Value).ownBlock) (Kd.R_keptB (HO0_3.out) hkp (fun k_ hk_ hs_ => (hk_.2) hs_)) (fun k_ hk_ => ⟨hk_.1.1, hk_.1.2⟩)); have n3_ := am (blk_kept (Ab BK257) hkp (fun hs_ => (fun e_ => (Kd.N_ne HO0_0.out BK257.out (by decide)) e_) hs_)); have n4_ := am (Kept.then_ (S := (fun k_ => some k_ = (Value.slice Ao7 l0_0.length co7).ownBlock ∨ P0_2_ k_ ∨ P0_3_ k_)) B7x2_ hkp (fun k_ hs_ => (fun e_ => .inl (.inl e_)) hs_)); have n5_ := am (hb); clear HO0_0; clear HO0_2; clear HO0_3; clear BK257; clear HK; clear HB; have HO0_0 := n0_; have HO0_2 := n1_; have HO0_3 := n2_; have BK257 := n3_; have HK := n4_; have HB := n5_; clear n0_ n1_ n2_ n3_ n4_ n5_; (try clear hb); (try clear hkp); (try clear hy0); obtain ⟨zc257_0, zc257_1, zc257_2, zc257_3, zc257_4, zf257_0, zf257_1, zf257_2, zf257_3, zf257_4⟩ := cf5 BK257) | ((with_reducible refine gate_callee (f := 86) rfl ?_); refine gM (args := #[.slice A0_1 l0_1.length c0_1, .int .i64 t258]) (some 12) Try.func86 (laws_markBitsSS.calls k _ _ l0_1 t258 t260 _ (Kd.C_kept_now HR0_1.out B7x2_) HC0_1.out A4.out) ?_; rintro w' ⟨nd, rfl⟩) | ((with_reducible refine gate_callee (f := 87) rfl ?_); refine gM (some 16) Try.func87 (laws_markIntS.calls k (fun k_ => some k_ = (.slice Ao8 l0_2.length co8 : Value).ownBlock) (.slice Ao8 l0_2.length co8) l0_2 t260 t261 t262 w0 _ (Ae1 HB GE257) (Kd.R_tight rfl HO0_2.out) A5.out) ?_; rintro w14 ⟨hy0, hb, hkp⟩; replace HO0_0 := am (Kd.N_mono (ok' := fun k_ => (P0_0_ k_ ∨ w.heap.size ≤ k_) ∧ some k_ ≠ (.slice Ao8 l0_2.length co8 : Value).ownBlock ∧ some k_ ≠ (.slice Ao9 l0_3.length co9 : Value).ownBlock ∧ k_ ≠ gb257) (Kd.N_keptB (HO0_0.out) hkp (fun k_ hk_ hs_ => (hk_.2.1) hs_)) (fun k_ hk_ => ⟨hk_.1.1, hk_.1.2.1, hk_.1.2.2.1, hk_.1.2.2.2⟩)); replace HO0_3 := am (Kd.R_mono (ok' := fun k_ => ((P0_0_ k_ ∨ P0_2_ k_ ∨ P0_3_ k_) ∨ w.heap.size ≤ k_) ∧ some k_ ≠ (.slice Ao7 l0_0.length co7 : Value).ownBlock) (Kd.R_keptB ((Kd.R_apart' HO0_3.out (Kd.R_typed HO0_2.out) (by decide))) hkp (fun k_ hk_ hs_ => (hk_.2) hs_)) (fun k_ hk_ => ⟨hk_.1.1.1, hk_.1.1.2⟩)); replace BK257 := am (blk_kept (Ab BK257) hkp (fun hs_ => (fun e_ => (Kd.R_ne HO0_2.out BK257.out (by decide)) e_) hs_)); replace HO0_2 := am (Kd.R_reok rfl hy0 (fun k_ e_ => HO0_2.out.1 k_ e_)); replace HK := am (Kept.then_ (S := (fun k_ => some k_ = (Value.slice Ao7 l0_0.length co7).ownBlock ∨ P0_2_ k_ ∨ P0_3_ k_)) B7x2_ hkp (fun k_ hs_ => (fun e_ => .inl (.inr (.inl (ho0_2.1 k_ e_.symm)))) hs_)); replace HB := am (hb); (try clear hb); (try clear hkp); (try clear hy0); obtain ⟨zc257_0, zc257_1, zc257_2, zc257_3, zc257_4, zf257_0, zf257_1, zf257_2, zf257_3, zf257_4⟩ := cf5 BK257) | ((with_reducible refine gate_callee (f := 16) rfl ?_); refine gM (some 20) Try.func16 (laws_markStringS.calls k (fun k_ => some k_ = (.slice Ao9 l0_3.length co9 : Value).ownBlock) (.slice Ao9 l0_3.length co9) l0_3 t261 t263 t264 w0 _ (Ae1 HB GE257) (Kd.R_tight rfl HO0_3.out) A6.out) ?_; rintro w16 ⟨hy0, hb, hkp⟩; replace HO0_0 := am (Kd.N_mono (ok' := fun k_ => (P0_0_ k_ ∨ w.heap.size ≤ k_) ∧ some k_ ≠ (.slice Ao8 l0_2.length co8 : Value).ownBlock ∧ some k_ ≠ (.slice Ao9 l0_3.length co9 : Value).ownBlock ∧ k_ ≠ gb257) (Kd.N_keptB (HO0_0.out) hkp (fun k_ hk_ hs_ => (hk_.2.2.1) hs_)) (fun k_ hk_ => ⟨hk_.1.1, hk_.1.2.1, hk_.1.2.2.1, hk_.1.2.2.2⟩)); replace HO0_2 := am (Kd.R_mono (ok' := fun k_ => ((P0_0_ k_ ∨ P0_2_ k_ ∨ P0_3_ k_) ∨ w.heap.size ≤ k_) ∧ some k_ ≠ (.slice Ao7 l0_0.length co7 : Value).ownBlock) (Kd.R_keptB ((Kd.R_apart' HO0_2.out (Kd.R_typed HO0_3.out) (by decide))) hkp (fun k_ hk_ hs_ => (hk_.2) hs_)) (fun k_ hk_ => ⟨hk_.1.1.1, hk_.1.1.2⟩)); replace BK257 := am (blk_kept (Ab BK257) hkp (fun hs_ => (fun e_ => (Kd.R_ne HO0_3.out BK257.out (by decide)) e_) hs_)); replace HO0_3 := am (Kd.R_reok rfl hy0 (fun k_ e_ => HO0_3.out.1 k_ e_)); replace HK := am (Kept.then_ (S := (fun k_ => some k_ = (Value.slice Ao7 l0_0.length co7).ownBlock ∨ P0_2_ k_ ∨ P0_3_ k_)) B7x2_ hkp (fun k_ hs_ => (fun e_ => .inl (.inr (.inr (ho0_3.1 k_ e_.symm)))) hs_)); replace HB := am (hb); (try clear hb); (try clear hkp); (try clear hy0)))
 go_ret
 exact ⟨B7x5_, (by (with_reducible repeat (first | apply Kd.N_alloc | apply Kd.N_drewN | apply Kd.N_drew)); exact Kd.N_mono HO0_0.out (fun _ hk => hk.1)), (by (with_reducible repeat (first | apply Kd.R_alloc | apply Kd.R_drewN | apply Kd.R_drew)); exact Kd.R_mono HO0_2.out (fun _ hk => hk.1)), (by (with_reducible repeat (first | apply Kd.R_alloc | apply Kd.R_drewN | apply Kd.R_drew)); exact Kd.R_mono HO0_3.out (fun _ hk => hk.1)), (Ae1 HB GE257), B7x2_⟩

/-! ### laws_heldStringS: function 17 -/
def laws_heldStringS.l0 : Nat → List ByteArray → Int → Int → Option (Int)
 | 0, _, _, _ => none
 | k + 1, x0, x1, x5 => if x5 < (x0.length : Int) then (if 0 ≤ x5 then ((laws_markText.f k x1).bind fun t266 => (if (rdOf ByteArray.empty x0 x5).toList = t266.toList then (laws_heldStringS.l0 k x0 (wrap64 (x1 + 1)) (wrap64 (x5 + 1))) else (some (-1)))) else (none)) else (some x1)
def laws_heldStringS.f (k : Nat) (l0 : List ByteArray) (a1 : Int) : Option (Int) := laws_heldStringS.l0 k l0 a1 0
set_option maxHeartbeats 8000000 in
set_option maxRecDepth 100000 in
theorem laws_heldStringS.calls (k : Nat) (A0 : Option Addr) (c0 : Nat) (l0 : List ByteArray) (a1 : Int) (r : Int) (w : World) (hr0 : Kd.C Kd.string w A0 l0.length l0) (hc0 : l0.length ≤ c0) (h : laws_heldStringS.f k l0 a1 = some r) :
  Calls Try.prog 17 #[.slice A0 l0.length c0, .int .i64 a1] w fun e w' => e = .returned (.int .i64 r) ∧ Below w.heap.size w w' := by
 have HR0 := am hr0
 have HC0 := am hc0
 clear hr0 hc0
 have HB := am (Below.refl w.heap.size w)
 have HZ1 := h
 clear h
 unfold laws_heldStringS.f at HZ1
 replace HZ1 := am HZ1
 go_enter Try.func17, Try.ntmps17
 go_wp2
 go_loopg [1, 5] k (fun kq v1 v5 w' => ∃ (x1_1 : Int) (x5_1 : Int), v1 = .int .i64 x1_1 ∧ v5 = .int .i64 x5_1 ∧ Aside0 (laws_heldStringS.l0 kq l0 x1_1 x5_1 = some r) ∧ Aside0 (kq ≤ k) ∧ Aside0 (Below w.heap.size w w'))
 case atStart => exact ⟨(a1), (0), (be_), (be_), HZ1, ⟨Nat.le_refl _⟩, ⟨(Ae0 HB)⟩⟩
 case round =>
  clear HZ1; obtain ⟨x1_1, x5_1, rfl, rfl, HZ2, HK1, HB⟩ := hrel
  cases gk with
  | zero => exact absurd HZ2.out (by simp [laws_heldStringS.l0])
  | succ k1 => ?_
  replace HZ2 := HZ2.out; simp only [laws_heldStringS.l0] at HZ2
  obtain ⟨c3b0, HZ3⟩ | ⟨c3b0, HZ3⟩ := sd HZ2
  ·obtain ⟨c4b0, HZ4⟩ := yd HZ3; obtain ⟨t266, A5, HZ5⟩ := bsi HZ4; (try dsimp only at HZ5)
   obtain ⟨c6, HZ6⟩ | ⟨c6, HZ6⟩ := sp HZ5
   ·obtain ⟨c6b0, c6b1⟩ := yE c6; clear c6; replace HZ6 := am HZ6; clear HZ2 HZ3 HZ4 HZ5
    try go_wp2
    replace HB := am (below_drew1 HB.out)
    have p265 : 0 ≤ (x5_1 : Int) := dga
    have q265 : x5_1 < (l0.length : Int) := dga
    obtain ⟨ad265, e265, hx265_0⟩ := Kd.at_string HR0.out x5_1 p265 q265; have hw265_0 := hx265_0; cases e265; replace hx265_0 := (hbc HB hx265_0).trans hx265_0; replace p265 := eq_true p265; replace q265 := eq_true q265; refine start_ (n := 7) (S := fun w' => w'.cell? (ad265.add (x5_1).toNat) = some (.string (rdOf ByteArray.empty l0 x5_1))) (ds := []) #[false, false, false, false, false, false, false] gk_ rfl rfl (((hbc HB hw265_0).trans hw265_0)) (fun hHeld => ?_); generalize wr.drew = w7 at HB hx265_0 hHeld ⊢; refine pure_ (i := 0) (N := some 12) (v := ?_) (a' := ?_) #[true, false, false, false, false, false, false] rfl rfl gk_ (fun _ _ _ h => h) (Or.inl ⟨(by rfl), ?_⟩) ?_ ?_; rotate_left
    ·intro w'; go_simp; with_reducible rfl
    rotate_left
    ·simp only [Act.put, List.setIfInBounds_toArray, List.set_cons_zero, List.set_cons_succ, i64_w, i32_w]; rfl
    refine pure_ (i := 1) (N := some 13) (v := ?_) (a' := ?_) #[true, true, false, false, false, false, false] rfl rfl gk_ (fun _ _ _ h => h) (Or.inl ⟨(by rfl), ?_⟩) ?_ ?_; rotate_left
    ·intro w'; go_simp; with_reducible rfl
    rotate_left
    ·simp only [Act.put, List.setIfInBounds_toArray, List.set_cons_zero, List.set_cons_succ, i64_w, i32_w]; rfl
    refine pure_ (i := 2) (N := some 14) (v := ?_) (a' := ?_) #[true, true, true, false, false, false, false] rfl rfl gk_ (fun _ _ _ h => h) (Or.inl ⟨(by rfl), ?_⟩) ?_ ?_; rotate_left
    ·intro w'; go_simp; with_reducible rfl
    rotate_left
    ·simp only [Act.put, List.setIfInBounds_toArray, List.set_cons_zero, List.set_cons_succ, i64_w, i32_w]; rfl
    refine pure_ (i := 4) (N := some 16) (v := ?_) (a' := ?_) #[true, true, true, false, true, false, false] rfl rfl gk_ (fun _ _ _ h => h) (Or.inl ⟨(by rfl), ?_⟩) ?_ ?_; rotate_left
    ·intro w'; go_simp; with_reducible rfl
    rotate_left
    ·simp only [Act.put, List.setIfInBounds_toArray, List.set_cons_zero, List.set_cons_succ, i64_w, i32_w]; rfl
    refine take_ (i := 3) (N := some 15) (v := ?_) (a' := ?_) #[true, true, true, true, true, false, false] rfl rfl gk_ (fun _ _ _ h => h) (Or.inl ⟨(by rfl), ?_⟩) hHeld ?_ ?_; rotate_left
    ·intro w' s0; go_simp; with_reducible rfl
    rotate_left
    ·simp only [Act.put, List.setIfInBounds_toArray, List.set_cons_zero, List.set_cons_succ, i64_w, i32_w]; rfl
    refine one_ (i := 5) (N := some 17) #[true, true, true, true, true, true, false] rfl rfl gk_ (by decide) (fun K hK => ?_); refine gT Try.func65 (laws_markText.calls k1 x1_1 t266 _ A5.out) ?_; rintro w8 hb; replace HB := hA HB hb; (try clear hb); (try clear hb2); (try clear hk); (try clear hi); (try clear hl); refine hK.out _ _ (((hbc HB hw265_0).trans hw265_0)) (fun hHeld => nm_ ?_); clear hK K; refine pure_ (i := 6) (N := some 18) (v := ?_) (a' := ?_) #[true, true, true, true, true, true, true] rfl rfl gk_ (fun _ _ _ h => h) (Or.inl ⟨(by rfl), ?_⟩) ?_ ?_; rotate_left
    ·intro w'; go_simp; with_reducible rfl
    rotate_left
    ·simp only [Act.put, List.setIfInBounds_toArray, List.set_cons_zero, List.set_cons_succ, i64_w, i32_w]; rfl
    refine done_ gk_ ?_
    try go_wp2
    go_roundg k1
    case measure => have := HK1.out; omega
    case rel => exact ⟨(wrap64 (x1_1 + 1)), (wrap64 (x5_1 + 1)), (be_), (be_), HZ6, ⟨(by have := HK1.out; omega)⟩, ⟨(Ae0 HB)⟩⟩
   ·obtain ⟨c6b0, c6b1⟩ := nE c6; obtain rfl := Option.some.inj HZ6; clear HZ6 HZ2 HZ3 HZ4 HZ5
    try go_wp2
    replace HB := am (below_drew1 HB.out)
    have p265 : 0 ≤ (x5_1 : Int) := dga
    have q265 : x5_1 < (l0.length : Int) := dga
    obtain ⟨ad265, e265, hx265_0⟩ := Kd.at_string HR0.out x5_1 p265 q265; have hw265_0 := hx265_0; cases e265; replace hx265_0 := (hbc HB hx265_0).trans hx265_0; replace p265 := eq_true p265; replace q265 := eq_true q265; refine start_ (n := 7) (S := fun w' => w'.cell? (ad265.add (x5_1).toNat) = some (.string (rdOf ByteArray.empty l0 x5_1))) (ds := []) #[false, false, false, false, false, false, false] gk_ rfl rfl (((hbc HB hw265_0).trans hw265_0)) (fun hHeld => ?_); generalize wr.drew = w9 at HB hx265_0 hHeld ⊢; refine pure_ (i := 0) (N := some 12) (v := ?_) (a' := ?_) #[true, false, false, false, false, false, false] rfl rfl gk_ (fun _ _ _ h => h) (Or.inl ⟨(by rfl), ?_⟩) ?_ ?_; rotate_left
    ·intro w'; go_simp; with_reducible rfl
    rotate_left
    ·simp only [Act.put, List.setIfInBounds_toArray, List.set_cons_zero, List.set_cons_succ, i64_w, i32_w]; rfl
    refine pure_ (i := 1) (N := some 13) (v := ?_) (a' := ?_) #[true, true, false, false, false, false, false] rfl rfl gk_ (fun _ _ _ h => h) (Or.inl ⟨(by rfl), ?_⟩) ?_ ?_; rotate_left
    ·intro w'; go_simp; with_reducible rfl
    rotate_left
    ·simp only [Act.put, List.setIfInBounds_toArray, List.set_cons_zero, List.set_cons_succ, i64_w, i32_w]; rfl
    refine pure_ (i := 2) (N := some 14) (v := ?_) (a' := ?_) #[true, true, true, false, false, false, false] rfl rfl gk_ (fun _ _ _ h => h) (Or.inl ⟨(by rfl), ?_⟩) ?_ ?_; rotate_left
    ·intro w'; go_simp; with_reducible rfl
    rotate_left
    ·simp only [Act.put, List.setIfInBounds_toArray, List.set_cons_zero, List.set_cons_succ, i64_w, i32_w]; rfl
    refine pure_ (i := 4) (N := some 16) (v := ?_) (a' := ?_) #[true, true, true, false, true, false, false] rfl rfl gk_ (fun _ _ _ h => h) (Or.inl ⟨(by rfl), ?_⟩) ?_ ?_; rotate_left
    ·intro w'; go_simp; with_reducible rfl
    rotate_left
    ·simp only [Act.put, List.setIfInBounds_toArray, List.set_cons_zero, List.set_cons_succ, i64_w, i32_w]; rfl
    refine take_ (i := 3) (N := some 15) (v := ?_) (a' := ?_) #[true, true, true, true, true, false, false] rfl rfl gk_ (fun _ _ _ h => h) (Or.inl ⟨(by rfl), ?_⟩) hHeld ?_ ?_; rotate_left
    ·intro w' s0; go_simp; with_reducible rfl
    rotate_left
    ·simp only [Act.put, List.setIfInBounds_toArray, List.set_cons_zero, List.set_cons_succ, i64_w, i32_w]; rfl
    refine one_ (i := 5) (N := some 17) #[true, true, true, true, true, true, false] rfl rfl gk_ (by decide) (fun K hK => ?_); refine gT Try.func65 (laws_markText.calls k1 x1_1 t266 _ A5.out) ?_; rintro w10 hb; replace HB := hA HB hb; (try clear hb); (try clear hb2); (try clear hk); (try clear hi); (try clear hl); refine hK.out _ _ (((hbc HB hw265_0).trans hw265_0)) (fun hHeld => nm_ ?_); clear hK K; refine pure_ (i := 6) (N := some 18) (v := ?_) (a' := ?_) #[true, true, true, true, true, true, true] rfl rfl gk_ (fun _ _ _ h => h) (Or.inl ⟨(by rfl), ?_⟩) ?_ ?_; rotate_left
    ·intro w'; go_simp; with_reducible rfl
    rotate_left
    ·simp only [Act.put, List.setIfInBounds_toArray, List.set_cons_zero, List.set_cons_succ, i64_w, i32_w]; rfl
    refine done_ gk_ ?_
    try go_wp2
    go_ret; exact ⟨B7x5_, (Ae0 HB)⟩
  ·obtain rfl := Option.some.inj HZ3; clear HZ3 HZ2
   go_wp2
   go_ret; exact ⟨B7x5_, (Ae0 HB)⟩

/-! ### laws_heldLateS: function 80 -/
def laws_heldLateS.l0 : Nat → List (S143) → Int → Int → Option (Int)
 | 0, _, _, _ => none
 | k + 1, x0, x1, x5 => if x5 < (x0.length : Int) then (if 0 ≤ x5 then (if ((rd_T143 x0 x5).f0) = x1 then ((laws_markText.f k (wrap64 (x1 + 1))).bind fun t269 => (if ((rd_T143 x0 x5).f1).toList = t269.toList then (laws_heldLateS.l0 k x0 (wrap64 ((wrap64 (x1 + 1)) + 1)) (wrap64 (x5 + 1))) else (some (-1)))) else (some (-1))) else (none)) else (some x1)
def laws_heldLateS.f (k : Nat) (l0 : List (S143)) (a1 : Int) : Option (Int) := laws_heldLateS.l0 k l0 a1 0
def laws_heldLateS.T7 : Bool × List (List Nat × List Nat) := (true, [([], []), ([], []), ([0, 1], [0, 1]), ([2], [2]), ([3], [3]), ([], []), ([5], [5]), ([4, 6], [4, 6])])
def laws_heldLateS.B7 : List Nat := [0, 0, 3, 7, 15, 0, 32, 127]
theorem laws_heldLateS.tab7 : rtab .any (opsOf Try.f80 7) = laws_heldLateS.T7 := by kernel_rfl
theorem laws_heldLateS.bits7 : waitsOk laws_heldLateS.T7.2 laws_heldLateS.B7 = true := by kernel_rfl
set_option maxHeartbeats 8000000 in
set_option maxRecDepth 100000 in
theorem laws_heldLateS.calls (k : Nat) (A0 : Option Addr) (c0 : Nat) (l0 : List (S143)) (a1 : Int) (r : Int) (w : World) (hr0 : Kd.C k143 w A0 l0.length l0) (hc0 : l0.length ≤ c0) (h : laws_heldLateS.f k l0 a1 = some r) :
  Calls Try.prog 80 #[.slice A0 l0.length c0, .int .i64 a1] w fun e w' => e = .returned (.int .i64 r) ∧ Below w.heap.size w w' := by
 have HR0 := am hr0
 have HC0 := am hc0
 clear hr0 hc0
 have HB := am (Below.refl w.heap.size w)
 have HZ1 := h
 clear h
 unfold laws_heldLateS.f at HZ1
 replace HZ1 := am HZ1
 go_enter Try.func80, Try.ntmps80
 go_wp2
 go_loopg [1, 5] k (fun kq v1 v5 w' => ∃ (x1_1 : Int) (x5_1 : Int), v1 = .int .i64 x1_1 ∧ v5 = .int .i64 x5_1 ∧ Aside0 (laws_heldLateS.l0 kq l0 x1_1 x5_1 = some r) ∧ Aside0 (kq ≤ k) ∧ Aside0 (Below w.heap.size w w'))
 case atStart => exact ⟨(a1), (0), (be_), (be_), HZ1, ⟨Nat.le_refl _⟩, ⟨(Ae0 HB)⟩⟩
 case round =>
  clear HZ1; obtain ⟨x1_1, x5_1, rfl, rfl, HZ2, HK1, HB⟩ := hrel
  cases gk with
  | zero => exact absurd HZ2.out (by simp [laws_heldLateS.l0])
  | succ k1 => ?_
  replace HZ2 := HZ2.out; simp only [laws_heldLateS.l0] at HZ2
  obtain ⟨c3b0, HZ3⟩ | ⟨c3b0, HZ3⟩ := sd HZ2
  ·obtain ⟨c4b0, HZ4⟩ := yd HZ3
   obtain ⟨c5, HZ5⟩ | ⟨c5, HZ5⟩ := sp HZ4
   ·obtain ⟨c5b0, c5b1⟩ := yE c5; clear c5; obtain ⟨t269, A6, HZ6⟩ := bsi HZ5; (try dsimp only at HZ6)
    obtain ⟨c7, HZ7⟩ | ⟨c7, HZ7⟩ := sp HZ6
    ·obtain ⟨c7b0, c7b1⟩ := yE c7; clear c7; replace HZ7 := am HZ7; clear HZ2 HZ3 HZ4 HZ5 HZ6
     have p267 : 0 ≤ (x5_1 : Int) := dga
     have q267 : x5_1 < (l0.length : Int) := dga
     obtain ⟨ad267, e267, hx267_0, hx267_1⟩ := at_T143 HR0.out x5_1 p267 q267; cases e267; replace hx267_0 := (hbc HB hx267_0).trans hx267_0; replace hx267_1 := (hbc HB hx267_1).trans hx267_1; replace p267 := eq_true p267; replace q267 := eq_true q267
     try go_wp2
     replace HB := am (below_drew1 HB.out)
     have p268 : 0 ≤ (x5_1 : Int) := dga
     have q268 : x5_1 < (l0.length : Int) := dga
     obtain ⟨ad268, e268, hx268_0, hx268_1⟩ := at_T143 HR0.out x5_1 p268 q268; have hw268_1 := hx268_1; have hw268_0 := hx268_0; obtain rfl : ad267 = ad268 := (by injection e268); replace hx268_0 := (hbc HB hx268_0).trans hx268_0; replace hx268_1 := (hbc HB hx268_1).trans hx268_1; replace p268 := eq_true p268; replace q268 := eq_true q268; refine start_ (n := 8) (S := fun w' => w'.cell? (ad267.add ((x5_1).toNat * 2)) = some (.int .i64 ((rd_T143 l0 x5_1).f0)) ∧ w'.cell? ⟨(ad267.add ((x5_1).toNat * 2)).block, (ad267.add ((x5_1).toNat * 2)).off + 1, none⟩ = some (.string ((rd_T143 l0 x5_1).f1))) (ds := []) #[false, false, false, false, false, false, false, false] gk_ rfl rfl ⟨((hbc HB hw268_0).trans hw268_0), ((hbc HB hw268_1).trans hw268_1)⟩ (fun hHeld => ?_); refine with_tabW laws_heldLateS.tab7 laws_heldLateS.bits7 (fun HT_ HW_ => ?_); generalize wr.drew = w8 at HB hx268_0 hx268_1 hHeld ⊢; refine pu_ 0 21 HT_ ?_; refine pu_ 1 22 HT_ ?_; refine pu_ 2 23 HT_ ?_; refine pu_ 3 24 HT_ ?_; refine pu_ 5 26 HT_ ?_; refine ta_ 4 25 HT_ HW_ hHeld ?_; refine on_ 6 (some 27) HT_ (fun K hK => ?_); refine gT Try.func65 (laws_markText.calls k1 (wrap64 (x1_1 + 1)) t269 _ A6.out) ?_; rintro w9 hb; replace HB := hA HB hb; (try clear hb); (try clear hb2); (try clear hk); (try clear hi); (try clear hl); refine hK.out _ _ ⟨((hbc HB hw268_0).trans hw268_0), ((hbc HB hw268_1).trans hw268_1)⟩ (fun hHeld => nm_ ?_); clear hK K; refine pu_ 7 28 HT_ ?_; refine done_ (done_of HT_.out gk_) ?_
     try go_wp2
     go_roundg k1
     case measure => have := HK1.out; omega
     case rel => exact ⟨(wrap64 ((wrap64 (x1_1 + 1)) + 1)), (wrap64 (x5_1 + 1)), (be_), (be_), HZ7, ⟨(by have := HK1.out; omega)⟩, ⟨(Ae0 HB)⟩⟩
    obtain ⟨c7b0, c7b1⟩ := nE c7; obtain rfl := Option.some.inj HZ7; clear HZ7 HZ2 HZ3 HZ4 HZ5 HZ6
    have p267 : 0 ≤ (x5_1 : Int) := dga
    have q267 : x5_1 < (l0.length : Int) := dga
    obtain ⟨ad267, e267, hx267_0, hx267_1⟩ := at_T143 HR0.out x5_1 p267 q267; cases e267; replace hx267_0 := (hbc HB hx267_0).trans hx267_0; replace hx267_1 := (hbc HB hx267_1).trans hx267_1; replace p267 := eq_true p267; replace q267 := eq_true q267
    try go_wp2
    replace HB := am (below_drew1 HB.out)
    have p268 : 0 ≤ (x5_1 : Int) := dga
    have q268 : x5_1 < (l0.length : Int) := dga
    obtain ⟨ad268, e268, hx268_0, hx268_1⟩ := at_T143 HR0.out x5_1 p268 q268; have hw268_1 := hx268_1; have hw268_0 := hx268_0; obtain rfl : ad267 = ad268 := (by injection e268); replace hx268_0 := (hbc HB hx268_0).trans hx268_0; replace hx268_1 := (hbc HB hx268_1).trans hx268_1; replace p268 := eq_true p268; replace q268 := eq_true q268; refine start_ (n := 8) (S := fun w' => w'.cell? (ad267.add ((x5_1).toNat * 2)) = some (.int .i64 ((rd_T143 l0 x5_1).f0)) ∧ w'.cell? ⟨(ad267.add ((x5_1).toNat * 2)).block, (ad267.add ((x5_1).toNat * 2)).off + 1, none⟩ = some (.string ((rd_T143 l0 x5_1).f1))) (ds := []) #[false, false, false, false, false, false, false, false] gk_ rfl rfl ⟨((hbc HB hw268_0).trans hw268_0), ((hbc HB hw268_1).trans hw268_1)⟩ (fun hHeld => ?_); refine with_tabW laws_heldLateS.tab7 laws_heldLateS.bits7 (fun HT_ HW_ => ?_); generalize wr.drew = w10 at HB hx268_0 hx268_1 hHeld ⊢; refine pu_ 0 21 HT_ ?_; refine pu_ 1 22 HT_ ?_; refine pu_ 2 23 HT_ ?_; refine pu_ 3 24 HT_ ?_; refine pu_ 5 26 HT_ ?_; refine ta_ 4 25 HT_ HW_ hHeld ?_; refine on_ 6 (some 27) HT_ (fun K hK => ?_); refine gT Try.func65 (laws_markText.calls k1 (wrap64 (x1_1 + 1)) t269 _ A6.out) ?_; rintro w11 hb; replace HB := hA HB hb; (try clear hb); (try clear hb2); (try clear hk); (try clear hi); (try clear hl); refine hK.out _ _ ⟨((hbc HB hw268_0).trans hw268_0), ((hbc HB hw268_1).trans hw268_1)⟩ (fun hHeld => nm_ ?_); clear hK K; refine pu_ 7 28 HT_ ?_; refine done_ (done_of HT_.out gk_) ?_
    try go_wp2
    go_ret; exact ⟨B7x5_, (Ae0 HB)⟩
   obtain ⟨c5b0, c5b1⟩ := nE c5; obtain rfl := Option.some.inj HZ5; clear HZ5 HZ2 HZ3 HZ4
   have p267 : 0 ≤ (x5_1 : Int) := dga
   have q267 : x5_1 < (l0.length : Int) := dga
   obtain ⟨ad267, e267, hx267_0, hx267_1⟩ := at_T143 HR0.out x5_1 p267 q267; cases e267; replace hx267_0 := (hbc HB hx267_0).trans hx267_0; replace hx267_1 := (hbc HB hx267_1).trans hx267_1; replace p267 := eq_true p267; replace q267 := eq_true q267
   go_wp2
   go_ret; exact ⟨B7x5_, (Ae0 HB)⟩
  obtain rfl := Option.some.inj HZ3; clear HZ3 HZ2
  go_wp2
  go_ret; exact ⟨B7x5_, (Ae0 HB)⟩

end Go.Proofs.Ytmknnoeggkgkgaa.QFnExactEndsNew
