/- Functions that a law reaches, as functions of Lean, and the walks that show that the calls come to their answers: written by a program of this project out of the translation. No condition. -/
import Derived.Test.YtmknnoeggkgkgaaQFnExactPushx0
import Derived.Test.YtmknnoeggkgkgaaQFnExactPushx1
import Derived.Test.YtmknnoeggkgkgaaVFnExactPushShort4
import Derived.Test.YtmknnoeggkgkgaaVFnExactPushhort3
import Derived.Test.YtmknnoeggkgkgaaVFnExactPushShort2
import Derived.Test.YtmknnoeggkgkgaaVFnExactPushShort
namespace Go.Proofs.Ytmknnoeggkgkgaa.QFnExactPush
open Go.RowKit Go.Proofs.YtmknnoeggkgkgaaW.PrintWords Go.Proofs.YtmknnoeggkgkgaaW.PrintLast Go.Proofs.YtmknnoeggkgkgaaW.PrintMore Go.Proofs.Ytmknnoeggkgkgaa.Short
attribute [local go_sem] max2_int min2_int max_two min_two max_three min_three max_four min_four   -- for this text's walks alone
set_option linter.unusedVariables false
set_option linter.unusedSimpArgs false

theorem B3x0_ {p : Prop} (h : p := by repeat (first | exact Drawn0.refl _ | apply Drawn0.step)) : p := h
theorem B3x1_ {p : Prop} (h : p := by (try simp only [List.map_toArray, List.map_cons, List.map_nil]); first | done | rfl | (simp only [List.length_drop, List.length_take]; rfl)) : p := h
theorem B3x2_ {p : Prop} (h : p := by first | rfl | (simp; done) | (simp [*]; done)) : p := h
/-! ### spec_l13Power: function 133 -/
def spec_l13Power.l0 : Nat → Int → Int → Int → Option (Int)
 | 0, _, _, _ => none
 | k + 1, x0, x3, x4 => if x4 < x0 then (if x3 < 64 then (spec_l13Power.l0 k x0 (wrap64 (2 * x3)) (wrap64 (x4 + 1))) else (some x3)) else (some x3)
def spec_l13Power.f (k : Nat) (a0 : Int) : Option (Int) := spec_l13Power.l0 k a0 1 0
theorem spec_l13Power.mono_l : ∀ k, (∀ y0 y1 y2, LeO (spec_l13Power.l0 k y0 y1 y2) (spec_l13Power.l0 (k + 1) y0 y1 y2))
 | 0 => fun _ _ _ r h => by simp [spec_l13Power.l0] at h
 | k + 1 => by
  have ih0 := spec_l13Power.mono_l k
  ·intro y0 y1 y2
   unfold spec_l13Power.l0
   repeat' first
   | (with_reducible exact ih0 _ _ _)
   | (with_reducible first | exact LeO.refl _ | exact LeO.none _ | refine LeO.ite ?_ ?_ | refine LeO.bind ?_ (fun _ => ?_))
   | exact ih0 _ _ _
theorem spec_l13Power.mono : ∀ a0 k, LeO (spec_l13Power.f k a0) (spec_l13Power.f (k + 1) a0) := by
 intro a0 k
 have ih0 := spec_l13Power.mono_l k
 unfold spec_l13Power.f
 repeat' first
   | (with_reducible exact ih0 _ _ _)
   | (with_reducible first | exact LeO.refl _ | exact LeO.none _ | refine LeO.ite ?_ ?_ | refine LeO.bind ?_ (fun _ => ?_))
   | exact ih0 _ _ _
set_option maxHeartbeats 8000000 in
set_option maxRecDepth 100000 in
theorem spec_l13Power.calls (k : Nat) (a0 : Int) (r : Int) (w : World) (h : spec_l13Power.f k a0 = some r) :
  Calls Try.prog 133 #[.int .i64 a0] w fun e w' => e = .returned (.int .i64 r) ∧ Drawn0 w w' := by
 have H : (spec_l13Power.l0 k a0 1 0) = some r := h
 clear h
 have H' := Aside0.mk H
 clear H
 go_enter Try.func133, Try.ntmps133
 go_wp2
 go_loopg [3, 4] k (fun kq v3 v4 w' => ∃ (x3_1 : Int) (x4_1 : Int), v3 = .int .i64 x3_1 ∧ v4 = .int .i64 x4_1 ∧ Aside0 (spec_l13Power.l0 kq a0 x3_1 x4_1 = some r) ∧ Aside0 (kq ≤ k) ∧ Drawn0 w w')
 case atStart => exact ⟨(1), (0), (be_), (be_), H', ⟨Nat.le_refl _⟩, by repeat (first | exact Drawn0.refl _ | apply Drawn0.step)⟩
 case round =>
  clear H'
  obtain ⟨x3_1, x4_1, rfl, rfl, HA, HK1, ⟨m1, rfl⟩⟩ := hrel
  cases gk with
  | zero => exact absurd HA.out (by simp [spec_l13Power.l0])
  | succ k1 =>
   have H := HA.out
   clear HA
   simp only [spec_l13Power.l0] at H
   by_cases c2 : x4_1 < a0
   ·rw [if_pos c2] at H
    have c2b0 : decide (x4_1 < a0) = true := decide_eq_true c2
    clear c2
    by_cases c3 : x3_1 < 64
    ·rw [if_pos c3] at H
     have c3b0 : decide (x3_1 < 64) = true := decide_eq_true c3
     clear c3
     have H' := Aside0.mk H
     clear H
     go_wp2
     go_roundg k1
     case measure => have := HK1.out; omega
     case rel => exact ⟨(wrap64 (2 * x3_1)), (wrap64 (x4_1 + 1)), (be_), (be_), H', ⟨(by have := HK1.out; omega)⟩, by repeat (first | exact Drawn0.refl _ | apply Drawn0.step)⟩
    ·rw [if_neg c3] at H
     have c3b0 : decide (x3_1 < 64) = false := decide_eq_false c3
     clear c3
     obtain rfl := Option.some.inj H
     go_wp2
     go_ret
     exact ⟨B3x2_, B3x0_⟩
   ·rw [if_neg c2] at H
    have c2b0 : decide (x4_1 < a0) = false := decide_eq_false c2
    clear c2
    obtain rfl := Option.some.inj H
    go_wp2
    go_ret
    exact ⟨B3x2_, B3x0_⟩

/-- A state of type 39 at block g of W; what its slices lead to came in by w0. -/
def IsS39 (w0 W : World) (g : Nat) (f0 : Int) (f1 : Int) (f2 : Int) (f3 : Int) (f4 : ByteArray) (f5 : Int) (f6 : Int) (f7 : Bool) (f8 : ByteArray) (f9 : Value) (f10 : Bool) (f11 : Int) (f12 : Int) : Prop := W.heap[g]? = some (.cells #[.int .i64 f0, .int .i64 f1, .int .i64 f2, .int .i64 f3, .string f4, .int .i64 f5, .int .i64 f6, .bool f7, .string f8, f9, .bool f10, .int .i64 f11, .int .i64 f12] 39 (0, 0)) ∧ w0.heap.size ≤ g
theorem IsS39.grown {w0 W : World} {g : Nat} {f0 : Int} {f1 : Int} {f2 : Int} {f3 : Int} {f4 : ByteArray} {f5 : Int} {f6 : Int} {f7 : Bool} {f8 : ByteArray} {f9 : Value} {f10 : Bool} {f11 : Int} {f12 : Int} {W1 : World} {row : Option Nat} (h : IsS39 w0 W g f0 f1 f2 f3 f4 f5 f6 f7 f8 f9 f10 f11 f12) (hw : W.grownBy W1 row) (hne : some g ≠ row) : IsS39 w0 W1 g f0 f1 f2 f3 f4 f5 f6 f7 f8 f9 f10 f11 f12 := by
 obtain ⟨hb, hg⟩ := h
 exact ⟨blk_grown hb hw hne, hg⟩
theorem IsS39.own_neN {w0 W : World} {g : Nat} {f0 : Int} {f1 : Int} {f2 : Int} {f3 : Int} {f4 : ByteArray} {f5 : Int} {f6 : Int} {f7 : Bool} {f8 : ByteArray} {f9 : Value} {f10 : Bool} {f11 : Int} {f12 : Int} {α : Type} {d : Kd α} {e : Nat} {base : Nat} {ok : Nat → Prop} {v : Value} {xs : List α} (h : IsS39 w0 W g f0 f1 f2 f3 f4 f5 f6 f7 f8 f9 f10 f11 f12) (ho : Kd.N d e W base ok v xs) (ht : e ≠ 39) : some g ≠ v.ownBlock := by
 obtain ⟨hb, hg⟩ := h
 exact Kd.N_ne ho hb ht
theorem IsS39.fresh {w0 W : World} {g : Nat} {f0 : Int} {f1 : Int} {f2 : Int} {f3 : Int} {f4 : ByteArray} {f5 : Int} {f6 : Int} {f7 : Bool} {f8 : ByteArray} {f9 : Value} {f10 : Bool} {f11 : Int} {f12 : Int} (h : IsS39 w0 W g f0 f1 f2 f3 f4 f5 f6 f7 f8 f9 f10 f11 f12) : ∀ k, W.heap.size ≤ k → k ≠ g := by
 obtain ⟨hb, hg⟩ := h
 exact Kd.freshB hb
theorem IsS39.kept {w0 W : World} {g : Nat} {f0 : Int} {f1 : Int} {f2 : Int} {f3 : Int} {f4 : ByteArray} {f5 : Int} {f6 : Int} {f7 : Bool} {f8 : ByteArray} {f9 : Value} {f10 : Bool} {f11 : Int} {f12 : Int} {W1 : World} {S : Nat → Prop} (h : IsS39 w0 W g f0 f1 f2 f3 f4 f5 f6 f7 f8 f9 f10 f11 f12) (hk : Kept W W1 S) (hne : ¬ S g) : IsS39 w0 W1 g f0 f1 f2 f3 f4 f5 f6 f7 f8 f9 f10 f11 f12 := by
 obtain ⟨hb, hg⟩ := h
 exact ⟨blk_kept hb hk hne, hg⟩
theorem IsS39.below {w0 W : World} {g : Nat} {f0 : Int} {f1 : Int} {f2 : Int} {f3 : Int} {f4 : ByteArray} {f5 : Int} {f6 : Int} {f7 : Bool} {f8 : ByteArray} {f9 : Value} {f10 : Bool} {f11 : Int} {f12 : Int} {W1 : World} (h : IsS39 w0 W g f0 f1 f2 f3 f4 f5 f6 f7 f8 f9 f10 f11 f12) (hw : Below W.heap.size W W1) : IsS39 w0 W1 g f0 f1 f2 f3 f4 f5 f6 f7 f8 f9 f10 f11 f12 := h.grown (grown_of_below hw none) (by simp)
theorem IsS39.alloc {w0 W : World} {g : Nat} {f0 : Int} {f1 : Int} {f2 : Int} {f3 : Int} {f4 : ByteArray} {f5 : Int} {f6 : Int} {f7 : Bool} {f8 : ByteArray} {f9 : Value} {f10 : Bool} {f11 : Int} {f12 : Int} (h : IsS39 w0 W g f0 f1 f2 f3 f4 f5 f6 f7 f8 f9 f10 f11 f12) (o : Obj) : IsS39 w0 (W.alloc o) g f0 f1 f2 f3 f4 f5 f6 f7 f8 f9 f10 f11 f12 := h.below (below_alloc (Below.refl _ _) o)
theorem IsS39.drewN {w0 W : World} {g : Nat} {f0 : Int} {f1 : Int} {f2 : Int} {f3 : Int} {f4 : ByteArray} {f5 : Int} {f6 : Int} {f7 : Bool} {f8 : ByteArray} {f9 : Value} {f10 : Bool} {f11 : Int} {f12 : Int} (h : IsS39 w0 W g f0 f1 f2 f3 f4 f5 f6 f7 f8 f9 f10 f11 f12) (m : Nat) : IsS39 w0 (W.drewN m) g f0 f1 f2 f3 f4 f5 f6 f7 f8 f9 f10 f11 f12 := h
theorem IsS39.drew {w0 W : World} {g : Nat} {f0 : Int} {f1 : Int} {f2 : Int} {f3 : Int} {f4 : ByteArray} {f5 : Int} {f6 : Int} {f7 : Bool} {f8 : ByteArray} {f9 : Value} {f10 : Bool} {f11 : Int} {f12 : Int} (h : IsS39 w0 W g f0 f1 f2 f3 f4 f5 f6 f7 f8 f9 f10 f11 f12) : IsS39 w0 W.drew g f0 f1 f2 f3 f4 f5 f6 f7 f8 f9 f10 f11 f12 := h
theorem IsS39.at_ {w0 W : World} {g : Nat} {f0 : Int} {f1 : Int} {f2 : Int} {f3 : Int} {f4 : ByteArray} {f5 : Int} {f6 : Int} {f7 : Bool} {f8 : ByteArray} {f9 : Value} {f10 : Bool} {f11 : Int} {f12 : Int} {w' : World} {m : Nat} (hq : W.drewN m = w') (h : IsS39 w0 W g f0 f1 f2 f3 f4 f5 f6 f7 f8 f9 f10 f11 f12) : IsS39 w0 w' g f0 f1 f2 f3 f4 f5 f6 f7 f8 f9 f10 f11 f12 := by subst hq; exact IsS39.drewN h m
theorem IsS39.apart {w0 W : World} {g : Nat} {f0 : Int} {f1 : Int} {f2 : Int} {f3 : Int} {f4 : ByteArray} {f5 : Int} {f6 : Int} {f7 : Bool} {f8 : ByteArray} {f9 : Value} {f10 : Bool} {f11 : Int} {f12 : Int} {α : Type} {d : Kd α} {e : Nat} {base : Nat} {ok : Nat → Prop} {v : Value} {xs : List α} (h : IsS39 w0 W g f0 f1 f2 f3 f4 f5 f6 f7 f8 f9 f10 f11 f12) (ho : d.R e W base ok v xs) (ht : ∀ q, q ∈ e :: d.E → q ≠ 39) : d.R e W base (fun k => ok k ∧ k ≠ g) v xs := by
 obtain ⟨hb, hg⟩ := h
 exact Kd.R_types ho hb ht
theorem IsS39.own_ne {w0 W : World} {g : Nat} {f0 : Int} {f1 : Int} {f2 : Int} {f3 : Int} {f4 : ByteArray} {f5 : Int} {f6 : Int} {f7 : Bool} {f8 : ByteArray} {f9 : Value} {f10 : Bool} {f11 : Int} {f12 : Int} {α : Type} {d : Kd α} {e : Nat} {base : Nat} {ok : Nat → Prop} {v : Value} {xs : List α} (h : IsS39 w0 W g f0 f1 f2 f3 f4 f5 f6 f7 f8 f9 f10 f11 f12) (ho : d.R e W base ok v xs) (ht : e ≠ 39) : some g ≠ v.ownBlock := by
 obtain ⟨hb, hg⟩ := h
 exact Kd.R_ne ho hb ht
theorem IsS39.apartQ {w0 W : World} {g : Nat} {f0 : Int} {f1 : Int} {f2 : Int} {f3 : Int} {f4 : ByteArray} {f5 : Int} {f6 : Int} {f7 : Bool} {f8 : ByteArray} {f9 : Value} {f10 : Bool} {f11 : Int} {f12 : Int} {α : Type} {d : Kd α} {e : Nat} {base : Nat} {ok : Nat → Prop} {v : Value} {xs : List α} (h : IsS39 w0 W g f0 f1 f2 f3 f4 f5 f6 f7 f8 f9 f10 f11 f12) (ho : d.Q e W base ok v xs) (ht : ∀ q, q ∈ e :: d.E → q ≠ 39) : d.Q e W base (fun k => ok k ∧ k ≠ g) v xs := by
 obtain ⟨hb, hg⟩ := h
 exact Kd.Q_types ho hb ht
theorem IsS39.own_neQ {w0 W : World} {g : Nat} {f0 : Int} {f1 : Int} {f2 : Int} {f3 : Int} {f4 : ByteArray} {f5 : Int} {f6 : Int} {f7 : Bool} {f8 : ByteArray} {f9 : Value} {f10 : Bool} {f11 : Int} {f12 : Int} {α : Type} {d : Kd α} {e : Nat} {base : Nat} {ok : Nat → Prop} {v : Value} {xs : List α} (h : IsS39 w0 W g f0 f1 f2 f3 f4 f5 f6 f7 f8 f9 f10 f11 f12) (ho : d.Q e W base ok v xs) (ht : e ≠ 39) : some g ≠ v.ownBlock := by
 obtain ⟨hb, hg⟩ := h
 exact Kd.Q_ne ho hb ht
theorem IsS39.apartS {w0 W : World} {g : Nat} {f0 : Int} {f1 : Int} {f2 : Int} {f3 : Int} {f4 : ByteArray} {f5 : Int} {f6 : Int} {f7 : Bool} {f8 : ByteArray} {f9 : Value} {f10 : Bool} {f11 : Int} {f12 : Int} {α : Type} {d : Kd α} {e : Nat} {base : Nat} {ok : Nat → Prop} {v : Value} {xs : List α} (h : IsS39 w0 W g f0 f1 f2 f3 f4 f5 f6 f7 f8 f9 f10 f11 f12) (ho : d.S e W base ok v xs) (ht : ∀ q, q ∈ e :: d.E → q ≠ 39) : d.S e W base (fun k => ok k ∧ k ≠ g) v xs := by
 obtain ⟨hb, hg⟩ := h
 exact Kd.S_types ho hb ht
theorem IsS39.own_neS {w0 W : World} {g : Nat} {f0 : Int} {f1 : Int} {f2 : Int} {f3 : Int} {f4 : ByteArray} {f5 : Int} {f6 : Int} {f7 : Bool} {f8 : ByteArray} {f9 : Value} {f10 : Bool} {f11 : Int} {f12 : Int} {α : Type} {d : Kd α} {e : Nat} {base : Nat} {ok : Nat → Prop} {v : Value} {xs : List α} (h : IsS39 w0 W g f0 f1 f2 f3 f4 f5 f6 f7 f8 f9 f10 f11 f12) (ho : d.S e W base ok v xs) (ht : e ≠ 39) : some g ≠ v.ownBlock := by
 obtain ⟨hb, hg⟩ := h
 exact Kd.S_ne ho hb ht
theorem IsS39.lt {w0 W : World} {g : Nat} {f0 : Int} {f1 : Int} {f2 : Int} {f3 : Int} {f4 : ByteArray} {f5 : Int} {f6 : Int} {f7 : Bool} {f8 : ByteArray} {f9 : Value} {f10 : Bool} {f11 : Int} {f12 : Int} (h : IsS39 w0 W g f0 f1 f2 f3 f4 f5 f6 f7 f8 f9 f10 f11 f12) : g < W.heap.size := by
 obtain ⟨hb, hg⟩ := h
 exact blk_lt hb
theorem IsS39.ge {w0 W : World} {g : Nat} {f0 : Int} {f1 : Int} {f2 : Int} {f3 : Int} {f4 : ByteArray} {f5 : Int} {f6 : Int} {f7 : Bool} {f8 : ByteArray} {f9 : Value} {f10 : Bool} {f11 : Int} {f12 : Int} (h : IsS39 w0 W g f0 f1 f2 f3 f4 f5 f6 f7 f8 f9 f10 f11 f12) : w0.heap.size ≤ g := by
 obtain ⟨hb, hg⟩ := h
 exact hg
theorem IsS39.ne_blk {w0 W : World} {g : Nat} {f0 : Int} {f1 : Int} {f2 : Int} {f3 : Int} {f4 : ByteArray} {f5 : Int} {f6 : Int} {f7 : Bool} {f8 : ByteArray} {f9 : Value} {f10 : Bool} {f11 : Int} {f12 : Int} {a : Nat} {cs : Array Value} {t : TypeId} {fr : Nat × Nat} (h : IsS39 w0 W g f0 f1 f2 f3 f4 f5 f6 f7 f8 f9 f10 f11 f12) (hb2 : W.heap[a]? = some (.cells cs t fr)) (ht : t ≠ 39) : g ≠ a := by
 obtain ⟨hb, hg⟩ := h
 rintro rfl
 rw [hb] at hb2
 injection hb2 with hb2
 injection hb2 with _ ht2
 exact ht ht2.symm
theorem IsS39.far {w0 W : World} {g : Nat} {f0 : Int} {f1 : Int} {f2 : Int} {f3 : Int} {f4 : ByteArray} {f5 : Int} {f6 : Int} {f7 : Bool} {f8 : ByteArray} {f9 : Value} {f10 : Bool} {f11 : Int} {f12 : Int} {p : Addr} (h : IsS39 w0 W g f0 f1 f2 f3 f4 f5 f6 f7 f8 f9 f10 f11 f12) (hne : g ≠ p.block) (u : Value) : IsS39 w0 (W.setCell p u) g f0 f1 f2 f3 f4 f5 f6 f7 f8 f9 f10 f11 f12 := by
 obtain ⟨hb, hg⟩ := h
 exact ⟨blk_far hb hne u, hg⟩
theorem cellS39_0 {W : World} {g : Nat} {f0 : Int} {f1 : Int} {f2 : Int} {f3 : Int} {f4 : ByteArray} {f5 : Int} {f6 : Int} {f7 : Bool} {f8 : ByteArray} {f9 : Value} {f10 : Bool} {f11 : Int} {f12 : Int} (h : W.heap[g]? = some (.cells #[.int .i64 f0, .int .i64 f1, .int .i64 f2, .int .i64 f3, .string f4, .int .i64 f5, .int .i64 f6, .bool f7, .string f8, f9, .bool f10, .int .i64 f11, .int .i64 f12] 39 (0, 0))) : W.cell? ⟨g, 0, none⟩ = some (.int .i64 f0) := (blk_cell h 0).trans rfl
theorem IsS39.set_0 {w0 W : World} {g : Nat} {f0 : Int} {f1 : Int} {f2 : Int} {f3 : Int} {f4 : ByteArray} {f5 : Int} {f6 : Int} {f7 : Bool} {f8 : ByteArray} {f9 : Value} {f10 : Bool} {f11 : Int} {f12 : Int} (h : IsS39 w0 W g f0 f1 f2 f3 f4 f5 f6 f7 f8 f9 f10 f11 f12) (x : Int) : IsS39 w0 (W.setCell ⟨g, 0, none⟩ (.int .i64 x)) g x f1 f2 f3 f4 f5 f6 f7 f8 f9 f10 f11 f12 := by
 obtain ⟨hb, hg⟩ := h
 exact ⟨(by simpa using blk_set hb 0 (.int .i64 x)), hg⟩
theorem cellS39_1 {W : World} {g : Nat} {f0 : Int} {f1 : Int} {f2 : Int} {f3 : Int} {f4 : ByteArray} {f5 : Int} {f6 : Int} {f7 : Bool} {f8 : ByteArray} {f9 : Value} {f10 : Bool} {f11 : Int} {f12 : Int} (h : W.heap[g]? = some (.cells #[.int .i64 f0, .int .i64 f1, .int .i64 f2, .int .i64 f3, .string f4, .int .i64 f5, .int .i64 f6, .bool f7, .string f8, f9, .bool f10, .int .i64 f11, .int .i64 f12] 39 (0, 0))) : W.cell? ⟨g, 1, none⟩ = some (.int .i64 f1) := (blk_cell h 1).trans rfl
theorem IsS39.set_1 {w0 W : World} {g : Nat} {f0 : Int} {f1 : Int} {f2 : Int} {f3 : Int} {f4 : ByteArray} {f5 : Int} {f6 : Int} {f7 : Bool} {f8 : ByteArray} {f9 : Value} {f10 : Bool} {f11 : Int} {f12 : Int} (h : IsS39 w0 W g f0 f1 f2 f3 f4 f5 f6 f7 f8 f9 f10 f11 f12) (x : Int) : IsS39 w0 (W.setCell ⟨g, 1, none⟩ (.int .i64 x)) g f0 x f2 f3 f4 f5 f6 f7 f8 f9 f10 f11 f12 := by
 obtain ⟨hb, hg⟩ := h
 exact ⟨(by simpa using blk_set hb 1 (.int .i64 x)), hg⟩
theorem cellS39_2 {W : World} {g : Nat} {f0 : Int} {f1 : Int} {f2 : Int} {f3 : Int} {f4 : ByteArray} {f5 : Int} {f6 : Int} {f7 : Bool} {f8 : ByteArray} {f9 : Value} {f10 : Bool} {f11 : Int} {f12 : Int} (h : W.heap[g]? = some (.cells #[.int .i64 f0, .int .i64 f1, .int .i64 f2, .int .i64 f3, .string f4, .int .i64 f5, .int .i64 f6, .bool f7, .string f8, f9, .bool f10, .int .i64 f11, .int .i64 f12] 39 (0, 0))) : W.cell? ⟨g, 2, none⟩ = some (.int .i64 f2) := (blk_cell h 2).trans rfl
theorem IsS39.set_2 {w0 W : World} {g : Nat} {f0 : Int} {f1 : Int} {f2 : Int} {f3 : Int} {f4 : ByteArray} {f5 : Int} {f6 : Int} {f7 : Bool} {f8 : ByteArray} {f9 : Value} {f10 : Bool} {f11 : Int} {f12 : Int} (h : IsS39 w0 W g f0 f1 f2 f3 f4 f5 f6 f7 f8 f9 f10 f11 f12) (x : Int) : IsS39 w0 (W.setCell ⟨g, 2, none⟩ (.int .i64 x)) g f0 f1 x f3 f4 f5 f6 f7 f8 f9 f10 f11 f12 := by
 obtain ⟨hb, hg⟩ := h
 exact ⟨(by simpa using blk_set hb 2 (.int .i64 x)), hg⟩
theorem cellS39_3 {W : World} {g : Nat} {f0 : Int} {f1 : Int} {f2 : Int} {f3 : Int} {f4 : ByteArray} {f5 : Int} {f6 : Int} {f7 : Bool} {f8 : ByteArray} {f9 : Value} {f10 : Bool} {f11 : Int} {f12 : Int} (h : W.heap[g]? = some (.cells #[.int .i64 f0, .int .i64 f1, .int .i64 f2, .int .i64 f3, .string f4, .int .i64 f5, .int .i64 f6, .bool f7, .string f8, f9, .bool f10, .int .i64 f11, .int .i64 f12] 39 (0, 0))) : W.cell? ⟨g, 3, none⟩ = some (.int .i64 f3) := (blk_cell h 3).trans rfl
theorem IsS39.set_3 {w0 W : World} {g : Nat} {f0 : Int} {f1 : Int} {f2 : Int} {f3 : Int} {f4 : ByteArray} {f5 : Int} {f6 : Int} {f7 : Bool} {f8 : ByteArray} {f9 : Value} {f10 : Bool} {f11 : Int} {f12 : Int} (h : IsS39 w0 W g f0 f1 f2 f3 f4 f5 f6 f7 f8 f9 f10 f11 f12) (x : Int) : IsS39 w0 (W.setCell ⟨g, 3, none⟩ (.int .i64 x)) g f0 f1 f2 x f4 f5 f6 f7 f8 f9 f10 f11 f12 := by
 obtain ⟨hb, hg⟩ := h
 exact ⟨(by simpa using blk_set hb 3 (.int .i64 x)), hg⟩
theorem cellS39_4 {W : World} {g : Nat} {f0 : Int} {f1 : Int} {f2 : Int} {f3 : Int} {f4 : ByteArray} {f5 : Int} {f6 : Int} {f7 : Bool} {f8 : ByteArray} {f9 : Value} {f10 : Bool} {f11 : Int} {f12 : Int} (h : W.heap[g]? = some (.cells #[.int .i64 f0, .int .i64 f1, .int .i64 f2, .int .i64 f3, .string f4, .int .i64 f5, .int .i64 f6, .bool f7, .string f8, f9, .bool f10, .int .i64 f11, .int .i64 f12] 39 (0, 0))) : W.cell? ⟨g, 4, none⟩ = some (.string f4) := (blk_cell h 4).trans rfl
theorem IsS39.set_4 {w0 W : World} {g : Nat} {f0 : Int} {f1 : Int} {f2 : Int} {f3 : Int} {f4 : ByteArray} {f5 : Int} {f6 : Int} {f7 : Bool} {f8 : ByteArray} {f9 : Value} {f10 : Bool} {f11 : Int} {f12 : Int} (h : IsS39 w0 W g f0 f1 f2 f3 f4 f5 f6 f7 f8 f9 f10 f11 f12) (x : ByteArray) : IsS39 w0 (W.setCell ⟨g, 4, none⟩ (.string x)) g f0 f1 f2 f3 x f5 f6 f7 f8 f9 f10 f11 f12 := by
 obtain ⟨hb, hg⟩ := h
 exact ⟨(by simpa using blk_set hb 4 (.string x)), hg⟩
theorem cellS39_5 {W : World} {g : Nat} {f0 : Int} {f1 : Int} {f2 : Int} {f3 : Int} {f4 : ByteArray} {f5 : Int} {f6 : Int} {f7 : Bool} {f8 : ByteArray} {f9 : Value} {f10 : Bool} {f11 : Int} {f12 : Int} (h : W.heap[g]? = some (.cells #[.int .i64 f0, .int .i64 f1, .int .i64 f2, .int .i64 f3, .string f4, .int .i64 f5, .int .i64 f6, .bool f7, .string f8, f9, .bool f10, .int .i64 f11, .int .i64 f12] 39 (0, 0))) : W.cell? ⟨g, 5, none⟩ = some (.int .i64 f5) := (blk_cell h 5).trans rfl
theorem IsS39.set_5 {w0 W : World} {g : Nat} {f0 : Int} {f1 : Int} {f2 : Int} {f3 : Int} {f4 : ByteArray} {f5 : Int} {f6 : Int} {f7 : Bool} {f8 : ByteArray} {f9 : Value} {f10 : Bool} {f11 : Int} {f12 : Int} (h : IsS39 w0 W g f0 f1 f2 f3 f4 f5 f6 f7 f8 f9 f10 f11 f12) (x : Int) : IsS39 w0 (W.setCell ⟨g, 5, none⟩ (.int .i64 x)) g f0 f1 f2 f3 f4 x f6 f7 f8 f9 f10 f11 f12 := by
 obtain ⟨hb, hg⟩ := h
 exact ⟨(by simpa using blk_set hb 5 (.int .i64 x)), hg⟩
theorem cellS39_6 {W : World} {g : Nat} {f0 : Int} {f1 : Int} {f2 : Int} {f3 : Int} {f4 : ByteArray} {f5 : Int} {f6 : Int} {f7 : Bool} {f8 : ByteArray} {f9 : Value} {f10 : Bool} {f11 : Int} {f12 : Int} (h : W.heap[g]? = some (.cells #[.int .i64 f0, .int .i64 f1, .int .i64 f2, .int .i64 f3, .string f4, .int .i64 f5, .int .i64 f6, .bool f7, .string f8, f9, .bool f10, .int .i64 f11, .int .i64 f12] 39 (0, 0))) : W.cell? ⟨g, 6, none⟩ = some (.int .i64 f6) := (blk_cell h 6).trans rfl
theorem IsS39.set_6 {w0 W : World} {g : Nat} {f0 : Int} {f1 : Int} {f2 : Int} {f3 : Int} {f4 : ByteArray} {f5 : Int} {f6 : Int} {f7 : Bool} {f8 : ByteArray} {f9 : Value} {f10 : Bool} {f11 : Int} {f12 : Int} (h : IsS39 w0 W g f0 f1 f2 f3 f4 f5 f6 f7 f8 f9 f10 f11 f12) (x : Int) : IsS39 w0 (W.setCell ⟨g, 6, none⟩ (.int .i64 x)) g f0 f1 f2 f3 f4 f5 x f7 f8 f9 f10 f11 f12 := by
 obtain ⟨hb, hg⟩ := h
 exact ⟨(by simpa using blk_set hb 6 (.int .i64 x)), hg⟩
theorem cellS39_7 {W : World} {g : Nat} {f0 : Int} {f1 : Int} {f2 : Int} {f3 : Int} {f4 : ByteArray} {f5 : Int} {f6 : Int} {f7 : Bool} {f8 : ByteArray} {f9 : Value} {f10 : Bool} {f11 : Int} {f12 : Int} (h : W.heap[g]? = some (.cells #[.int .i64 f0, .int .i64 f1, .int .i64 f2, .int .i64 f3, .string f4, .int .i64 f5, .int .i64 f6, .bool f7, .string f8, f9, .bool f10, .int .i64 f11, .int .i64 f12] 39 (0, 0))) : W.cell? ⟨g, 7, none⟩ = some (.bool f7) := (blk_cell h 7).trans rfl
theorem IsS39.set_7 {w0 W : World} {g : Nat} {f0 : Int} {f1 : Int} {f2 : Int} {f3 : Int} {f4 : ByteArray} {f5 : Int} {f6 : Int} {f7 : Bool} {f8 : ByteArray} {f9 : Value} {f10 : Bool} {f11 : Int} {f12 : Int} (h : IsS39 w0 W g f0 f1 f2 f3 f4 f5 f6 f7 f8 f9 f10 f11 f12) (x : Bool) : IsS39 w0 (W.setCell ⟨g, 7, none⟩ (.bool x)) g f0 f1 f2 f3 f4 f5 f6 x f8 f9 f10 f11 f12 := by
 obtain ⟨hb, hg⟩ := h
 exact ⟨(by simpa using blk_set hb 7 (.bool x)), hg⟩
theorem cellS39_8 {W : World} {g : Nat} {f0 : Int} {f1 : Int} {f2 : Int} {f3 : Int} {f4 : ByteArray} {f5 : Int} {f6 : Int} {f7 : Bool} {f8 : ByteArray} {f9 : Value} {f10 : Bool} {f11 : Int} {f12 : Int} (h : W.heap[g]? = some (.cells #[.int .i64 f0, .int .i64 f1, .int .i64 f2, .int .i64 f3, .string f4, .int .i64 f5, .int .i64 f6, .bool f7, .string f8, f9, .bool f10, .int .i64 f11, .int .i64 f12] 39 (0, 0))) : W.cell? ⟨g, 8, none⟩ = some (.string f8) := (blk_cell h 8).trans rfl
theorem IsS39.set_8 {w0 W : World} {g : Nat} {f0 : Int} {f1 : Int} {f2 : Int} {f3 : Int} {f4 : ByteArray} {f5 : Int} {f6 : Int} {f7 : Bool} {f8 : ByteArray} {f9 : Value} {f10 : Bool} {f11 : Int} {f12 : Int} (h : IsS39 w0 W g f0 f1 f2 f3 f4 f5 f6 f7 f8 f9 f10 f11 f12) (x : ByteArray) : IsS39 w0 (W.setCell ⟨g, 8, none⟩ (.string x)) g f0 f1 f2 f3 f4 f5 f6 f7 x f9 f10 f11 f12 := by
 obtain ⟨hb, hg⟩ := h
 exact ⟨(by simpa using blk_set hb 8 (.string x)), hg⟩
theorem cellS39_9 {W : World} {g : Nat} {f0 : Int} {f1 : Int} {f2 : Int} {f3 : Int} {f4 : ByteArray} {f5 : Int} {f6 : Int} {f7 : Bool} {f8 : ByteArray} {f9 : Value} {f10 : Bool} {f11 : Int} {f12 : Int} (h : W.heap[g]? = some (.cells #[.int .i64 f0, .int .i64 f1, .int .i64 f2, .int .i64 f3, .string f4, .int .i64 f5, .int .i64 f6, .bool f7, .string f8, f9, .bool f10, .int .i64 f11, .int .i64 f12] 39 (0, 0))) : W.cell? ⟨g, 9, none⟩ = some (f9) := (blk_cell h 9).trans rfl
theorem cellS39_10 {W : World} {g : Nat} {f0 : Int} {f1 : Int} {f2 : Int} {f3 : Int} {f4 : ByteArray} {f5 : Int} {f6 : Int} {f7 : Bool} {f8 : ByteArray} {f9 : Value} {f10 : Bool} {f11 : Int} {f12 : Int} (h : W.heap[g]? = some (.cells #[.int .i64 f0, .int .i64 f1, .int .i64 f2, .int .i64 f3, .string f4, .int .i64 f5, .int .i64 f6, .bool f7, .string f8, f9, .bool f10, .int .i64 f11, .int .i64 f12] 39 (0, 0))) : W.cell? ⟨g, 10, none⟩ = some (.bool f10) := (blk_cell h 10).trans rfl
theorem IsS39.set_10 {w0 W : World} {g : Nat} {f0 : Int} {f1 : Int} {f2 : Int} {f3 : Int} {f4 : ByteArray} {f5 : Int} {f6 : Int} {f7 : Bool} {f8 : ByteArray} {f9 : Value} {f10 : Bool} {f11 : Int} {f12 : Int} (h : IsS39 w0 W g f0 f1 f2 f3 f4 f5 f6 f7 f8 f9 f10 f11 f12) (x : Bool) : IsS39 w0 (W.setCell ⟨g, 10, none⟩ (.bool x)) g f0 f1 f2 f3 f4 f5 f6 f7 f8 f9 x f11 f12 := by
 obtain ⟨hb, hg⟩ := h
 exact ⟨(by simpa using blk_set hb 10 (.bool x)), hg⟩
theorem cellS39_11 {W : World} {g : Nat} {f0 : Int} {f1 : Int} {f2 : Int} {f3 : Int} {f4 : ByteArray} {f5 : Int} {f6 : Int} {f7 : Bool} {f8 : ByteArray} {f9 : Value} {f10 : Bool} {f11 : Int} {f12 : Int} (h : W.heap[g]? = some (.cells #[.int .i64 f0, .int .i64 f1, .int .i64 f2, .int .i64 f3, .string f4, .int .i64 f5, .int .i64 f6, .bool f7, .string f8, f9, .bool f10, .int .i64 f11, .int .i64 f12] 39 (0, 0))) : W.cell? ⟨g, 11, none⟩ = some (.int .i64 f11) := (blk_cell h 11).trans rfl
theorem IsS39.set_11 {w0 W : World} {g : Nat} {f0 : Int} {f1 : Int} {f2 : Int} {f3 : Int} {f4 : ByteArray} {f5 : Int} {f6 : Int} {f7 : Bool} {f8 : ByteArray} {f9 : Value} {f10 : Bool} {f11 : Int} {f12 : Int} (h : IsS39 w0 W g f0 f1 f2 f3 f4 f5 f6 f7 f8 f9 f10 f11 f12) (x : Int) : IsS39 w0 (W.setCell ⟨g, 11, none⟩ (.int .i64 x)) g f0 f1 f2 f3 f4 f5 f6 f7 f8 f9 f10 x f12 := by
 obtain ⟨hb, hg⟩ := h
 exact ⟨(by simpa using blk_set hb 11 (.int .i64 x)), hg⟩
theorem cellS39_12 {W : World} {g : Nat} {f0 : Int} {f1 : Int} {f2 : Int} {f3 : Int} {f4 : ByteArray} {f5 : Int} {f6 : Int} {f7 : Bool} {f8 : ByteArray} {f9 : Value} {f10 : Bool} {f11 : Int} {f12 : Int} (h : W.heap[g]? = some (.cells #[.int .i64 f0, .int .i64 f1, .int .i64 f2, .int .i64 f3, .string f4, .int .i64 f5, .int .i64 f6, .bool f7, .string f8, f9, .bool f10, .int .i64 f11, .int .i64 f12] 39 (0, 0))) : W.cell? ⟨g, 12, none⟩ = some (.int .i64 f12) := (blk_cell h 12).trans rfl
theorem IsS39.set_12 {w0 W : World} {g : Nat} {f0 : Int} {f1 : Int} {f2 : Int} {f3 : Int} {f4 : ByteArray} {f5 : Int} {f6 : Int} {f7 : Bool} {f8 : ByteArray} {f9 : Value} {f10 : Bool} {f11 : Int} {f12 : Int} (h : IsS39 w0 W g f0 f1 f2 f3 f4 f5 f6 f7 f8 f9 f10 f11 f12) (x : Int) : IsS39 w0 (W.setCell ⟨g, 12, none⟩ (.int .i64 x)) g f0 f1 f2 f3 f4 f5 f6 f7 f8 f9 f10 f11 x := by
 obtain ⟨hb, hg⟩ := h
 exact ⟨(by simpa using blk_set hb 12 (.int .i64 x)), hg⟩
theorem IsS39.new (w0 W : World) (f0 : Int) (f1 : Int) (f2 : Int) (f3 : Int) (f4 : ByteArray) (f5 : Int) (f6 : Int) (f7 : Bool) (f8 : ByteArray) (f9 : Value) (f10 : Bool) (f11 : Int) (f12 : Int) (hB : Below w0.heap.size w0 W) : IsS39 w0 (W.alloc (.cells #[.int .i64 f0, .int .i64 f1, .int .i64 f2, .int .i64 f3, .string f4, .int .i64 f5, .int .i64 f6, .bool f7, .string f8, f9, .bool f10, .int .i64 f11, .int .i64 f12] 39)) W.heap.size f0 f1 f2 f3 f4 f5 f6 f7 f8 f9 f10 f11 f12 := ⟨by simpa using heap_alloc_new W _, hB.size⟩

/-! ### spec_l13Again: function 71 -/
def spec_l13Again.f (k : Nat) (s0_0 : Int) (s0_1 : Int) (s0_2 : Int) (s0_3 : Int) (s0_4 : ByteArray) (s0_5 : Int) (s0_6 : Int) (s0_7 : Bool) (s0_8 : ByteArray) (s0_9 : List (S143)) (s0_10 : Bool) (s0_11 : Int) (s0_12 : Int) (a1 : Int) : Option (Int × Int × Int × Int × ByteArray × Int × Int × Bool × ByteArray × Bool × Int × Int) := (spec_l13Less.f (wrap64 (s0_12 + 1)) 12).bind fun t134 => ((spec_l13Power.f k t134).bind fun t135 => (some (s0_0, s0_1, s0_2, s0_3, s0_4, s0_5, s0_6, s0_7, s0_8, false, wrap64 (a1 + t135), t134)))
theorem spec_l13Again.mono : ∀ a0 a1 a2 a3 a4 a5 a6 a7 a8 a9 a10 a11 a12 a13 k, LeO (spec_l13Again.f k a0 a1 a2 a3 a4 a5 a6 a7 a8 a9 a10 a11 a12 a13) (spec_l13Again.f (k + 1) a0 a1 a2 a3 a4 a5 a6 a7 a8 a9 a10 a11 a12 a13) := by
 intro a0 a1 a2 a3 a4 a5 a6 a7 a8 a9 a10 a11 a12 a13 k
 unfold spec_l13Again.f
 repeat' first
   | (with_reducible exact spec_l13Power.mono _ _)
   | (with_reducible first | exact LeO.refl _ | exact LeO.none _ | refine LeO.ite ?_ ?_ | refine LeO.bind ?_ (fun _ => ?_))
   | exact spec_l13Power.mono _ _
set_option maxHeartbeats 8000000 in
set_option maxRecDepth 100000 in
theorem spec_l13Again.calls (k : Nat) (g : Nat) (s0_0 : Int) (s0_1 : Int) (s0_2 : Int) (s0_3 : Int) (s0_4 : ByteArray) (s0_5 : Int) (s0_6 : Int) (s0_7 : Bool) (s0_8 : ByteArray) (s0_9 : List (S143)) (s0_9v : Value) (s0_10 : Bool) (s0_11 : Int) (s0_12 : Int) (a1 : Int) (r1 : Int) (r2 : Int) (r3 : Int) (r4 : Int) (r5 : ByteArray) (r6 : Int) (r7 : Int) (r8 : Bool) (r9 : ByteArray) (r10 : Bool) (r11 : Int) (r12 : Int) (w0 w : World) (hI : IsS39 w0 w g s0_0 s0_1 s0_2 s0_3 s0_4 s0_5 s0_6 s0_7 s0_8 s0_9v s0_10 s0_11 s0_12) (hB : Below w0.heap.size w0 w) (h : spec_l13Again.f k s0_0 s0_1 s0_2 s0_3 s0_4 s0_5 s0_6 s0_7 s0_8 s0_9 s0_10 s0_11 s0_12 a1 = some (r1, r2, r3, r4, r5, r6, r7, r8, r9, r10, r11, r12)) :
  Calls Try.prog 71 #[.pointer (some ⟨g, 0, none⟩), .int .i64 a1] w fun e w' => e = .returned (.tuple #[]) ∧ IsS39 w0 w' g r1 r2 r3 r4 r5 r6 r7 r8 r9 s0_9v r10 r11 r12 ∧ Below w0.heap.size w0 w' ∧ KeepBut w w' g none := by
 have HI0 := Aside0.mk hI
 have HK := Aside0.mk (KeepBut.refl w g none)
 have HL := Aside0.mk hB.size
 clear hI
 have HW0 := Aside0.mk hB.size
 have HB := Aside0.mk hB
 clear hB
 have H : ((spec_l13Less.f (wrap64 (s0_12 + 1)) 12).bind fun t134 => ((spec_l13Power.f k t134).bind fun t135 => (some (s0_0, s0_1, s0_2, s0_3, s0_4, s0_5, s0_6, s0_7, s0_8, false, wrap64 (a1 + t135), t134)))) = some (r1, r2, r3, r4, r5, r6, r7, r8, r9, r10, r11, r12) := h
 clear h
 replace H := bsi H
 obtain ⟨t134, A3, H⟩ := H
 (try dsimp only at H)
 replace H := bsi H
 obtain ⟨t135, A4, H⟩ := H
 (try dsimp only at H)
 simp only [Option.some.injEq, Prod.mk.injEq] at H
 obtain ⟨rfl, rfl, rfl, rfl, rfl, rfl, rfl, rfl, rfl, rfl, rfl, rfl⟩ := H
 obtain ⟨HGz5, hgz5⟩ := HI0.out
 have hcz5_0 := cellS39_0 HGz5
 have hcz5_1 := cellS39_1 HGz5
 have hcz5_2 := cellS39_2 HGz5
 have hcz5_3 := cellS39_3 HGz5
 have hcz5_4 := cellS39_4 HGz5
 have hcz5_5 := cellS39_5 HGz5
 have hcz5_6 := cellS39_6 HGz5
 have hcz5_7 := cellS39_7 HGz5
 have hcz5_8 := cellS39_8 HGz5
 have hcz5_9 := cellS39_9 HGz5
 have hcz5_10 := cellS39_10 HGz5
 have hcz5_11 := cellS39_11 HGz5
 have hcz5_12 := cellS39_12 HGz5
 obtain ⟨hfz5_0, hfz5_1, hfz5_2, hfz5_3, hfz5_4, hfz5_5, hfz5_6, hfz5_7, hfz5_8⟩ := fr9 HGz5
 have hfz5_10 := blk_frozen HGz5 10
 have hfz5_11 := blk_frozen HGz5 11
 have hfz5_12 := blk_frozen HGz5 12
 clear HGz5 hgz5
 go_enter Try.func71, Try.ntmps71
 go_wp2_with (first | ((with_reducible refine gate_callee (f := 131) rfl ?_); refine goesL_ (some 10) rfl rfl Try.func131 (by kernel_rfl) rfl #[.int .i64 (wrap64 (s0_12 + 1)), .int .i64 12] rfl B3x1_ ?_; (with_reducible refine (spec_l13Less.calls (wrap64 (s0_12 + 1)) 12 t134 _ A3.out).mono ?_); rintro e w' ⟨rfl, ⟨nd, rfl⟩⟩; refine ⟨_, rfl, ?_⟩) | ((with_reducible refine gate_callee (f := 133) rfl ?_); refine goesL_ (some 19) rfl rfl Try.func133 (by kernel_rfl) rfl #[.int .i64 t134] rfl B3x1_ ?_; (with_reducible refine (spec_l13Power.calls k t134 t135 _ A4.out).mono ?_); rintro e w' ⟨rfl, ⟨nd, rfl⟩⟩; refine ⟨_, rfl, ?_⟩))
 first | go_end0 | ((try simp only [Exit.inBlock, Exit.then]); refine bodyPost_ret (results_none rfl _ _ _) rfl ?_)
 exact ⟨(by first | rfl | (simp [errW_none, errW_some] <;> rfl) | (simp [*, errW_none, errW_some] <;> rfl)), (by repeat (first | (with_reducible first | exact HI0.out | apply IsS39.alloc | apply IsS39.drewN | apply IsS39.drew | apply IsS39.set_0 | apply IsS39.set_1 | apply IsS39.set_2 | apply IsS39.set_3 | apply IsS39.set_4 | apply IsS39.set_5 | apply IsS39.set_6 | apply IsS39.set_7 | apply IsS39.set_8 | apply IsS39.set_10 | apply IsS39.set_11 | apply IsS39.set_12) | exact HI0.out)), (by repeat (first | (with_reducible first | exact HB.out | apply below_alloc | apply pw_below_drewN | apply below_drew1 | refine below_set ?_ (IsS39.ge HI0.out)) | exact HB.out)), (by repeat (first | (with_reducible first | exact HK.out | apply KeepBut.set_ | apply keep_drewN | apply keep_drew | apply keep_alloc) | exact HK.out))⟩

/-! ### spec_AddNum: function 132 -/
def spec_AddNum.f (a0 : Int) (a1 : Int) : Option (Int) := if (Int.tmod (wrap64 ((Int.tmod a0 65536) + (Int.tmod a1 65536))) 65536) < 0 then (some (wrap64 ((Int.tmod (wrap64 ((Int.tmod a0 65536) + (Int.tmod a1 65536))) 65536) + 65536))) else (some (Int.tmod (wrap64 ((Int.tmod a0 65536) + (Int.tmod a1 65536))) 65536))
set_option maxHeartbeats 8000000 in
set_option maxRecDepth 100000 in
theorem spec_AddNum.calls (a0 : Int) (a1 : Int) (r : Int) (w : World) (h : spec_AddNum.f a0 a1 = some r) :
  Calls Try.prog 132 #[.int .i64 a0, .int .i64 a1] w fun e w' => e = .returned (.int .i64 r) ∧ Drawn0 w w' := by
 have H : (if (Int.tmod (wrap64 ((Int.tmod a0 65536) + (Int.tmod a1 65536))) 65536) < 0 then (some (wrap64 ((Int.tmod (wrap64 ((Int.tmod a0 65536) + (Int.tmod a1 65536))) 65536) + 65536))) else (some (Int.tmod (wrap64 ((Int.tmod a0 65536) + (Int.tmod a1 65536))) 65536))) = some r := h
 clear h
 by_cases c3 : (Int.tmod (wrap64 ((Int.tmod a0 65536) + (Int.tmod a1 65536))) 65536) < 0
 ·rw [if_pos c3] at H
  have c3b0 : decide ((Int.tmod (wrap64 ((Int.tmod a0 65536) + (Int.tmod a1 65536))) 65536) < 0) = true := decide_eq_true c3
  clear c3
  obtain rfl := Option.some.inj H
  go_enter Try.func132, Try.ntmps132
  go_wp2
  go_ret
  exact ⟨B3x2_, B3x0_⟩
 ·rw [if_neg c3] at H
  have c3b0 : decide ((Int.tmod (wrap64 ((Int.tmod a0 65536) + (Int.tmod a1 65536))) 65536) < 0) = false := decide_eq_false c3
  clear c3
  obtain rfl := Option.some.inj H
  go_enter Try.func132, Try.ntmps132
  go_wp2
  go_ret
  exact ⟨B3x2_, B3x0_⟩

end Go.Proofs.Ytmknnoeggkgkgaa.QFnExactPush
