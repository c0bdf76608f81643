/- What a fact of the old world is behind draws, new blocks and stores, at once. No condition. -/
import Derived.Test.YtjaamflffmhicaaVFnExactUnwrapMore
import Derived.WalkKit
import Derived.RowKit
namespace Go.Proofs.Ytjaamflffmhicaa.Short
open Go.RowKit Go.Proofs.YtjaamflffmhicaaW.PrintWords Go.Proofs.YtjaamflffmhicaaW.PrintLast Go.Proofs.YtjaamflffmhicaaW.PrintMore
theorem bb {w W w' : World} {g : Nat} {o : Obj} (old : w.heap[g]? = some o) (hb : Below W.heap.size W w') (h : w.heap[g]? = some o → W.heap[g]? = some o := by intro h_; (with_reducible repeat (first | exact h_ | refine blk_drewN ?_ _ | refine blk_drew ?_ | refine blk_alloc ?_ _))) : w'.heap[g]? = some o := blk_below (h old) hb
theorem zs {b : Nat} {W : World} {p : Addr} {u : Value} (h : b ≤ W.heap.size) : b ≤ (W.setCell p u).heap.size := by simpa [World.setCell] using h
theorem za {b : Nat} {W : World} {o : Obj} (h : b ≤ W.heap.size) : b ≤ (W.alloc o).heap.size := Nat.le_trans h (by show W.heap.size ≤ (W.heap.push o).size; simp)
theorem zd {b : Nat} {W : World} (h : b ≤ W.heap.size) : b ≤ W.drew.heap.size := h
theorem zn {b n : Nat} {W : World} (h : b ≤ W.heap.size) : b ≤ (W.drewN n).heap.size := h
theorem bs {a b : Nat} {w W : World} (hg : a = W.heap.size) (old : b ≤ w.heap.size) (h : w.heap.size ≤ W.heap.size := by with_reducible repeat (first | exact Nat.le_refl _ | apply zn | apply zd | apply za | apply zs)) : b ≤ a := by rw [hg]; exact Nat.le_trans old h
theorem nl {a g : Nat} {w W : World} (hg : a = W.heap.size) (old : g < w.heap.size) (h : w.heap.size ≤ W.heap.size := by with_reducible repeat (first | exact Nat.le_refl _ | apply zn | apply zd | apply za | apply zs)) : g ≠ a := by rw [hg]; exact Nat.ne_of_lt (Nat.lt_of_lt_of_le old h)
theorem ng {a g : Nat} {w W : World} (hg : a = W.heap.size) (old : g < w.heap.size) (h : w.heap.size ≤ W.heap.size := by with_reducible repeat (first | exact Nat.le_refl _ | apply zn | apply zd | apply za | apply zs)) : a ≠ g := by rw [hg]; exact Nat.ne_of_gt (Nat.lt_of_lt_of_le old h)
theorem bf {w : World} {g b i : Nat} {t : TypeId} {cs : Array Value} {u : Value} (hp : g ≠ b) (h : w.heap[g]? = some (.cells cs t (0, 0))) : (w.setCell ⟨b, i, none⟩ u).heap[g]? = some (.cells cs t (0, 0)) := blk_far h hp u
theorem bsi {α β : Type} {o : Option α} {f : α → Option β} {r : β} (h : o.bind f = some r) : ∃ a, Aside0 (o = some a) ∧ f a = some r := by
  obtain ⟨a, h1, h2⟩ := Option.bind_eq_some_iff.mp h
  exact ⟨a, ⟨h1⟩, h2⟩
end Go.Proofs.Ytjaamflffmhicaa.Short
