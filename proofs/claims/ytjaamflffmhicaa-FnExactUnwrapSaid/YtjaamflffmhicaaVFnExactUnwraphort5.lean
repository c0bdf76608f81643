/- Closed blocks of a printed walk as lemmas: each is handed the fact that it leads from, and shows the way by itself. No condition. -/
import Derived.Test.YtjaamflffmhicaaVFnExactUnwraphort4
import Derived.Test.YtjaamflffmhicaaVFnExactUnwrapMore
import Derived.WalkKit
import Derived.RowKit
import Derived.KernelRfl
namespace Go.Proofs.Ytjaamflffmhicaa.Short
open Go.RowKit Go.Proofs.YtjaamflffmhicaaW.PrintWords Go.Proofs.YtjaamflffmhicaaW.PrintLast Go.Proofs.YtjaamflffmhicaaW.PrintMore
theorem am {p : Prop} (h : p) : Aside0 p := ⟨h⟩
theorem tb {p q : Prop} (x : q) (h : q → p := by intro q_; (with_reducible repeat (first | refine blk_drewN ?_ _ | refine blk_drew ?_ | refine blk_alloc ?_ _)); exact q_) : p := h x
theorem tp0 {p q : Prop} (x : q) (h : q → p := by intro q_; (repeat (with_reducible (first | exact q_ | apply blk_drewN | apply blk_drew | apply blk_alloc | apply blk_put))); repeat (first | exact q_ | (simp only [List.setIfInBounds_toArray, List.set_cons_zero, List.set_cons_succ]; with_reducible rfl) | rfl)) : p := h x
theorem tp1 {p q r0 : Prop} (x : q) (z0 : r0) (h : q → r0 → p := by intro q_ y0_; (repeat (with_reducible (first | exact q_ | apply blk_drewN | apply blk_drew | apply blk_alloc | apply blk_put | apply bf y0_))); repeat (first | exact q_ | (simp only [List.setIfInBounds_toArray, List.set_cons_zero, List.set_cons_succ]; with_reducible rfl) | rfl)) : p := h x z0
theorem wtp1 {p q r0 : Prop} (x : q) (z0 : r0) (h : q → r0 → p := by intro q_ y0_; rw [hw]; (repeat (with_reducible (first | exact q_ | apply blk_drewN | apply blk_drew | apply blk_alloc | apply blk_put | apply bf y0_))); repeat (first | exact q_ | (simp only [List.setIfInBounds_toArray, List.set_cons_zero, List.set_cons_succ]; with_reducible rfl) | rfl)) : p := h x z0
theorem te1 {p q r0 : Prop} (x : q) (z0 : r0) (h : q → r0 → p := by intro q_ y0_; repeat (first | (with_reducible first | exact q_ | apply below_alloc | apply pw_below_drewN | apply below_drew1 | refine below_set ?_ y0_) | exact q_)) : p := h x z0
theorem te2 {p q r0 r1 : Prop} (x : q) (z0 : r0) (z1 : r1) (h : q → r0 → r1 → p := by intro q_ y0_ y1_; repeat (first | (with_reducible first | exact q_ | apply below_alloc | apply pw_below_drewN | apply below_drew1 | refine below_set ?_ y0_ | refine below_set ?_ y1_) | exact q_)) : p := h x z0 z1
theorem te3 {p q r0 r1 r2 : Prop} (x : q) (z0 : r0) (z1 : r1) (z2 : r2) (h : q → r0 → r1 → r2 → p := by intro q_ y0_ y1_ y2_; repeat (first | (with_reducible first | exact q_ | apply below_alloc | apply pw_below_drewN | apply below_drew1 | refine below_set ?_ y0_ | refine below_set ?_ y1_ | refine below_set ?_ y2_) | exact q_)) : p := h x z0 z1 z2
theorem td {p q : Prop} (x : q) (h : q → p := by intro q_; repeat (first | (with_reducible exact q_) | (with_reducible refine Kd.C_alloc ?_ _) | (with_reducible refine Kd.C_drewN ?_ _) | (with_reducible refine Kd.C_drew ?_) | exact q_)) : p := h x
theorem tc {p q : Prop} (x : q) (h : q → p := by intro q_; repeat (first | exact q_ | (with_reducible refine Kd.C_alloc ?_ _) | (with_reducible refine Kd.C_drewN ?_ _) | (with_reducible refine Kd.C_drew ?_))) : p := h x
theorem tr {p q : Prop} (x : q) (h : q → p := by intro q_; (with_reducible repeat (first | apply Kd.R_alloc | apply Kd.R_drewN | apply Kd.R_drew)); exact q_) : p := h x
theorem ts {p q : Prop} (x : q) (h : q → p := by intro q_; (with_reducible repeat (first | apply Kd.S_alloc | apply Kd.S_drewN | apply Kd.S_drew)); exact q_) : p := h x
theorem gm_ {p : Prop} (h : p := by (try simp only [List.map_toArray, List.map_cons, List.map_nil]); first | done | rfl | (simp only [List.length_drop, List.length_take]; rfl)) : p := h
theorem gs_ {p : Prop} (h : p := by first | (go_simp; done) | (go_simp; rfl)) : p := h
theorem gk_ {p : Prop} (h : p := by kernel_rfl) : p := h
theorem gl_ {p : Prop} (h : p := by first | omega | exact Nat.le_refl _) : p := h
theorem gr_ {p : Prop} (h : p := by first | rfl | (simp; done) | (simp [*]; done)) : p := h
theorem gd_ {p : Prop} (h : p := by repeat (first | exact Drawn0.refl _ | apply Drawn0.step)) : p := h
theorem bx {P : Program} {ops : Array Oper} {Q : Exit → Act → World → Prop} {o : Oper} {rest : List Oper} {a : Act} {W : World} {N : Tmp} {cs : Array Value} {t : TypeId} (h : ∀ g, g = W.heap.size → ∀ w1 : World, w1.heap[g]? = some (.cells cs t (0, 0)) → Below W.heap.size W w1 → wpList P ops Q rest (a.put o.dst (.pointer (some ⟨g, 0, none⟩))) w1) (hgd : o.guard = none := by rfl) (hd : o.dst = some N := by rfl) (hrun : (execOp a.eval o).run P W = .ok (.value (.pointer (some ⟨W.heap.size, 0, none⟩))) (W.alloc (.cells cs t (0, 0))) := by first | (go_simp; done) | (go_simp; rfl)) : wpList P ops Q (o :: rest) a W := box_event hgd hd hrun h
theorem cb {α : Type} {d : Kd α} {w W w1 : World} {A : Option Addr} {n : Nat} {xs : List α} (old : Kd.C d w A n xs) (hb : Below W.heap.size W w1) (h : Kd.C d w A n xs → Kd.C d W A n xs := by intro h_; repeat (first | (with_reducible exact h_) | (with_reducible refine Kd.C_alloc ?_ _) | (with_reducible refine Kd.C_drewN ?_ _) | (with_reducible refine Kd.C_drew ?_) | exact h_)) : Kd.C d w1 A n xs := Kd.C_below (h old) hb
theorem dga {p : Prop} [Decidable p] (h : decide p = true := by first | (with_reducible assumption) | assumption) : p := of_decide_eq_true h
end Go.Proofs.Ytjaamflffmhicaa.Short
