/- Closed blocks of a printed walk as lemmas: each is handed the fact that it leads from, and shows the way by itself. No condition. -/
import Derived.Test.YtofmbomonkbeaaaGreatDoorVFnSnapsCuthort4
import Derived.Test.YtofmbomonkbeaaaGreatDoorVFnSnapsCutMore
import Derived.WalkKit
import Derived.RowKit
import Derived.KernelRfl
namespace Go.Proofs.YtofmbomonkbeaaaGreatDoor.Short
open Go.RowKit Go.Proofs.YtofmbomonkbeaaaGreatDoorW.PrintWords Go.Proofs.YtofmbomonkbeaaaGreatDoorW.PrintLast Go.Proofs.YtofmbomonkbeaaaGreatDoorW.PrintMore
theorem am {p:Prop} (h:p):Aside0 p:=⟨h⟩
theorem tc {p q:Prop} (x:q) (h:q→p:=by intro q_;repeat (first|exact q_|(with_reducible refine Kd.C_alloc ?_ _)|(with_reducible refine Kd.C_drewN ?_ _)|(with_reducible refine Kd.C_drew ?_))):p:=h x
theorem tr {p q:Prop} (x:q) (h:q→p:=by intro q_;(with_reducible repeat (first|apply Kd.R_alloc|apply Kd.R_drewN|apply Kd.R_drew));exact q_):p:=h x
theorem ts {p q:Prop} (x:q) (h:q→p:=by intro q_;(with_reducible repeat (first|apply Kd.S_alloc|apply Kd.S_drewN|apply Kd.S_drew));exact q_):p:=h x
theorem gm_ {p:Prop} (h:p:=by (try simp only [List.map_toArray,List.map_cons,List.map_nil]);first|done|rfl|(simp only [List.length_drop,List.length_take];rfl)):p:=h
theorem gs_ {p:Prop} (h:p:=by first|(go_simp;done)|(go_simp;rfl)):p:=h
theorem ga_ {p:Prop} (h:p:=by first|(with_reducible assumption)|assumption):p:=h
theorem gk_ {p:Prop} (h:p:=by kernel_rfl):p:=h
theorem gl_ {p:Prop} (h:p:=by first|omega|exact Nat.le_refl _):p:=h
theorem gr_ {p:Prop} (h:p:=by first|rfl|(simp;done)|(simp [*];done)):p:=h
theorem gn_ {p:Prop} (h:p:=by first|exact Kd.R_nil _ _ _ _ _|exact Kd.N_nil _ _ _ _ _|exact Kd.V_nil _ _ _ _ _|exact Kd.Q_nil _ _ _ _ _|exact Kd.S_nil _ _ _ _ _):p:=h
theorem gd_ {p:Prop} (h:p:=by repeat (first|exact Drawn0.refl _|apply Drawn0.step)):p:=h
theorem tfr {α:Type} {d:Kd α} {e base g t:Nat} {w:World} {ok:Nat→Prop} {v:Value} {xs:List α} {cells:Array Value} {p:Prop} (x:Kd.R d e w base ok v xs) (hb:w.heap[g]?=some (.cells cells t (0,0))) (ht:∀ q,q∈e :: d.E→q≠t) (h:(∀ w1:World,(∀ k,k≠g→w1.heap[k]?=w.heap[k]?)→Kd.R d e w1 base ok v xs)→p:=by intro q_;(with_reducible repeat (first|apply Kd.R_alloc|apply Kd.R_drewN|apply Kd.R_drew));exact q_ _ (by intro k_ hk_;with_reducible (repeat (first|rfl|refine(Below.heap_setCell _ _ _ _ hk_).trans ?_)))):p:=
  h fun _ hk=>Kd.R_mono (Kd.R_move (Kd.R_types x hb ht) fun k h_=>hk k h_.2) fun _ h_=>h_.1
theorem bx {P:Program} {ops:Array Oper} {Q:Exit→Act→World→Prop} {o:Oper} {rest:List Oper} {a:Act} {W:World} {N:Tmp} {cs:Array Value} {t:TypeId} (h:∀ g,g=W.heap.size→∀ w1:World,w1.heap[g]?=some (.cells cs t (0,0))→Below W.heap.size W w1→wpList P ops Q rest (a.put o.dst (.pointer (some ⟨g,0,none⟩))) w1) (hgd:o.guard=none:=by rfl) (hd:o.dst=some N:=by rfl) (hrun:(execOp a.eval o).run P W=.ok (.value (.pointer (some ⟨W.heap.size,0,none⟩))) (W.alloc (.cells cs t (0,0))):=by first|(go_simp;done)|(go_simp;rfl)):wpList P ops Q (o :: rest) a W:=box_event hgd hd hrun h
theorem dga {p:Prop} [Decidable p] (h:decide p=true:=by first|(with_reducible assumption)|assumption):p:=of_decide_eq_true h
end Go.Proofs.YtofmbomonkbeaaaGreatDoor.Short
