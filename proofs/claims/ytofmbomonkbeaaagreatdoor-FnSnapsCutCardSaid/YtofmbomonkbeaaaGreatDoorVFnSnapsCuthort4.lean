/- What a fact of the old world is behind draws, new blocks and stores, at once. No condition. -/
import Derived.Test.YtofmbomonkbeaaaGreatDoorVFnSnapsCutMore
import Derived.WalkKit
import Derived.RowKit
namespace Go.Proofs.YtofmbomonkbeaaaGreatDoor.Short
open Go.RowKit Go.Proofs.YtofmbomonkbeaaaGreatDoorW.PrintWords Go.Proofs.YtofmbomonkbeaaaGreatDoorW.PrintLast Go.Proofs.YtofmbomonkbeaaaGreatDoorW.PrintMore
theorem bb {w W w':World} {g:Nat} {o:Obj} (old:w.heap[g]?=some o) (hb:Below W.heap.size W w') (h:w.heap[g]?=some o→W.heap[g]?=some o:=by intro h_;(with_reducible repeat (first|exact h_|refine blk_drewN ?_ _|refine blk_drew ?_|refine blk_alloc ?_ _))):w'.heap[g]?=some o:=blk_below (h old) hb
theorem zs {b:Nat} {W:World} {p:Addr} {u:Value} (h:b≤W.heap.size):b≤(W.setCell p u).heap.size:=by simpa [World.setCell] using h
theorem za {b:Nat} {W:World} {o:Obj} (h:b≤W.heap.size):b≤(W.alloc o).heap.size:=Nat.le_trans h (by show W.heap.size≤(W.heap.push o).size;simp)
theorem zd {b:Nat} {W:World} (h:b≤W.heap.size):b≤W.drew.heap.size:=h
theorem zn {b n:Nat} {W:World} (h:b≤W.heap.size):b≤(W.drewN n).heap.size:=h
theorem bs {a b:Nat} {w W:World} (hg:a=W.heap.size) (old:b≤w.heap.size) (h:w.heap.size≤W.heap.size:=by with_reducible repeat (first|exact Nat.le_refl _|apply zn|apply zd|apply za|apply zs)):b≤a:=by rw [hg];exact Nat.le_trans old h
theorem nl {a g:Nat} {w W:World} (hg:a=W.heap.size) (old:g<w.heap.size) (h:w.heap.size≤W.heap.size:=by with_reducible repeat (first|exact Nat.le_refl _|apply zn|apply zd|apply za|apply zs)):g≠a:=by rw [hg];exact Nat.ne_of_lt (Nat.lt_of_lt_of_le old h)
theorem ng {a g:Nat} {w W:World} (hg:a=W.heap.size) (old:g<w.heap.size) (h:w.heap.size≤W.heap.size:=by with_reducible repeat (first|exact Nat.le_refl _|apply zn|apply zd|apply za|apply zs)):a≠g:=by rw [hg];exact Nat.ne_of_gt (Nat.lt_of_lt_of_le old h)
theorem bf {w:World} {g b i:Nat} {t:TypeId} {cs:Array Value} {u:Value} (hp:g≠b) (h:w.heap[g]?=some (.cells cs t (0,0))):(w.setCell ⟨b,i,none⟩ u).heap[g]?=some (.cells cs t (0,0)):=blk_far h hp u
theorem bsi {α β:Type} {o:Option α} {f:α→Option β} {r:β} (h:o.bind f=some r):∃ a,Aside0 (o=some a)∧f a=some r:=by
  obtain⟨a,h1,h2⟩:=Option.bind_eq_some_iff.mp h
  exact⟨a,⟨h1⟩,h2⟩
theorem less_gt:∀ a b:List UInt8,Op.bytesLess b a=!(Op.bytesLess a b || a == b)
  |[],[]=>by simp [Op.bytesLess]
  |[],_ :: _=>by simp [Op.bytesLess]
  |_ :: _,[]=>by simp [Op.bytesLess]
  |x :: a,y :: b=>by
    have ih:=less_gt a b
    simp only [Op.bytesLess,List.cons_beq_cons]
    rcases Nat.lt_trichotomy x.toNat y.toNat with h|h|h
    · have h1:x<y:=h
      have h2:¬ y<x:=fun h3=>Nat.lt_asymm h h3
      have h3:y≠x:=fun e=>by rw [e] at h;exact Nat.lt_irrefl _ h
      simp [h1,h2,h3]
    · have e:x=y:=UInt8.toNat_inj.1 h
      subst e
      have h1:¬ x<x:=Nat.lt_irrefl _
      simp [h1,ih]
    · have h1:y<x:=h
      have h2:¬ x<y:=fun h3=>Nat.lt_asymm h h3
      have h3:x≠y:=fun e=>by rw [e] at h;exact Nat.lt_irrefl _ h
      simp [h1,h2,h3]
theorem gtrS (t:TypeId) (a b:ByteArray):binOp .gtr t (.string a) (.string b)=pure (.bool (Op.bytesLess b.toList a.toList)):=by
  rw [less_gt]
  simp [binOp,Op.stringOp]

end Go.Proofs.YtofmbomonkbeaaaGreatDoor.Short
