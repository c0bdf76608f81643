/- Words by which the walks of this claim go: of the printed words those that the claim needs. No condition. -/
import Derived.Test.YtofmbomonkbeaaaGreatDoorVFnSnapsCutN
namespace Go.Proofs.YtofmbomonkbeaaaGreatDoorW.PrintWords
open Go.RowKit
namespace Kd
theorem emptied_at (W:World) (g:Nat):∃ W':World,W'.heap.size=W.heap.size∧(∀ k,k≠g→W'.heap[k]?=W.heap[k]?)∧∀ a:Addr,a.block=g→W'.cell? a=none:=by
  refine⟨{ W with heap:=W.heap.setIfInBounds g (.cells #[] 0) },by simp,fun k hk=>by simp [Ne.symm hk],fun a ha=>?_⟩
  subst ha
  by_cases hlt:a.block<W.heap.size
  · simp [World.cell?,hlt]
  · simp [World.cell?,hlt]
section
variable {α:Type} {d:Kd α} {W:World} {g n:Nat} {S ok:Nat→Prop} {A:Option Addr} {ad:Addr} {xs:List α}
theorem C_not_empty (h:d.C W (some ad) n xs) (hn:0<n) (hs:0<d.sz):W.cell? ad≠none:=by
  obtain⟨ad',he,hc⟩:=h.2.2 hn
  injection he with he
  subst he
  obtain⟨c,hcl,_,hcell⟩:=hc 0 _ (List.getElem?_eq_getElem (by rw [h.1];exact hn))
  have h1:=hcell 0 _ (List.getElem?_eq_getElem (by omega))
  rw [Nat.zero_mul,Nat.zero_add,Addr.add_zero'] at h1
  rw [h1]
  exact Option.some_ne_none _
theorem foot_ne (h:∀ W',KeepBut W W' g none→d.C W' (some ad) n xs) (hn:0<n) (hs:0<d.sz):ad.block≠g:=by
  intro he
  obtain⟨W',h1,h2,h3⟩:=emptied_at W g
  exact C_not_empty (h W' ⟨Nat.le_of_eq h1.symm,fun i _ hi _=>h2 i hi⟩) hn hs (h3 ad he)
theorem C_lt (h:d.C W (some ad) n xs) (hn:0<n) (hs:0<d.sz):ad.block<W.heap.size:=by
  cases hc:W.cell? ad with
  |none=>exact absurd hc (C_not_empty h hn hs)
  |some v=>exact World.block_lt_of_cell? W ad hc
theorem foot_lt (h:∀ W',KeepBut W W' g none→d.C W' (some ad) n xs) (hn:0<n) (hs:0<d.sz):ad.block<W.heap.size:=C_lt (h W (KeepBut.refl W g none)) hn hs
end
end Kd
end Go.Proofs.YtofmbomonkbeaaaGreatDoorW.PrintWords
