/- Short forms of the words by which a region of open order is walked: what each step asks is shown by the step itself. No condition. -/
import Derived.Test.YtofmbomonkbeaaaGreatDoorVFnSnapsCutMore
import Derived.Test.YtofmbomonkbeaaaGreatDoorVFnSnapsCutTab
import Derived.Test.YtofmbomonkbeaaaGreatDoorVFnSnapsCutLast
import Derived.WalkKit
import Derived.KernelRfl
import Derived.RowKit
namespace Go.Proofs.YtofmbomonkbeaaaGreatDoor.Short
open Go.RowKit Go.Proofs.YtofmbomonkbeaaaGreatDoorW.PrintWords Go.Proofs.YtofmbomonkbeaaaGreatDoorW.PrintLast Go.Proofs.YtofmbomonkbeaaaGreatDoorW.PrintMore
section
variable {P:Program} {ops:Array Oper} {Q:Exit→Act→World→Prop} {S:World→Prop} {md:Region.Mode} {ds:List Nat} {T:Bool × List (List Nat × List Nat)} {B:List Nat}
theorem pu_ (i K:Nat) {oi:Oper} {v:Value} {fuel:Nat} {l:Array Bool} {a a':Act} {w:World} (hT:Aside0 (rtab md ops=T)) (h:wpAnyLast P md ops Q S ds fuel (l.setIfInBounds i true) a' w)
    (hi:ops[i]?=some oi:=by rfl) (hN:oi.dst=some K:=by rfl) (hc:anyT T l.toList (l.setIfInBounds i true).toList i=true:=by kernel_rfl) (hQ:∀ c a w,Q (.panic c) (a.put oi.dst v) w→Q (.panic c) a w:=by exact fun _ _ _ h=>h)
    (hg:Region.wanted oi (yielded ops a.tmps)=true:=by rfl) (hy:∀ w',(execOp a.eval oi).run P w'=.ok (.value v) w':=by intro w';go_simp;with_reducible rfl)
    (ha:a.put (some K) v=a':=by simp only [Act.put,List.setIfInBounds_toArray,List.set_cons_zero,List.set_cons_succ,i64_w,i32_w];rfl):wpAnyLast P md ops Q S ds (fuel+1) l a w:=
  pure_ _ hi hN (any_of hT.out hc) hQ (Or.inl ⟨hg,hy⟩) ha h
theorem of_ (i K:Nat) {oi:Oper} {fuel:Nat} {l:Array Bool} {a a':Act} {w:World} (hT:Aside0 (rtab md ops=T)) (h:wpAnyLast P md ops Q S ds fuel (l.setIfInBounds i true) a' w)
    (hi:ops[i]?=some oi:=by rfl) (hN:oi.dst=some K:=by rfl) (hc:anyT T l.toList (l.setIfInBounds i true).toList i=true:=by kernel_rfl) (hQ:∀ c a w,Q (.panic c) (a.put oi.dst undef) w→Q (.panic c) a w:=by exact fun _ _ _ h=>h)
    (hg:Region.wanted oi (yielded ops a.tmps)=false:=by rfl)
    (ha:a.put (some K) undef=a':=by simp only [Act.put,List.setIfInBounds_toArray,List.set_cons_zero,List.set_cons_succ,i64_w,i32_w];rfl):wpAnyLast P md ops Q S ds (fuel+1) l a w:=
  pure_ _ hi hN (any_of hT.out hc) hQ (Or.inr ⟨hg,rfl⟩) ha h
theorem ta_ (i K:Nat) {oi:Oper} {v:Value} {fuel:Nat} {l:Array Bool} {a a':Act} {w:World} (hT:Aside0 (rtab md ops=T)) (hB:Aside0 (waitsOk T.2 B=true)) (hS:S w) (h:wpAnyLast P md ops Q S ds fuel (l.setIfInBounds i true) a' w)
    (hi:ops[i]?=some oi:=by rfl) (hN:oi.dst=some K:=by rfl) (hc:takeW T B ds l.toList (l.setIfInBounds i true).toList i=true:=by kernel_rfl) (hQ:∀ c a w,Q (.panic c) (a.put oi.dst v) w→Q (.panic c) a w:=by exact fun _ _ _ h=>h)
    (hg:Region.wanted oi (yielded ops a.tmps)=true:=by rfl) (hy:∀ w',S w'→(execOp a.eval oi).run P w'=.ok (.value v) w':=by intro w' hs;(try dsimp only at hs);go_simp;with_reducible rfl)
    (ha:a.put (some K) v=a':=by simp only [Act.put,List.setIfInBounds_toArray,List.set_cons_zero,List.set_cons_succ,i64_w,i32_w];rfl):wpAnyLast P md ops Q S ds (fuel+1) l a w:=
  take_ _ hi hN (take_ofW hT.out hB.out hc) hQ (Or.inl ⟨hg,hy⟩) hS ha h
end
end Go.Proofs.YtofmbomonkbeaaaGreatDoor.Short
