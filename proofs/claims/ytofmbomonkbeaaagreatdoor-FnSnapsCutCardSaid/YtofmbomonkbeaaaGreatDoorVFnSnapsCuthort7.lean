/- More short words for a printed walk. No condition. -/
import Derived.Test.YtofmbomonkbeaaaGreatDoorVFnSnapsCuthort6
import Derived.Test.YtofmbomonkbeaaaGreatDoorVFnSnapsCutLast
namespace Go.Proofs.YtofmbomonkbeaaaGreatDoor.Short
open Go.RowKit Go.Proofs.YtofmbomonkbeaaaGreatDoorW.PrintWords Go.Proofs.YtofmbomonkbeaaaGreatDoorW.PrintLast Go.Proofs.YtofmbomonkbeaaaGreatDoorW.PrintMore
theorem ap_ {p:Prop} (h:p:=by simp only [Act.put,List.setIfInBounds_toArray,List.set_cons_zero,List.set_cons_succ,i64_w,i32_w];rfl):p:=h
theorem bg {w W w1:World} {g:Nat} {o:Obj} {row:Option Nat} (x:Aside0 (w.heap[g]?=some o)) (hg:W.grownBy w1 row) (hne:some g≠row) (h:w.heap[g]?=some o→W.heap[g]?=some o:=by intro h_;(with_reducible repeat (first|exact h_|refine blk_drewN ?_ _|refine blk_drew ?_|refine blk_alloc ?_ _))):Aside0 (w1.heap[g]?=some o):=⟨blk_grown (h x.out) hg hne⟩
theorem nE {α:Type} [BEq α] [LawfulBEq α] {a b:α} (h:¬ a=b):(a == b)=false∧(a != b)=true:=⟨beq_eq_false_iff_ne.mpr h,bne_iff_ne.mpr h⟩
theorem yE {α:Type} [BEq α] [LawfulBEq α] {a b:α} (h:a=b):(a == b)=true∧(a != b)=false:=⟨beq_iff_eq.mpr h,bne_eq_false_iff_eq.mpr h⟩
theorem cf2 {w:World} {g t:Nat} {v0 v1:Value} (x:Aside0 (w.heap[g]?=some (.cells #[v0,v1] t (0,0)))):w.cell? ⟨g,0,none⟩=some v0∧w.cell? ⟨g,1,none⟩=some v1∧w.frozen? ⟨g,0,none⟩=false∧w.frozen? ⟨g,1,none⟩=false:=
  ⟨(blk_cell x.out 0).trans rfl,(blk_cell x.out 1).trans rfl,blk_frozen x.out 0,blk_frozen x.out 1⟩
theorem cf3 {w:World} {g t:Nat} {v0 v1 v2:Value} (x:Aside0 (w.heap[g]?=some (.cells #[v0,v1,v2] t (0,0)))):w.cell? ⟨g,0,none⟩=some v0∧w.cell? ⟨g,1,none⟩=some v1∧w.cell? ⟨g,2,none⟩=some v2∧w.frozen? ⟨g,0,none⟩=false∧w.frozen? ⟨g,1,none⟩=false∧w.frozen? ⟨g,2,none⟩=false:=
  ⟨(blk_cell x.out 0).trans rfl,(blk_cell x.out 1).trans rfl,(blk_cell x.out 2).trans rfl,blk_frozen x.out 0,blk_frozen x.out 1,blk_frozen x.out 2⟩
theorem cf4 {w:World} {g t:Nat} {v0 v1 v2 v3:Value} (x:Aside0 (w.heap[g]?=some (.cells #[v0,v1,v2,v3] t (0,0)))):w.cell? ⟨g,0,none⟩=some v0∧w.cell? ⟨g,1,none⟩=some v1∧w.cell? ⟨g,2,none⟩=some v2∧w.cell? ⟨g,3,none⟩=some v3∧w.frozen? ⟨g,0,none⟩=false∧w.frozen? ⟨g,1,none⟩=false∧w.frozen? ⟨g,2,none⟩=false∧w.frozen? ⟨g,3,none⟩=false:=
  ⟨(blk_cell x.out 0).trans rfl,(blk_cell x.out 1).trans rfl,(blk_cell x.out 2).trans rfl,(blk_cell x.out 3).trans rfl,blk_frozen x.out 0,blk_frozen x.out 1,blk_frozen x.out 2,blk_frozen x.out 3⟩
theorem cf6 {w:World} {g t:Nat} {v0 v1 v2 v3 v4 v5:Value} (x:Aside0 (w.heap[g]?=some (.cells #[v0,v1,v2,v3,v4,v5] t (0,0)))):w.cell? ⟨g,0,none⟩=some v0∧w.cell? ⟨g,1,none⟩=some v1∧w.cell? ⟨g,2,none⟩=some v2∧w.cell? ⟨g,3,none⟩=some v3∧w.cell? ⟨g,4,none⟩=some v4∧w.cell? ⟨g,5,none⟩=some v5∧w.frozen? ⟨g,0,none⟩=false∧w.frozen? ⟨g,1,none⟩=false∧w.frozen? ⟨g,2,none⟩=false∧w.frozen? ⟨g,3,none⟩=false∧w.frozen? ⟨g,4,none⟩=false∧w.frozen? ⟨g,5,none⟩=false:=
  ⟨(blk_cell x.out 0).trans rfl,(blk_cell x.out 1).trans rfl,(blk_cell x.out 2).trans rfl,(blk_cell x.out 3).trans rfl,(blk_cell x.out 4).trans rfl,(blk_cell x.out 5).trans rfl,blk_frozen x.out 0,blk_frozen x.out 1,blk_frozen x.out 2,blk_frozen x.out 3,blk_frozen x.out 4,blk_frozen x.out 5⟩
end Go.Proofs.YtofmbomonkbeaaaGreatDoor.Short
