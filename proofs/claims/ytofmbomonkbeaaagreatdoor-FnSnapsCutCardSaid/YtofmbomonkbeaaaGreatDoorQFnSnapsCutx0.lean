/- Functions that a law reaches, as functions of Lean, and the walks that show that the calls come to their answers. No condition. -/
import Derived.Test.YtofmbomonkbeaaaGreatDoorProg
import Derived.Below
import Derived.Deep.Draws
import Derived.Deep.AppendLies
import Derived.Maps.AppendAt
import Derived.OwnWalk
import Derived.Laws.BytesArg
import Derived.Laws.MakeOwn
import Derived.Laws.OwnMore
import Derived.Deep.OwnRows
import Derived.Tactics
import Derived.Lib.ConvBytes
import Derived.Laws.Slices
import Derived.WalkKit
import Derived.KernelRfl
import Derived.RowKit3
import Derived.Deep.LoopGhost
import Derived.Deep.QuietTactic
import Derived.BigQuiet
import Derived.WideLaws
import Derived.Deep.DeepCutAuto
import Derived.Deep.CutBlock
import Derived.Deep.RegionHeld3
import Derived.Laws.Rows
import Derived.Lib.AppendStr
import Derived.ArgAppend
import Derived.Laws.IdiomCopy
import Derived.OrdersHeld
import Derived.Laws.BitsLemmas
import Derived.RowKit
import Derived.Test.YtofmbomonkbeaaaGreatDoorVFnSnapsCutWords
import Derived.Test.YtofmbomonkbeaaaGreatDoorVFnSnapsCutLast
import Derived.Test.YtofmbomonkbeaaaGreatDoorVFnSnapsCutTab
import Derived.Test.YtofmbomonkbeaaaGreatDoorVFnSnapsCutFour
import Derived.Test.YtofmbomonkbeaaaGreatDoorVFnSnapsCutQPut
import Derived.Test.YtofmbomonkbeaaaGreatDoorVFnSnapsCutApart
import Derived.Test.YtofmbomonkbeaaaGreatDoorVFnSnapsCutArr
import Derived.Test.YtofmbomonkbeaaaGreatDoorVFnSnapsCutZeros
import Derived.Test.YtofmbomonkbeaaaGreatDoorVFnSnapsCutFoot
import Derived.Test.YtofmbomonkbeaaaGreatDoorVFnSnapsCutKept
import Derived.Test.YtofmbomonkbeaaaGreatDoorVFnSnapsCutShare
import Derived.Test.YtofmbomonkbeaaaGreatDoorVFnSnapsCutN
import Derived.Test.YtofmbomonkbeaaaGreatDoorVFnSnapsCutFootNe
import Derived.Test.YtofmbomonkbeaaaGreatDoorVFnSnapsCutAt
import Derived.Test.YtofmbomonkbeaaaGreatDoorVFnSnapsCutEqStruct
import Derived.Test.YtofmbomonkbeaaaGreatDoorVFnSnapsCutRepsOne
import Derived.Test.YtofmbomonkbeaaaGreatDoorVFnSnapsCutInv
import Derived.Test.YtofmbomonkbeaaaGreatDoorVFnSnapsCutInvWords
import Derived.Test.YtofmbomonkbeaaaGreatDoorVFnSnapsCutGuard
import Derived.Test.YtofmbomonkbeaaaGreatDoorVFnSnapsCutNEv
import Derived.Test.YtofmbomonkbeaaaGreatDoorVFnSnapsCutMore
import Derived.Test.YtofmbomonkbeaaaGreatDoorVFnSnapsCuthort
import Derived.Test.YtofmbomonkbeaaaGreatDoorVFnSnapsCuthort2
import Derived.Test.YtofmbomonkbeaaaGreatDoorVFnSnapsCuthort8
import Derived.Test.YtofmbomonkbeaaaGreatDoorVFnSnapsCuthort3
namespace Go.Proofs.YtofmbomonkbeaaaGreatDoor.QFnSnapsCut
open Go.RowKit Go.Proofs.YtofmbomonkbeaaaGreatDoorW.PrintWords Go.Proofs.YtofmbomonkbeaaaGreatDoorW.PrintLast Go.Proofs.YtofmbomonkbeaaaGreatDoorW.PrintMore Go.Proofs.YtofmbomonkbeaaaGreatDoor.Short
set_option linter.unusedVariables false
set_option linter.unusedSimpArgs false
set_option maxHeartbeats 8000000
set_option maxRecDepth 100000
variable {p:Prop}
theorem D0x0_ (h:p:=by exact⟨Cr ak,Cb J,Cb U,Cb Y,Ce3 HB ar av aD⟩):p:=h
theorem D0x1_ (h:p:=by exact⟨B1x5_,B1x1_,(Ae1 HB (IsS73.gf aA)),(Ak0 HK)⟩):p:=h
theorem D0x2_ (h:p:=by exact⟨B1x5_,(Ae1 HB aZ)⟩):p:=h
section
attribute [local go_sem] max2_int min2_int max_two min_two max_three min_three max_four min_four
theorem B0x0_ (h:p:=by rw [←add_field _ _ 1 (by omega)];exact hc 1 _ rfl):p:=h
theorem B0x1_ (h:p:=by rw [←add_field _ _ 2 (by omega)];exact hc 2 _ rfl):p:=h
def errW:Option Int→Value
 |none=>.nilIface
 |some c=>.iface 145 (.int .i64 c)
theorem errW_none:errW none=.nilIface:=rfl
theorem errW_some (c:Int):errW (some c)=.iface 145 (.int .i64 c):=rfl

theorem info3:(Tryz.prog.info? 3).map (fun i=>(i.zero,i.size,i.bytes))=some (some (.int .i64 0),1,8):=by kernel_rfl
theorem info5:(Tryz.prog.info? 5).map (fun i=>(i.zero,i.size,i.bytes))=some (some (.int .u8 0),1,1):=by kernel_rfl
theorem info9:(Tryz.prog.info? 9).map (fun i=>(i.zero,i.size,i.bytes))=some (some (.string ⟨#[]⟩),1,16):=by kernel_rfl
theorem info59:(Tryz.prog.info? 59).map (fun i=>(i.zero,i.size,i.bytes))=some (some (.agg #[(.string ⟨#[]⟩),(.string ⟨#[]⟩),(.int .i64 0)]),3,40):=by kernel_rfl
theorem info65:(Tryz.prog.info? 65).map (fun i=>(i.zero,i.size,i.bytes))=some (some (.agg #[(.int .i64 0),(.string ⟨#[]⟩),(.string ⟨#[]⟩),(.string ⟨#[]⟩)]),4,56):=by kernel_rfl
theorem info76:(Tryz.prog.info? 76).map (fun i=>(i.zero,i.size,i.bytes))=some (some (.agg #[(.int .i64 0),(.int .i64 0),(.string ⟨#[]⟩)]),3,32):=by kernel_rfl
theorem info79:(Tryz.prog.info? 79).map (fun i=>(i.zero,i.size,i.bytes))=some (some (.agg #[(.string ⟨#[]⟩),(.string ⟨#[]⟩),(.int .i64 0)]),3,40):=by kernel_rfl
-- the values' own types
structure S76 where
 f0:Int
 f1:Int
 f2:ByteArray
def z76:S76:=⟨(0:Int),(0:Int),(⟨#[]⟩:ByteArray)⟩
def k76:Kd S76:=Kd.iso (Kd.pair (Kd.int .i64) (Kd.pair (Kd.int .i64) Kd.string)) (fun x:S76=>(x.f0,x.f1,x.f2))
theorem k76_open {w:World} {x:S76} {cs:List Value} (h:k76.K w x cs):cs=[.int .i64 x.f0,.int .i64 x.f1,.string x.f2]:=by
 obtain⟨_,_,rfl,rfl,⟨_,_,rfl,rfl,rfl⟩⟩:=h
 exact rfl
theorem k76_openM {w:World} {base:Nat} {ok:Nat→Prop} {x:S76} {cs:List Value} (h:k76.M w base ok x cs):cs=[.int .i64 x.f0,.int .i64 x.f1,.string x.f2]:=by
 obtain⟨_,_,rfl,rfl,⟨_,_,rfl,rfl,rfl⟩⟩:=h
 exact rfl
theorem k76_mk (w:World) (x:S76)  : k76.K w x [.int .i64 x.f0,.int .i64 x.f1,.string x.f2]:=⟨[.int .i64 x.f0],[.int .i64 x.f1,.string x.f2],rfl,rfl,⟨[.int .i64 x.f1],[.string x.f2],rfl,rfl,rfl⟩⟩
theorem k76_mkM (w:World) (base:Nat) (ok:Nat→Prop) (x:S76)  : k76.M w base ok x [.int .i64 x.f0,.int .i64 x.f1,.string x.f2]:=⟨[.int .i64 x.f0],[.int .i64 x.f1,.string x.f2],rfl,rfl,⟨[.int .i64 x.f1],[.string x.f2],rfl,rfl,rfl⟩⟩
def rd_T76 (xs:List S76) (i:Int):S76:=xs.getD i.toNat z76
theorem at_T76 {w:World} {A:Option Addr} {n:Nat} {xs:List S76} (h:Kd.C k76 w A n xs) (i:Int) (h0:0≤i) (h1:i<n):∃ ad ,A=some ad∧w.cell? (ad.add (i.toNat * 3))=some (.int .i64 (rd_T76 xs i).f0)∧w.cell? ⟨(ad.add (i.toNat * 3)).block,(ad.add (i.toNat * 3)).off+1,none⟩=some (.int .i64 (rd_T76 xs i).f1)∧w.cell? ⟨(ad.add (i.toNat * 3)).block,(ad.add (i.toNat * 3)).off+2,none⟩=some (.string (rd_T76 xs i).f2):=by
 obtain⟨ad,c,e,_,hK,hc0⟩:=Kd.C_get h z76 i h0 h1
 have hc:∀ j u,c[j]?=some u→w.cell? (ad.add (i.toNat * 3+j))=some u:=hc0
 obtain rfl:=k76_open hK
 exact⟨ad,e,hc 0 _ rfl,B0x0_,B0x1_⟩

structure S79 where
 f0:ByteArray
 f1:ByteArray
 f2:Int
def z79:S79:=⟨(⟨#[]⟩:ByteArray),(⟨#[]⟩:ByteArray),(0:Int)⟩
def k79:Kd S79:=Kd.iso (Kd.pair Kd.string (Kd.pair Kd.string (Kd.int .i64))) (fun x:S79=>(x.f0,x.f1,x.f2))
theorem k79_open {w:World} {x:S79} {cs:List Value} (h:k79.K w x cs):cs=[.string x.f0,.string x.f1,.int .i64 x.f2]:=by
 obtain⟨_,_,rfl,rfl,⟨_,_,rfl,rfl,rfl⟩⟩:=h
 exact rfl
theorem k79_openM {w:World} {base:Nat} {ok:Nat→Prop} {x:S79} {cs:List Value} (h:k79.M w base ok x cs):cs=[.string x.f0,.string x.f1,.int .i64 x.f2]:=by
 obtain⟨_,_,rfl,rfl,⟨_,_,rfl,rfl,rfl⟩⟩:=h
 exact rfl
theorem k79_mk (w:World) (x:S79)  : k79.K w x [.string x.f0,.string x.f1,.int .i64 x.f2]:=⟨[.string x.f0],[.string x.f1,.int .i64 x.f2],rfl,rfl,⟨[.string x.f1],[.int .i64 x.f2],rfl,rfl,rfl⟩⟩
theorem k79_mkM (w:World) (base:Nat) (ok:Nat→Prop) (x:S79)  : k79.M w base ok x [.string x.f0,.string x.f1,.int .i64 x.f2]:=⟨[.string x.f0],[.string x.f1,.int .i64 x.f2],rfl,rfl,⟨[.string x.f1],[.int .i64 x.f2],rfl,rfl,rfl⟩⟩
def rd_T79 (xs:List S79) (i:Int):S79:=xs.getD i.toNat z79
theorem at_T79 {w:World} {A:Option Addr} {n:Nat} {xs:List S79} (h:Kd.C k79 w A n xs) (i:Int) (h0:0≤i) (h1:i<n):∃ ad ,A=some ad∧w.cell? (ad.add (i.toNat * 3))=some (.string (rd_T79 xs i).f0)∧w.cell? ⟨(ad.add (i.toNat * 3)).block,(ad.add (i.toNat * 3)).off+1,none⟩=some (.string (rd_T79 xs i).f1)∧w.cell? ⟨(ad.add (i.toNat * 3)).block,(ad.add (i.toNat * 3)).off+2,none⟩=some (.int .i64 (rd_T79 xs i).f2):=by
 obtain⟨ad,c,e,_,hK,hc0⟩:=Kd.C_get h z79 i h0 h1
 have hc:∀ j u,c[j]?=some u→w.cell? (ad.add (i.toNat * 3+j))=some u:=hc0
 obtain rfl:=k79_open hK
 exact⟨ad,e,hc 0 _ rfl,B0x0_,B0x1_⟩

structure S59 where
 f0:ByteArray
 f1:ByteArray
 f2:Int
def z59:S59:=⟨(⟨#[]⟩:ByteArray),(⟨#[]⟩:ByteArray),(0:Int)⟩
def k59:Kd S59:=Kd.iso (Kd.pair Kd.string (Kd.pair Kd.string (Kd.int .i64))) (fun x:S59=>(x.f0,x.f1,x.f2))
theorem k59_open {w:World} {x:S59} {cs:List Value} (h:k59.K w x cs):cs=[.string x.f0,.string x.f1,.int .i64 x.f2]:=by
 obtain⟨_,_,rfl,rfl,⟨_,_,rfl,rfl,rfl⟩⟩:=h
 exact rfl
theorem k59_openM {w:World} {base:Nat} {ok:Nat→Prop} {x:S59} {cs:List Value} (h:k59.M w base ok x cs):cs=[.string x.f0,.string x.f1,.int .i64 x.f2]:=by
 obtain⟨_,_,rfl,rfl,⟨_,_,rfl,rfl,rfl⟩⟩:=h
 exact rfl
theorem k59_mk (w:World) (x:S59)  : k59.K w x [.string x.f0,.string x.f1,.int .i64 x.f2]:=⟨[.string x.f0],[.string x.f1,.int .i64 x.f2],rfl,rfl,⟨[.string x.f1],[.int .i64 x.f2],rfl,rfl,rfl⟩⟩
theorem k59_mkM (w:World) (base:Nat) (ok:Nat→Prop) (x:S59)  : k59.M w base ok x [.string x.f0,.string x.f1,.int .i64 x.f2]:=⟨[.string x.f0],[.string x.f1,.int .i64 x.f2],rfl,rfl,⟨[.string x.f1],[.int .i64 x.f2],rfl,rfl,rfl⟩⟩
def rd_T59 (xs:List S59) (i:Int):S59:=xs.getD i.toNat z59
theorem at_T59 {w:World} {A:Option Addr} {n:Nat} {xs:List S59} (h:Kd.C k59 w A n xs) (i:Int) (h0:0≤i) (h1:i<n):∃ ad ,A=some ad∧w.cell? (ad.add (i.toNat * 3))=some (.string (rd_T59 xs i).f0)∧w.cell? ⟨(ad.add (i.toNat * 3)).block,(ad.add (i.toNat * 3)).off+1,none⟩=some (.string (rd_T59 xs i).f1)∧w.cell? ⟨(ad.add (i.toNat * 3)).block,(ad.add (i.toNat * 3)).off+2,none⟩=some (.int .i64 (rd_T59 xs i).f2):=by
 obtain⟨ad,c,e,_,hK,hc0⟩:=Kd.C_get h z59 i h0 h1
 have hc:∀ j u,c[j]?=some u→w.cell? (ad.add (i.toNat * 3+j))=some u:=hc0
 obtain rfl:=k59_open hK
 exact⟨ad,e,hc 0 _ rfl,B0x0_,B0x1_⟩

structure S65 where
 f0:Int
 f1:ByteArray
 f2:ByteArray
 f3:ByteArray
def z65:S65:=⟨(0:Int),(⟨#[]⟩:ByteArray),(⟨#[]⟩:ByteArray),(⟨#[]⟩:ByteArray)⟩
def k65:Kd S65:=Kd.iso (Kd.pair (Kd.int .i64) (Kd.pair Kd.string (Kd.pair Kd.string Kd.string))) (fun x:S65=>(x.f0,x.f1,x.f2,x.f3))
theorem k65_open {w:World} {x:S65} {cs:List Value} (h:k65.K w x cs):cs=[.int .i64 x.f0,.string x.f1,.string x.f2,.string x.f3]:=by
 obtain⟨_,_,rfl,rfl,⟨_,_,rfl,rfl,⟨_,_,rfl,rfl,rfl⟩⟩⟩:=h
 exact rfl
theorem k65_openM {w:World} {base:Nat} {ok:Nat→Prop} {x:S65} {cs:List Value} (h:k65.M w base ok x cs):cs=[.int .i64 x.f0,.string x.f1,.string x.f2,.string x.f3]:=by
 obtain⟨_,_,rfl,rfl,⟨_,_,rfl,rfl,⟨_,_,rfl,rfl,rfl⟩⟩⟩:=h
 exact rfl
theorem k65_mk (w:World) (x:S65)  : k65.K w x [.int .i64 x.f0,.string x.f1,.string x.f2,.string x.f3]:=⟨[.int .i64 x.f0],[.string x.f1,.string x.f2,.string x.f3],rfl,rfl,⟨[.string x.f1],[.string x.f2,.string x.f3],rfl,rfl,⟨[.string x.f2],[.string x.f3],rfl,rfl,rfl⟩⟩⟩
theorem k65_mkM (w:World) (base:Nat) (ok:Nat→Prop) (x:S65)  : k65.M w base ok x [.int .i64 x.f0,.string x.f1,.string x.f2,.string x.f3]:=⟨[.int .i64 x.f0],[.string x.f1,.string x.f2,.string x.f3],rfl,rfl,⟨[.string x.f1],[.string x.f2,.string x.f3],rfl,rfl,⟨[.string x.f2],[.string x.f3],rfl,rfl,rfl⟩⟩⟩
def rd_T65 (xs:List S65) (i:Int):S65:=xs.getD i.toNat z65
theorem at_T65 {w:World} {A:Option Addr} {n:Nat} {xs:List S65} (h:Kd.C k65 w A n xs) (i:Int) (h0:0≤i) (h1:i<n):∃ ad ,A=some ad∧w.cell? (ad.add (i.toNat * 4))=some (.int .i64 (rd_T65 xs i).f0)∧w.cell? ⟨(ad.add (i.toNat * 4)).block,(ad.add (i.toNat * 4)).off+1,none⟩=some (.string (rd_T65 xs i).f1)∧w.cell? ⟨(ad.add (i.toNat * 4)).block,(ad.add (i.toNat * 4)).off+2,none⟩=some (.string (rd_T65 xs i).f2)∧w.cell? ⟨(ad.add (i.toNat * 4)).block,(ad.add (i.toNat * 4)).off+3,none⟩=some (.string (rd_T65 xs i).f3):=by
 obtain⟨ad,c,e,_,hK,hc0⟩:=Kd.C_get h z65 i h0 h1
 have hc:∀ j u,c[j]?=some u→w.cell? (ad.add (i.toNat * 4+j))=some u:=hc0
 obtain rfl:=k65_open hK
 exact⟨ad,e,hc 0 _ rfl,B0x0_,B0x1_,(by rw [←add_field _ _ 3 (by omega)];exact hc 3 _ rfl)⟩
theorem B1x1_ (h:p:=by repeat (first|(with_reducible first|exact aA.out|apply IsS73.alloc|apply IsS73.drewN|apply IsS73.drew|apply IsS73.set_1|apply IsS73.set_2)|exact aA.out)):p:=h
theorem B1x5_ (h:p:=by first|rfl|(simp [errW_none,errW_some] <;> rfl)|(simp [*,errW_none,errW_some] <;> rfl)):p:=h
def laws_big.f (l0:List Int):Option (Bool):=some (decide ((l0.length:Int)>1048576))
theorem laws_big.calls (A0:Option Addr) (c0:Nat) (l0:List Int) (r:Bool) (w:World) (cY:Kd.C (Kd.int .u8) w A0 l0.length l0) (cV:l0.length≤c0) (h:laws_big.f l0=some r) :
  Calls Tryz.prog 4 #[.slice A0 l0.length c0] w fun e w'=>e=.returned (.bool r)∧Drawn0 w w':=by
 have dy:=am cY
 have fg:=am cV
 clear cY cV
 have B:=h
 clear h
 unfold laws_big.f at B
 obtain rfl:=Option.some.inj B
 clear B
 go_enter Tryz.func4,Tryz.ntmps4
 go_wp2
 go_ret
 exact⟨gr_,gd_⟩

/-- A state of type 73 at block g of W; what its slices lead to came in by w0. -/
def IsS73 (w0 W:World) (g:Nat) (f0:List Int) (f1:Int) (f2:Int):Prop:=∃ A0 c0,W.heap[g]?=some (.cells #[.slice A0 f0.length c0,.int .i64 f1,.int .i64 f2] 73 (0,0))∧w0.heap.size≤g∧Kd.C (Kd.int .u8) w0 A0 f0.length f0
theorem IsS73.grown {w0 W:World} {g:Nat} {f0:List Int} {f1:Int} {f2:Int} {W1:World} {row:Option Nat} (h:IsS73 w0 W g f0 f1 f2) (hw:W.grownBy W1 row) (hne:some g≠row):IsS73 w0 W1 g f0 f1 f2:=by
 obtain⟨A0,c0,hb,hg,hr0⟩:=h
 exact⟨A0,c0,blk_grown hb hw hne,hg,hr0⟩
theorem IsS73.own_neN {w0 W:World} {g:Nat} {f0:List Int} {f1:Int} {f2:Int} {α:Type} {d:Kd α} {e:Nat} {base:Nat} {ok:Nat→Prop} {v:Value} {xs:List α} (h:IsS73 w0 W g f0 f1 f2) (ho:Kd.N d e W base ok v xs) (ht:e≠73):some g≠v.ownBlock:=by
 obtain⟨A0,c0,hb,hg,hr0⟩:=h
 exact Kd.N_ne ho hb ht
theorem IsS73.fresh {w0 W:World} {g:Nat} {f0:List Int} {f1:Int} {f2:Int} (h:IsS73 w0 W g f0 f1 f2):∀ k,W.heap.size≤k→k≠g:=by
 obtain⟨A0,c0,hb,hg,hr0⟩:=h
 exact Kd.freshB hb
theorem IsS73.kept {w0 W:World} {g:Nat} {f0:List Int} {f1:Int} {f2:Int} {W1:World} {S:Nat→Prop} (h:IsS73 w0 W g f0 f1 f2) (hk:Kept W W1 S) (hne:¬ S g):IsS73 w0 W1 g f0 f1 f2:=by
 obtain⟨A0,c0,hb,hg,hr0⟩:=h
 exact⟨A0,c0,blk_kept hb hk hne,hg,hr0⟩
theorem IsS73.below {w0 W:World} {g:Nat} {f0:List Int} {f1:Int} {f2:Int} {W1:World} (h:IsS73 w0 W g f0 f1 f2) (hw:Below W.heap.size W W1):IsS73 w0 W1 g f0 f1 f2:=h.grown (grown_of_below hw none) (by simp)
theorem IsS73.alloc {w0 W:World} {g:Nat} {f0:List Int} {f1:Int} {f2:Int} (h:IsS73 w0 W g f0 f1 f2) (o:Obj):IsS73 w0 (W.alloc o) g f0 f1 f2:=h.below (below_alloc (Below.refl _ _) o)
theorem IsS73.drewN {w0 W:World} {g:Nat} {f0:List Int} {f1:Int} {f2:Int} (h:IsS73 w0 W g f0 f1 f2) (m:Nat):IsS73 w0 (W.drewN m) g f0 f1 f2:=h
theorem IsS73.drew {w0 W:World} {g:Nat} {f0:List Int} {f1:Int} {f2:Int} (h:IsS73 w0 W g f0 f1 f2):IsS73 w0 W.drew g f0 f1 f2:=h
theorem IsS73.at_ {w0 W:World} {g:Nat} {f0:List Int} {f1:Int} {f2:Int} {w':World} {m:Nat} (hq:W.drewN m=w') (h:IsS73 w0 W g f0 f1 f2):IsS73 w0 w' g f0 f1 f2:=by subst hq;exact IsS73.drewN h m
theorem IsS73.apart {w0 W:World} {g:Nat} {f0:List Int} {f1:Int} {f2:Int} {α:Type} {d:Kd α} {e:Nat} {base:Nat} {ok:Nat→Prop} {v:Value} {xs:List α} (h:IsS73 w0 W g f0 f1 f2) (ho:d.R e W base ok v xs) (ht:∀ q,q∈e :: d.E→q≠73):d.R e W base (fun k=>ok k∧k≠g) v xs:=by
 obtain⟨A0,c0,hb,hg,hr0⟩:=h
 exact Kd.R_types ho hb ht
theorem IsS73.own_ne {w0 W:World} {g:Nat} {f0:List Int} {f1:Int} {f2:Int} {α:Type} {d:Kd α} {e:Nat} {base:Nat} {ok:Nat→Prop} {v:Value} {xs:List α} (h:IsS73 w0 W g f0 f1 f2) (ho:d.R e W base ok v xs) (ht:e≠73):some g≠v.ownBlock:=by
 obtain⟨A0,c0,hb,hg,hr0⟩:=h
 exact Kd.R_ne ho hb ht
theorem IsS73.apartQ {w0 W:World} {g:Nat} {f0:List Int} {f1:Int} {f2:Int} {α:Type} {d:Kd α} {e:Nat} {base:Nat} {ok:Nat→Prop} {v:Value} {xs:List α} (h:IsS73 w0 W g f0 f1 f2) (ho:d.Q e W base ok v xs) (ht:∀ q,q∈e :: d.E→q≠73):d.Q e W base (fun k=>ok k∧k≠g) v xs:=by
 obtain⟨A0,c0,hb,hg,hr0⟩:=h
 exact Kd.Q_types ho hb ht
theorem IsS73.own_neQ {w0 W:World} {g:Nat} {f0:List Int} {f1:Int} {f2:Int} {α:Type} {d:Kd α} {e:Nat} {base:Nat} {ok:Nat→Prop} {v:Value} {xs:List α} (h:IsS73 w0 W g f0 f1 f2) (ho:d.Q e W base ok v xs) (ht:e≠73):some g≠v.ownBlock:=by
 obtain⟨A0,c0,hb,hg,hr0⟩:=h
 exact Kd.Q_ne ho hb ht
theorem IsS73.apartS {w0 W:World} {g:Nat} {f0:List Int} {f1:Int} {f2:Int} {α:Type} {d:Kd α} {e:Nat} {base:Nat} {ok:Nat→Prop} {v:Value} {xs:List α} (h:IsS73 w0 W g f0 f1 f2) (ho:d.S e W base ok v xs) (ht:∀ q,q∈e :: d.E→q≠73):d.S e W base (fun k=>ok k∧k≠g) v xs:=by
 obtain⟨A0,c0,hb,hg,hr0⟩:=h
 exact Kd.S_types ho hb ht
theorem IsS73.own_neS {w0 W:World} {g:Nat} {f0:List Int} {f1:Int} {f2:Int} {α:Type} {d:Kd α} {e:Nat} {base:Nat} {ok:Nat→Prop} {v:Value} {xs:List α} (h:IsS73 w0 W g f0 f1 f2) (ho:d.S e W base ok v xs) (ht:e≠73):some g≠v.ownBlock:=by
 obtain⟨A0,c0,hb,hg,hr0⟩:=h
 exact Kd.S_ne ho hb ht
theorem IsS73.lt {w0 W:World} {g:Nat} {f0:List Int} {f1:Int} {f2:Int} (h:IsS73 w0 W g f0 f1 f2):g<W.heap.size:=by
 obtain⟨A0,c0,hb,hg,hr0⟩:=h
 exact blk_lt hb
theorem IsS73.ge {w0 W:World} {g:Nat} {f0:List Int} {f1:Int} {f2:Int} (h:IsS73 w0 W g f0 f1 f2):w0.heap.size≤g:=by
 obtain⟨A0,c0,hb,hg,hr0⟩:=h
 exact hg
theorem IsS73.gf {w0 W:World} {g:Nat} {f0:List Int} {f1:Int} {f2:Int} (h:Aside0 (IsS73 w0 W g f0 f1 f2)):Aside0 (w0.heap.size≤g):=⟨h.out.ge⟩
theorem IsS73.ne_blk {w0 W:World} {g:Nat} {f0:List Int} {f1:Int} {f2:Int} {a:Nat} {cs:Array Value} {t:TypeId} {fr:Nat × Nat} (h:IsS73 w0 W g f0 f1 f2) (hb2:W.heap[a]?=some (.cells cs t fr)) (ht:t≠73):g≠a:=by
 obtain⟨A0,c0,hb,hg,hr0⟩:=h
 rintro rfl
 rw [hb] at hb2
 injection hb2 with hb2
 injection hb2 with _ ht2
 exact ht ht2.symm
theorem IsS73.far {w0 W:World} {g:Nat} {f0:List Int} {f1:Int} {f2:Int} {p:Addr} (h:IsS73 w0 W g f0 f1 f2) (hne:g≠p.block) (u:Value):IsS73 w0 (W.setCell p u) g f0 f1 f2:=by
 obtain⟨A0,c0,hb,hg,hr0⟩:=h
 exact⟨A0,c0,blk_far hb hne u,hg,hr0⟩
theorem cellS73_0 {W:World} {g:Nat} {A0:Option Addr} {c0:Nat} {f0:List Int} {f1:Int} {f2:Int} (h:W.heap[g]?=some (.cells #[.slice A0 f0.length c0,.int .i64 f1,.int .i64 f2] 73 (0,0))):W.cell? ⟨g,0,none⟩=some (.slice A0 f0.length c0):=(blk_cell h 0).trans rfl
theorem cellS73_1 {W:World} {g:Nat} {A0:Option Addr} {c0:Nat} {f0:List Int} {f1:Int} {f2:Int} (h:W.heap[g]?=some (.cells #[.slice A0 f0.length c0,.int .i64 f1,.int .i64 f2] 73 (0,0))):W.cell? ⟨g,1,none⟩=some (.int .i64 f1):=(blk_cell h 1).trans rfl
theorem IsS73.set_1 {w0 W:World} {g:Nat} {f0:List Int} {f1:Int} {f2:Int} (h:IsS73 w0 W g f0 f1 f2) (x:Int):IsS73 w0 (W.setCell ⟨g,1,none⟩ (.int .i64 x)) g f0 x f2:=by
 obtain⟨A0,c0,hb,hg,hr0⟩:=h
 exact⟨A0,c0,(by simpa using blk_set hb 1 (.int .i64 x)),hg,hr0⟩
theorem cellS73_2 {W:World} {g:Nat} {A0:Option Addr} {c0:Nat} {f0:List Int} {f1:Int} {f2:Int} (h:W.heap[g]?=some (.cells #[.slice A0 f0.length c0,.int .i64 f1,.int .i64 f2] 73 (0,0))):W.cell? ⟨g,2,none⟩=some (.int .i64 f2):=(blk_cell h 2).trans rfl
theorem IsS73.set_2 {w0 W:World} {g:Nat} {f0:List Int} {f1:Int} {f2:Int} (h:IsS73 w0 W g f0 f1 f2) (x:Int):IsS73 w0 (W.setCell ⟨g,2,none⟩ (.int .i64 x)) g f0 f1 x:=by
 obtain⟨A0,c0,hb,hg,hr0⟩:=h
 exact⟨A0,c0,(by simpa using blk_set hb 2 (.int .i64 x)),hg,hr0⟩
theorem IsS73.new (w0 W:World) (A0:Option Addr) (c0:Nat) (f0:List Int) (f1:Int) (f2:Int) (hB:Below w0.heap.size w0 W) (hr0:Kd.C (Kd.int .u8) w0 A0 f0.length f0):IsS73 w0 (W.alloc (.cells #[.slice A0 f0.length c0,.int .i64 f1,.int .i64 f2] 73)) W.heap.size f0 f1 f2:=⟨A0,c0,(by simpa using heap_alloc_new W _),hB.size,hr0⟩

def spec_l01New.l0:Nat→List Int→Int→Int→Option (List Int × Int × Int)
 |0,_,_,_=>none
 |k+1,x0,x3,x4=>if x4<(x0.length:Int) then (if x4<4000 then (if 0≤x4 then (spec_l01New.l0 k x0 (Go.bits .and .i64 (wrap64 ((wrap64 ((wrap64 (x3 * 131))+(wrap64 (rd x0 x4))))+7)) 1073741823) (wrap64 (x4+1))) else (none)) else (some (x0,0,x3))) else (some (x0,0,x3))
def spec_l01New.f (k:Nat) (l0:List Int):Option (List Int × Int × Int):=spec_l01New.l0 k l0 (wrap64 (37401+(l0.length:Int))) 0
theorem spec_l01New.calls (k:Nat) (A0:Option Addr) (c0:Nat) (l0:List Int) (r1:List Int) (r2:Int) (r3:Int) (w0 w:World) (hB:Below w0.heap.size w0 w) (cY:Kd.C (Kd.int .u8) w0 A0 l0.length l0) (cV:l0.length≤c0) (h:spec_l01New.f k l0=some (r1,r2,r3)) :
  Calls Tryz.prog 14 #[.slice A0 l0.length c0] w fun e w'=>∃ g_:Nat,e=.returned (.pointer (some ⟨g_,0,none⟩))∧IsS73 w0 w' g_ r1 r2 r3∧Below w0.heap.size w0 w'∧Below w.heap.size w w':=by
 have iE:=Tryz.underlying73
 have dy:=am cY
 have fg:=am cV
 clear cY cV
 have HBW:=am (Below.refl w.heap.size w)
 have dz:=am hB.size
 have HB:=am hB
 clear hB
 have B:=h
 clear h
 unfold spec_l01New.f at B
 replace B:=am B
 go_enter Tryz.func14,Tryz.ntmps14
 go_wp2
 go_loopg [3,4] k (fun kq v3 v4 w'=>∃ (b5:Int) (a5:Int),v3=.int .i64 b5∧v4=.int .i64 a5∧Aside0 (spec_l01New.l0 kq l0 b5 a5=some (r1,r2,r3))∧Aside0 (kq≤k)∧Aside0 (Below w0.heap.size w0 w')∧Aside0 (Below w.heap.size w w'))
 case atStart=>exact⟨(wrap64 (37401+(l0.length:Int))),0,be_,be_,B,⟨Nat.le_refl _⟩,Ce0 HB,Ce0 HBW⟩
 case round=>
  clear B;obtain⟨b5,a5,rfl,rfl,l,a3,HB,HBW⟩:=hrel
  cases gk with
  |zero=>exact absurd l.out (by simp [spec_l01New.l0])
  |succ k1=>?_
  replace l:=l.out;simp only [spec_l01New.l0] at l
  obtain⟨bU,M⟩|⟨bU,M⟩:=sd l
  ·obtain⟨b8,ae⟩|⟨b8,ae⟩:=sd M
   ·obtain⟨bY,au⟩:=yd ae;replace au:=am au;clear l M ae
    have eb:0≤(a5:Int):=dga
    have ef:a5<(l0.length:Int):=dga
    obtain⟨g6,f5,eU⟩:=Kd.at_int dy.out a5 eb ef;cases f5;replace eU:=pw_cell_below HB.out eU;replace eb:=eq_true eb;replace ef:=eq_true ef
    go_wp2
    go_roundg k1
    case measure=>have:=a3.out;omega
    case rel=>exact⟨(Go.bits .and .i64 (wrap64 ((wrap64 ((wrap64 (b5 * 131))+(wrap64 (rd l0 a5))))+7)) 1073741823),(wrap64 (a5+1)),be_,be_,au,⟨(by have:=a3.out;omega)⟩,Ce0 HB,Ce0 HBW⟩
   ·obtain⟨rfl,rfl,rfl⟩:=s3 ae;clear ae l M
    go_wp2_with (first|((with_reducible refine gate_dst (N:=31) rfl ?_);refine bx (N:=31) (cs:=#[.slice A0 l0.length c0,.int .i64 0,.int .i64 b5]) (t:=73) ?_;intro eM hg w5 hbox hb;replace HB:=hA HB hb;have fc:=am hbox;have fe:=gA hg HBW;have eq:=am (Nat.le_trans dz.out (bs hg (below_size HBW.out)):w0.heap.size≤eM);replace HBW:=am (below_step HBW.out hb);clear hb hbox hg))
    go_ret;exact⟨_,rfl,(show IsS73 w0 _ eM l0 0 b5 from ⟨_,_,(Ab fc),eq.out,dy.out⟩),(Ae1 HB eq),(Ae1 HBW fe)⟩
  ·obtain⟨rfl,rfl,rfl⟩:=s3 M;clear M l
   go_wp2_with (first|((with_reducible refine gate_dst (N:=31) rfl ?_);refine bx (N:=31) (cs:=#[.slice A0 l0.length c0,.int .i64 0,.int .i64 b5]) (t:=73) ?_;intro eN hg w6 hbox hb;replace HB:=hA HB hb;have fd:=am hbox;have ff:=gA hg HBW;have er:=am (Nat.le_trans dz.out (bs hg (below_size HBW.out)):w0.heap.size≤eN);replace HBW:=am (below_step HBW.out hb);clear hb hbox hg))
   go_ret;exact⟨_,rfl,(show IsS73 w0 _ eN l0 0 b5 from ⟨_,_,(Ab fd),er.out,dy.out⟩),(Ae1 HB er),(Ae1 HBW ff)⟩

def spec_l01Byte.f (ay:List Int) (aE:Int) (aG:Int):Option (Int × Int × Int):=if aE<(ay.length:Int) then (if 0≤aE then (some (Go.bits .and .i64 (wrap64 ((Go.bits .and .i64 (Go.bits .xor .i64 ((wrap64 ((wrap64 (aG * 6364136223846793005))+1442695040888963407)) / 8589934592) ((wrap64 ((wrap64 (aG * 6364136223846793005))+1442695040888963407)) / 35184372088832)) 255)+(wrap64 (rd ay aE)))) 255,wrap64 (aE+1),wrap64 ((wrap64 (aG * 6364136223846793005))+1442695040888963407))) else (none)) else (some (Go.bits .and .i64 (Go.bits .xor .i64 ((wrap64 ((wrap64 (aG * 6364136223846793005))+1442695040888963407)) / 8589934592) ((wrap64 ((wrap64 (aG * 6364136223846793005))+1442695040888963407)) / 35184372088832)) 255,aE,wrap64 ((wrap64 (aG * 6364136223846793005))+1442695040888963407)))
theorem spec_l01Byte.calls (g:Nat) (ay:List Int) (aE:Int) (aG:Int) (r1:Int) (r2:Int) (r3:Int) (w0 w:World) (hI:IsS73 w0 w g ay aE aG) (hB:Below w0.heap.size w0 w) (h:spec_l01Byte.f ay aE aG=some (r1,r2,r3)) :
  Calls Tryz.prog 30 #[.pointer (some ⟨g,0,none⟩)] w fun e w'=>e=.returned (.int .i64 r1)∧IsS73 w0 w' g ay r2 r3∧Below w0.heap.size w0 w'∧KeepBut w w' g none:=by
 have aA:=am hI
 have HK:=am (KeepBut.refl w g none)
 have HL:=am hB.size
 clear hI
 have dz:=am hB.size
 have HB:=am hB
 clear hB
 have B:=h
 clear h
 unfold spec_l01Byte.f at B
 obtain⟨bU,l⟩|⟨bU,l⟩:=sd B
 ·obtain⟨b8,M⟩:=yd l;obtain⟨rfl,rfl,rfl⟩:=s3 M;clear M B l;obtain⟨g0,hx,ct,gg,fo⟩:=aA.out;have iZ:=cellS73_0 ct;have i0:=cellS73_1 ct;have i1:=cellS73_2 ct;have i5:=blk_frozen ct 1;have i6:=blk_frozen ct 2;clear ct gg
  have ec:0≤(aE:Int):=dga
  have eg:aE<(ay.length:Int):=dga
  obtain⟨fA,f6,cD⟩:=Kd.at_int fo aE ec eg;cases f6
  have hn104_0:fA.block≠g:=Nat.ne_of_lt (Nat.lt_of_lt_of_le (by have:=World.block_lt_of_cell? _ _ cD;first|rwa [add_block] at this|exact this) (IsS73.ge aA.out))
  replace cD:=pw_cell_below HB.out cD;replace cD:=(cell_far (p:=⟨g,2,none⟩) (by first|(rw [add_block];exact hn104_0)|(show (Addr.add _ _).block≠_;rw [add_block];exact hn104_0)|exact hn104_0) (.int .i64 (wrap64 ((wrap64 (aG * 6364136223846793005))+1442695040888963407)))).trans cD;(try have iH:=fun (n_:Nat)=>(show (((w.drewN n_).setCell ⟨g,2,none⟩ (.int .i64 (wrap64 ((wrap64 (aG * 6364136223846793005))+1442695040888963407))))).cell? _=some _ from cD));clear hn104_0;replace ec:=eq_true ec;replace eg:=eq_true eg;go_enter Tryz.func30,Tryz.ntmps30
  go_wp2
  repeat (go_quiet (fail);try go_wp2)
  go_ret;exact D0x1_
 ·obtain⟨rfl,rfl,rfl⟩:=s3 l;clear l B;obtain⟨g1,hz,cu,gh,g5⟩:=aA.out;have i2:=cellS73_0 cu;have i3:=cellS73_1 cu;have i4:=cellS73_2 cu;have i7:=blk_frozen cu 1;have i9:=blk_frozen cu 2;clear cu gh;go_enter Tryz.func30,Tryz.ntmps30
  go_wp2
  repeat (go_quiet (fail);try go_wp2)
  go_ret;exact D0x1_

def spec_l01Below.f (ay:List Int) (aE:Int) (aG:Int) (a1:Int):Option (Int × Int × Int):=if a1≤0 then (some (0,aE,aG)) else (if a1≤256 then ((spec_l01Byte.f ay aE aG).bind fun dR=>(if a1=0 then (none) else (some (Int.tmod dR.1 a1,dR.2.1,dR.2.2)))) else ((spec_l01Byte.f ay aE aG).bind fun dS=>((spec_l01Byte.f ay dS.2.1 dS.2.2).bind fun dT=>((spec_l01Byte.f ay dT.2.1 dT.2.2).bind fun dU=>((spec_l01Byte.f ay dU.2.1 dU.2.2).bind fun dV=>(if a1=0 then (none) else (some (Int.tmod (wrap64 ((wrap64 ((wrap64 ((wrap64 (dS.1 * 16777216))+(wrap64 (dT.1 * 65536))))+(wrap64 (dU.1 * 256))))+dV.1)) a1,dV.2.1,dV.2.2))))))))
theorem spec_l01Below.calls (g:Nat) (ay:List Int) (aE:Int) (aG:Int) (a1:Int) (r1:Int) (r2:Int) (r3:Int) (w0 w:World) (hI:IsS73 w0 w g ay aE aG) (hB:Below w0.heap.size w0 w) (h:spec_l01Below.f ay aE aG a1=some (r1,r2,r3)) :
  Calls Tryz.prog 15 #[.pointer (some ⟨g,0,none⟩),.int .i64 a1] w fun e w'=>e=.returned (.int .i64 r1)∧IsS73 w0 w' g ay r2 r3∧Below w0.heap.size w0 w'∧KeepBut w w' g none:=by
 have aA:=am hI
 have HK:=am (KeepBut.refl w g none)
 have HL:=am hB.size
 clear hI
 have dz:=am hB.size
 have HB:=am hB
 clear hB
 have B:=h
 clear h
 unfold spec_l01Below.f at B
 obtain⟨b8,l⟩|⟨b8,l⟩:=sd B
 ·obtain⟨rfl,rfl,rfl⟩:=s3 l;clear l B;go_enter Tryz.func15,Tryz.ntmps15
  go_wp2
  go_ret;exact D0x1_
 ·obtain⟨bY,M⟩|⟨bY,M⟩:=sd l
  ·obtain⟨⟨gq,gr,gs⟩,A5,ae⟩:=bsi M;(try dsimp only at ae)
   obtain⟨c6,au⟩|⟨c6,au⟩:=sp ae
   ·exact absurd au (by simp)
   ·obtain⟨hp,hs⟩:=nE c6;obtain⟨rfl,rfl,rfl⟩:=s3 au;clear au B l M ae;go_enter Tryz.func15,Tryz.ntmps15
    go_wp2_with (first|((with_reducible refine gate_callee (f:=30) rfl ?_);refine goesL_ (some 14) rfl rfl Tryz.func30 gk_ rfl #[.pointer (some ⟨g,0,none⟩)] rfl gm_ ?_;refine(spec_l01Byte.calls g ay aE aG gq gr gs w0 _ B1x1_ (Ae1 HB (IsS73.gf aA)) A5.out).mono ?_;rintro e w7 ⟨rfl,hi,hb,hk⟩;refine⟨_,rfl, ?_⟩;replace HK:=Dk0 HK hk;replace HB:=am hb;replace aA:=am hi))
    go_ret;exact D0x1_
  ·obtain⟨⟨gu,eV,eW⟩,A8,aN⟩:=bsi M;(try dsimp only at aN);obtain⟨⟨gv,eX,eY⟩,A9,ag⟩:=bsi aN;(try dsimp only at ag);obtain⟨⟨gw,eZ,e0⟩,e7,ai⟩:=bsi ag;(try dsimp only at ai);obtain⟨⟨gx,gy,gB⟩,e8,ac⟩:=bsi ai;(try dsimp only at ac)
   obtain⟨dW,ah⟩|⟨dW,ah⟩:=sp ac
   ·exact absurd ah (by simp)
   ·obtain⟨g7,g8⟩:=nE dW;obtain⟨rfl,rfl,rfl⟩:=s3 ah;clear ah B l M aN ag ai ac;go_enter Tryz.func15,Tryz.ntmps15
    go_wp2_with (first|((with_reducible refine gate_callee (f:=30) rfl ?_);refine goesL_ (some 18) rfl rfl Tryz.func30 gk_ rfl #[.pointer (some ⟨g,0,none⟩)] rfl gm_ ?_;refine(spec_l01Byte.calls g ay aE aG gu eV eW w0 _ B1x1_ (Ae1 HB (IsS73.gf aA)) A8.out).mono ?_;rintro e el ⟨rfl,hi,hb,hk⟩;refine⟨_,rfl, ?_⟩;replace HK:=Dk0 HK hk;replace HB:=am hb;replace aA:=am hi)|((with_reducible refine gate_callee (f:=30) rfl ?_);refine goesL_ (some 20) rfl rfl Tryz.func30 gk_ rfl #[.pointer (some ⟨g,0,none⟩)] rfl gm_ ?_;refine(spec_l01Byte.calls g ay eV eW gv eX eY w0 _ B1x1_ (Ae1 HB (IsS73.gf aA)) A9.out).mono ?_;rintro e iS ⟨rfl,hi,hb,hk⟩;refine⟨_,rfl, ?_⟩;replace HK:=Dk0 HK hk;replace HB:=am hb;replace aA:=am hi)|((with_reducible refine gate_callee (f:=30) rfl ?_);refine goesL_ (some 22) rfl rfl Tryz.func30 gk_ rfl #[.pointer (some ⟨g,0,none⟩)] rfl gm_ ?_;refine(spec_l01Byte.calls g ay eX eY gw eZ e0 w0 _ B1x1_ (Ae1 HB (IsS73.gf aA)) e7.out).mono ?_;rintro e gH ⟨rfl,hi,hb,hk⟩;refine⟨_,rfl, ?_⟩;replace HK:=Dk0 HK hk;replace HB:=am hb;replace aA:=am hi)|((with_reducible refine gate_callee (f:=30) rfl ?_);refine goesL_ (some 24) rfl rfl Tryz.func30 gk_ rfl #[.pointer (some ⟨g,0,none⟩)] rfl gm_ ?_;refine(spec_l01Byte.calls g ay eZ e0 gx gy gB w0 _ B1x1_ (Ae1 HB (IsS73.gf aA)) e8.out).mono ?_;rintro e iT ⟨rfl,hi,hb,hk⟩;refine⟨_,rfl, ?_⟩;replace HK:=Dk0 HK hk;replace HB:=am hb;replace aA:=am hi))
    go_ret;exact D0x1_

def spec_l01In.f (a0:Int) (a1:Int) (a2:Int):Option (Bool):=if a0≥a1 then (some (decide (a0≤a2))) else (some false)
theorem spec_l01In.calls (a0:Int) (a1:Int) (a2:Int) (r:Bool) (w:World) (h:spec_l01In.f a0 a1 a2=some r) :
  Calls Tryz.prog 31 #[.int .i64 a0,.int .i64 a1,.int .i64 a2] w fun e w'=>e=.returned (.bool r)∧Drawn0 w w':=by
 have B:=h
 clear h
 unfold spec_l01In.f at B
 obtain⟨c4,l⟩|⟨c4,l⟩:=sp B
 ·have bY:decide (a1≤a0)=true:=decide_eq_true c4
  clear c4;obtain rfl:=Option.some.inj l;clear l B;go_enter Tryz.func31,Tryz.ntmps31
  go_wp2
  go_ret;exact⟨gr_,gd_⟩
 have bY:decide (a1≤a0)=false:=decide_eq_false c4
 clear c4
 obtain rfl:=Option.some.inj l
 clear l B
 go_enter Tryz.func31,Tryz.ntmps31
 go_wp2
 go_ret
 exact⟨gr_,gd_⟩
theorem B6x7_ (h:p:=by have:=fh.out;first|omega|exact Nat.le_refl _):p:=h
mutual
def spec_CommandOk.j0:Nat→Bool→Int→Int→Int→ByteArray→ByteArray→Int→Option (Bool)
 |0,_,_,_,_,_,_,_=>none
 |k+1,gJ,cF,dK,dL,du,cG,co=>if gJ=true then (some false) else (if cF=1 then (if dK=0 then (if dL=0 then (if du.toList=([]:List UInt8) then (if cG.toList=([]:List UInt8) then (some (co == 0)) else (some false)) else (some false)) else (some false)) else (some false)) else ((spec_l01In.f (du.size:Int) 1 8).bind fun e3=>(if e3=true then (spec_CommandOk.j1 k (decide ((cG.size:Int)>20)) cF dK dL du cG co) else (spec_CommandOk.j1 k true cF dK dL du cG co))))
def spec_CommandOk.j1:Nat→Bool→Int→Int→Int→ByteArray→ByteArray→Int→Option (Bool)
 |0,_,_,_,_,_,_,_=>none
 |k+1,gN,cF,dK,dL,du,cG,co=>if gN=true then (some false) else (if cF=2 then (some (co == 0)) else (if cF=5 then ((spec_l01In.f co 1 1000000000).bind fun ek=>(some ek)) else (if cG.toList=([]:List UInt8) then (some (co == 0)) else (some false))))
end
def spec_CommandOk.f (k:Nat) (bz:Int) (aQ:Int) (bd:Int) (a8:ByteArray) (bE:ByteArray) (bB:Int):Option (Bool):=(spec_l01In.f aQ 0 1000000).bind fun e1=>(if e1=true then ((spec_l01In.f bd 0 1000000).bind fun e2=>(if e2=true then ((spec_l01In.f bz 1 5).bind fun dJ=>(spec_CommandOk.j0 k (!dJ) bz aQ bd a8 bE bB)) else (spec_CommandOk.j0 k true bz aQ bd a8 bE bB))) else (spec_CommandOk.j0 k true bz aQ bd a8 bE bB))
theorem spec_CommandOk.calls (k:Nat) (bz:Int) (aQ:Int) (bd:Int) (a8:ByteArray) (bE:ByteArray) (bB:Int) (r:Bool) (w:World) (h:spec_CommandOk.f k bz aQ bd a8 bE bB=some r) :
  Calls Tryz.prog 72 #[.agg #[.int .i64 bz,.int .i64 aQ,.int .i64 bd,.string a8,.string bE,.int .i64 bB]] w fun e w'=>e=.returned (.bool r)∧Below w.heap.size w w':=by
 have iG:=Tryz.underlying84
 have HB:=am (Below.refl w.heap.size w)
 have B:=h
 clear h
 unfold spec_CommandOk.f at B
 replace B:=am B
 go_enter Tryz.func72,Tryz.ntmps72
 go_upto_region 1 with (first|((with_reducible refine gate_dst (N:=1) rfl ?_);(try(refine gate_guard (by rfl) ?_;dsimp only));refine bx (N:=1) (cs:=#[.int .i64 bz,.int .i64 aQ,.int .i64 bd,.string a8,.string bE,.int .i64 bB]) (t:=84) ?_;intro eO hg w3 hbox hb;have aw:=am hbox;have aZ:=gA hg HB;replace HB:=hA HB hb;clear hb hbox hg))
 (try simp only [Act.put,List.setIfInBounds_toArray,List.set_cons_zero,List.set_cons_succ])
 go_cut [18] (fun gC wc=>∃ (kq:Nat) (em:Bool),gC=.bool em∧Aside0 (spec_CommandOk.j0 kq em bz aQ bd a8 bE bB=some r)∧Aside0 (kq≤k)∧Hc wc eO #[.int .i64 bz,.int .i64 aQ,.int .i64 bd,.string a8,.string bE,.int .i64 bB] 84∧Hb w wc)
 case first=>
  replace B:=B.out;obtain⟨e1,A4,l⟩:=bsi B;(try dsimp only at l)
  obtain⟨rfl,M⟩|⟨rfl,M⟩:=sb l
  ·obtain⟨e2,A6,ae⟩:=bsi M;(try dsimp only at ae)
   obtain⟨rfl,au⟩|⟨rfl,au⟩:=sb ae
   ·obtain⟨dJ,A8,aN⟩:=bsi au;(try dsimp only at aN);replace aN:=am aN;clear B l M ae au;obtain⟨be,bh,bi,bj,bk,bl,bm,bn,bo,bp,bq,br⟩:=cf6 aw
    go_wp2_with (first|((with_reducible refine gate_callee (f:=31) rfl ?_);refine goesL_ (some 5) rfl rfl Tryz.func31 gk_ rfl #[.int .i64 aQ,.int .i64 0,.int .i64 1000000] rfl gm_ ?_;refine(spec_l01In.calls aQ 0 1000000 true _ A4.out).mono ?_;rintro e w' ⟨rfl,⟨nd,rfl⟩⟩;refine⟨_,rfl, ?_⟩)|(go_at_call 31;(with_reducible refine(spec_l01In.calls bd 0 1000000 true _ A6.out).mono ?_);rintro e w' ⟨rfl,⟨nd,rfl⟩⟩)|(go_at_call 31;(with_reducible refine(spec_l01In.calls bz 1 5 dJ _ A8.out).mono ?_);rintro e w' ⟨rfl,⟨nd,rfl⟩⟩))
    go_meet
    case rel=>exact⟨_,(!dJ),be_,aN,⟨gl_⟩,Cb aw,Ce1 HB aZ⟩
   ·replace au:=am au;clear B l M ae;obtain⟨be,bh,bi,bj,bk,bl,bm,bn,bo,bp,bq,br⟩:=cf6 aw
    go_wp2_with (first|((with_reducible refine gate_callee (f:=31) rfl ?_);refine goesL_ (some 5) rfl rfl Tryz.func31 gk_ rfl #[.int .i64 aQ,.int .i64 0,.int .i64 1000000] rfl gm_ ?_;refine(spec_l01In.calls aQ 0 1000000 true _ A4.out).mono ?_;rintro e w' ⟨rfl,⟨nd,rfl⟩⟩;refine⟨_,rfl, ?_⟩)|(go_at_call 31;refine(spec_l01In.calls bd 0 1000000 false _ A6.out).mono ?_;rintro e w' ⟨rfl,⟨nd,rfl⟩⟩))
    go_meet
    case rel=>exact⟨_,true,be_,au,⟨gl_⟩,Cb aw,Ce1 HB aZ⟩
  ·replace M:=am M;clear B l;obtain⟨be,bh,bi,bj,bk,bl,bm,bn,bo,bp,bq,br⟩:=cf6 aw
   go_wp2_with (first|((with_reducible refine gate_callee (f:=31) rfl ?_);refine goesL_ (some 5) rfl rfl Tryz.func31 gk_ rfl #[.int .i64 aQ,.int .i64 0,.int .i64 1000000] rfl gm_ ?_;refine(spec_l01In.calls aQ 0 1000000 false _ A4.out).mono ?_;rintro e w' ⟨rfl,⟨nd,rfl⟩⟩;refine⟨_,rfl, ?_⟩))
   go_meet
   case rel=>exact⟨_,true,be_,M,⟨gl_⟩,Cb aw,Ce1 HB aZ⟩
 case rest=>
  clear B;obtain⟨kq,em,rfl,ag,fh,aw,HB⟩:=hcut
  cases kq with
  |zero=>exact absurd ag.out (by simp [spec_CommandOk.j0])
  |succ gm=>?_
  replace ag:=ag.out;simp only [spec_CommandOk.j0] at ag
  obtain⟨rfl,ai⟩|⟨rfl,ai⟩:=sb ag
  ·obtain rfl:=Option.some.inj ai;clear ai ag
   go_wp2
   go_ret;exact D0x2_
  ·obtain⟨cP,ac⟩|⟨cP,ac⟩:=sp ai
   ·obtain⟨eH,eI⟩:=yE cP;clear cP
    obtain⟨dC,ah⟩|⟨dC,ah⟩:=sp ac
    ·obtain⟨fD,fE⟩:=yE dC;clear dC
     obtain⟨dD,bI⟩|⟨dD,bI⟩:=sp ah
     ·obtain⟨fF,fG⟩:=yE dD;clear dD
      obtain⟨dE,bv⟩|⟨dE,bv⟩:=sp bI
      ·obtain⟨fH,fI⟩:=yE dE;clear dE
       obtain⟨cA,bw⟩|⟨cA,bw⟩:=sp bv
       ·obtain⟨cQ,fJ⟩:=yE cA;clear cA;obtain rfl:=Option.some.inj bw;clear bw ag ai ac ah bI bv;obtain⟨be,bh,bi,bj,bk,bl,bm,bn,bo,bp,bq,br⟩:=cf6 aw
        go_wp2
        go_ret;exact D0x2_
       ·obtain⟨cQ,fJ⟩:=nE cA;obtain rfl:=Option.some.inj bw;clear bw ag ai ac ah bI bv;obtain⟨be,bh,bi,bj,bk,bl,bm,bn,bo,bp,bq,br⟩:=cf6 aw
        go_wp2
        go_ret;exact D0x2_
      ·obtain⟨fH,fI⟩:=nE dE;obtain rfl:=Option.some.inj bv;clear bv ag ai ac ah bI;obtain⟨be,bh,bi,bj,bk,bl,bm,bn,bo,bp,bq,br⟩:=cf6 aw
       go_wp2
       go_ret;exact D0x2_
     ·obtain⟨fF,fG⟩:=nE dD;obtain rfl:=Option.some.inj bI;clear bI ag ai ac ah;obtain⟨be,bh,bi,bj,bk,bl,bm,bn,bo,bp,bq,br⟩:=cf6 aw
      go_wp2
      go_ret;exact D0x2_
    ·obtain⟨fD,fE⟩:=nE dC;obtain rfl:=Option.some.inj ah;clear ah ag ai ac;obtain⟨be,bh,bi,bj,bk,bl,bm,bn,bo,bp,bq,br⟩:=cf6 aw
     go_wp2
     go_ret;exact D0x2_
   ·obtain⟨eH,eI⟩:=nE cP;replace ac:=am ac;clear ag ai;obtain⟨be,bh,bi,bj,bk,bl,bm,bn,bo,bp,bq,br⟩:=cf6 aw
    go_upto_region 5 with (fail)
    go_cut [55] (fun gE wc=>∃ (kq:Nat) (en:Bool),gE=.bool en∧Aside0 (spec_CommandOk.j1 kq en bz aQ bd a8 bE bB=some r)∧Aside0 (kq≤gm)∧Hc wc eO #[.int .i64 bz,.int .i64 aQ,.int .i64 bd,.string a8,.string bE,.int .i64 bB] 84∧Hb w wc)
    case first=>
     replace ac:=ac.out;obtain⟨e3,eo,a6⟩:=bsi ac;(try dsimp only at a6)
     obtain⟨rfl,ba⟩|⟨rfl,ba⟩:=sb a6
     ·replace ba:=am ba;clear ac a6;obtain⟨be,bh,bi,bj,bk,bl,bm,bn,bo,bp,bq,br⟩:=cf6 aw
      go_wp2_with (first|((with_reducible refine gate_callee (f:=31) rfl ?_);refine goesL_ (some 48) rfl rfl Tryz.func31 gk_ rfl #[.int .i64 (a8.size:Int),.int .i64 1,.int .i64 8] rfl gm_ ?_;refine(spec_l01In.calls (a8.size:Int) 1 8 true _ eo.out).mono ?_;rintro e w' ⟨rfl,⟨nd,rfl⟩⟩;refine⟨_,rfl, ?_⟩))
      go_meet
      case rel=>exact⟨_,(decide ((bE.size:Int)>20)),be_,ba,⟨B6x7_⟩,Cb aw,Ce1 HB aZ⟩
     ·replace ba:=am ba;clear ac a6;obtain⟨be,bh,bi,bj,bk,bl,bm,bn,bo,bp,bq,br⟩:=cf6 aw
      go_wp2_with (first|((with_reducible refine gate_callee (f:=31) rfl ?_);refine goesL_ (some 48) rfl rfl Tryz.func31 gk_ rfl #[.int .i64 (a8.size:Int),.int .i64 1,.int .i64 8] rfl gm_ ?_;refine(spec_l01In.calls (a8.size:Int) 1 8 false _ eo.out).mono ?_;rintro e w' ⟨rfl,⟨nd,rfl⟩⟩;refine⟨_,rfl, ?_⟩))
      go_meet
      case rel=>exact⟨_,true,be_,ba,⟨B6x7_⟩,Cb aw,Ce1 HB aZ⟩
    case rest=>
     clear ac
     try clear dW
     try clear cP
     try clear eH
     try clear eI
     obtain⟨kq,en,rfl,aM,g3,aw,HB⟩:=hcut
     cases kq with
     |zero=>exact absurd aM.out (by simp [spec_CommandOk.j1])
     |succ iI=>?_
     replace aM:=aM.out;simp only [spec_CommandOk.j1] at aM
     obtain⟨rfl,a7⟩|⟨rfl,a7⟩:=sb aM
     ·obtain rfl:=Option.some.inj a7;clear a7 aM
      go_wp2
      go_ret;exact D0x2_
     ·obtain⟨dF,bJ⟩|⟨dF,bJ⟩:=sp a7
      ·obtain⟨fM,fN⟩:=yE dF;clear dF;obtain rfl:=Option.some.inj bJ;clear bJ aM a7;obtain⟨be,bh,bi,bj,bk,bl,bm,bn,bo,bp,bq,br⟩:=cf6 aw
       go_wp2
       go_ret;exact D0x2_
      ·obtain⟨fM,fN⟩:=nE dF
       obtain⟨dG,bR⟩|⟨dG,bR⟩:=sp bJ
       ·obtain⟨fO,fP⟩:=yE dG;clear dG;obtain⟨ek,e9,dN⟩:=bsi bR;(try dsimp only at dN);obtain rfl:=Option.some.inj dN;clear dN aM a7 bJ bR;obtain⟨be,bh,bi,bj,bk,bl,bm,bn,bo,bp,bq,br⟩:=cf6 aw
        go_wp2_with (first|((with_reducible refine gate_callee (f:=31) rfl ?_);refine goesL_ (some 67) rfl rfl Tryz.func31 gk_ rfl #[.int .i64 bB,.int .i64 1,.int .i64 1000000000] rfl gm_ ?_;refine(spec_l01In.calls bB 1 1000000000 ek _ e9.out).mono ?_;rintro e w' ⟨rfl,⟨nd,rfl⟩⟩;refine⟨_,rfl, ?_⟩))
        go_ret;exact D0x2_
       ·obtain⟨fO,fP⟩:=nE dG
        obtain⟨bO,cO⟩|⟨bO,cO⟩:=sp bR
        ·obtain⟨dY,fQ⟩:=yE bO;clear bO;obtain rfl:=Option.some.inj cO;clear cO aM a7 bJ bR;obtain⟨be,bh,bi,bj,bk,bl,bm,bn,bo,bp,bq,br⟩:=cf6 aw
         go_wp2
         go_ret;exact D0x2_
        ·obtain⟨dY,fQ⟩:=nE bO;obtain rfl:=Option.some.inj cO;clear cO aM a7 bJ bR;obtain⟨be,bh,bi,bj,bk,bl,bm,bn,bo,bp,bq,br⟩:=cf6 aw
         go_wp2
         go_ret;exact D0x2_

def spec_l01Figure.f (a0:Int):Option (Int):=if a0<10 then (some ((wrap64 (48+a0)) % 256)) else (some ((wrap64 ((wrap64 (97+a0)) - 10)) % 256))
theorem spec_l01Figure.calls (a0:Int) (r:Int) (w:World) (h:spec_l01Figure.f a0=some r) :
  Calls Tryz.prog 80 #[.int .i64 a0] w fun e w'=>e=.returned (.int .u8 r)∧Drawn0 w w':=by
 have B:=h
 clear h
 unfold spec_l01Figure.f at B
 obtain⟨bU,l⟩|⟨bU,l⟩:=sd B
 ·obtain rfl:=Option.some.inj l;clear l B;go_enter Tryz.func80,Tryz.ntmps80
  go_wp2
  go_ret;exact⟨gr_,gd_⟩
 obtain rfl:=Option.some.inj l
 clear l B
 go_enter Tryz.func80,Tryz.ntmps80
 go_wp2
 go_ret
 exact⟨gr_,gd_⟩
theorem B7x10_ (h:p:=by simp only [putAll,Act.put,List.setIfInBounds_toArray,List.set_cons_zero,List.set_cons_succ]):p:=h
theorem B7x12_ (h:p:=by exact(below_size (Ae2 HB aC aI))):p:=h
theorem B7x13_ (h:p:=by have:=a3.out;first|omega|exact Nat.le_refl _):p:=h
mutual
def spec_Decimal.l0:Nat→Int→Bool→ByteArray→Option (ByteArray)
 |0,_,_,_=>none
 |k+1,x0,x3,x4=>if x0=0 then (if x3=true then (if 1+x4.size≤9223372036854775807 then (some ((⟨#[45]⟩:ByteArray) ++ x4)) else (none)) else (some x4)) else (if (Int.tmod x0 10)<0 then (spec_Decimal.j1 k x0 x3 x4 (wrap64 (-(Int.tmod x0 10)))) else (spec_Decimal.j1 k x0 x3 x4 (Int.tmod x0 10)))
def spec_Decimal.j1:Nat→Int→Bool→ByteArray→Int→Option (ByteArray)
 |0,_,_,_,_=>none
 |k+1,x0,x3,x4,x5=>(spec_l01Figure.f x5).bind fun b2=>((some (([b2]:List Int):List Int)).bind fun dw=>(if (strOfNums dw).size+x4.size≤9223372036854775807 then (spec_Decimal.l0 k (wrap64 (Int.tdiv x0 10)) x3 ((strOfNums dw) ++ x4)) else (none)))
end
def spec_Decimal.f (k:Nat) (a0:Int):Option (ByteArray):=if a0=0 then (some (⟨#[48]⟩:ByteArray)) else (spec_Decimal.l0 k a0 (decide (a0<0)) (⟨#[]⟩:ByteArray))
theorem spec_Decimal.calls (k:Nat) (a0:Int) (r:ByteArray) (w:World) (h:spec_Decimal.f k a0=some r) :
  Calls Tryz.prog 46 #[.int .i64 a0] w fun e w'=>e=.returned (.string r)∧Below w.heap.size w w':=by
 have HB:=am (Below.refl w.heap.size w)
 have B:=h
 clear h
 unfold spec_Decimal.f at B
 obtain⟨c2,l⟩|⟨c2,l⟩:=sp B
 ·obtain⟨bU,dX⟩:=yE c2;clear c2;obtain rfl:=Option.some.inj l;clear l B;go_enter Tryz.func46,Tryz.ntmps46
  go_wp2
  go_ret;exact⟨B1x5_,(Ae0 HB)⟩
 ·obtain⟨bU,dX⟩:=nE c2;replace l:=am l;clear B;go_enter Tryz.func46,Tryz.ntmps46
  go_wp2
  go_loopg [0,4] k (fun kq v0 v4 w'=>∃ (cn:Int) (a5:ByteArray),v0=.int .i64 cn∧v4=.string a5∧Aside0 (spec_Decimal.l0 kq cn (decide (a0<0)) a5=some r)∧Aside0 (kq≤k)∧Aside0 (Below w.heap.size w w'))
  case atStart=>exact⟨(a0),((⟨#[]⟩:ByteArray)),be_,be_,l,⟨Nat.le_refl _⟩,Ce0 HB⟩
  case round=>
   clear l
   try clear c2
   try clear bU
   try clear dX
   obtain⟨cn,a5,rfl,rfl,M,a3,HB⟩:=hrel
   cases gk with
   |zero=>exact absurd M.out (by simp [spec_Decimal.l0])
   |succ k1=>?_
   replace M:=M.out;simp only [spec_Decimal.l0] at M
   obtain⟨c3,ae⟩|⟨c3,ae⟩:=sp M
   ·obtain⟨b8,eK⟩:=yE c3;clear c3
    obtain⟨c4,au⟩|⟨c4,au⟩:=sp ae
    ·have bY:(decide (a0<0))=true:=c4
     have dZ:=eq_true (of_decide_eq_true c4)
     have fS:(0≤a0)=False:=eq_false (by have:=of_decide_eq_true c4;omega)
     clear c4;obtain⟨c5,aN⟩:=yn au;have hm:=eq_true c5;have hn:=decide_eq_true c5
     try have fW:(9223372036854775807<1+a5.size)=False:=eq_false (Nat.not_lt.2 c5)
     try(have fX:=fW;simp only [ByteArray.size_append] at fX)
     obtain rfl:=Option.some.inj aN;clear aN M ae au
     go_wp2
     (try any_goals (exfalso;have q_:=of_eq_true dZ;omega));go_ret;exact⟨B1x5_,(Ae0 HB)⟩
    ·have bY:(decide (a0<0))=false:=by simpa using c4
     have dZ:=eq_false (of_decide_eq_false bY)
     have fS:(0≤a0)=True:=eq_true (by have:=of_decide_eq_false bY;omega)
     clear c4;obtain rfl:=Option.some.inj au;clear au M ae
     go_wp2
     (try any_goals (exfalso;have q_:=of_eq_false dZ;omega));go_ret;exact⟨B1x5_,(Ae0 HB)⟩
   ·obtain⟨b8,eK⟩:=nE c3;replace ae:=am ae;clear M
    go_upto_if 15 with (fail)
    go_cut [5] (fun v5 wc=>∃ (kq:Nat) (dv:Int),v5=.int .i64 dv∧Aside0 (spec_Decimal.j1 kq cn (decide (a0<0)) a5 dv=some r)∧Aside0 (kq≤k1)∧Hb w wc)
    case first=>
     replace ae:=ae.out
     obtain⟨cT,ag⟩|⟨cT,ag⟩:=sd ae
     ·(first|rw [cT]|(simp only [i64_w,i32_w];rw [cT])|skip)
      replace ag:=am ag;clear ae
      go_wp2
      go_meet
      case rel=>exact⟨_,(wrap64 (-(Int.tmod cn 10))),be_,ag,⟨B7x13_⟩,Ce0 HB⟩
     ·(first|rw [cT]|(simp only [i64_w,i32_w];rw [cT])|skip)
      replace ag:=am ag;clear ae
      go_wp2
      go_meet
      case rel=>exact⟨_,(Int.tmod cn 10),be_,ag,⟨B7x13_⟩,Ce0 HB⟩
    case rest=>
     clear ae
     try clear c2
     try clear bU
     try clear dX
     try clear c3
     try clear b8
     try clear eK
     obtain⟨kq,dv,rfl,ai,ev,HB⟩:=hcut
     cases kq with
     |zero=>exact absurd ai.out (by simp [spec_Decimal.j1])
     |succ gp=>?_
     replace ai:=ai.out;simp only [spec_Decimal.j1] at ai;obtain⟨b2,A8,ac⟩:=bsi ai;(try dsimp only at ac);obtain⟨dw,dc⟩:∃ y_:List Int,y_=(([b2]:List Int)):=⟨_,rfl⟩
     (first|with_reducible replace ac:=hq dc ac|rw [←dc] at ac|simp only [←dc] at ac)
     have eB:=am dc;clear dc;obtain⟨c9,ah⟩:=yn ac;have hu:=eq_true c9;have hv:=decide_eq_true c9
     try have fY:(9223372036854775807<(strOfNums dw).size+a5.size)=False:=eq_false (Nat.not_lt.2 c9)
     try(have fZ:=fY;simp only [ByteArray.size_append] at fZ)
     replace ah:=am ah;clear ai ac
     go_wp2_with (first|((with_reducible refine gate_callee (f:=80) rfl ?_);refine goesL_ (some 19) rfl rfl Tryz.func80 gk_ rfl #[.int .i64 dv] rfl gm_ ?_;refine(spec_l01Figure.calls dv b2 _ A8.out).mono ?_;rintro e w' ⟨rfl,⟨nd,rfl⟩⟩;refine⟨_,rfl, ?_⟩)|((with_reducible refine gate_dst (N:=20) rfl ?_);refine lL (Kd.int .u8) 5 20 ([b2]:List Int) [.int .u8 b2] (Reps.one (show Kd.M (Kd.int .u8) _ _ _ b2 [.int .u8 b2] from rfl) (Reps.none _ _)) ?_;intro iJ gF bL hb;(first|rw [←eB.out] at bL|(simp only [Int.reduceToNat] at bL;rw [←eB.out] at bL));have fi:=am (Kd.R_lower bL (below_size (Ae0 HB)));replace HB:=hA HB hb;clear hb bL;have hC:=own_string (P:=Tryz.prog) Tryz.underlying22 Tryz.underlying5 Tryz.underlying9 (Kd.own_of_R fi.out)))
     go_roundg gp
     case measure=>have:=a3.out;have:=ev.out;omega
     case rel=>exact⟨(wrap64 (Int.tdiv cn 10)),((strOfNums dw) ++ a5),be_,be_,ah,⟨(by have:=a3.out;have:=ev.out;omega)⟩,Ce0 HB⟩

def spec_l15Copy.f (z:List (S76)) (af:List (S79)):Option ((List (S76)) × (List (S79))):=(some (([]:List (S76)):List (S76))).bind fun cp=>(if cp.length+z.length<4398046511104 then ((some (([]:List (S79)):List (S79))).bind fun cI=>(if cI.length+af.length<3518437208883 then (some ((cp ++ z),(cI ++ af))) else (none))) else (none))
def spec_l15Copy.T1:Bool × List (List Nat × List Nat):=(true,[([],[]),([],[]),([1],[1]),([0,2],[0,2]),([],[]),([],[]),([5],[5]),([4,6,3],[4,6]),([3,7],[3,7]),([8,7,0,1,2,3,4,5,6,7,8],[8])])
def spec_l15Copy.B1:List Nat:=[0,0,2,7,0,0,32,127,255,511]
theorem spec_l15Copy.tab1:rtab .any (opsOf Tryz.f74 1)=spec_l15Copy.T1:=by kernel_rfl
theorem spec_l15Copy.bits1:waitsOk spec_l15Copy.T1.2 spec_l15Copy.B1=true:=by kernel_rfl
theorem spec_l15Copy.calls (aT:Option Addr) (aX:Nat) (z:List (S76)) (aU:Option Addr) (aY:Nat) (af:List (S79)) (r1:List (S76)) (r2:List (S79)) (w:World) (cZ:Kd.C k76 w aT z.length z) (cW:z.length≤aX) (da:Kd.C k79 w aU af.length af) (cX:af.length≤aY) (h:spec_l15Copy.f z af=some (r1,r2)) :
  Calls Tryz.prog 74 #[.agg #[.slice aT z.length aX,.slice aU af.length aY]] w fun e w'=>∃ dr dt:Value,e=.returned (.agg #[dr,dt])∧Kd.R k76 76 w' w.heap.size (fun _=>True) dr r1∧Kd.R k79 79 w' w.heap.size (fun _=>True) dt r2∧Below w.heap.size w w':=by
 have gl:=Tryz.underlying52
 have bH:=am cZ
 have et:=am cW
 clear cZ cW
 have dM:=am da
 have eu:=am cX
 clear da cX
 have HB:=am (Below.refl w.heap.size w)
 have B:=h
 clear h
 unfold spec_l15Copy.f at B
 obtain⟨cp,dd⟩:∃ y_:List (S76),y_=(([]:List (S76))):=⟨_,rfl⟩
 (first|with_reducible replace B:=hq dd B|rw [←dd] at B|simp only [←dd] at B)
 have dB:=am dd
 clear dd
 obtain⟨dO,l⟩:=ya B
 obtain⟨e6,de⟩:∃ y_:List (S76),y_=(cp ++ z):=⟨_,rfl⟩
 (first|with_reducible replace l:=hq de l|rw [←de] at l|simp only [←de] at l)
 have dP:=am de
 clear de
 obtain⟨cI,df⟩:∃ y_:List (S79),y_=(([]:List (S79))):=⟨_,rfl⟩
 (first|with_reducible replace l:=hq df l|rw [←df] at l|simp only [←df] at l)
 have cz:=am df
 clear df
 obtain⟨fs,M⟩:=ya l
 obtain⟨gO,dh⟩:∃ y_:List (S79),y_=(cI ++ af):=⟨_,rfl⟩
 (first|with_reducible replace M:=hq dh M|rw [←dh] at M|simp only [←dh] at M)
 have fv:=am dh
 clear dh
 obtain⟨rfl,rfl⟩:=s2 M
 clear M B l
 go_enter Tryz.func74,Tryz.ntmps74
 try go_wp2_with (first|((with_reducible refine gate_dst (N:=1) rfl ?_);refine bx (N:=1) (cs:=#[.slice aT z.length aX,.slice aU af.length aY]) (t:=52) ?_;intro b9 hg w4 hbox hb;have D:=am hbox;have aC:=gA hg HB;replace HB:=hA HB hb;clear hb hbox hg)|((with_reducible refine gate_dst (N:=2) rfl ?_);refine bx (N:=2) (cs:=#[.slice none 0 0,.slice none 0 0]) (t:=52) ?_;intro b0 hg w5 hbox hb;have aa:=am hbox;have aI:=gA hg HB;replace HB:=De1 HB aC hb;have cx:=nA hg D;have ez:=mA hg D;replace D:=bA D hb;clear hb hbox hg))
 replace D:=dA D
 replace aa:=dA aa
 replace HB:=bdr HB
 refine st_ 10 (fun w'=>w'.cell? ⟨b9,0,none⟩=some (.slice aT z.length aX)∧w'.cell? ⟨b9,1,none⟩=some (.slice aU af.length aY)) [] spec_l15Copy.tab1 spec_l15Copy.bits1 ⟨bc D 0,bc D 1⟩ (fun ao a9 ey=>?_)
 generalize w5.drew=w6 at D aa HB ao ⊢
 refine pu_ 1 4 a9 ?_
 refine pu_ 5 8 a9 ?_
 refine ta_ 2 5 a9 ey ao ?_
 refine ta_ 6 9 a9 ey ao ?_
 refine join_ (σ:=Value × Value × Value) 3 #[true,true,true,true,true,true,true,false,false,false] (fun s_=>[(3,s_.1),(6,s_.2.1),(7,s_.2.2)]) (fun s_ w'=>(w'.cell? ⟨b9,0,none⟩=some (.slice aT z.length aX)∧w'.cell? ⟨b9,1,none⟩=some (.slice aU af.length aY))∧(Kd.R k76 76 w' w.heap.size (fun _=>True) s_.2.1 e6)∧(Kd.R k79 79 w' w.heap.size (fun _=>True) s_.2.2 cI)∧(w'.heap[b9]?=some (.cells #[.slice aT z.length aX,.slice aU af.length aY] 52 (0,0)))∧(w'.heap[b0]?=some (.cells #[.slice none 0 0,.slice none 0 0] 52 (0,0)))∧(Below w.heap.size w w')) ?_ ?_
 rotate_left
 ·intro d3;refine two_ (i:=0) (j:=4) (Ni:=some 3) (Nj:=some 7) #[true,true,true,false,false,true,true,false,false,false] #[false,true,true,false,true,true,true,false,false,false] rfl rfl rfl rfl (two_of a9.out gk_) (by decide) (by decide) (fun K hK=>?_) (fun K hK=>?_)
  ·skip
   refine lS k76 76 3 ([]:List (S76)) [] (Reps.none _ _) ?_;intro b3 w7 bM hb
   (first|rw [←dB.out] at bM|(simp only [Int.reduceToNat] at bM;rw [←dB.out] at bM))
   have aV:=am (Kd.R_lower bM (below_size (Ae2 HB aC aI)));replace D:=bA D hb;replace aa:=bA aa hb;replace HB:=De2 HB aC aI hb;clear hb bM;refine hK.out _ _ ⟨bc D 0,bc D 1⟩ (fun ao=>nm_ ?_);clear hK K;refine two_ (i:=3) (j:=4) (Ni:=some 6) (Nj:=some 7) #[true,true,true,true,false,true,true,false,false,false] #[true,true,true,false,true,true,true,false,false,false] rfl rfl rfl rfl (two_of a9.out gk_) (by decide) (by decide) (fun K hK=>?_) (fun K hK=>?_)
   ·skip
    refine Kd.R_append_rows_step k76 (w0:=w) w.heap.size (by rfl) (.tmp 3) (.tmp 5) 49 76 (.agg #[(.int .i64 0),(.int .i64 0),(.string ⟨#[]⟩)]) 32 rfl Tryz.underlying49 info76 rfl (by decide) (by omega) b3 cp z _ _ _ (fun _=>True) (fun _=>False) rfl rfl ?aO ?aR (fun _ _ h=>h) (fun _ h=>h.elim) ?aF ?aB ?aS ?aL ?_
    (case aR=>exact(tc (Kd.C_below bH.out HB.out)))
    (case aB=>exact(Ae2 HB aC aI))
    (case aF=>exact(fun _ _=>trivial))
    (case aO=>exact(Ar aV))
    (case aS=>exact B7x12_)
    (case aL=>have:=dO.out;omega)
    intro cE w9 ho hb hg hat;rw [←dP.out] at ho;replace D:=bg D hg (Kd.R_ne aV.out D.out (by decide));replace aa:=bg aa hg (Kd.R_ne aV.out aa.out (by decide));replace HB:=am hb;have bD:=am ho;clear aV;clear ho hb hg hat;refine hK.out _ _ ⟨bc D 0,bc D 1⟩ (fun ao=>nm_ ?_);clear hK K;refine on_ 4 (some 7) a9 (fun K hK=>?_);refine lS k79 79 7 ([]:List (S79)) [] (Reps.none _ _) ?_;intro cm gF bL hb
    (first|rw [←cz.out] at bL|(simp only [Int.reduceToNat] at bL;rw [←cz.out] at bL))
    replace bD:=rA bD hb;have aW:=am (Kd.R_lower bL (below_size (Ae2 HB aC aI)));replace D:=bA D hb;replace aa:=bA aa hb;replace HB:=De2 HB aC aI hb;clear hb bL;refine hK.out _ _ ⟨bc D 0,bc D 1⟩ (fun ao=>nm_ ?_);clear hK K;exact norm_ B7x10_ (d3 (b3,cE,cm) _ ⟨ao,(Ar bD),(Ar aW),(Ab D),(Ab aa),(Ae2 HB aC aI)⟩)
   refine lS k79 79 7 ([]:List (S79)) [] (Reps.none _ _) ?_;intro cm w9 bK hb
   (first|rw [←cz.out] at bK|(simp only [Int.reduceToNat] at bK;rw [←cz.out] at bK))
   replace aV:=rA aV hb;have aW:=am (Kd.R_lower bK (below_size (Ae2 HB aC aI)));replace D:=bA D hb;replace aa:=bA aa hb;replace HB:=De2 HB aC aI hb;clear hb bK;refine hK.out _ _ ⟨bc D 0,bc D 1⟩ (fun ao=>nm_ ?_);clear hK K;refine on_ 3 (some 6) a9 (fun K hK=>?_);refine Kd.R_append_rows_step k76 (w0:=w) w.heap.size (by rfl) (.tmp 3) (.tmp 5) 49 76 (.agg #[(.int .i64 0),(.int .i64 0),(.string ⟨#[]⟩)]) 32 rfl Tryz.underlying49 info76 rfl (by decide) (by omega) b3 cp z _ _ _ (fun _=>True) (fun _=>False) rfl rfl ?aO ?aR (fun _ _ h=>h) (fun _ h=>h.elim) ?aF ?aB ?aS ?aL ?_
   (case aR=>exact(tc (Kd.C_below bH.out HB.out)))
   (case aB=>exact(Ae2 HB aC aI))
   (case aF=>exact(fun _ _=>trivial))
   (case aO=>exact(Ar aV))
   (case aS=>exact B7x12_)
   (case aL=>have:=dO.out;omega)
   intro cE gG ho hb hg hat;rw [←dP.out] at ho;replace D:=bg D hg (Kd.R_ne aV.out D.out (by decide));replace aa:=bg aa hg (Kd.R_ne aV.out aa.out (by decide));replace aW:=am (Kd.R_over' (Ar aW) (Kd.R_typed (Ar aV)) (by decide) hg);replace HB:=am hb;have bD:=am ho;clear aV;clear ho hb hg hat;refine hK.out _ _ ⟨bc D 0,bc D 1⟩ (fun ao=>nm_ ?_);clear hK K;exact norm_ B7x10_ (d3 (b3,cE,cm) _ ⟨ao,(Ar bD),(Ar aW),(Ab D),(Ab aa),(Ae2 HB aC aI)⟩)
  refine lS k79 79 7 ([]:List (S79)) [] (Reps.none _ _) ?_;intro cm w7 bM hb
  (first|rw [←cz.out] at bM|(simp only [Int.reduceToNat] at bM;rw [←cz.out] at bM))
  have aW:=am (Kd.R_lower bM (below_size (Ae2 HB aC aI)));replace D:=bA D hb;replace aa:=bA aa hb;replace HB:=De2 HB aC aI hb;clear hb bM;refine hK.out _ _ ⟨bc D 0,bc D 1⟩ (fun ao=>nm_ ?_);clear hK K;refine on_ 0 (some 3) a9 (fun K hK=>?_);refine lS k76 76 3 ([]:List (S76)) [] (Reps.none _ _) ?_;intro b3 w9 bK hb
  (first|rw [←dB.out] at bK|(simp only [Int.reduceToNat] at bK;rw [←dB.out] at bK))
  replace aW:=rA aW hb;have aV:=am (Kd.R_lower bK (below_size (Ae2 HB aC aI)));replace D:=bA D hb;replace aa:=bA aa hb;replace HB:=De2 HB aC aI hb;clear hb bK;refine hK.out _ _ ⟨bc D 0,bc D 1⟩ (fun ao=>nm_ ?_);clear hK K;refine on_ 3 (some 6) a9 (fun K hK=>?_);refine Kd.R_append_rows_step k76 (w0:=w) w.heap.size (by rfl) (.tmp 3) (.tmp 5) 49 76 (.agg #[(.int .i64 0),(.int .i64 0),(.string ⟨#[]⟩)]) 32 rfl Tryz.underlying49 info76 rfl (by decide) (by omega) b3 cp z _ _ _ (fun _=>True) (fun _=>False) rfl rfl ?aO ?aR (fun _ _ h=>h) (fun _ h=>h.elim) ?aF ?aB ?aS ?aL ?_
  (case aR=>exact(tc (Kd.C_below bH.out HB.out)))
  (case aB=>exact(Ae2 HB aC aI))
  (case aF=>exact(fun _ _=>trivial))
  (case aO=>exact(Ar aV))
  (case aS=>exact B7x12_)
  (case aL=>have:=dO.out;omega)
  intro cE gG ho hb hg hat;rw [←dP.out] at ho;replace D:=bg D hg (Kd.R_ne aV.out D.out (by decide));replace aa:=bg aa hg (Kd.R_ne aV.out aa.out (by decide));replace aW:=am (Kd.R_over' (Ar aW) (Kd.R_typed (Ar aV)) (by decide) hg);replace HB:=am hb;have bD:=am ho;clear aV;clear ho hb hg hat;refine hK.out _ _ ⟨bc D 0,bc D 1⟩ (fun ao=>nm_ ?_);clear hK K;exact norm_ B7x10_ (d3 (b3,cE,cm) _ ⟨ao,(Ar bD),(Ar aW),(Ab D),(Ab aa),(Ae2 HB aC aI)⟩)
 rintro⟨b3,cE,cm⟩ e4 ⟨hS_,eP,eQ,eR,eS,eT⟩
 replace bD:=am eP
 replace aW:=am eQ
 replace D:=am eR
 replace aa:=am eS
 replace HB:=am eT
 clear eP eQ eR eS eT
 have ao:e4.cell? ⟨b9,0,none⟩=some (.slice aT z.length aX)∧e4.cell? ⟨b9,1,none⟩=some (.slice aU af.length aY):=hS_
 refine norm_ (a':=?_) ?_ ?_
 rotate_left
 ·simp only [putAll,Act.put,List.setIfInBounds_toArray,List.set_cons_zero,List.set_cons_succ];rfl
 refine on_ 7 (some 10) a9 (fun K hK=>?_)
 refine Kd.R_append_rows_step k79 (w0:=w) w.heap.size (by rfl) (.tmp 7) (.tmp 9) 50 79 (.agg #[(.string ⟨#[]⟩),(.string ⟨#[]⟩),(.int .i64 0)]) 40 rfl Tryz.underlying50 info79 rfl (by decide) (by omega) cm cI af _ _ _ (fun _=>True) (fun _=>False) rfl rfl ?aO ?aR (fun _ _ h=>h) (fun _ h=>h.elim) ?aF ?aB ?aS ?aL ?_
 (case aR=>repeat (first|exact(Kd.C_below dM.out HB.out)|(with_reducible refine Kd.C_alloc ?_ _)|(with_reducible refine Kd.C_drewN ?_ _)|(with_reducible refine Kd.C_drew ?_)))
 (case aB=>exact(Ae2 HB aC aI))
 (case aF=>exact(fun _ _=>trivial))
 (case aO=>exact(Ar aW))
 (case aS=>exact B7x12_)
 (case aL=>have:=fs.out;omega)
 intro iK el ho hb hg hat
 rw [←fv.out] at ho
 replace D:=bg D hg (Kd.R_ne aW.out D.out (by decide))
 replace aa:=bg aa hg (Kd.R_ne aW.out aa.out (by decide))
 replace bD:=am (Kd.R_over' (Ar bD) (Kd.R_typed (Ar aW)) (by decide) hg)
 replace HB:=am hb
 have ew:=am ho
 clear aW
 clear ho hb hg hat
 obtain⟨bu,bC,dH⟩:=Kd.R_slice ew.out
 (first|subst dH|(injection dH with f1_ f2_ f3_;have f4_:=f1_.symm;have f5_:=f3_.symm;clear f1_ f2_ f3_;subst f4_;subst f5_))
 obtain⟨fb,f4,eL⟩:=Kd.R_slice bD.out
 (first|subst eL|(injection eL with f1_ f2_ f3_;have f4_:=f1_.symm;have f5_:=f3_.symm;clear f1_ f2_ f3_;subst f4_;subst f5_))
 refine hK.out _ _ ⟨bc D 0,bc D 1⟩ (fun ao=>nm_ ?_)
 clear hK K
 refine pu_ 8 11 a9 ?_
 refine on_ 9 none a9 (fun K hK=>?_)
 have iA:el.cell? ⟨b0,0,none⟩=some (.slice none 0 0):=bc aa 0
 have hD:=blk_frozen aa.out 0
 obtain⟨iu,hH⟩:=o2_ cx ez
 have iB:el.cell? ⟨b0,1,none⟩=some (.slice none 0 0):=bc aa 1
 have hE:=blk_frozen aa.out 1
 obtain⟨iv,hJ⟩:=o2_ cx ez
 refine skip_ (w1:=?_) (by rfl) rfl ?_ ?_
 rotate_left
 ·go_simp;rfl
 refine hK.out _ _ ⟨((cell_far (p:=⟨b0,_,none⟩) cx.out _).trans (((cell_far (p:=⟨b0,_,none⟩) cx.out _).trans (ao.1)))),((cell_far (p:=⟨b0,_,none⟩) cx.out _).trans (((cell_far (p:=⟨b0,_,none⟩) cx.out _).trans (ao.2))))⟩ (fun ao=>?_)
 clear hK K
 refine done_ (done_of a9.out gk_) ?_
 try go_wp2
 refine bodyPost_ret (results_cell_row rfl _ _ b0 52 #[.slice fb e6.length f4,.slice bu gO.length bC] (0,0) _ rfl (Ap0 aa) Tryz.underlying52 rfl gk_) rfl ?_
 exact⟨_,_,B1x5_,(tfg bD.out aa.out (by decide)),(tfg ew.out aa.out (by decide)),(Ae2 HB aC aI)⟩
end
section
attribute [local go_sem] gtrS max2_int min2_int max_two min_two max_three min_three max_four min_four
theorem B8x9_ (h:p:=by (with_reducible repeat (first|apply Kd.R_alloc|apply Kd.R_drewN|apply Kd.R_drew));exact Kd.R_mono ax.out (fun _ hk=>hk.2)):p:=h
theorem B8x11_ (h:p:=by (with_reducible repeat (first|apply Kd.R_alloc|apply Kd.R_drewN|apply Kd.R_drew));exact Kd.R_mono ax.out (fun _ hk=>⟨trivial,hk⟩)):p:=h
theorem B8x18_ (h:p:=by exact(fun k_ hk=>Kd.fresh' (Kd.R_lt (Ar ax)) k_ hk)):p:=h
theorem B8x20_ (h:p:=by exact(below_size (Ae3 HB ar av aD))):p:=h
theorem B8x21_ (h:p:=by have:=a3.out;have:=cN.out;first|omega|exact Nat.le_refl _):p:=h
mutual
def spec_l15Open.l0:Nat→Int→List (S76)→Int→List (S76)→List (S79)→List (S76)→List (S79)→Option ((List (S76)) × (List (S79)) × ByteArray)
 |0,_,_,_,_,_,_,_=>none
 |k+1,x1,x7,x8,a4,cH,bV,bP=>if x8<(a4.length:Int) then (if 0≤x8 then (if ((rd_T76 a4 x8).f0)<x1 then (if x7.length<4398046511104 then (spec_l15Open.l0 k x1 (x7 ++ [(⟨(rd_T76 a4 x8).f0,(rd_T76 a4 x8).f1,(rd_T76 a4 x8).f2⟩:S76)]) (wrap64 (x8+1)) a4 cH bV bP) else (none)) else (spec_l15Open.l0 k x1 x7 (wrap64 (x8+1)) a4 cH bV bP)) else (none)) else (if x7.length<4398046511104 then (spec_l15Open.l1 k x1 (x7 ++ [(⟨x1,0,(⟨#[]⟩:ByteArray)⟩:S76)]) 0 a4 cH bV bP) else (none))
def spec_l15Open.l1:Nat→Int→List (S76)→Int→List (S76)→List (S79)→List (S76)→List (S79)→Option ((List (S76)) × (List (S79)) × ByteArray)
 |0,_,_,_,_,_,_,_=>none
 |k+1,x1,x7,x9,a4,cH,bV,bP=>if x9<(a4.length:Int) then (if 0≤x9 then (if ((rd_T76 a4 x9).f0)>x1 then (if x7.length<4398046511104 then (spec_l15Open.l1 k x1 (x7 ++ [(⟨(rd_T76 a4 x9).f0,(rd_T76 a4 x9).f1,(rd_T76 a4 x9).f2⟩:S76)]) (wrap64 (x9+1)) a4 cH bV bP) else (none)) else (spec_l15Open.l1 k x1 x7 (wrap64 (x9+1)) a4 cH bV bP)) else (none)) else (if (x7.length:Int)>3 then ((some (([]:List (S76)):List (S76))).bind fun dx=>(if 1≤(x7.length:Int) then ((some (x7.drop 1:List (S76))).bind fun bG=>(if dx.length+bG.length<4398046511104 then (spec_l15Open.j2 k x1 (dx ++ bG) bV bP) else (none))) else (none))) else (spec_l15Open.j2 k x1 x7 bV bP))
def spec_l15Open.j2:Nat→Int→List (S76)→List (S76)→List (S79)→Option ((List (S76)) × (List (S79)) × ByteArray)
 |0,_,_,_,_=>none
 |k+1,x1,x7,bV,bP=>(spec_Decimal.f k x1).bind fun dq=>(if 5+dq.size≤9223372036854775807 then (some (x7,bP,(⟨#[111,112,101,110,32]⟩:ByteArray) ++ dq)) else (none))
end
def spec_l15Open.f (k:Nat) (z:List (S76)) (af:List (S79)) (a1:Int):Option ((List (S76)) × (List (S79)) × ByteArray):=(spec_l15Copy.f z af).bind fun eG=>(spec_l15Open.l0 k a1 (([]:List (S76))) 0 z af eG.1 eG.2)
theorem spec_l15Open.calls (k:Nat) (aT:Option Addr) (aX:Nat) (z:List (S76)) (aU:Option Addr) (aY:Nat) (af:List (S79)) (a1:Int) (r1:List (S76)) (r2:List (S79)) (r3:ByteArray) (w:World) (cZ:Kd.C k76 w aT z.length z) (cW:z.length≤aX) (da:Kd.C k79 w aU af.length af) (cX:af.length≤aY) (h:spec_l15Open.f k z af a1=some (r1,r2,r3)) :
  Calls Tryz.prog 73 #[.agg #[.slice aT z.length aX,.slice aU af.length aY],.int .i64 a1] w fun e w'=>∃ dr dt:Value,e=.returned (.tuple #[.agg #[dr,dt],.string r3])∧Kd.R k76 76 w' w.heap.size (fun _=>True) dr r1∧Kd.R k79 79 w' w.heap.size (fun _=>True) dt r2∧Below w.heap.size w w':=by
 have gl:=Tryz.underlying52
 have iF:=Tryz.underlying76
 have bH:=am cZ
 have et:=am cW
 clear cZ cW
 have dM:=am da
 have eu:=am cX
 clear da cX
 have HB:=am (Below.refl w.heap.size w)
 have B:=h
 clear h
 unfold spec_l15Open.f at B
 obtain⟨⟨al,aK⟩,A3,l⟩:=bsi B
 (try dsimp only at l)
 obtain⟨gP,di⟩:∃ y_:List (S76),y_=(([]:List (S76))):=⟨_,rfl⟩
 (first|with_reducible replace l:=hq di l|rw [←di] at l|simp only [←di] at l)
 have eC:=am di
 clear di
 replace l:=am l
 clear B
 go_enter Tryz.func73,Tryz.ntmps73
 go_wp2_with (first|((with_reducible refine gate_dst (N:=2) rfl ?_);refine bx (N:=2) (cs:=#[.slice aT z.length aX,.slice aU af.length aY]) (t:=52) ?_;intro cU hg w4 hbox hb;have J:=am hbox;have ar:=gA hg HB;replace HB:=hA HB hb;clear hb hbox hg)|((with_reducible refine gate_dst (N:=4) rfl ?_);refine bx (N:=4) (cs:=#[.slice none 0 0,.slice none 0 0]) (t:=52) ?_;intro bF hg w5 hbox hb;have U:=am hbox;have av:=gA hg HB;replace HB:=De1 HB ar hb;have bS:=nA hg J;have bT:=mA hg J;replace J:=bA J hb;clear hb hbox hg;have h6:=bS.out;have iq:=bT.out;obtain⟨cJ,cK,cL,cM⟩:=cf2 J)|((with_reducible refine gate_callee (f:=74) rfl ?_);refine goesL_ (some 11) rfl rfl Tryz.func74 gk_ rfl #[.agg #[.slice aT z.length aX,.slice aU af.length aY]] rfl gm_ ?_;(with_reducible refine(spec_l15Copy.calls _ _ z _ _ af al aK _ ?z1 ?z2 ?z3 ?z4 A3.out).mono ?_);(case z1=>repeat (first|exact(Kd.C_below bH.out HB.out)|(with_reducible refine Kd.C_alloc ?_ _)|(with_reducible refine Kd.C_drewN ?_ _)|(with_reducible refine Kd.C_drew ?_)));(case z2=>exact et.out);(case z3=>repeat (first|exact(Kd.C_below dM.out HB.out)|(with_reducible refine Kd.C_alloc ?_ _)|(with_reducible refine Kd.C_drewN ?_ _)|(with_reducible refine Kd.C_drew ?_)));(case z4=>exact eu.out);rintro e w8 ⟨iL,iM,rfl,gi,gj,hb⟩;refine⟨_,rfl, ?_⟩;have b7:=am (Kd.R_lower gi (below_size (Ae2 HB ar av)));have cv:=am (Kd.R_lower gj (below_size (Ae2 HB ar av)));replace J:=bA J hb;replace U:=bA U hb;replace HB:=De2 HB ar av hb)|((with_reducible refine gate_dst (N:=6) rfl ?_);refine bx (N:=6) (cs:=#[.slice none 0 0,.slice none 0 0]) (t:=52) ?_;intro b1 hg w9 hbox hb;replace b7:=rA b7 hb;replace cv:=rA cv hb;have Y:=am hbox;have aD:=gA hg HB;replace HB:=De2 HB ar av hb;have bN:=nA hg J;have bW:=mA hg J;replace J:=bA J hb;have cy:=nA hg U;have bX:=mA hg U;replace U:=bA U hb;clear hb hbox hg;obtain⟨aH,aJ,f9⟩:=Kd.R_slice b7.out;subst f9;have hP:=bW.out;have h8:=bN.out;have hQ:=bX.out;have h9:=cy.out;obtain⟨gW,gX,gY,gZ⟩:=cf2 Y;obtain⟨bu,bC,dH⟩:=Kd.R_slice cv.out;subst dH)|((with_reducible refine gate_dst (N:=12) rfl ?_);refine lL k76 76 12 ([]:List (S76)) [] (Reps.none _ _) ?_;intro iN gH cC hb;(first|rw [←eC.out] at cC|(simp only [Int.reduceToNat] at cC;rw [←eC.out] at cC));replace cv:=am (Kd.R_below (tfg cv.out Y.out (by decide)) hb);have fj:=am (Kd.R_lower (Kd.R_new' cC (Kd.R_lt (tfg b7.out Y.out (by decide)))) (below_size (Ae3 HB ar av aD)));replace b7:=am (Kd.R_elder' (tfg b7.out Y.out (by decide)) (Kd.R_base cC) hb);replace J:=am (blk_below (g:=cU) (o:=.cells #[.slice aT z.length aX,.slice aU af.length aY] 52 (0,0)) (Ap1 J bN) hb);replace U:=am (blk_below (g:=bF) (o:=.cells #[.slice none 0 0,.slice none 0 0] 52 (0,0)) (Ap1 U cy) hb);replace Y:=am (blk_below (g:=b1) (o:=.cells #[.slice aH al.length aJ,.slice bu aK.length bC] 52 (0,0)) (Ap0 Y) hb);replace HB:=De3 HB ar av aD hb;clear hb cC))
 go_loopg [7,8] k (fun kq v7 v8 w'=>∃ (b6:List (S76)) (ap:Int),v8=.int .i64 ap∧Aside0 (spec_l15Open.l0 kq a1 b6 ap z af al aK=some (r1,r2,r3))∧Aside0 (kq≤k)∧Aside0 (Kd.R k76 76 w' w.heap.size (fun k_=>some k_≠((.slice aH al.length aJ):Value).ownBlock) v7 b6)∧Aside0 (Kd.R k76 76 w' w.heap.size (fun k_=>some k_≠(v7:Value).ownBlock) (.slice aH al.length aJ) al)∧Aside0 (Kd.R k79 79 w' w.heap.size (fun _=>True) (.slice bu aK.length bC) aK)∧Aside0 (w'.heap[cU]?=some (.cells #[(.slice aT z.length aX),(.slice aU af.length aY)] 52 (0,0)))∧Aside0 (w'.heap[bF]?=some (.cells #[(.slice none 0 0),(.slice none 0 0)] 52 (0,0)))∧Aside0 (w'.heap[b1]?=some (.cells #[(.slice aH al.length aJ),(.slice bu aK.length bC)] 52 (0,0)))∧Aside0 (Below w.heap.size w w'))
 case atStart=>exact⟨(gP),0,be_,l,⟨Nat.le_refl _⟩,⟨(by (with_reducible repeat (first|apply Kd.R_alloc|apply Kd.R_drewN|apply Kd.R_drew));exact Kd.R_mono fj.out (fun _ hk=>hk.2))⟩,⟨(by (with_reducible repeat (first|apply Kd.R_alloc|apply Kd.R_drewN|apply Kd.R_drew));exact Kd.R_mono b7.out (fun _ hk=>hk.2))⟩,Cr cv,Cb J,Cb U,Cb Y,Ce3 HB ar av aD⟩
 case round=>
  clear l;obtain⟨b6,ap,rfl,M,a3,Z,ax,ak,J,U,Y,HB⟩:=hrel
  cases gk with
  |zero=>exact absurd M.out (by simp [spec_l15Open.l0])
  |succ k1=>?_
  replace M:=M.out;simp only [spec_l15Open.l0] at M
  obtain⟨cQ,ae⟩|⟨cQ,ae⟩:=sd M
  ·obtain⟨g9,au⟩:=yd ae
   obtain⟨fK,aN⟩|⟨fK,aN⟩:=sd au
   ·obtain⟨fp,ag⟩:=ya aN;obtain⟨gQ,dj⟩:∃ y_:List (S76),y_=(b6 ++ [(⟨(rd_T76 z ap).f0,(rd_T76 z ap).f1,(rd_T76 z ap).f2⟩:S76)]):=⟨_,rfl⟩
    (first|with_reducible replace ag:=hq dj ag|rw [←dj] at ag|simp only [←dj] at ag)
    have fw:=am dj;clear dj;replace ag:=am ag;clear M ae au aN;obtain⟨hR,ia,hS,ib⟩:=o4_ bS bT bN bW;obtain⟨cJ,cK,cL,cM⟩:=cf2 J
    have ci:0≤(ap:Int):=dga
    have ck:ap<(z.length:Int):=dga
    obtain⟨eE,d1,cc,cd,ce⟩:=at_T76 bH.out ap ci ck;cases d1;replace cc:=(hbc HB cc).trans cc;replace cd:=(hbc HB cd).trans cd;replace ce:=(hbc HB ce).trans ce;replace ci:=eq_true ci;replace ck:=eq_true ck
    have ed:0≤(ap:Int):=dga
    have eh:ap<(z.length:Int):=dga
    obtain⟨fB,f7,d5,d6,d7⟩:=at_T76 bH.out ap ed eh;obtain rfl:eE=fB:=(by injection f7);replace d5:=(hbc HB d5).trans d5;replace d6:=(hbc HB d6).trans d6;replace d7:=(hbc HB d7).trans d7;replace ed:=eq_true ed;replace eh:=eq_true eh
    go_wp2_with (first|((with_reducible refine gate_builtin (b:=.append) (xs:=#[.tmp 28,.tmp 34]) rfl ?_);at_builtin;refine Kd.R_append k76 (w0:=w) w.heap.size rfl (.tmp 28) (.tmp 34) 49 76 (.agg #[(.int .i64 0),(.int .i64 0),(.string ⟨#[]⟩)]) 32 rfl Tryz.underlying49 info76 rfl (by decide) (by omega) u7 b6 (⟨(rd_T76 z ap).f0,(rd_T76 z ap).f1,(rd_T76 z ap).f2⟩:S76) [.int .i64 ((rd_T76 z ap).f0),.int .i64 ((rd_T76 z ap).f1),.string ((rd_T76 z ap).f2)] (fun k_=>some k_≠(.slice aH al.length aJ:Value).ownBlock) (fun _=>False) rfl rfl ?aP (fun _ hk=>hk.elim) ?aF ?aO ?aB ?aS ?aL ?_;(case aP=>exact k76_mkM _ _ _ (⟨(rd_T76 z ap).f0,(rd_T76 z ap).f1,(rd_T76 z ap).f2⟩:S76));(case aB=>exact(Ae3 HB ar av aD));(case aF=>exact B8x18_);(case aO=>exact(Ar Z));(case aS=>exact B8x20_);(case aL=>have:=fp.out;omega);intro iO iU ho hb hg hat;rw [←fw.out] at ho;replace ax:=am (Kd.R_after (ok:=(fun _=>True)) B8x11_ hg hat);replace ak:=am (Kd.R_over' (Ar ak) (Kd.R_typed (Ar Z)) (by decide) hg);replace J:=bg J hg (Kd.R_ne Z.out J.out (by decide));replace U:=bg U hg (Kd.R_ne Z.out U.out (by decide));replace Y:=bg Y hg (Kd.R_ne Z.out Y.out (by decide));replace HB:=am hb;have fk:=am ho;clear Z;clear ho hb hg hat))
    go_roundg k1
    case measure=>have:=a3.out;omega
    case rel=>exact⟨(gQ),(wrap64 (ap+1)),be_,ag,⟨(by have:=a3.out;omega)⟩,Cr fk,⟨B8x9_⟩,D0x0_⟩
   replace aN:=am aN;clear M ae au;obtain⟨hT,ic,hU,ie⟩:=o4_ bS bT bN bW;obtain⟨cJ,cK,cL,cM⟩:=cf2 J
   have ci:0≤(ap:Int):=dga
   have ck:ap<(z.length:Int):=dga
   obtain⟨eE,d1,cc,cd,ce⟩:=at_T76 bH.out ap ci ck;cases d1;replace cc:=(hbc HB cc).trans cc;replace cd:=(hbc HB cd).trans cd;replace ce:=(hbc HB ce).trans ce;replace ci:=eq_true ci;replace ck:=eq_true ck
   go_wp2
   go_roundg k1
   case measure=>have:=a3.out;omega
   case rel=>exact⟨(b6),(wrap64 (ap+1)),be_,aN,⟨(by have:=a3.out;omega)⟩,Cr Z,Cr ax,D0x0_⟩
  obtain⟨fq,ai⟩:=ya ae;obtain⟨gR,dk⟩:∃ y_:List (S76),y_=(b6 ++ [(⟨a1,0,(⟨#[]⟩:ByteArray)⟩:S76)]):=⟨_,rfl⟩
  (first|with_reducible replace ai:=hq dk ai|rw [←dk] at ai|simp only [←dk] at ai)
  have fx:=am dk;clear dk;replace ai:=am ai;clear M ae;obtain⟨hV,ig,hW,ih⟩:=o4_ bS bT bN bW;obtain⟨cJ,cK,cL,cM⟩:=cf2 J
  go_wp2_with (first|((with_reducible refine gate_builtin (b:=.append) (xs:=#[.tmp 36,.tmp 39]) rfl ?_);at_builtin;refine Kd.R_append k76 (w0:=w) w.heap.size rfl (.tmp 36) (.tmp 39) 49 76 (.agg #[(.int .i64 0),(.int .i64 0),(.string ⟨#[]⟩)]) 32 rfl Tryz.underlying49 info76 rfl (by decide) (by omega) u7 b6 (⟨a1,0,(⟨#[]⟩:ByteArray)⟩:S76) [.int .i64 a1,.int .i64 0,.string (⟨#[]⟩:ByteArray)] (fun k_=>some k_≠(.slice aH al.length aJ:Value).ownBlock) (fun _=>False) rfl rfl ?aP (fun _ hk=>hk.elim) ?aF ?aO ?aB ?aS ?aL ?_;(case aP=>exact k76_mkM _ _ _ (⟨a1,0,(⟨#[]⟩:ByteArray)⟩:S76));(case aB=>exact(Ae3 HB ar av aD));(case aF=>exact B8x18_);(case aO=>exact(Ar Z));(case aS=>exact B8x20_);(case aL=>have:=fq.out;omega);intro iP iV ho hb hg hat;rw [←fx.out] at ho;replace ax:=am (Kd.R_after (ok:=(fun _=>True)) B8x11_ hg hat);replace ak:=am (Kd.R_over' (Ar ak) (Kd.R_typed (Ar Z)) (by decide) hg);replace J:=bg J hg (Kd.R_ne Z.out J.out (by decide));replace U:=bg U hg (Kd.R_ne Z.out U.out (by decide));replace Y:=bg Y hg (Kd.R_ne Z.out Y.out (by decide));replace HB:=am hb;have fl:=am ho;clear Z;clear ho hb hg hat))
  go_loopg [7,9] k1 (fun kq v7 v9 w'=>∃ (az:List (S76)) (aj:Int),v9=.int .i64 aj∧Aside0 (spec_l15Open.l1 kq a1 az aj z af al aK=some (r1,r2,r3))∧Aside0 (kq≤k1)∧Aside0 (Kd.R k76 76 w' w.heap.size (fun k_=>some k_≠((.slice aH al.length aJ):Value).ownBlock) v7 az)∧Aside0 (Kd.R k76 76 w' w.heap.size (fun k_=>some k_≠(v7:Value).ownBlock) (.slice aH al.length aJ) al)∧Aside0 (Kd.R k79 79 w' w.heap.size (fun _=>True) (.slice bu aK.length bC) aK)∧Aside0 (w'.heap[cU]?=some (.cells #[(.slice aT z.length aX),(.slice aU af.length aY)] 52 (0,0)))∧Aside0 (w'.heap[bF]?=some (.cells #[(.slice none 0 0),(.slice none 0 0)] 52 (0,0)))∧Aside0 (w'.heap[b1]?=some (.cells #[(.slice aH al.length aJ),(.slice bu aK.length bC)] 52 (0,0)))∧Aside0 (Below w.heap.size w w'))
  case atStart=>exact⟨(gR),0,be_,ai,⟨Nat.le_refl _⟩,Cr fl,⟨B8x9_⟩,D0x0_⟩
  case round=>
   clear ai
   try clear cA
   try clear cQ
   try clear fL
   obtain⟨az,aj,rfl,ac,cN,Z,ax,ak,J,U,Y,HB⟩:=hrel
   cases gk with
   |zero=>exact absurd ac.out (by simp [spec_l15Open.l1])
   |succ k2=>?_
   replace ac:=ac.out;simp only [spec_l15Open.l1] at ac
   obtain⟨eJ,ah⟩|⟨eJ,ah⟩:=sd ac
   ·obtain⟨he,bI⟩:=yd ah
    obtain⟨bO,bv⟩|⟨bO,bv⟩:=sp bI
    ·have dY:decide (a1<((rd_T76 z aj).f0))=true:=decide_eq_true bO
     clear bO;obtain⟨ft,bw⟩:=ya bv;obtain⟨gU,dl⟩:∃ y_:List (S76),y_=(az ++ [(⟨(rd_T76 z aj).f0,(rd_T76 z aj).f1,(rd_T76 z aj).f2⟩:S76)]):=⟨_,rfl⟩
     (first|with_reducible replace bw:=hq dl bw|rw [←dl] at bw|simp only [←dl] at bw)
     have fy:=am dl;clear dl;replace bw:=am bw;clear ac ah bI bv;obtain⟨hX,ii,hY,ij⟩:=o4_ bS bT bN bW;obtain⟨cJ,cK,cL,cM⟩:=cf2 J
     have cj:0≤(aj:Int):=dga
     have cl:aj<(z.length:Int):=dga
     obtain⟨eF,d2,cf,cg,ch⟩:=at_T76 bH.out aj cj cl;cases d2;replace cf:=(hbc HB cf).trans cf;replace cg:=(hbc HB cg).trans cg;replace ch:=(hbc HB ch).trans ch;replace cj:=eq_true cj;replace cl:=eq_true cl
     have ee:0≤(aj:Int):=dga
     have ei:aj<(z.length:Int):=dga
     obtain⟨fC,f8,d8,d9,ea⟩:=at_T76 bH.out aj ee ei;obtain rfl:eF=fC:=(by injection f8);replace d8:=(hbc HB d8).trans d8;replace d9:=(hbc HB d9).trans d9;replace ea:=(hbc HB ea).trans ea;replace ee:=eq_true ee;replace ei:=eq_true ei
     go_wp2_with (first|((with_reducible refine gate_builtin (b:=.append) (xs:=#[.tmp 56,.tmp 62]) rfl ?_);at_builtin;refine Kd.R_append k76 (w0:=w) w.heap.size rfl (.tmp 56) (.tmp 62) 49 76 (.agg #[(.int .i64 0),(.int .i64 0),(.string ⟨#[]⟩)]) 32 rfl Tryz.underlying49 info76 rfl (by decide) (by omega) u7 az (⟨(rd_T76 z aj).f0,(rd_T76 z aj).f1,(rd_T76 z aj).f2⟩:S76) [.int .i64 ((rd_T76 z aj).f0),.int .i64 ((rd_T76 z aj).f1),.string ((rd_T76 z aj).f2)] (fun k_=>some k_≠(.slice aH al.length aJ:Value).ownBlock) (fun _=>False) rfl rfl ?aP (fun _ hk=>hk.elim) ?aF ?aO ?aB ?aS ?aL ?_;(case aP=>exact k76_mkM _ _ _ (⟨(rd_T76 z aj).f0,(rd_T76 z aj).f1,(rd_T76 z aj).f2⟩:S76));(case aB=>exact(Ae3 HB ar av aD));(case aF=>exact B8x18_);(case aO=>exact(Ar Z));(case aS=>exact B8x20_);(case aL=>have:=ft.out;omega);intro iQ iW ho hb hg hat;rw [←fy.out] at ho;replace ax:=am (Kd.R_after (ok:=(fun _=>True)) B8x11_ hg hat);replace ak:=am (Kd.R_over' (Ar ak) (Kd.R_typed (Ar Z)) (by decide) hg);replace J:=bg J hg (Kd.R_ne Z.out J.out (by decide));replace U:=bg U hg (Kd.R_ne Z.out U.out (by decide));replace Y:=bg Y hg (Kd.R_ne Z.out Y.out (by decide));replace HB:=am hb;have fm:=am ho;clear Z;clear ho hb hg hat))
     go_roundg k2
     case measure=>have:=a3.out;have:=cN.out;omega
     case rel=>exact⟨(gU),(wrap64 (aj+1)),be_,bw,⟨(by have:=a3.out;have:=cN.out;omega)⟩,Cr fm,⟨B8x9_⟩,D0x0_⟩
    have dY:decide (a1<((rd_T76 z aj).f0))=false:=decide_eq_false bO
    clear bO;replace bv:=am bv;clear ac ah bI;obtain⟨hZ,ik,h2,il⟩:=o4_ bS bT bN bW;obtain⟨cJ,cK,cL,cM⟩:=cf2 J
    have cj:0≤(aj:Int):=dga
    have cl:aj<(z.length:Int):=dga
    obtain⟨eF,d2,cf,cg,ch⟩:=at_T76 bH.out aj cj cl;cases d2;replace cf:=(hbc HB cf).trans cf;replace cg:=(hbc HB cg).trans cg;replace ch:=(hbc HB ch).trans ch;replace cj:=eq_true cj;replace cl:=eq_true cl
    go_wp2
    go_roundg k2
    case measure=>have:=a3.out;have:=cN.out;omega
    case rel=>exact⟨(az),(wrap64 (aj+1)),be_,bv,⟨(by have:=a3.out;have:=cN.out;omega)⟩,Cr Z,Cr ax,D0x0_⟩
   replace ah:=am ah;clear ac;obtain⟨h3,im,h4,io⟩:=o4_ bS bT bN bW;obtain⟨cJ,cK,cL,cM⟩:=cf2 J;obtain⟨cq,bZ,ga⟩:=Kd.R_slice Z.out;subst ga
   go_upto_if 66 with (fail)
   go_cut [7] (fun v7 wc=>∃ (kq:Nat) (bQ:List (S76)),Aside0 (spec_l15Open.j2 kq a1 bQ al aK=some (r1,r2,r3))∧Aside0 (kq≤k2)∧Aside0 (Kd.R k76 76 wc w.heap.size (fun k_=>some k_≠((.slice aH al.length aJ):Value).ownBlock) v7 bQ)∧Aside0 (Kd.R k76 76 wc w.heap.size (fun k_=>some k_≠(v7:Value).ownBlock) (.slice aH al.length aJ) al)∧Aside0 (Kd.R k79 79 wc w.heap.size (fun _=>True) (.slice bu aK.length bC) aK)∧Hc wc cU #[(.slice aT z.length aX),(.slice aU af.length aY)] 52∧Hc wc bF #[(.slice none 0 0),(.slice none 0 0)] 52∧Hc wc b1 #[(.slice aH al.length aJ),(.slice bu aK.length bC)] 52∧Hb w wc)
   case first=>
    replace ah:=ah.out
    obtain⟨cR,a6⟩|⟨cR,a6⟩:=sp ah
    ·have cS:decide (3<(az.length:Int))=true:=decide_eq_true cR
     have fR:decide (3<az.length)=true:=decide_eq_true (by omega)
     clear cR
     (first|rw [cS]|(simp only [i64_w,i32_w];rw [cS])|skip)
     obtain⟨dx,dm⟩:∃ y_:List (S76),y_=(([]:List (S76))):=⟨_,rfl⟩
     (first|with_reducible replace a6:=hq dm a6|rw [←dm] at a6|simp only [←dm] at a6)
     have eD:=am dm;clear dm;obtain⟨hf,hh,ba⟩:=ye a6;obtain⟨bG,dn⟩:∃ y_:List (S76),y_=(az.drop 1):=⟨_,rfl⟩
     (first|with_reducible replace ba:=hq dn ba|rw [←dn] at ba|simp only [←dn] at ba)
     have dQ:=am dn;clear dn;obtain⟨fu,aM⟩:=ya ba;obtain⟨gV,dp⟩:∃ y_:List (S76),y_=(dx ++ bG):=⟨_,rfl⟩
     (first|with_reducible replace aM:=hq dp aM|rw [←dp] at aM|simp only [←dp] at aM)
     have fz:=am dp;clear dp;replace aM:=am aM;clear ah a6 ba
     go_wp2_with (first|((with_reducible refine gate_dst (N:=67) rfl ?_);refine lL k76 76 67 ([]:List (S76)) [] (Reps.none _ _) ?_;intro gD iX ca hb;(first|rw [←eD.out] at ca|(simp only [Int.reduceToNat] at ca;rw [←eD.out] at ca));replace ak:=rA ak hb;have cw:=am (Kd.R_lower (Kd.R_new' (Kd.R_new' ca (Kd.R_lt (Ar Z))) (Kd.R_lt (Ar ax))) (below_size (Ae3 HB ar av aD)));replace Z:=am (Kd.R_elder' (Ar Z) (Kd.R_base ca) hb);replace ax:=am (Kd.R_elder' (Ar ax) (Kd.R_base ca) hb);replace J:=bA J hb;replace U:=bA U hb;replace Y:=bA Y hb;replace HB:=De3 HB ar av aD hb;clear hb ca;have ej:(1:Int)≤((az.length:Int):Int):=dga;obtain⟨i054,hi054,_,hsz54,_⟩:=info_parts info76;have hroom54:az.length≤bZ:=(Kd.R_reads' Z.out).2.1;have hC54:Kd.C k76 _ cq az.length az:=(Kd.R_reads' Z.out).2.2;have hcut54:=cut_from (P:=Tryz.prog) 49 76 .i64 Tryz.underlying49 hi054 3 hsz54 cq az.length bZ 1 (by omega) ej;have db:=Kd.C_drop (m:=(1:Int).toNat) (c:=bZ) hC54 (by omega) hroom54;obtain⟨ep,hA54⟩:∃ A1,A1=(if bZ=(1:Int).toNat then cq else (cq:Option Addr).map (·.add ((1:Int).toNat * 3))):=⟨_,rfl⟩;obtain⟨fT,d4⟩:∃ c1,c1=bZ - (1:Int).toNat:=⟨_,rfl⟩;have dI:bG.length=az.length - (1:Int).toNat:=(by rw [dQ.out,List.length_drop] <;> omega);rw [show (az).drop (1:Int).toNat=bG from dQ.out.symm] at db;replace db:Kd.C k76 _ ep bG.length bG:=(by rw [hA54];exact db);rw [←dI,←hA54,←d4] at hcut54;have ex:=am db;have g2:=am (show bG.length≤fT from (by rw [dI,d4];exact Nat.sub_le_sub_right hroom54 _));clear db hC54 hroom54 hi054 hsz54 d4;have KY54:=am dI;have KA54:=am hA54;clear dI hA54;have KL54:=am (show 1≤az.length from (by omega));replace ej:=eq_true ej)|((with_reducible refine gate_builtin (b:=.append) (xs:=#[.tmp 67,.tmp 69]) rfl ?_);at_builtin;refine Kd.R_append_rows k76 (w0:=w) w.heap.size rfl (.tmp 67) (.tmp 69) 49 76 (.agg #[(.int .i64 0),(.int .i64 0),(.string ⟨#[]⟩)]) 32 rfl Tryz.underlying49 info76 rfl (by decide) (by omega) gD dx bG _ _ _ (fun k_=>some k_≠(.slice cq az.length bZ:Value).ownBlock∧some k_≠(.slice aH al.length aJ:Value).ownBlock) (fun _=>False) rfl rfl ?aO ?aR (fun _ _ h=>h) (fun _ h=>h.elim) ?aF ?aB ?aS ?aL ?_;(case aR=>repeat (first|exact(Ad ex)|(with_reducible refine Kd.C_alloc ?_ _)|(with_reducible refine Kd.C_drewN ?_ _)|(with_reducible refine Kd.C_drew ?_)));(case aB=>exact(Ae3 HB ar av aD));(case aF=>exact(fun k_ hk=>⟨Kd.fresh' (Kd.R_lt (Ar Z)) k_ hk,Kd.fresh' (Kd.R_lt (Ar ax)) k_ hk⟩));(case aO=>(with_reducible repeat (first|apply Kd.R_alloc|apply Kd.R_drewN|apply Kd.R_drew));exact Kd.R_mono cw.out (fun _ hk=>⟨hk.1.2,hk.2⟩));(case aS=>exact B8x20_);(case aL=>have:=fu.out;omega);intro iR gI ho hb hg hat;rw [←fz.out] at ho;replace ax:=am (Kd.R_after (ok:=(fun k_=>some k_≠(.slice cq az.length bZ:Value).ownBlock)) (Ar ax) hg hat);replace ak:=am (Kd.R_over' (Ar ak) (Kd.R_typed (Ar cw)) (by decide) hg);replace J:=bg J hg (Kd.R_ne cw.out J.out (by decide));replace U:=bg U hg (Kd.R_ne cw.out U.out (by decide));replace Y:=bg Y hg (Kd.R_ne cw.out Y.out (by decide));replace HB:=am hb;replace ex:=am ((show Kd.C k76 gI ep bG.length bG from (by rw [dQ.out,KA54.out];exact Kd.C_drop (m:=1) (c:=bZ) ((Kd.R_reads' (Kd.R_after (ok:=(fun k_=>some k_≠(.slice aH al.length aJ:Value).ownBlock)) (Ar Z) hg hat)).2.2) KL54.out ((Kd.R_reads' (Kd.R_after (ok:=(fun k_=>some k_≠(.slice aH al.length aJ:Value).ownBlock)) (Ar Z) hg hat)).2.1))));replace Z:=am (Kd.R_after (ok:=(fun k_=>some k_≠(.slice aH al.length aJ:Value).ownBlock)) (Ar Z) hg hat);have fn:=am ho;clear cw;clear ho hb hg hat))
     go_meet
     case rel=>exact⟨_,gV,aM,⟨B8x21_⟩,⟨(by (with_reducible repeat (first|apply Kd.R_alloc|apply Kd.R_drewN|apply Kd.R_drew));exact Kd.R_mono fn.out (fun _ hk=>hk.2))⟩,⟨B8x9_⟩,D0x0_⟩
    have cS:decide (3<(az.length:Int))=false:=decide_eq_false cR
    have fR:decide (3<az.length)=false:=decide_eq_false (by omega)
    clear cR
    (first|rw [cS]|(simp only [i64_w,i32_w];rw [cS])|skip)
    replace a6:=am a6;clear ah
    go_wp2
    go_meet
    case rel=>exact⟨_,az,a6,⟨B8x21_⟩,Cr Z,Cr ax,D0x0_⟩
   clear ah
   try clear cA
   try clear cQ
   try clear fL
   try clear ha
   try clear eJ
   obtain⟨kq,bQ,a7,g4,Z,ax,ak,J,U,Y,HB⟩:=hcut
   cases kq with
   |zero=>exact absurd a7.out (by simp [spec_l15Open.j2])
   |succ gn=>?_
   replace a7:=a7.out;simp only [spec_l15Open.j2] at a7;obtain⟨dq,fa,bJ⟩:=bsi a7;(try dsimp only at bJ);obtain⟨d0,bR⟩:=yn bJ;have hj:=eq_true d0;have hl:=decide_eq_true d0
   try have fU:(9223372036854775807<5+dq.size)=False:=eq_false (Nat.not_lt.2 d0)
   try(have fV:=fU;simp only [ByteArray.size_append] at fV)
   obtain⟨rfl,rfl,rfl⟩:=s3 bR;clear bR a7 bJ;obtain⟨cr,cB,gb⟩:=Kd.R_slice Z.out;subst gb;obtain⟨h5,ip,h7,ir⟩:=o4_ bW bN bX cy;obtain⟨gW,gX,gY,gZ⟩:=cf2 Y
   try go_wp2
   generalize hw:(wc.setCell ⟨b1,0,none⟩ (.slice cr bQ.length cB))=b4;replace hw:=hw.symm
   replace Z:Aside0 (Kd.R k76 76 b4 w.heap.size (fun k_=>some k_≠(.slice aH al.length aJ:Value).ownBlock) (.slice cr bQ.length cB) bQ):=⟨wtfg Z.out Y.out (by decide)⟩
   replace ax:Aside0 (Kd.R k76 76 b4 w.heap.size (fun k_=>some k_≠(.slice cr bQ.length cB:Value).ownBlock) (.slice aH al.length aJ) al):=⟨wtfg ax.out Y.out (by decide)⟩
   replace ak:Aside0 (Kd.R k79 79 b4 w.heap.size (fun _=>True) (.slice bu aK.length bC) aK):=⟨wtfg ak.out Y.out (by decide)⟩
   replace J:Hc b4 cU #[.slice aT z.length aX,.slice aU af.length aY] 52:=⟨wAp1 J bN⟩
   replace U:Hc b4 bF #[.slice none 0 0,.slice none 0 0] 52:=⟨wAp1 U cy⟩
   replace Y:Hc b4 b1 #[.slice cr bQ.length cB,.slice bu aK.length bC] 52:=⟨wAp0 Y⟩
   replace HB:Hb w b4:=⟨wAe3 HB ar av aD⟩
   clear hw;replace Z:=eA Z;replace ax:=eA ax;replace ak:=eA ak;replace J:=dA J;replace U:=dA U;replace Y:=dA Y;replace HB:=bdr HB;refine start_ (n:=6) (S:=fun w'=>w'.cell? ⟨b1,0,none⟩=some (.slice cr bQ.length cB)∧w'.cell? ⟨b1,1,none⟩=some (.slice bu aK.length bC)) (ds:=[]) #[false,false,false,false,false,false] gk_ rfl rfl ⟨bc Y 0,bc Y 1⟩ (fun ao=>?_);generalize b4.drew=iY at Z ax ak J U Y HB ao ⊢;refine pure_ (i:=1) (N:=some 74) (v:=?_) (a':=?_) #[false,true,false,false,false,false] rfl rfl gk_ (fun _ _ _ h=>h) (Or.inl ⟨(by rfl), ?_⟩) ?_ ?_;rotate_left
   ·intro w';go_simp;with_reducible rfl
   rotate_left
   ·simp only [Act.put,List.setIfInBounds_toArray,List.set_cons_zero,List.set_cons_succ,i64_w,i32_w];rfl
   refine take_ (i:=0) (N:=some 73) (v:=?_) (a':=?_) #[true,true,false,false,false,false] rfl rfl gk_ (fun _ _ _ h=>h) (Or.inl ⟨(by rfl), ?_⟩) ao ?_ ?_;rotate_left
   ·rintro w' ⟨s0,s1⟩;go_simp;with_reducible rfl
   rotate_left
   ·simp only [Act.put,List.setIfInBounds_toArray,List.set_cons_zero,List.set_cons_succ,i64_w,i32_w];rfl
   refine one_ (i:=2) (N:=some 75) #[true,true,true,false,false,false] rfl rfl gk_ (by decide) (fun K hK=>?_);refine goes_ Tryz.func46 gk_ rfl #[.int .i64 a1] (by rfl) rfl rfl gm_ ?_;refine(spec_Decimal.calls gn a1 dq _ fa.out).mono ?_;rintro e e5 ⟨rfl,hb⟩;refine⟨_,rfl, ?_⟩;replace Z:=rA Z hb;replace ak:=rA ak hb;replace U:=bA U hb;replace Y:=bA Y hb;replace HB:=De3 HB ar av aD hb;refine hK.out _ _ ⟨bc Y 0,bc Y 1⟩ (fun ao=>nm_ ?_);clear hK K;refine pure_ (i:=3) (N:=some 76) (v:=?_) (a':=?_) #[true,true,true,true,false,false] rfl rfl gk_ (fun _ _ _ h=>h) (Or.inl ⟨(by rfl), ?_⟩) ?_ ?_;rotate_left
   ·intro w';go_simp;with_reducible rfl
   rotate_left
   ·simp only [Act.put,List.setIfInBounds_toArray,List.set_cons_zero,List.set_cons_succ,i64_w,i32_w];rfl
   refine one_ (i:=4) (N:=none) #[true,true,true,true,true,false] rfl rfl gk_ (by decide) (fun K hK=>?_)
   have iC:e5.cell? ⟨bF,0,none⟩=some (.slice none 0 0):=bc U 0
   have hF:=blk_frozen U.out 0;obtain⟨iw,ix,hL,hM⟩:=o4_ bS bX bT cy
   have iD:e5.cell? ⟨bF,1,none⟩=some (.slice none 0 0):=bc U 1
   have hG:=blk_frozen U.out 1;obtain⟨iy,iz,hN,hO⟩:=o4_ bS bX bT cy;refine skip_ (w1:=?_) (by rfl) rfl ?_ ?_;rotate_left
   ·go_simp;rfl
   refine hK.out _ _ ⟨((cell_far (p:=⟨bF,_,none⟩) bX.out _).trans (((cell_far (p:=⟨bF,_,none⟩) bX.out _).trans (ao.1)))),((cell_far (p:=⟨bF,_,none⟩) bX.out _).trans (((cell_far (p:=⟨bF,_,none⟩) bX.out _).trans (ao.2))))⟩ (fun ao=>?_);clear hK K;refine pure_ (i:=5) (N:=some 5) (v:=?_) (a':=?_) #[true,true,true,true,true,true] rfl rfl gk_ (fun _ _ _ h=>h) (Or.inl ⟨(by rfl), ?_⟩) ?_ ?_;rotate_left
   ·intro w';go_simp;with_reducible rfl
   rotate_left
   ·simp only [Act.put,List.setIfInBounds_toArray,List.set_cons_zero,List.set_cons_succ,i64_w,i32_w];rfl
   refine done_ gk_ ?_
   try go_wp2
   refine bodyPost_ret (results_ct rfl _ _ bF 52 #[.slice cr bQ.length cB,.slice bu aK.length bC] (0,0) _ rfl (Ap0 U) Tryz.underlying52 rfl gk_) rfl ?_
   exact⟨_,_,(by first|rfl|(simp [errW_none,errW_some] <;> rfl)|(simp [*,errW_none,errW_some] <;> rfl)),(tfg Z.out U.out (by decide)),(tfg ak.out U.out (by decide)),(Ae3 HB ar av aD)⟩
end
end Go.Proofs.YtofmbomonkbeaaaGreatDoor.QFnSnapsCut
