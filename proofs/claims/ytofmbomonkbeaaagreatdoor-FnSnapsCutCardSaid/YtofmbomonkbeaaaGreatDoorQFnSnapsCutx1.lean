/- Functions that a law reaches, as functions of Lean, and the walks that show that the calls come to their answers. No condition. -/
import Derived.Test.YtofmbomonkbeaaaGreatDoorQFnSnapsCutx0
import Derived.Test.YtofmbomonkbeaaaGreatDoorVFnSnapsCuthort3
import Derived.Test.YtofmbomonkbeaaaGreatDoorVFnSnapsCuthort2
import Derived.Test.YtofmbomonkbeaaaGreatDoorVFnSnapsCuthort
import Derived.Test.YtofmbomonkbeaaaGreatDoorVFnSnapsCuthort8
namespace Go.Proofs.YtofmbomonkbeaaaGreatDoor.QFnSnapsCut
open Go.RowKit Go.Proofs.YtofmbomonkbeaaaGreatDoorW.PrintWords Go.Proofs.YtofmbomonkbeaaaGreatDoorW.PrintLast Go.Proofs.YtofmbomonkbeaaaGreatDoorW.PrintMore Go.Proofs.YtofmbomonkbeaaaGreatDoor.Short
set_option linter.unusedVariables false
set_option linter.unusedSimpArgs false
set_option maxHeartbeats 8000000
set_option maxRecDepth 100000
variable {p:Prop}
theorem D1x0_ (h:p:=by exact⟨Cb ac,⟨B9x3_⟩,Ck1 HK aj,Ce2 HB (IsS52.gf D) ar⟩):p:=h
theorem D1x1_ (h:p:=by exact⟨Cp1 J aX,Cp1 Y bl,Cp1 ad bm,Cp0 U,Ce4 HB aQ aV aY a0⟩):p:=h
theorem D1x2_ (h:p:=by exact⟨bc J 0,bc Y 0,bc Y 1,bc Y 2,((hbc HB cl).trans cl),((hbc HB cm).trans cm),((hbc HB cn).trans cn)⟩):p:=h
theorem D1x3_ (h:p:=by exact⟨bc J 0,bc Y 0,bc Y 1,bc Y 2,((hbc HB ci).trans ci),((hbc HB cj).trans cj),((hbc HB ck).trans ck)⟩):p:=h
section
attribute [local go_sem] gtrS max2_int min2_int max_two min_two max_three min_three max_four min_four
theorem B9x3_ (h:p:=by repeat (first|(with_reducible first|exact D.out|apply IsS52.alloc|apply IsS52.drewN|apply IsS52.drew|apply IsS52.set_1|refine IsS52.far ?_ bk.out _)|exact D.out)):p:=h
theorem B9x4_ (h:p:=by repeat (first|(with_reducible first|exact D.out|apply IsS52.alloc|apply IsS52.drewN|apply IsS52.drew|apply IsS52.set_1|apply IsS52.far (p:=⟨ap,_,none⟩) (hne:=bk.out))|exact D.out)):p:=h
theorem B9x6_ (h:p:=by exact(fun k_ hk=>Kd.freshB (g:=ap) (o:=.cells #[.string aa,.string ae,.int .i64 af] 79 (0,0)) (Ab ac) k_ hk)):p:=h
theorem B9x9_ (h:p:=by exact(keep_size (w:=w) (g:=g) (row:=none) (Ak1 HK aj))):p:=h
theorem B9x11_ (h:p:=by repeat (first|(with_reducible first|exact D.out|apply IsS52.alloc|apply IsS52.drewN|apply IsS52.drew|apply IsS52.set_1)|exact D.out)):p:=h
theorem B9x14_ (h:p:=by first|rfl|(simp [errW_none,errW_some] <;> rfl)|(simp [*,errW_none,errW_some] <;> rfl)):p:=h
theorem B9x17_ (h:p:=by exact k79_mkM _ _ _ (⟨(rd_T79 B j).f0,(rd_T79 B j).f1,(rd_T79 B j).f2⟩:S79)):p:=h
theorem B9x18_ (h:p:=by exact k79_mkM _ _ _ (⟨(rd_T79 B l).f0,(rd_T79 B l).f1,(rd_T79 B l).f2⟩:S79)):p:=h
theorem B9x21_ (h:p:=by exact k79_mkM _ _ _ (⟨aa,ae,af⟩:S79)):p:=h
theorem B9x22_ (h:p:=by have:=aC.out;omega):p:=h
def spec_ItemOf.l0:Nat→ByteArray→Int→List (S76)→List (S79)→Option (ByteArray × ByteArray × Int × Bool)
 |0,_,_,_,_=>none
 |k+1,x1,x6,fg,b6=>if x6<(b6.length:Int) then (if 0≤x6 then (if ((rd_T79 b6 x6).f0).toList=x1.toList then (some ((rd_T79 b6 x6).f0,(rd_T79 b6 x6).f1,(rd_T79 b6 x6).f2,true)) else (spec_ItemOf.l0 k x1 (wrap64 (x6+1)) fg b6)) else (none)) else (some ((⟨#[]⟩:ByteArray),(⟨#[]⟩:ByteArray),0,false))
def spec_ItemOf.f (k:Nat) (z:List (S76)) (aI:List (S79)) (a1:ByteArray):Option (ByteArray × ByteArray × Int × Bool):=spec_ItemOf.l0 k a1 0 z aI
theorem spec_ItemOf.calls (k:Nat) (al:Option Addr) (ai:Nat) (z:List (S76)) (a9:Option Addr) (be:Nat) (aI:List (S79)) (a1:ByteArray) (r1:ByteArray) (r2:ByteArray) (r3:Int) (r4:Bool) (w:World) (b4:Kd.C k76 w al z.length z) (bq:z.length≤ai) (ch:Kd.C k79 w a9 aI.length aI) (cg:aI.length≤be) (h:spec_ItemOf.f k z aI a1=some (r1,r2,r3,r4)) :
  Calls Tryz.prog 94 #[.agg #[.slice al z.length ai,.slice a9 aI.length be],.string a1] w fun e w'=>e=.returned (.tuple #[.agg #[.string r1,.string r2,.int .i64 r3],.bool r4])∧Below w.heap.size w w':=by
 have g2:=Tryz.underlying52
 have e5:=Tryz.underlying79
 have dH:=am bq
 clear b4 bq
 have bd:=am ch
 have ee:=am cg
 clear ch cg
 have HB:=am (Below.refl w.heap.size w)
 have au:=h
 clear h
 unfold spec_ItemOf.f at au
 replace au:=am au
 go_enter Tryz.func94,Tryz.ntmps94
 go_wp2_with (first|((with_reducible refine gate_dst (N:=2) rfl ?_);refine bx (N:=2) (cs:=#[.slice al z.length ai,.slice a9 aI.length be]) (t:=52) ?_;intro eP hg w3 hbox hb;have ba:=am hbox;have b7:=gA hg HB;replace HB:=hA HB hb;clear hb hbox hg)|((with_reducible refine gate_dst (N:=4) rfl ?_);refine bx (N:=4) (cs:=#[.string (⟨#[]⟩:ByteArray),.string (⟨#[]⟩:ByteArray),.int .i64 0]) (t:=79) ?_;intro dp hg w4 hbox hb;have bD:=am hbox;have cD:=gA hg HB;replace HB:=De1 HB b7 hb;have dc:=nA hg ba;have dd:=mA hg ba;replace ba:=bA ba hb;clear hb hbox hg))
 go_loopg [6] k (fun kq v6 w'=>∃ (j:Int) (dE:ByteArray) (dF:ByteArray) (dG:Int),v6=.int .i64 j∧Aside0 (spec_ItemOf.l0 kq a1 j z aI=some (r1,r2,r3,r4))∧Aside0 (kq≤k)∧Aside0 (w'.heap[eP]?=some (.cells #[(.slice al z.length ai),(.slice a9 aI.length be)] 52 (0,0)))∧Aside0 (w'.heap[dp]?=some (.cells #[.string dE,.string dF,.int .i64 dG] 79 (0,0)))∧Aside0 (Below w.heap.size w w'))
 case atStart=>exact⟨(0),((⟨#[]⟩:ByteArray)),((⟨#[]⟩:ByteArray)),0,be_,au,⟨Nat.le_refl _⟩,Cb ba,Cb bD,Ce2 HB b7 cD⟩
 case round=>
  clear au;obtain⟨j,dE,dF,dG,rfl,ak,aC,ba,bD,HB⟩:=hrel
  cases gk with
  |zero=>exact absurd ak.out (by simp [spec_ItemOf.l0])
  |succ k1=>?_
  replace ak:=ak.out;simp only [spec_ItemOf.l0] at ak
  obtain⟨ey,av⟩|⟨ey,av⟩:=sd ak
  ·obtain⟨di,a2⟩:=yd av
   obtain⟨c7,aw⟩|⟨c7,aw⟩:=sp a2
   ·obtain⟨dR,ez⟩:=yE c7;clear c7;obtain⟨rfl,rfl,rfl,rfl⟩:=s4 aw;clear aw ak av a2;obtain⟨e0,e4⟩:=o2_ dc dd;obtain⟨d6,d7,d8,d9⟩:=cf2 ba
    have bJ:0≤(j:Int):=dga
    have bO:j<(aI.length:Int):=dga
    obtain⟨dN,dj,bG,bH,bI⟩:=at_T79 bd.out j bJ bO;cases dj;replace bG:=(hbc HB bG).trans bG;replace bH:=(hbc HB bH).trans bH;replace bI:=(hbc HB bI).trans bI;replace bJ:=eq_true bJ;replace bO:=eq_true bO
    have dt:0≤(j:Int):=dga
    have dy:j<(aI.length:Int):=dga
    obtain⟨el,eG,dq,dr,ds⟩:=at_T79 bd.out j dt dy;obtain rfl:dN=el:=(by injection eG);replace dq:=(hbc HB dq).trans dq;replace dr:=(hbc HB dr).trans dr;replace ds:=(hbc HB ds).trans ds;replace dt:=eq_true dt;replace dy:=eq_true dy;obtain⟨fn,fo,fp,fs,ft,fu⟩:=cf3 bD
    go_wp2
    refine bodyPost_ret (results_ct rfl _ _ dp 79 #[.string ((rd_T79 aI j).f0),.string ((rd_T79 aI j).f1),.int .i64 ((rd_T79 aI j).f2)] (0,0) _ rfl (Ap0 bD) Tryz.underlying79 rfl gk_) rfl ?_;exact⟨B9x14_,(Ae2 HB b7 cD)⟩
   ·obtain⟨dR,ez⟩:=nE c7;replace aw:=am aw;clear ak av a2;obtain⟨eX,e1⟩:=o2_ dc dd;obtain⟨d6,d7,d8,d9⟩:=cf2 ba
    have bJ:0≤(j:Int):=dga
    have bO:j<(aI.length:Int):=dga
    obtain⟨dN,dj,bG,bH,bI⟩:=at_T79 bd.out j bJ bO;cases dj;replace bG:=(hbc HB bG).trans bG;replace bH:=(hbc HB bH).trans bH;replace bI:=(hbc HB bI).trans bI;replace bJ:=eq_true bJ;replace bO:=eq_true bO
    go_wp2
    go_roundg k1
    case measure=>have:=aC.out;omega
    case rel=>exact⟨(wrap64 (j+1)),dE,dF,dG,be_,aw,⟨B9x22_⟩,Cb ba,Cb bD,Ce2 HB b7 cD⟩
  ·obtain⟨rfl,rfl,rfl,rfl⟩:=s4 av;clear av ak;obtain⟨fL,gi⟩:=o2_ dc dd;obtain⟨d6,d7,d8,d9⟩:=cf2 ba;obtain⟨fn,fo,fp,fs,ft,fu⟩:=cf3 bD
   go_wp2
   refine bodyPost_ret (results_ct rfl _ _ dp 79 #[.string (⟨#[]⟩:ByteArray),.string (⟨#[]⟩:ByteArray),.int .i64 0] (0,0) _ rfl (Ap0 bD) Tryz.underlying79 rfl gk_) rfl ?_;exact⟨B9x14_,(Ae2 HB b7 cD)⟩

/-- A state of type 52 at block g of W; what its slices lead to came in by w0. -/
def IsS52 (w0 W:World) (g:Nat) (f0:Value) (f1:Value):Prop:=W.heap[g]?=some (.cells #[f0,f1] 52 (0,0))∧w0.heap.size≤g
theorem IsS52.grown {w0 W:World} {g:Nat} {f0:Value} {f1:Value} {W1:World} {row:Option Nat} (h:IsS52 w0 W g f0 f1) (hw:W.grownBy W1 row) (hne:some g≠row):IsS52 w0 W1 g f0 f1:=by
 obtain⟨hb,hg⟩:=h
 exact⟨blk_grown hb hw hne,hg⟩
theorem IsS52.own_neN {w0 W:World} {g:Nat} {f0:Value} {f1:Value} {α:Type} {d:Kd α} {e:Nat} {base:Nat} {ok:Nat→Prop} {v:Value} {xs:List α} (h:IsS52 w0 W g f0 f1) (ho:Kd.N d e W base ok v xs) (ht:e≠52):some g≠v.ownBlock:=by
 obtain⟨hb,hg⟩:=h
 exact Kd.N_ne ho hb ht
theorem IsS52.fresh {w0 W:World} {g:Nat} {f0:Value} {f1:Value} (h:IsS52 w0 W g f0 f1):∀ k,W.heap.size≤k→k≠g:=by
 obtain⟨hb,hg⟩:=h
 exact Kd.freshB hb
theorem IsS52.kept {w0 W:World} {g:Nat} {f0:Value} {f1:Value} {W1:World} {S:Nat→Prop} (h:IsS52 w0 W g f0 f1) (hk:Kept W W1 S) (hne:¬ S g):IsS52 w0 W1 g f0 f1:=by
 obtain⟨hb,hg⟩:=h
 exact⟨blk_kept hb hk hne,hg⟩
theorem IsS52.below {w0 W:World} {g:Nat} {f0:Value} {f1:Value} {W1:World} (h:IsS52 w0 W g f0 f1) (hw:Below W.heap.size W W1):IsS52 w0 W1 g f0 f1:=h.grown (grown_of_below hw none) (by simp)
theorem IsS52.alloc {w0 W:World} {g:Nat} {f0:Value} {f1:Value} (h:IsS52 w0 W g f0 f1) (o:Obj):IsS52 w0 (W.alloc o) g f0 f1:=h.below (below_alloc (Below.refl _ _) o)
theorem IsS52.drewN {w0 W:World} {g:Nat} {f0:Value} {f1:Value} (h:IsS52 w0 W g f0 f1) (m:Nat):IsS52 w0 (W.drewN m) g f0 f1:=h
theorem IsS52.drew {w0 W:World} {g:Nat} {f0:Value} {f1:Value} (h:IsS52 w0 W g f0 f1):IsS52 w0 W.drew g f0 f1:=h
theorem IsS52.at_ {w0 W:World} {g:Nat} {f0:Value} {f1:Value} {w':World} {m:Nat} (hq:W.drewN m=w') (h:IsS52 w0 W g f0 f1):IsS52 w0 w' g f0 f1:=by subst hq;exact IsS52.drewN h m
theorem IsS52.apart {w0 W:World} {g:Nat} {f0:Value} {f1:Value} {α:Type} {d:Kd α} {e:Nat} {base:Nat} {ok:Nat→Prop} {v:Value} {xs:List α} (h:IsS52 w0 W g f0 f1) (ho:d.R e W base ok v xs) (ht:∀ q,q∈e :: d.E→q≠52):d.R e W base (fun k=>ok k∧k≠g) v xs:=by
 obtain⟨hb,hg⟩:=h
 exact Kd.R_types ho hb ht
theorem IsS52.own_ne {w0 W:World} {g:Nat} {f0:Value} {f1:Value} {α:Type} {d:Kd α} {e:Nat} {base:Nat} {ok:Nat→Prop} {v:Value} {xs:List α} (h:IsS52 w0 W g f0 f1) (ho:d.R e W base ok v xs) (ht:e≠52):some g≠v.ownBlock:=by
 obtain⟨hb,hg⟩:=h
 exact Kd.R_ne ho hb ht
theorem IsS52.apartQ {w0 W:World} {g:Nat} {f0:Value} {f1:Value} {α:Type} {d:Kd α} {e:Nat} {base:Nat} {ok:Nat→Prop} {v:Value} {xs:List α} (h:IsS52 w0 W g f0 f1) (ho:d.Q e W base ok v xs) (ht:∀ q,q∈e :: d.E→q≠52):d.Q e W base (fun k=>ok k∧k≠g) v xs:=by
 obtain⟨hb,hg⟩:=h
 exact Kd.Q_types ho hb ht
theorem IsS52.own_neQ {w0 W:World} {g:Nat} {f0:Value} {f1:Value} {α:Type} {d:Kd α} {e:Nat} {base:Nat} {ok:Nat→Prop} {v:Value} {xs:List α} (h:IsS52 w0 W g f0 f1) (ho:d.Q e W base ok v xs) (ht:e≠52):some g≠v.ownBlock:=by
 obtain⟨hb,hg⟩:=h
 exact Kd.Q_ne ho hb ht
theorem IsS52.apartS {w0 W:World} {g:Nat} {f0:Value} {f1:Value} {α:Type} {d:Kd α} {e:Nat} {base:Nat} {ok:Nat→Prop} {v:Value} {xs:List α} (h:IsS52 w0 W g f0 f1) (ho:d.S e W base ok v xs) (ht:∀ q,q∈e :: d.E→q≠52):d.S e W base (fun k=>ok k∧k≠g) v xs:=by
 obtain⟨hb,hg⟩:=h
 exact Kd.S_types ho hb ht
theorem IsS52.own_neS {w0 W:World} {g:Nat} {f0:Value} {f1:Value} {α:Type} {d:Kd α} {e:Nat} {base:Nat} {ok:Nat→Prop} {v:Value} {xs:List α} (h:IsS52 w0 W g f0 f1) (ho:d.S e W base ok v xs) (ht:e≠52):some g≠v.ownBlock:=by
 obtain⟨hb,hg⟩:=h
 exact Kd.S_ne ho hb ht
theorem IsS52.lt {w0 W:World} {g:Nat} {f0:Value} {f1:Value} (h:IsS52 w0 W g f0 f1):g<W.heap.size:=by
 obtain⟨hb,hg⟩:=h
 exact blk_lt hb
theorem IsS52.ge {w0 W:World} {g:Nat} {f0:Value} {f1:Value} (h:IsS52 w0 W g f0 f1):w0.heap.size≤g:=by
 obtain⟨hb,hg⟩:=h
 exact hg
theorem IsS52.gf {w0 W:World} {g:Nat} {f0:Value} {f1:Value} (h:Aside0 (IsS52 w0 W g f0 f1)):Aside0 (w0.heap.size≤g):=⟨h.out.ge⟩
theorem IsS52.ne_blk {w0 W:World} {g:Nat} {f0:Value} {f1:Value} {a:Nat} {cs:Array Value} {t:TypeId} {fr:Nat × Nat} (h:IsS52 w0 W g f0 f1) (hb2:W.heap[a]?=some (.cells cs t fr)) (ht:t≠52):g≠a:=by
 obtain⟨hb,hg⟩:=h
 rintro rfl
 rw [hb] at hb2
 injection hb2 with hb2
 injection hb2 with _ ht2
 exact ht ht2.symm
theorem IsS52.far {w0 W:World} {g:Nat} {f0:Value} {f1:Value} {p:Addr} (h:IsS52 w0 W g f0 f1) (hne:g≠p.block) (u:Value):IsS52 w0 (W.setCell p u) g f0 f1:=by
 obtain⟨hb,hg⟩:=h
 exact⟨blk_far hb hne u,hg⟩
theorem IsS52.set_0 {w0 W:World} {g:Nat} {f0:Value} {f1:Value} (h:IsS52 w0 W g f0 f1) (x:Value):IsS52 w0 (W.setCell ⟨g,0,none⟩ x) g x f1:=by
 obtain⟨hb,hg⟩:=h
 exact⟨(by simpa using blk_set hb 0 x),hg⟩
theorem cellS52_0 {W:World} {g:Nat} {f0:Value} {f1:Value} (h:W.heap[g]?=some (.cells #[f0,f1] 52 (0,0))):W.cell? ⟨g,0,none⟩=some (f0):=(blk_cell h 0).trans rfl
theorem IsS52.set_1 {w0 W:World} {g:Nat} {f0:Value} {f1:Value} (h:IsS52 w0 W g f0 f1) (x:Value):IsS52 w0 (W.setCell ⟨g,1,none⟩ x) g f0 x:=by
 obtain⟨hb,hg⟩:=h
 exact⟨(by simpa using blk_set hb 1 x),hg⟩
theorem cellS52_1 {W:World} {g:Nat} {f0:Value} {f1:Value} (h:W.heap[g]?=some (.cells #[f0,f1] 52 (0,0))):W.cell? ⟨g,1,none⟩=some (f1):=(blk_cell h 1).trans rfl
theorem IsS52.new (w0 W:World) (f0:Value) (f1:Value) (hB:Below w0.heap.size w0 W):IsS52 w0 (W.alloc (.cells #[f0,f1] 52)) W.heap.size f0 f1:=⟨(by simpa using heap_alloc_new W _),hB.size⟩

mutual
def spec_l15Put.l0:Nat→List (S79)→Int→List (S76)→List (S79)→ByteArray→ByteArray→Int→Option (Bool × (List (S79)))
 |0,_,_,_,_,_,_,_=>none
 |k+1,x5,x6,b5,aH,bo,bT,bU=>if x6<(aH.length:Int) then (if 0≤x6 then (if (Op.bytesLess (((rd_T79 aH x6).f0).toList) bo.toList)=true then (if x5.length<3518437208883 then (spec_l15Put.l0 k (x5 ++ [(⟨(rd_T79 aH x6).f0,(rd_T79 aH x6).f1,(rd_T79 aH x6).f2⟩:S79)]) (wrap64 (x6+1)) b5 aH bo bT bU) else (none)) else (spec_l15Put.l0 k x5 (wrap64 (x6+1)) b5 aH bo bT bU)) else (none)) else (if x5.length<3518437208883 then (spec_l15Put.l1 k (x5 ++ [(⟨bo,bT,bU⟩:S79)]) 0 b5 aH bo bT bU) else (none))
def spec_l15Put.l1:Nat→List (S79)→Int→List (S76)→List (S79)→ByteArray→ByteArray→Int→Option (Bool × (List (S79)))
 |0,_,_,_,_,_,_,_=>none
 |k+1,x5,x7,b5,aH,bo,bT,bU=>if x7<(aH.length:Int) then (if 0≤x7 then (if (Op.bytesLess bo.toList (((rd_T79 aH x7).f0).toList))=true then (if x5.length<3518437208883 then (spec_l15Put.l1 k (x5 ++ [(⟨(rd_T79 aH x7).f0,(rd_T79 aH x7).f1,(rd_T79 aH x7).f2⟩:S79)]) (wrap64 (x7+1)) b5 aH bo bT bU) else (none)) else (spec_l15Put.l1 k x5 (wrap64 (x7+1)) b5 aH bo bT bU)) else (none)) else (if (x5.length:Int)>8 then (some (false,aH)) else (some (true,x5)))
end
def spec_l15Put.f (k:Nat) (aU:List (S76)) (B:List (S79)) (aa:ByteArray) (ae:ByteArray) (af:Int):Option (Bool × (List (S79))):=spec_l15Put.l0 k (([]:List (S79))) 0 aU B aa ae af
theorem spec_l15Put.calls (k:Nat) (g:Nat) (al:Option Addr) (ai:Nat) (aU:List (S76)) (a9:Option Addr) (be:Nat) (B:List (S79)) (aa:ByteArray) (ae:ByteArray) (af:Int) (r1:Bool) (r2:List (S79)) (w0 w:World) (hI:IsS52 w0 w g (.slice al aU.length ai) (.slice a9 B.length be)) (hB:Below w0.heap.size w0 w) (b4:∀ W_,KeepBut w W_ g none→Kd.C k76 W_ al aU.length aU) (bq:aU.length≤ai) (ch:∀ W_,KeepBut w W_ g none→Kd.C k79 W_ a9 B.length B) (cg:B.length≤be) (dU:Kd.R k79 79 w w0.heap.size (fun k_=>k_≠g) (.slice a9 B.length be) B) (h:spec_l15Put.f k aU B aa ae af=some (r1,r2)) :
  Calls Tryz.prog 95 #[.pointer (some ⟨g,0,none⟩),.agg #[.string aa,.string ae,.int .i64 af]] w fun e w'=>∃ d0:Value,e=.returned (.bool r1)∧IsS52 w0 w' g (.slice al aU.length ai) d0∧Kd.R k79 79 w' w0.heap.size (fun k_=>k_≠g) d0 r2∧Below w0.heap.size w0 w'∧KeepBut w w' g none:=by
 have e5:=Tryz.underlying79
 have dH:=am bq
 clear b4 bq
 have bd:=am ch
 have ee:=am cg
 clear ch cg
 have HOW:=am dU
 clear dU
 have D:=am hI
 have HK:=am (KeepBut.refl w g none)
 have HL:=am hB.size
 clear hI
 have cY:=am hB.size
 have HB:=am hB
 clear hB
 have au:=h
 clear h
 unfold spec_l15Put.f at au
 obtain⟨fh,cv⟩:∃ y_:List (S79),y_=(([]:List (S79))):=⟨_,rfl⟩
 (first|with_reducible replace au:=hq cv au|rw [←cv] at au|simp only [←cv] at au)
 have b3:=am cv
 clear cv
 replace au:=am au
 go_enter Tryz.func95,Tryz.ntmps95
 go_wp2_with (first|((with_reducible refine gate_dst (N:=3) rfl ?_);refine bx (N:=3) (cs:=#[.string aa,.string ae,.int .i64 af]) (t:=79) ?_;intro ap hg w3 hbox hb;replace HB:=De1 HB (IsS52.gf D) hb;have ac:=am hbox;have aj:=gK hg HK;have ar:=am (Nat.le_trans cY.out (bs hg (keep_size HK.out)):w0.heap.size≤ap);replace HK:=Ek0 HK hb;have bk:=am (nl hg (IsS52.lt D.out));have bF:=am (ng hg (IsS52.lt D.out));replace D:=am (IsS52.below B9x11_ hb);clear hb hbox hg)|((with_reducible refine gate_dst (N:=8) rfl ?_);refine lL k79 79 8 ([]:List (S79)) [] (Reps.none _ _) ?_;intro dW w4 aG hb;(first|rw [←b3.out] at aG|(simp only [Int.reduceToNat] at aG;rw [←b3.out] at aG));have cU:=am (Kd.R_lower (Kd.R_newB aG (g:=ap) (o:=.cells #[.string aa,.string ae,.int .i64 af] 79 (0,0)) (Ab ac)) (keep_size (w:=w) (g:=g) (row:=none) (Ak1 HK aj)));replace ac:=bA ac hb;replace HK:=Ek1 HK aj hb;replace HB:=De2 HB (IsS52.gf D) ar hb;replace D:=am (IsS52.below B9x3_ hb);clear hb aG))
 repeat (go_quiet (first|((with_reducible refine gate_dst (N:=3) rfl ?_);refine bx (N:=3) (cs:=#[.string aa,.string ae,.int .i64 af]) (t:=79) ?_;intro ap hg w3 hbox hb;replace HB:=De1 HB (IsS52.gf D) hb;have ac:=am hbox;have aj:=gK hg HK;have ar:=am (Nat.le_trans cY.out (bs hg (keep_size HK.out)):w0.heap.size≤ap);replace HK:=Ek0 HK hb;have bk:=am (nl hg (IsS52.lt D.out));have bF:=am (ng hg (IsS52.lt D.out));replace D:=am (IsS52.below B9x11_ hb);clear hb hbox hg)|((with_reducible refine gate_dst (N:=8) rfl ?_);refine lL k79 79 8 ([]:List (S79)) [] (Reps.none _ _) ?_;intro dW w4 aG hb;(first|rw [←b3.out] at aG|(simp only [Int.reduceToNat] at aG;rw [←b3.out] at aG));have cU:=am (Kd.R_lower (Kd.R_newB aG (g:=ap) (o:=.cells #[.string aa,.string ae,.int .i64 af] 79 (0,0)) (Ab ac)) (keep_size (w:=w) (g:=g) (row:=none) (Ak1 HK aj)));replace ac:=bA ac hb;replace HK:=Ek1 HK aj hb;replace HB:=De2 HB (IsS52.gf D) ar hb;replace D:=am (IsS52.below B9x3_ hb);clear hb aG));try go_wp2_with (first|((with_reducible refine gate_dst (N:=3) rfl ?_);refine bx (N:=3) (cs:=#[.string aa,.string ae,.int .i64 af]) (t:=79) ?_;intro ap hg w3 hbox hb;replace HB:=De1 HB (IsS52.gf D) hb;have ac:=am hbox;have aj:=gK hg HK;have ar:=am (Nat.le_trans cY.out (bs hg (keep_size HK.out)):w0.heap.size≤ap);replace HK:=Ek0 HK hb;have bk:=am (nl hg (IsS52.lt D.out));have bF:=am (ng hg (IsS52.lt D.out));replace D:=am (IsS52.below B9x11_ hb);clear hb hbox hg)|((with_reducible refine gate_dst (N:=8) rfl ?_);refine lL k79 79 8 ([]:List (S79)) [] (Reps.none _ _) ?_;intro dW w4 aG hb;(first|rw [←b3.out] at aG|(simp only [Int.reduceToNat] at aG;rw [←b3.out] at aG));have cU:=am (Kd.R_lower (Kd.R_newB aG (g:=ap) (o:=.cells #[.string aa,.string ae,.int .i64 af] 79 (0,0)) (Ab ac)) (keep_size (w:=w) (g:=g) (row:=none) (Ak1 HK aj)));replace ac:=bA ac hb;replace HK:=Ek1 HK aj hb;replace HB:=De2 HB (IsS52.gf D) ar hb;replace D:=am (IsS52.below B9x3_ hb);clear hb aG)))
 go_loopg [5,6] k (fun kq v5 v6 w'=>∃ (aZ:List (S79)) (j:Int),v6=.int .i64 j∧Aside0 (spec_l15Put.l0 kq aZ j aU B aa ae af=some (r1,r2))∧Aside0 (kq≤k)∧Aside0 (Kd.R k79 79 w' w.heap.size (fun k_=>k_≠ap) v5 aZ)∧Aside0 (w'.heap[ap]?=some (.cells #[.string aa,.string ae,.int .i64 af] 79 (0,0)))∧Aside0 (IsS52 w0 w' g (.slice al aU.length ai) (.slice a9 B.length be))∧Aside0 (KeepBut w w' g none)∧Aside0 (Below w0.heap.size w0 w'))
 case atStart=>exact⟨(fh),0,be_,au,⟨Nat.le_refl _⟩,⟨(by (with_reducible repeat (first|apply Kd.R_alloc|apply Kd.R_drewN|apply Kd.R_drew));exact Kd.R_mono cU.out (fun _ hk=>hk.2))⟩,D1x0_⟩
 case round=>
  clear au;obtain⟨aZ,j,rfl,ak,aC,Z,ac,D,HK,HB⟩:=hrel
  cases gk with
  |zero=>exact absurd ak.out (by simp [spec_l15Put.l0])
  |succ k1=>?_
  replace ak:=ak.out;simp only [spec_l15Put.l0] at ak
  obtain⟨di,av⟩|⟨di,av⟩:=sd ak
  ·obtain⟨dR,a2⟩:=yd av
   obtain⟨c8,aw⟩|⟨c8,aw⟩:=sp a2
   ·have eB:(Op.bytesLess (((rd_T79 B j).f0).toList) aa.toList)=true:=c8
    clear c8;obtain⟨db,aN⟩:=ya aw;obtain⟨fi,cw⟩:∃ y_:List (S79),y_=(aZ ++ [(⟨(rd_T79 B j).f0,(rd_T79 B j).f1,(rd_T79 B j).f2⟩:S79)]):=⟨_,rfl⟩
    (first|with_reducible replace aN:=hq cw aN|rw [←cw] at aN|simp only [←cw] at aN)
    have de:=am cw;clear cw;replace aN:=am aN;clear ak av a2 aw;obtain⟨cE,eQ⟩:=D.out;have fl:=cellS52_0 cE;have hn:=cellS52_1 cE;have hU:=blk_frozen cE 1;clear cE eQ
    have bK:0≤(j:Int):=dga
    have bP:j<(B.length:Int):=dga
    obtain⟨dO,dk,e6,e7,e8⟩:=at_T79 (Kd.C_foot_now bd.out HK.out) j bK bP;cases dk;replace bK:=eq_true bK;replace bP:=eq_true bP;obtain⟨eX,e1⟩:=o2_ bF bk;obtain⟨cO,cP,cQ,cR,cS,cT⟩:=cf3 ac
    have du:0≤(j:Int):=dga
    have dz:j<(B.length:Int):=dga
    obtain⟨em,eH,g4,g5,g6⟩:=at_T79 (Kd.C_foot_now bd.out HK.out) j du dz;obtain rfl:dO=em:=(by injection eH);replace du:=eq_true du;replace dz:=eq_true dz
    go_wp2_with (first|((with_reducible refine gate_builtin (b:=.append) (xs:=#[.tmp 29,.tmp 37]) rfl ?_);at_builtin;refine Kd.R_append k79 w.heap.size rfl (.tmp 29) (.tmp 37) 50 79 (.agg #[(.string ⟨#[]⟩),(.string ⟨#[]⟩),(.int .i64 0)]) 40 rfl Tryz.underlying50 info79 rfl (by decide) (by omega) u5 aZ (⟨(rd_T79 B j).f0,(rd_T79 B j).f1,(rd_T79 B j).f2⟩:S79) [.string ((rd_T79 B j).f0),.string ((rd_T79 B j).f1),.int .i64 ((rd_T79 B j).f2)] (fun k_=>k_≠ap) (fun _=>False) rfl rfl ?aP (fun _ hk=>hk.elim) ?aF ?aO (Below.refl _ _) ?aS ?aL ?_;(case aP=>exact B9x17_);(case aF=>exact B9x6_);(case aO=>exact(Ar Z));(case aS=>exact B9x9_);(case aL=>have:=db.out;omega);intro dX d1 ho hb hg hat;rw [←de.out] at ho;replace ac:=bg ac hg (Kd.R_away Z.out (fun _ hk=>hk));replace HB:=am (below_weaken (Ae2 HB (IsS52.gf D) ar) HL.out hb);replace D:=am (IsS52.grown B9x4_ hg (IsS52.own_ne D.out Z.out (by decide)));replace HK:=am (KeepBut.trans (Ak1 HK aj) (KeepBut.of_grown hg g) (Kd.R_base2 Z.out));have cV:=am ho;clear Z;clear ho hb hg hat))
    repeat (go_quiet (first|((with_reducible refine gate_builtin (b:=.append) (xs:=#[.tmp 29,.tmp 37]) rfl ?_);at_builtin;refine Kd.R_append k79 w.heap.size rfl (.tmp 29) (.tmp 37) 50 79 (.agg #[(.string ⟨#[]⟩),(.string ⟨#[]⟩),(.int .i64 0)]) 40 rfl Tryz.underlying50 info79 rfl (by decide) (by omega) u5 aZ (⟨(rd_T79 B j).f0,(rd_T79 B j).f1,(rd_T79 B j).f2⟩:S79) [.string ((rd_T79 B j).f0),.string ((rd_T79 B j).f1),.int .i64 ((rd_T79 B j).f2)] (fun k_=>k_≠ap) (fun _=>False) rfl rfl ?aP (fun _ hk=>hk.elim) ?aF ?aO (Below.refl _ _) ?aS ?aL ?_;(case aP=>exact B9x17_);(case aF=>exact B9x6_);(case aO=>exact(Ar Z));(case aS=>exact B9x9_);(case aL=>have:=db.out;omega);intro dX d1 ho hb hg hat;rw [←de.out] at ho;replace ac:=bg ac hg (Kd.R_away Z.out (fun _ hk=>hk));replace HB:=am (below_weaken (Ae2 HB (IsS52.gf D) ar) HL.out hb);replace D:=am (IsS52.grown B9x4_ hg (IsS52.own_ne D.out Z.out (by decide)));replace HK:=am (KeepBut.trans (Ak1 HK aj) (KeepBut.of_grown hg g) (Kd.R_base2 Z.out));have cV:=am ho;clear Z;clear ho hb hg hat));try go_wp2_with (first|((with_reducible refine gate_builtin (b:=.append) (xs:=#[.tmp 29,.tmp 37]) rfl ?_);at_builtin;refine Kd.R_append k79 w.heap.size rfl (.tmp 29) (.tmp 37) 50 79 (.agg #[(.string ⟨#[]⟩),(.string ⟨#[]⟩),(.int .i64 0)]) 40 rfl Tryz.underlying50 info79 rfl (by decide) (by omega) u5 aZ (⟨(rd_T79 B j).f0,(rd_T79 B j).f1,(rd_T79 B j).f2⟩:S79) [.string ((rd_T79 B j).f0),.string ((rd_T79 B j).f1),.int .i64 ((rd_T79 B j).f2)] (fun k_=>k_≠ap) (fun _=>False) rfl rfl ?aP (fun _ hk=>hk.elim) ?aF ?aO (Below.refl _ _) ?aS ?aL ?_;(case aP=>exact B9x17_);(case aF=>exact B9x6_);(case aO=>exact(Ar Z));(case aS=>exact B9x9_);(case aL=>have:=db.out;omega);intro dX d1 ho hb hg hat;rw [←de.out] at ho;replace ac:=bg ac hg (Kd.R_away Z.out (fun _ hk=>hk));replace HB:=am (below_weaken (Ae2 HB (IsS52.gf D) ar) HL.out hb);replace D:=am (IsS52.grown B9x4_ hg (IsS52.own_ne D.out Z.out (by decide)));replace HK:=am (KeepBut.trans (Ak1 HK aj) (KeepBut.of_grown hg g) (Kd.R_base2 Z.out));have cV:=am ho;clear Z;clear ho hb hg hat)))
    go_roundg k1
    case measure=>have:=aC.out;omega
    case rel=>exact⟨(fi),(wrap64 (j+1)),be_,aN,⟨B9x22_⟩,Cr cV,D1x0_⟩
   have eB:(Op.bytesLess (((rd_T79 B j).f0).toList) aa.toList)=false:=by simpa using c8
   clear c8;replace aw:=am aw;clear ak av a2;obtain⟨cF,eR⟩:=D.out;have hp:=cellS52_0 cF;have hs:=cellS52_1 cF;have hV:=blk_frozen cF 1;clear cF eR
   have bK:0≤(j:Int):=dga
   have bP:j<(B.length:Int):=dga
   obtain⟨dO,dk,e6,e7,e8⟩:=at_T79 (Kd.C_foot_now bd.out HK.out) j bK bP;cases dk;replace bK:=eq_true bK;replace bP:=eq_true bP;obtain⟨eY,e2⟩:=o2_ bF bk;obtain⟨cO,cP,cQ,cR,cS,cT⟩:=cf3 ac
   go_wp2
   repeat (go_quiet (fail);try go_wp2)
   go_roundg k1
   case measure=>have:=aC.out;omega
   case rel=>exact⟨(aZ),(wrap64 (j+1)),be_,aw,⟨B9x22_⟩,Cr Z,D1x0_⟩
  obtain⟨cZ,aE⟩:=ya av;obtain⟨fj,cx⟩:∃ y_:List (S79),y_=(aZ ++ [(⟨aa,ae,af⟩:S79)]):=⟨_,rfl⟩
  (first|with_reducible replace aE:=hq cx aE|rw [←cx] at aE|simp only [←cx] at aE)
  have df:=am cx;clear cx;replace aE:=am aE;clear ak av;obtain⟨cG,eS⟩:=D.out;have fm:=cellS52_0 cG;have hu:=cellS52_1 cG;have hX:=blk_frozen cG 1;clear cG eS;obtain⟨fO,gm⟩:=o2_ bF bk;obtain⟨cO,cP,cQ,cR,cS,cT⟩:=cf3 ac
  go_wp2_with (first|((with_reducible refine gate_builtin (b:=.append) (xs:=#[.tmp 39,.tmp 41]) rfl ?_);at_builtin;refine Kd.R_append k79 w.heap.size rfl (.tmp 39) (.tmp 41) 50 79 (.agg #[(.string ⟨#[]⟩),(.string ⟨#[]⟩),(.int .i64 0)]) 40 rfl Tryz.underlying50 info79 rfl (by decide) (by omega) u5 aZ (⟨aa,ae,af⟩:S79) [.string aa,.string ae,.int .i64 af] (fun k_=>k_≠ap) (fun _=>False) rfl rfl ?aP (fun _ hk=>hk.elim) ?aF ?aO (Below.refl _ _) ?aS ?aL ?_;(case aP=>exact B9x21_);(case aF=>exact B9x6_);(case aO=>exact(Ar Z));(case aS=>exact B9x9_);(case aL=>have:=cZ.out;omega);intro dY cN ho hb hg hat;rw [←df.out] at ho;replace ac:=bg ac hg (Kd.R_away Z.out (fun _ hk=>hk));replace HB:=am (below_weaken (Ae2 HB (IsS52.gf D) ar) HL.out hb);replace D:=am (IsS52.grown B9x4_ hg (IsS52.own_ne D.out Z.out (by decide)));replace HK:=am (KeepBut.trans (Ak1 HK aj) (KeepBut.of_grown hg g) (Kd.R_base2 Z.out));have cW:=am ho;clear Z;clear ho hb hg hat))
  repeat (go_quiet (first|((with_reducible refine gate_builtin (b:=.append) (xs:=#[.tmp 39,.tmp 41]) rfl ?_);at_builtin;refine Kd.R_append k79 w.heap.size rfl (.tmp 39) (.tmp 41) 50 79 (.agg #[(.string ⟨#[]⟩),(.string ⟨#[]⟩),(.int .i64 0)]) 40 rfl Tryz.underlying50 info79 rfl (by decide) (by omega) u5 aZ (⟨aa,ae,af⟩:S79) [.string aa,.string ae,.int .i64 af] (fun k_=>k_≠ap) (fun _=>False) rfl rfl ?aP (fun _ hk=>hk.elim) ?aF ?aO (Below.refl _ _) ?aS ?aL ?_;(case aP=>exact B9x21_);(case aF=>exact B9x6_);(case aO=>exact(Ar Z));(case aS=>exact B9x9_);(case aL=>have:=cZ.out;omega);intro dY cN ho hb hg hat;rw [←df.out] at ho;replace ac:=bg ac hg (Kd.R_away Z.out (fun _ hk=>hk));replace HB:=am (below_weaken (Ae2 HB (IsS52.gf D) ar) HL.out hb);replace D:=am (IsS52.grown B9x4_ hg (IsS52.own_ne D.out Z.out (by decide)));replace HK:=am (KeepBut.trans (Ak1 HK aj) (KeepBut.of_grown hg g) (Kd.R_base2 Z.out));have cW:=am ho;clear Z;clear ho hb hg hat));try go_wp2_with (first|((with_reducible refine gate_builtin (b:=.append) (xs:=#[.tmp 39,.tmp 41]) rfl ?_);at_builtin;refine Kd.R_append k79 w.heap.size rfl (.tmp 39) (.tmp 41) 50 79 (.agg #[(.string ⟨#[]⟩),(.string ⟨#[]⟩),(.int .i64 0)]) 40 rfl Tryz.underlying50 info79 rfl (by decide) (by omega) u5 aZ (⟨aa,ae,af⟩:S79) [.string aa,.string ae,.int .i64 af] (fun k_=>k_≠ap) (fun _=>False) rfl rfl ?aP (fun _ hk=>hk.elim) ?aF ?aO (Below.refl _ _) ?aS ?aL ?_;(case aP=>exact B9x21_);(case aF=>exact B9x6_);(case aO=>exact(Ar Z));(case aS=>exact B9x9_);(case aL=>have:=cZ.out;omega);intro dY cN ho hb hg hat;rw [←df.out] at ho;replace ac:=bg ac hg (Kd.R_away Z.out (fun _ hk=>hk));replace HB:=am (below_weaken (Ae2 HB (IsS52.gf D) ar) HL.out hb);replace D:=am (IsS52.grown B9x4_ hg (IsS52.own_ne D.out Z.out (by decide)));replace HK:=am (KeepBut.trans (Ak1 HK aj) (KeepBut.of_grown hg g) (Kd.R_base2 Z.out));have cW:=am ho;clear Z;clear ho hb hg hat)))
  go_loopg [5,7] k1 (fun kq v5 v7 w'=>∃ (aK:List (S79)) (l:Int),v7=.int .i64 l∧Aside0 (spec_l15Put.l1 kq aK l aU B aa ae af=some (r1,r2))∧Aside0 (kq≤k1)∧Aside0 (Kd.R k79 79 w' w.heap.size (fun k_=>k_≠ap) v5 aK)∧Aside0 (w'.heap[ap]?=some (.cells #[.string aa,.string ae,.int .i64 af] 79 (0,0)))∧Aside0 (IsS52 w0 w' g (.slice al aU.length ai) (.slice a9 B.length be))∧Aside0 (KeepBut w w' g none)∧Aside0 (Below w0.heap.size w0 w'))
  case atStart=>exact⟨(fj),0,be_,aE,⟨Nat.le_refl _⟩,Cr cW,D1x0_⟩
  case round=>
   clear aE
   try clear c6
   try clear di
   try clear fy
   obtain⟨aK,l,rfl,aD,bj,Z,ac,D,HK,HB⟩:=hrel
   cases gk with
   |zero=>exact absurd aD.out (by simp [spec_l15Put.l1])
   |succ k2=>?_
   replace aD:=aD.out;simp only [spec_l15Put.l1] at aD
   obtain⟨er,aR⟩|⟨er,aR⟩:=sd aD
   ·obtain⟨fz,bE⟩:=yd aR
    obtain⟨cd,aW⟩|⟨cd,aW⟩:=sp bE
    ·have et:(Op.bytesLess aa.toList (((rd_T79 B l).f0).toList))=true:=cd
     clear cd;obtain⟨da,aM⟩:=ya aW;obtain⟨fk,cy⟩:∃ y_:List (S79),y_=(aK ++ [(⟨(rd_T79 B l).f0,(rd_T79 B l).f1,(rd_T79 B l).f2⟩:S79)]):=⟨_,rfl⟩
     (first|with_reducible replace aM:=hq cy aM|rw [←cy] at aM|simp only [←cy] at aM)
     have dh:=am cy;clear cy;replace aM:=am aM;clear aD aR bE aW;obtain⟨cH,eT⟩:=D.out;have hv:=cellS52_0 cH;have hx:=cellS52_1 cH;have hY:=blk_frozen cH 1;clear cH eT
     have bL:0≤(l:Int):=dga
     have bQ:l<(B.length:Int):=dga
     obtain⟨dP,dl,e9,fa,fb⟩:=at_T79 (Kd.C_foot_now bd.out HK.out) l bL bQ;cases dl;replace bL:=eq_true bL;replace bQ:=eq_true bQ;obtain⟨fS,gr⟩:=o2_ bF bk;obtain⟨cO,cP,cQ,cR,cS,cT⟩:=cf3 ac
     have dv:0≤(l:Int):=dga
     have dB:l<(B.length:Int):=dga
     obtain⟨en,eI,g7,g8,g9⟩:=at_T79 (Kd.C_foot_now bd.out HK.out) l dv dB;obtain rfl:dP=en:=(by injection eI);replace dv:=eq_true dv;replace dB:=eq_true dB
     go_wp2_with (first|((with_reducible refine gate_builtin (b:=.append) (xs:=#[.tmp 63,.tmp 71]) rfl ?_);at_builtin;refine Kd.R_append k79 w.heap.size rfl (.tmp 63) (.tmp 71) 50 79 (.agg #[(.string ⟨#[]⟩),(.string ⟨#[]⟩),(.int .i64 0)]) 40 rfl Tryz.underlying50 info79 rfl (by decide) (by omega) u5 aK (⟨(rd_T79 B l).f0,(rd_T79 B l).f1,(rd_T79 B l).f2⟩:S79) [.string ((rd_T79 B l).f0),.string ((rd_T79 B l).f1),.int .i64 ((rd_T79 B l).f2)] (fun k_=>k_≠ap) (fun _=>False) rfl rfl ?aP (fun _ hk=>hk.elim) ?aF ?aO (Below.refl _ _) ?aS ?aL ?_;(case aP=>exact B9x18_);(case aF=>exact B9x6_);(case aO=>exact(Ar Z));(case aS=>exact B9x9_);(case aL=>have:=da.out;omega);intro dZ d2 ho hb hg hat;rw [←dh.out] at ho;replace ac:=bg ac hg (Kd.R_away Z.out (fun _ hk=>hk));replace HB:=am (below_weaken (Ae2 HB (IsS52.gf D) ar) HL.out hb);replace D:=am (IsS52.grown B9x4_ hg (IsS52.own_ne D.out Z.out (by decide)));replace HK:=am (KeepBut.trans (Ak1 HK aj) (KeepBut.of_grown hg g) (Kd.R_base2 Z.out));have cX:=am ho;clear Z;clear ho hb hg hat))
     repeat (go_quiet (first|((with_reducible refine gate_builtin (b:=.append) (xs:=#[.tmp 63,.tmp 71]) rfl ?_);at_builtin;refine Kd.R_append k79 w.heap.size rfl (.tmp 63) (.tmp 71) 50 79 (.agg #[(.string ⟨#[]⟩),(.string ⟨#[]⟩),(.int .i64 0)]) 40 rfl Tryz.underlying50 info79 rfl (by decide) (by omega) u5 aK (⟨(rd_T79 B l).f0,(rd_T79 B l).f1,(rd_T79 B l).f2⟩:S79) [.string ((rd_T79 B l).f0),.string ((rd_T79 B l).f1),.int .i64 ((rd_T79 B l).f2)] (fun k_=>k_≠ap) (fun _=>False) rfl rfl ?aP (fun _ hk=>hk.elim) ?aF ?aO (Below.refl _ _) ?aS ?aL ?_;(case aP=>exact B9x18_);(case aF=>exact B9x6_);(case aO=>exact(Ar Z));(case aS=>exact B9x9_);(case aL=>have:=da.out;omega);intro dZ d2 ho hb hg hat;rw [←dh.out] at ho;replace ac:=bg ac hg (Kd.R_away Z.out (fun _ hk=>hk));replace HB:=am (below_weaken (Ae2 HB (IsS52.gf D) ar) HL.out hb);replace D:=am (IsS52.grown B9x4_ hg (IsS52.own_ne D.out Z.out (by decide)));replace HK:=am (KeepBut.trans (Ak1 HK aj) (KeepBut.of_grown hg g) (Kd.R_base2 Z.out));have cX:=am ho;clear Z;clear ho hb hg hat));try go_wp2_with (first|((with_reducible refine gate_builtin (b:=.append) (xs:=#[.tmp 63,.tmp 71]) rfl ?_);at_builtin;refine Kd.R_append k79 w.heap.size rfl (.tmp 63) (.tmp 71) 50 79 (.agg #[(.string ⟨#[]⟩),(.string ⟨#[]⟩),(.int .i64 0)]) 40 rfl Tryz.underlying50 info79 rfl (by decide) (by omega) u5 aK (⟨(rd_T79 B l).f0,(rd_T79 B l).f1,(rd_T79 B l).f2⟩:S79) [.string ((rd_T79 B l).f0),.string ((rd_T79 B l).f1),.int .i64 ((rd_T79 B l).f2)] (fun k_=>k_≠ap) (fun _=>False) rfl rfl ?aP (fun _ hk=>hk.elim) ?aF ?aO (Below.refl _ _) ?aS ?aL ?_;(case aP=>exact B9x18_);(case aF=>exact B9x6_);(case aO=>exact(Ar Z));(case aS=>exact B9x9_);(case aL=>have:=da.out;omega);intro dZ d2 ho hb hg hat;rw [←dh.out] at ho;replace ac:=bg ac hg (Kd.R_away Z.out (fun _ hk=>hk));replace HB:=am (below_weaken (Ae2 HB (IsS52.gf D) ar) HL.out hb);replace D:=am (IsS52.grown B9x4_ hg (IsS52.own_ne D.out Z.out (by decide)));replace HK:=am (KeepBut.trans (Ak1 HK aj) (KeepBut.of_grown hg g) (Kd.R_base2 Z.out));have cX:=am ho;clear Z;clear ho hb hg hat)))
     go_roundg k2
     case measure=>have:=aC.out;have:=bj.out;omega
     case rel=>exact⟨(fk),(wrap64 (l+1)),be_,aM,⟨(by have:=aC.out;have:=bj.out;omega)⟩,Cr cX,D1x0_⟩
    have et:(Op.bytesLess aa.toList (((rd_T79 B l).f0).toList))=false:=by simpa using cd
    clear cd;replace aW:=am aW;clear aD aR bE;obtain⟨cI,eU⟩:=D.out;have hC:=cellS52_0 cI;have hD:=cellS52_1 cI;have h0:=blk_frozen cI 1;clear cI eU
    have bL:0≤(l:Int):=dga
    have bQ:l<(B.length:Int):=dga
    obtain⟨dP,dl,e9,fa,fb⟩:=at_T79 (Kd.C_foot_now bd.out HK.out) l bL bQ;cases dl;replace bL:=eq_true bL;replace bQ:=eq_true bQ;obtain⟨eZ,e3⟩:=o2_ bF bk;obtain⟨cO,cP,cQ,cR,cS,cT⟩:=cf3 ac
    go_wp2
    repeat (go_quiet (fail);try go_wp2)
    go_roundg k2
    case measure=>have:=aC.out;have:=bj.out;omega
    case rel=>exact⟨(aK),(wrap64 (l+1)),be_,aW,⟨(by have:=aC.out;have:=bj.out;omega)⟩,Cr Z,D1x0_⟩
   obtain⟨ce,b8⟩|⟨ce,b8⟩:=sp aR
   ·have eu:decide (8<(aK.length:Int))=true:=decide_eq_true ce
    have ev:decide (8<aK.length)=true:=decide_eq_true (by omega)
    clear ce;obtain⟨rfl,rfl⟩:=s2 b8;clear b8 aD aR;obtain⟨cJ,eV⟩:=D.out;have hF:=cellS52_0 cJ;have hG:=cellS52_1 cJ;have h2:=blk_frozen cJ 1;clear cJ eV;obtain⟨fv,fC,eL⟩:=Kd.R_slice Z.out;subst eL
    go_wp2
    repeat (go_quiet (fail);try go_wp2)
    go_ret;exact⟨_,B9x14_,B9x3_,Kd.R_keep HOW.out (Ak1 HK aj) (fun _ h_=>h_),(Ae2 HB (IsS52.gf D) ar),(Ak1 HK aj)⟩
   have eu:decide (8<(aK.length:Int))=false:=decide_eq_false ce
   have ev:decide (8<aK.length)=false:=decide_eq_false (by omega)
   clear ce;obtain⟨rfl,rfl⟩:=s2 b8;clear b8 aD aR;obtain⟨cK,eW⟩:=D.out;have fq:=cellS52_0 cK;have hH:=cellS52_1 cK;have h4:=blk_frozen cK 1;clear cK eW;obtain⟨cC,cL,eM⟩:=Kd.R_slice Z.out;subst eM
   go_wp2
   repeat (go_quiet (fail);try go_wp2)
   go_ret
   exact⟨_,B9x14_,B9x3_,(by first|exact Kd.R_lower (Kd.R_mono (IsS52.apart (show IsS52 w0 _ g (.slice al aU.length ai) (.slice cC aK.length cL) from B9x3_) (tr (Kd.R_mono (Kd.R_far (p:=⟨g,1,none⟩) (IsS52.apart D.out Z.out (by decide)) (fun _ hk=>hk.2) (.slice cC aK.length cL)) (fun _ h_=>h_.1))) (by decide)) (fun _ h_=>h_.2)) HL.out|exact Kd.R_mono (IsS52.apart (show IsS52 w0 _ g (.slice al aU.length ai) (.slice cC aK.length cL) from B9x3_) (tr (Kd.R_mono (Kd.R_far (p:=⟨g,1,none⟩) (IsS52.apart D.out Z.out (by decide)) (fun _ hk=>hk.2) (.slice cC aK.length cL)) (fun _ h_=>h_.1))) (by decide)) (fun _ h_=>h_.2)),(Ae2 HB (IsS52.gf D) ar),(Ak1 HK aj)⟩
theorem B17x11_ (h:p:=by exact(fun k_ hk=>Kd.freshB (g:=az) (o:=.cells #[.string aa,.string ae,.int .i64 af] 59 (0,0)) (Ab Y) k_ hk)):p:=h
theorem B17x14_ (h:p:=by exact(below_size (Ae4 HB aQ aV aY a0))):p:=h
mutual
def spec_l03Put.l0:Nat→Int→List (S59)→ByteArray→ByteArray→Int→List (S59)→Option ((List (S59)))
 |0,_,_,_,_,_,_=>none
 |k+1,x6,aJ,bp,bV,bW,bi=>if x6<(aJ.length:Int) then (if 0≤x6 then (if (Op.bytesLess (((rd_T59 aJ x6).f0).toList) bp.toList)=true then (if bi.length<3518437208883 then (spec_l03Put.l0 k (wrap64 (x6+1)) aJ bp bV bW (bi ++ [(⟨(rd_T59 aJ x6).f0,(rd_T59 aJ x6).f1,(rd_T59 aJ x6).f2⟩:S59)])) else (none)) else (spec_l03Put.l0 k (wrap64 (x6+1)) aJ bp bV bW bi)) else (none)) else (if bi.length<3518437208883 then (spec_l03Put.l1 k 0 aJ bp bV bW (bi ++ [(⟨bp,bV,bW⟩:S59)])) else (none))
def spec_l03Put.l1:Nat→Int→List (S59)→ByteArray→ByteArray→Int→List (S59)→Option ((List (S59)))
 |0,_,_,_,_,_,_=>none
 |k+1,x7,aJ,bp,bV,bW,bi=>if x7<(aJ.length:Int) then (if 0≤x7 then (if (Op.bytesLess bp.toList (((rd_T59 aJ x7).f0).toList))=true then (if bi.length<3518437208883 then (spec_l03Put.l1 k (wrap64 (x7+1)) aJ bp bV bW (bi ++ [(⟨(rd_T59 aJ x7).f0,(rd_T59 aJ x7).f1,(rd_T59 aJ x7).f2⟩:S59)])) else (none)) else (spec_l03Put.l1 k (wrap64 (x7+1)) aJ bp bV bW bi)) else (none)) else (some bi)
end
def spec_l03Put.f (k:Nat) (z:List (S59)) (aa:ByteArray) (ae:ByteArray) (af:Int):Option ((List (S59))):=spec_l03Put.l0 k 0 z aa ae af ([]:List (S59))
def spec_l03Put.T5:Bool × List (List Nat × List Nat):=(true,[([],[]),([0],[0]),([],[]),([1,2],[1,2]),([3],[3]),([4],[4]),([],[]),([6],[6]),([5,7],[5,7])])
def spec_l03Put.B5:List Nat:=[0,1,0,7,15,31,0,64,255]
theorem spec_l03Put.tab5:rtab .any (opsOf Tryz.f20 5)=spec_l03Put.T5:=by kernel_rfl
theorem spec_l03Put.bits5:waitsOk spec_l03Put.T5.2 spec_l03Put.B5=true:=by kernel_rfl
def spec_l03Put.T6:Bool × List (List Nat × List Nat):=(true,[([],[]),([0],[0]),([],[]),([2],[2]),([],[]),([3,4],[3,4]),([5],[5]),([6],[6]),([1,7],[1,7]),([0,1,2,3,4,5,6,7,8],[]),([9,8,8,0,1,2,3,4,5,6,7,8],[8,9])])
def spec_l03Put.B6:List Nat:=[0,1,0,4,0,28,60,124,255,511,1023]
theorem spec_l03Put.tab6:rtab .any (opsOf Tryz.f20 6)=spec_l03Put.T6:=by kernel_rfl
theorem spec_l03Put.bits6:waitsOk spec_l03Put.T6.2 spec_l03Put.B6=true:=by kernel_rfl
def spec_l03Put.T11:Bool × List (List Nat × List Nat):=(true,[([],[]),([0],[0]),([],[]),([1,2],[1,2]),([3],[3]),([4],[4]),([],[]),([6],[6]),([5,7],[5,7])])
def spec_l03Put.B11:List Nat:=[0,1,0,7,15,31,0,64,255]
theorem spec_l03Put.tab11:rtab .any (opsOf Tryz.f20 11)=spec_l03Put.T11:=by kernel_rfl
theorem spec_l03Put.bits11:waitsOk spec_l03Put.T11.2 spec_l03Put.B11=true:=by kernel_rfl
def spec_l03Put.T12:Bool × List (List Nat × List Nat):=(true,[([],[]),([0],[0]),([],[]),([2],[2]),([],[]),([3,4],[3,4]),([5],[5]),([6],[6]),([1,7],[1,7]),([0,1,2,3,4,5,6,7,8],[]),([9,8,8,0,1,2,3,4,5,6,7,8],[8,9])])
def spec_l03Put.B12:List Nat:=[0,1,0,4,0,28,60,124,255,511,1023]
theorem spec_l03Put.tab12:rtab .any (opsOf Tryz.f20 12)=spec_l03Put.T12:=by kernel_rfl
theorem spec_l03Put.bits12:waitsOk spec_l03Put.T12.2 spec_l03Put.B12=true:=by kernel_rfl
theorem spec_l03Put.calls (k:Nat) (al:Option Addr) (ai:Nat) (z:List (S59)) (aa:ByteArray) (ae:ByteArray) (af:Int) (r:List (S59)) (w:World) (b4:Kd.C k59 w al z.length z) (bq:z.length≤ai) (h:spec_l03Put.f k z aa ae af=some r) :
  Calls Tryz.prog 20 #[.agg #[.slice al z.length ai],.agg #[.string aa,.string ae,.int .i64 af]] w fun e w'=>∃ dV:Value,e=.returned (.agg #[dV])∧Kd.R k59 59 w' w.heap.size (fun _=>True) dV r∧Below w.heap.size w w':=by
 have g1:=Tryz.underlying26
 have g3:=Tryz.underlying59
 have bY:=am b4
 have dH:=am bq
 clear b4 bq
 have HB:=am (Below.refl w.heap.size w)
 have au:=h
 clear h
 unfold spec_l03Put.f at au
 replace au:=am au
 go_enter Tryz.func20,Tryz.ntmps20
 go_wp2_with (first|((with_reducible refine gate_dst (N:=2) rfl ?_);refine bx (N:=2) (cs:=#[.slice al z.length ai]) (t:=26) ?_;intro aT hg w3 hbox hb;have J:=am hbox;have aQ:=gA hg HB;replace HB:=hA HB hb;clear hb hbox hg)|((with_reducible refine gate_dst (N:=3) rfl ?_);refine bx (N:=3) (cs:=#[.string aa,.string ae,.int .i64 af]) (t:=59) ?_;intro az hg w4 hbox hb;have Y:=am hbox;have aV:=gA hg HB;replace HB:=De1 HB aQ hb;have bZ:=nA hg J;have b1:=mA hg J;replace J:=bA J hb;clear hb hbox hg)|((with_reducible refine gate_dst (N:=4) rfl ?_);refine bx (N:=4) (cs:=#[.slice none 0 0]) (t:=26) ?_;intro cM hg w5 hbox hb;have ad:=am hbox;have aY:=gA hg HB;replace HB:=De2 HB aQ aV hb;have b0:=nA hg J;have b2:=mA hg J;replace J:=bA J hb;have dL:=nA hg Y;have dM:=mA hg Y;replace Y:=bA Y hb;clear hb hbox hg)|((with_reducible refine gate_dst (N:=5) rfl ?_);refine bx (N:=5) (cs:=#[.slice none 0 0]) (t:=26) ?_;intro bh hg w6 hbox hb;have U:=am hbox;have a0:=gA hg HB;replace HB:=De3 HB aQ aV aY hb;have aX:=nA hg J;have bn:=mA hg J;replace J:=bA J hb;have bl:=nA hg Y;have b9:=mA hg Y;replace Y:=bA Y hb;have bm:=nA hg ad;have ca:=mA hg ad;replace ad:=bA ad hb;clear hb hbox hg;have gg:=bn.out;have gP:=aX.out;have e0:=b9.out;have e4:=bl.out;have gh:=ca.out;have gQ:=bm.out;have fl:w6.cell? ⟨bh,0,none⟩=some (.slice none 0 0):=bc U 0;have hT:=blk_frozen U.out 0))
 go_loopg [6] k (fun kq v6 w'=>∃ (j:Int) (bC:List (S59)) (aA:Value),v6=.int .i64 j∧Aside0 (spec_l03Put.l0 kq j z aa ae af bC=some r)∧Aside0 (kq≤k)∧Aside0 (Kd.R k59 59 w' w.heap.size (fun k_=>k_≠az) aA bC)∧Aside0 (w'.heap[aT]?=some (.cells #[(.slice al z.length ai)] 26 (0,0)))∧Aside0 (w'.heap[az]?=some (.cells #[.string aa,.string ae,.int .i64 af] 59 (0,0)))∧Aside0 (w'.heap[cM]?=some (.cells #[(.slice none 0 0)] 26 (0,0)))∧Aside0 (w'.heap[bh]?=some (.cells #[aA] 26 (0,0)))∧Aside0 (Below w.heap.size w w'))
 case atStart=>exact⟨(0),(([]:List (S59))),(.slice none 0 0),be_,au,⟨Nat.le_refl _⟩,⟨gn_⟩,D1x1_⟩
 case round=>
  clear au;obtain⟨j,bC,aA,rfl,ak,aC,ag,J,Y,ad,U,HB⟩:=hrel
  cases gk with
  |zero=>exact absurd ak.out (by simp [spec_l03Put.l0])
  |succ k1=>?_
  replace ak:=ak.out;simp only [spec_l03Put.l0] at ak
  obtain⟨dQ,av⟩|⟨dQ,av⟩:=sd ak
  ·obtain⟨fx,a2⟩:=yd av
   obtain⟨cc,aw⟩|⟨cc,aw⟩:=sp a2
   ·have eq:(Op.bytesLess (((rd_T59 z j).f0).toList) aa.toList)=true:=cc
    clear cc;obtain⟨ef,aN⟩:=ya aw;obtain⟨d3,cz⟩:∃ y_:List (S59),y_=(bC ++ [(⟨(rd_T59 z j).f0,(rd_T59 z j).f1,(rd_T59 z j).f2⟩:S59)]):=⟨_,rfl⟩
    (first|with_reducible replace aN:=hq cz aN|rw [←cz] at aN|simp only [←cz] at aN)
    have ei:=am cz;clear cz;replace aN:=am aN;clear ak av a2 aw;obtain⟨eY,e2,fM,gj,fN,gl⟩:=o6_ bZ b1 b0 b2 aX bn
    have fm:wr.cell? ⟨aT,0,none⟩=some (.slice al z.length ai):=bc J 0
    have hW:=blk_frozen J.out 0
    try go_wp2
    replace ag:=eA ag;replace J:=dA J;replace Y:=dA Y;replace ad:=dA ad;replace U:=dA U;replace HB:=bdr HB
    have bM:0≤(j:Int):=dga
    have bR:j<(z.length:Int):=dga
    obtain⟨ax,dm,a3,a4,a5⟩:=at_T59 bY.out j bM bR;have ck:=a5;have cj:=a4;have ci:=a3;cases dm;replace a3:=(hbc HB a3).trans a3;replace a4:=(hbc HB a4).trans a4;replace a5:=(hbc HB a5).trans a5;replace bM:=eq_true bM;replace bR:=eq_true bR;refine st_ 9 (fun w'=>w'.cell? ⟨aT,0,none⟩=some (.slice (some ax) z.length ai)∧w'.cell? ⟨az,0,none⟩=some (.string aa)∧w'.cell? ⟨az,1,none⟩=some (.string ae)∧w'.cell? ⟨az,2,none⟩=some (.int .i64 af)∧w'.cell? (ax.add ((j).toNat * 3))=some (.string ((rd_T59 z j).f0))∧w'.cell? ⟨(ax.add ((j).toNat * 3)).block,(ax.add ((j).toNat * 3)).off+1,none⟩=some (.string ((rd_T59 z j).f1))∧w'.cell? ⟨(ax.add ((j).toNat * 3)).block,(ax.add ((j).toNat * 3)).off+2,none⟩=some (.int .i64 ((rd_T59 z j).f2))) [] spec_l03Put.tab5 spec_l03Put.bits5 D1x3_ (fun ah M ao=>?_);generalize wr.drew=fc at ag J Y ad U HB a3 a4 a5 ah ⊢;refine pu_ 0 16 M ?_;refine pu_ 2 18 M ?_;refine pu_ 6 22 M ?_;refine ta_ 1 17 M ao ah ?_;refine pu_ 3 19 M ?_;refine pu_ 4 20 M ?_;refine ta_ 5 21 M ao ah ?_;refine ta_ 7 23 M ao ah ?_;refine pu_ 8 24 M ?_;refine done_ (done_of M.out gk_) ?_
    try go_wp2
    replace ag:=eA ag;replace J:=dA J;replace Y:=dA Y;replace ad:=dA ad;replace U:=dA U;replace HB:=bdr HB
    have dw:0≤(j:Int):=dga
    have dC:j<(z.length:Int):=dga
    obtain⟨eo,eJ,co,cp,cq⟩:=at_T59 bY.out j dw dC;have bv:=cq;have bu:=cp;have br:=co;obtain rfl:ax=eo:=(by injection eJ);replace co:=(hbc HB co).trans co;replace cp:=(hbc HB cp).trans cp;replace cq:=(hbc HB cq).trans cq;replace dw:=eq_true dw;replace dC:=eq_true dC;refine st_ 11 (fun w'=>w'.cell? ⟨bh,0,none⟩=some (aA)∧w'.cell? ⟨aT,0,none⟩=some (.slice (some ax) z.length ai)∧w'.cell? (ax.add ((j).toNat * 3))=some (.string ((rd_T59 z j).f0))∧w'.cell? ⟨(ax.add ((j).toNat * 3)).block,(ax.add ((j).toNat * 3)).off+1,none⟩=some (.string ((rd_T59 z j).f1))∧w'.cell? ⟨(ax.add ((j).toNat * 3)).block,(ax.add ((j).toNat * 3)).off+2,none⟩=some (.int .i64 ((rd_T59 z j).f2))) [10] spec_l03Put.tab6 spec_l03Put.bits6 ⟨bc U 0,bc J 0,((hbc HB br).trans br),((hbc HB bu).trans bu),((hbc HB bv).trans bv)⟩ (fun ah M ao=>?_);generalize fc.drew=hh at ag J Y ad U HB co cp cq ah ⊢;refine pu_ 0 25 M ?_;refine pu_ 2 27 M ?_;refine pu_ 4 29 M ?_;refine ta_ 1 26 M ao ah ?_;refine ta_ 3 28 M ao ah ?_;refine pu_ 5 30 M ?_;refine ta_ 6 31 M ao ah ?_;refine on_ 7 (some 32) M (fun K hK=>?_);refine value_ (w1:=?_) (v:=?_) (by rfl) rfl ?_ ?_
    rotate_left 2
    ·go_simp
     constructor
     ·rfl
     rfl
    refine hK.out _ _ ⟨(blk_cell (blk_alloc U.out _) 0).trans rfl,(blk_cell (blk_alloc J.out _) 0).trans rfl,(World.cell?_alloc_lt _ _ _ (World.block_lt_of_cell? _ _ (((hbc HB br).trans br)))).trans (((hbc HB br).trans br)),(World.cell?_alloc_lt _ _ _ (World.block_lt_of_cell? _ _ (((hbc HB bu).trans bu)))).trans (((hbc HB bu).trans bu)),(World.cell?_alloc_lt _ _ _ (World.block_lt_of_cell? _ _ (((hbc HB bv).trans bv)))).trans (((hbc HB bv).trans bv))⟩ (fun ah=>nm_ ?_);clear hK K;refine on_ 8 (some 33) M (fun K hK=>?_);refine Kd.R_append_step k59 (w0:=w) w.heap.size (by rfl) (.tmp 26) (.tmp 32) 24 59 (.agg #[(.string ⟨#[]⟩),(.string ⟨#[]⟩),(.int .i64 0)]) 40 rfl Tryz.underlying24 info59 rfl (by decide) (by omega) aA bC (⟨(rd_T59 z j).f0,(rd_T59 z j).f1,(rd_T59 z j).f2⟩:S59) [.string ((rd_T59 z j).f0),.string ((rd_T59 z j).f1),.int .i64 ((rd_T59 z j).f2)] (fun k_=>k_≠az) (fun _=>False) rfl rfl ?aP (fun _ hk=>hk.elim) ?aF ?aO ?aB ?aS ?aL ?_
    (case aP=>exact k59_mkM _ _ _ (⟨(rd_T59 z j).f0,(rd_T59 z j).f1,(rd_T59 z j).f2⟩:S59))
    (case aB=>exact(Ae4 HB aQ aV aY a0))
    (case aF=>exact B17x11_)
    (case aO=>exact(Ar ag))
    (case aS=>exact B17x14_)
    (case aL=>have:=ef.out;omega)
    intro ha cN ho hb hg hat;rw [←ei.out] at ho;replace J:=bg J hg (Kd.R_ne ag.out J.out (by decide));replace Y:=bg Y hg (Kd.R_away ag.out (fun _ hk=>hk));replace ad:=bg ad hg (Kd.R_ne ag.out ad.out (by decide));replace U:=bg U hg (Kd.R_ne ag.out U.out (by decide));replace HB:=am hb;have dI:=am ho;clear ag;clear ho hb hg hat;obtain⟨ea,eC,dS⟩:=Kd.R_slice dI.out
    (first|subst dS|(injection dS with f1_ f2_ f3_;have f4_:=f1_.symm;have f5_:=f3_.symm;clear f1_ f2_ f3_;subst f4_;subst f5_))
    refine hK.out _ _ ⟨bc U 0,bc J 0,((hbc HB br).trans br),((hbc HB bu).trans bu),((hbc HB bv).trans bv)⟩ (fun ah=>nm_ ?_);clear hK K;refine pu_ 9 34 M ?_;refine last_ (i:=10) (N:=none) #[true,true,true,true,true,true,true,true,true,true,true] rfl rfl (one_of M.out gk_) (by decide) (fun K hK=>?_)
    have gZ:cN.cell? ⟨bh,0,none⟩=some (aA):=bc U 0
    have fD:=blk_frozen U.out 0;obtain⟨gR,gU,gV,fF,fG,fH⟩:=o6_ aX bl bm bn b9 ca;refine skip_ (w1:=?_) (by rfl) rfl ?_ ?_;rotate_left
    ·go_simp;rfl
    refine hK.out _ _ ?_;clear hK K;refine done_ (done_of M.out gk_) ?_
    try go_wp2
    go_roundg k1
    case measure=>have:=aC.out;omega
    case rel=>exact⟨(wrap64 (j+1)),d3,(.slice ea d3.length eC),be_,aN,⟨(by have:=aC.out;omega)⟩,⟨tfg dI.out U.out (by decide)⟩,D1x1_⟩
   have eq:(Op.bytesLess (((rd_T59 z j).f0).toList) aa.toList)=false:=by simpa using cc
   clear cc;replace aw:=am aw;clear ak av a2;obtain⟨fP,gn,fQ,gp,fR,gq⟩:=o6_ bZ b1 b0 b2 aX bn
   have hz:wr.cell? ⟨aT,0,none⟩=some (.slice al z.length ai):=bc J 0
   have hZ:=blk_frozen J.out 0
   try go_wp2
   replace ag:=eA ag;replace J:=dA J;replace Y:=dA Y;replace ad:=dA ad;replace U:=dA U;replace HB:=bdr HB
   have bM:0≤(j:Int):=dga
   have bR:j<(z.length:Int):=dga
   obtain⟨ax,dm,a3,a4,a5⟩:=at_T59 bY.out j bM bR;have ck:=a5;have cj:=a4;have ci:=a3;cases dm;replace a3:=(hbc HB a3).trans a3;replace a4:=(hbc HB a4).trans a4;replace a5:=(hbc HB a5).trans a5;replace bM:=eq_true bM;replace bR:=eq_true bR;refine st_ 9 (fun w'=>w'.cell? ⟨aT,0,none⟩=some (.slice (some ax) z.length ai)∧w'.cell? ⟨az,0,none⟩=some (.string aa)∧w'.cell? ⟨az,1,none⟩=some (.string ae)∧w'.cell? ⟨az,2,none⟩=some (.int .i64 af)∧w'.cell? (ax.add ((j).toNat * 3))=some (.string ((rd_T59 z j).f0))∧w'.cell? ⟨(ax.add ((j).toNat * 3)).block,(ax.add ((j).toNat * 3)).off+1,none⟩=some (.string ((rd_T59 z j).f1))∧w'.cell? ⟨(ax.add ((j).toNat * 3)).block,(ax.add ((j).toNat * 3)).off+2,none⟩=some (.int .i64 ((rd_T59 z j).f2))) [] spec_l03Put.tab5 spec_l03Put.bits5 D1x3_ (fun ah M ao=>?_);generalize wr.drew=hj at ag J Y ad U HB a3 a4 a5 ah ⊢;refine pu_ 0 16 M ?_;refine pu_ 2 18 M ?_;refine pu_ 6 22 M ?_;refine ta_ 1 17 M ao ah ?_;refine pu_ 3 19 M ?_;refine pu_ 4 20 M ?_;refine ta_ 5 21 M ao ah ?_;refine ta_ 7 23 M ao ah ?_;refine pu_ 8 24 M ?_;refine done_ (done_of M.out gk_) ?_
   try go_wp2
   go_roundg k1
   case measure=>have:=aC.out;omega
   case rel=>exact⟨(wrap64 (j+1)),bC,aA,be_,aw,⟨(by have:=aC.out;omega)⟩,Cr ag,Cb J,Cb Y,Cb ad,Cb U,Ce4 HB aQ aV aY a0⟩
  obtain⟨eg,aE⟩:=ya av;obtain⟨d4,cA⟩:∃ y_:List (S59),y_=(bC ++ [(⟨aa,ae,af⟩:S59)]):=⟨_,rfl⟩
  (first|with_reducible replace aE:=hq cA aE|rw [←cA] at aE|simp only [←cA] at aE)
  have ej:=am cA;clear cA;replace aE:=am aE;clear ak av;obtain⟨fT,gs,eZ,e3,fU,gu⟩:=o6_ bZ b1 b0 b2 aX bn
  have hE:wr.cell? ⟨aT,0,none⟩=some (.slice al z.length ai):=bc J 0
  have h1:=blk_frozen J.out 0;obtain⟨fV,gv,fW,gw⟩:=o4_ b9 bl ca bm
  have fq:wr.cell? ⟨bh,0,none⟩=some (aA):=bc U 0
  have h3:=blk_frozen U.out 0;obtain⟨fX,gx⟩:=o2_ dL dM;obtain⟨hL,hM,hN,h6,h7,h8⟩:=cf3 Y
  go_wp2_with (first|((with_reducible refine gate_builtin (b:=.append) (xs:=#[.tmp 36,.tmp 38]) rfl ?_);at_builtin;refine Kd.R_append k59 (w0:=w) w.heap.size rfl (.tmp 36) (.tmp 38) 24 59 (.agg #[(.string ⟨#[]⟩),(.string ⟨#[]⟩),(.int .i64 0)]) 40 rfl Tryz.underlying24 info59 rfl (by decide) (by omega) aA bC (⟨aa,ae,af⟩:S59) [.string aa,.string ae,.int .i64 af] (fun k_=>k_≠az) (fun _=>False) rfl rfl ?aP (fun _ hk=>hk.elim) ?aF ?aO ?aB ?aS ?aL ?_;(case aP=>exact k59_mkM _ _ _ (⟨aa,ae,af⟩:S59));(case aB=>exact(Ae4 HB aQ aV aY a0));(case aF=>exact B17x11_);(case aO=>exact(Ar ag));(case aS=>exact B17x14_);(case aL=>have:=eg.out;omega);intro he fd ho hb hg hat;rw [←ej.out] at ho;replace J:=bg J hg (Kd.R_ne ag.out J.out (by decide));replace Y:=bg Y hg (Kd.R_away ag.out (fun _ hk=>hk));replace ad:=bg ad hg (Kd.R_ne ag.out ad.out (by decide));replace U:=bg U hg (Kd.R_ne ag.out U.out (by decide));replace HB:=am hb;have dJ:=am ho;clear ag;clear ho hb hg hat;obtain⟨eb,eD,eN⟩:=Kd.R_slice dJ.out;subst eN;have hJ:fd.cell? ⟨bh,0,none⟩=some (aA):=bc U 0;have h5:=blk_frozen U.out 0))
  go_loopg [7] k1 (fun kq v7 w'=>∃ (l:Int) (bX:List (S59)) (aA:Value),v7=.int .i64 l∧Aside0 (spec_l03Put.l1 kq l z aa ae af bX=some r)∧Aside0 (kq≤k1)∧Aside0 (Kd.R k59 59 w' w.heap.size (fun k_=>k_≠az) aA bX)∧Aside0 (w'.heap[aT]?=some (.cells #[(.slice al z.length ai)] 26 (0,0)))∧Aside0 (w'.heap[az]?=some (.cells #[.string aa,.string ae,.int .i64 af] 59 (0,0)))∧Aside0 (w'.heap[cM]?=some (.cells #[(.slice none 0 0)] 26 (0,0)))∧Aside0 (w'.heap[bh]?=some (.cells #[aA] 26 (0,0)))∧Aside0 (Below w.heap.size w w'))
  case atStart=>exact⟨(0),d4,(.slice eb d4.length eD),be_,aE,⟨Nat.le_refl _⟩,⟨tfg dJ.out U.out (by decide)⟩,D1x1_⟩
  case round=>
   clear aE
   try clear fw
   try clear dQ
   try clear fA
   obtain⟨l,bX,aA,rfl,aD,bj,ag,J,Y,ad,U,HB⟩:=hrel
   cases gk with
   |zero=>exact absurd aD.out (by simp [spec_l03Put.l1])
   |succ k2=>?_
   replace aD:=aD.out;simp only [spec_l03Put.l1] at aD
   obtain⟨ew,aR⟩|⟨ew,aR⟩:=sd aD
   ·obtain⟨fB,bE⟩:=yd aR
    obtain⟨cf,aW⟩|⟨cf,aW⟩:=sp bE
    ·have ex:(Op.bytesLess aa.toList (((rd_T59 z l).f0).toList))=true:=cf
     clear cf;obtain⟨eh,aM⟩:=ya aW;obtain⟨d5,cB⟩:∃ y_:List (S59),y_=(bX ++ [(⟨(rd_T59 z l).f0,(rd_T59 z l).f1,(rd_T59 z l).f2⟩:S59)]):=⟨_,rfl⟩
     (first|with_reducible replace aM:=hq cB aM|rw [←cB] at aM|simp only [←cB] at aM)
     have ek:=am cB;clear cB;replace aM:=am aM;clear aD aR bE aW;obtain⟨fY,gy,fZ,gB,f2,gC⟩:=o6_ bZ b1 b0 b2 aX bn
     have hO:wr.cell? ⟨aT,0,none⟩=some (.slice al z.length ai):=bc J 0
     have h9:=blk_frozen J.out 0
     try go_wp2
     replace ag:=eA ag;replace J:=dA J;replace Y:=dA Y;replace ad:=dA ad;replace U:=dA U;replace HB:=bdr HB
     have bN:0≤(l:Int):=dga
     have bS:l<(z.length:Int):=dga
     obtain⟨ay,dn,a6,a7,a8⟩:=at_T59 bY.out l bN bS;have cn:=a8;have cm:=a7;have cl:=a6;cases dn;replace a6:=(hbc HB a6).trans a6;replace a7:=(hbc HB a7).trans a7;replace a8:=(hbc HB a8).trans a8;replace bN:=eq_true bN;replace bS:=eq_true bS;refine st_ 9 (fun w'=>w'.cell? ⟨aT,0,none⟩=some (.slice (some ay) z.length ai)∧w'.cell? ⟨az,0,none⟩=some (.string aa)∧w'.cell? ⟨az,1,none⟩=some (.string ae)∧w'.cell? ⟨az,2,none⟩=some (.int .i64 af)∧w'.cell? (ay.add ((l).toNat * 3))=some (.string ((rd_T59 z l).f0))∧w'.cell? ⟨(ay.add ((l).toNat * 3)).block,(ay.add ((l).toNat * 3)).off+1,none⟩=some (.string ((rd_T59 z l).f1))∧w'.cell? ⟨(ay.add ((l).toNat * 3)).block,(ay.add ((l).toNat * 3)).off+2,none⟩=some (.int .i64 ((rd_T59 z l).f2))) [] spec_l03Put.tab11 spec_l03Put.bits11 D1x2_ (fun ah M ao=>?_);generalize wr.drew=fe at ag J Y ad U HB a6 a7 a8 ah ⊢;refine pu_ 0 48 M ?_;refine pu_ 2 50 M ?_;refine pu_ 6 54 M ?_;refine ta_ 1 49 M ao ah ?_;refine pu_ 3 51 M ?_;refine pu_ 4 52 M ?_;refine ta_ 5 53 M ao ah ?_;refine ta_ 7 55 M ao ah ?_;refine pu_ 8 56 M ?_;refine done_ (done_of M.out gk_) ?_
     try go_wp2
     replace ag:=eA ag;replace J:=dA J;replace Y:=dA Y;replace ad:=dA ad;replace U:=dA U;replace HB:=bdr HB
     have dx:0≤(l:Int):=dga
     have dD:l<(z.length:Int):=dga
     obtain⟨ep,eK,cr,ct,cu⟩:=at_T59 bY.out l dx dD;have bB:=cu;have bz:=ct;have bw:=cr;obtain rfl:ay=ep:=(by injection eK);replace cr:=(hbc HB cr).trans cr;replace ct:=(hbc HB ct).trans ct;replace cu:=(hbc HB cu).trans cu;replace dx:=eq_true dx;replace dD:=eq_true dD;refine st_ 11 (fun w'=>w'.cell? ⟨bh,0,none⟩=some (aA)∧w'.cell? ⟨aT,0,none⟩=some (.slice (some ay) z.length ai)∧w'.cell? (ay.add ((l).toNat * 3))=some (.string ((rd_T59 z l).f0))∧w'.cell? ⟨(ay.add ((l).toNat * 3)).block,(ay.add ((l).toNat * 3)).off+1,none⟩=some (.string ((rd_T59 z l).f1))∧w'.cell? ⟨(ay.add ((l).toNat * 3)).block,(ay.add ((l).toNat * 3)).off+2,none⟩=some (.int .i64 ((rd_T59 z l).f2))) [10] spec_l03Put.tab12 spec_l03Put.bits12 ⟨bc U 0,bc J 0,((hbc HB bw).trans bw),((hbc HB bz).trans bz),((hbc HB bB).trans bB)⟩ (fun ah M ao=>?_);generalize fe.drew=hl at ag J Y ad U HB cr ct cu ah ⊢;refine pu_ 0 57 M ?_;refine pu_ 2 59 M ?_;refine pu_ 4 61 M ?_;refine ta_ 1 58 M ao ah ?_;refine ta_ 3 60 M ao ah ?_;refine pu_ 5 62 M ?_;refine ta_ 6 63 M ao ah ?_;refine on_ 7 (some 64) M (fun K hK=>?_);refine value_ (w1:=?_) (v:=?_) (by rfl) rfl ?_ ?_
     rotate_left 2
     ·go_simp
      constructor
      ·rfl
      rfl
     refine hK.out _ _ ⟨(blk_cell (blk_alloc U.out _) 0).trans rfl,(blk_cell (blk_alloc J.out _) 0).trans rfl,(World.cell?_alloc_lt _ _ _ (World.block_lt_of_cell? _ _ (((hbc HB bw).trans bw)))).trans (((hbc HB bw).trans bw)),(World.cell?_alloc_lt _ _ _ (World.block_lt_of_cell? _ _ (((hbc HB bz).trans bz)))).trans (((hbc HB bz).trans bz)),(World.cell?_alloc_lt _ _ _ (World.block_lt_of_cell? _ _ (((hbc HB bB).trans bB)))).trans (((hbc HB bB).trans bB))⟩ (fun ah=>nm_ ?_);clear hK K;refine on_ 8 (some 65) M (fun K hK=>?_);refine Kd.R_append_step k59 (w0:=w) w.heap.size (by rfl) (.tmp 58) (.tmp 64) 24 59 (.agg #[(.string ⟨#[]⟩),(.string ⟨#[]⟩),(.int .i64 0)]) 40 rfl Tryz.underlying24 info59 rfl (by decide) (by omega) aA bX (⟨(rd_T59 z l).f0,(rd_T59 z l).f1,(rd_T59 z l).f2⟩:S59) [.string ((rd_T59 z l).f0),.string ((rd_T59 z l).f1),.int .i64 ((rd_T59 z l).f2)] (fun k_=>k_≠az) (fun _=>False) rfl rfl ?aP (fun _ hk=>hk.elim) ?aF ?aO ?aB ?aS ?aL ?_
     (case aP=>exact k59_mkM _ _ _ (⟨(rd_T59 z l).f0,(rd_T59 z l).f1,(rd_T59 z l).f2⟩:S59))
     (case aB=>exact(Ae4 HB aQ aV aY a0))
     (case aF=>exact B17x11_)
     (case aO=>exact(Ar ag))
     (case aS=>exact B17x14_)
     (case aL=>have:=eh.out;omega)
     intro hf ff ho hb hg hat;rw [←ek.out] at ho;replace J:=bg J hg (Kd.R_ne ag.out J.out (by decide));replace Y:=bg Y hg (Kd.R_away ag.out (fun _ hk=>hk));replace ad:=bg ad hg (Kd.R_ne ag.out ad.out (by decide));replace U:=bg U hg (Kd.R_ne ag.out U.out (by decide));replace HB:=am hb;have dK:=am ho;clear ag;clear ho hb hg hat;obtain⟨ec,eE,dT⟩:=Kd.R_slice dK.out
     (first|subst dT|(injection dT with f1_ f2_ f3_;have f4_:=f1_.symm;have f5_:=f3_.symm;clear f1_ f2_ f3_;subst f4_;subst f5_))
     refine hK.out _ _ ⟨bc U 0,bc J 0,((hbc HB bw).trans bw),((hbc HB bz).trans bz),((hbc HB bB).trans bB)⟩ (fun ah=>nm_ ?_);clear hK K;refine pu_ 9 66 M ?_;refine last_ (i:=10) (N:=none) #[true,true,true,true,true,true,true,true,true,true,true] rfl rfl (one_of M.out gk_) (by decide) (fun K hK=>?_)
     have g0:ff.cell? ⟨bh,0,none⟩=some (aA):=bc U 0
     have fE:=blk_frozen U.out 0;obtain⟨gW,gX,gY,fI,fJ,fK⟩:=o6_ aX bl bm bn b9 ca;refine skip_ (w1:=?_) (by rfl) rfl ?_ ?_;rotate_left
     ·go_simp;rfl
     refine hK.out _ _ ?_;clear hK K;refine done_ (done_of M.out gk_) ?_
     try go_wp2
     go_roundg k2
     case measure=>have:=aC.out;have:=bj.out;omega
     case rel=>exact⟨(wrap64 (l+1)),d5,(.slice ec d5.length eE),be_,aM,⟨(by have:=aC.out;have:=bj.out;omega)⟩,⟨tfg dK.out U.out (by decide)⟩,D1x1_⟩
    have ex:(Op.bytesLess aa.toList (((rd_T59 z l).f0).toList))=false:=by simpa using cf
    clear cf;replace aW:=am aW;clear aD aR bE;obtain⟨f3,gD,f4,gE,f5,gF⟩:=o6_ bZ b1 b0 b2 aX bn
    have hP:wr.cell? ⟨aT,0,none⟩=some (.slice al z.length ai):=bc J 0
    have ia:=blk_frozen J.out 0
    try go_wp2
    replace ag:=eA ag;replace J:=dA J;replace Y:=dA Y;replace ad:=dA ad;replace U:=dA U;replace HB:=bdr HB
    have bN:0≤(l:Int):=dga
    have bS:l<(z.length:Int):=dga
    obtain⟨ay,dn,a6,a7,a8⟩:=at_T59 bY.out l bN bS;have cn:=a8;have cm:=a7;have cl:=a6;cases dn;replace a6:=(hbc HB a6).trans a6;replace a7:=(hbc HB a7).trans a7;replace a8:=(hbc HB a8).trans a8;replace bN:=eq_true bN;replace bS:=eq_true bS;refine st_ 9 (fun w'=>w'.cell? ⟨aT,0,none⟩=some (.slice (some ay) z.length ai)∧w'.cell? ⟨az,0,none⟩=some (.string aa)∧w'.cell? ⟨az,1,none⟩=some (.string ae)∧w'.cell? ⟨az,2,none⟩=some (.int .i64 af)∧w'.cell? (ay.add ((l).toNat * 3))=some (.string ((rd_T59 z l).f0))∧w'.cell? ⟨(ay.add ((l).toNat * 3)).block,(ay.add ((l).toNat * 3)).off+1,none⟩=some (.string ((rd_T59 z l).f1))∧w'.cell? ⟨(ay.add ((l).toNat * 3)).block,(ay.add ((l).toNat * 3)).off+2,none⟩=some (.int .i64 ((rd_T59 z l).f2))) [] spec_l03Put.tab11 spec_l03Put.bits11 D1x2_ (fun ah M ao=>?_);generalize wr.drew=hm at ag J Y ad U HB a6 a7 a8 ah ⊢;refine pu_ 0 48 M ?_;refine pu_ 2 50 M ?_;refine pu_ 6 54 M ?_;refine ta_ 1 49 M ao ah ?_;refine pu_ 3 51 M ?_;refine pu_ 4 52 M ?_;refine ta_ 5 53 M ao ah ?_;refine ta_ 7 55 M ao ah ?_;refine pu_ 8 56 M ?_;refine done_ (done_of M.out gk_) ?_
    try go_wp2
    go_roundg k2
    case measure=>have:=aC.out;have:=bj.out;omega
    case rel=>exact⟨(wrap64 (l+1)),bX,aA,be_,aW,⟨(by have:=aC.out;have:=bj.out;omega)⟩,Cr ag,Cb J,Cb Y,Cb ad,Cb U,Ce4 HB aQ aV aY a0⟩
   obtain rfl:=Option.some.inj aR;clear aR aD;obtain⟨f6,gG,f7,gH,f8,gI⟩:=o6_ bZ b1 b0 b2 aX bn
   have hQ:wr.cell? ⟨aT,0,none⟩=some (.slice al z.length ai):=bc J 0
   have ib:=blk_frozen J.out 0;obtain⟨f9,gJ,ga,gN⟩:=o4_ b9 bl ca bm
   have hR:wr.cell? ⟨bh,0,none⟩=some (aA):=bc U 0
   have ic:=blk_frozen U.out 0;obtain⟨ed,eF,eO⟩:=Kd.R_slice ag.out;subst eO;obtain⟨gb,gO⟩:=o2_ dM dL
   have hS:wr.cell? ⟨cM,0,none⟩=some (.slice none 0 0):=bc ad 0
   have ie:=blk_frozen ad.out 0
   go_wp2
   refine bodyPost_ret (results_cell_row rfl _ _ cM 26 #[.slice ed bX.length eF] (0,0) _ rfl (Ap0 ad) Tryz.underlying26 rfl gk_) rfl ?_
   exact⟨_,(by first|rfl|(simp [errW_none,errW_some] <;> rfl)|(simp [*,errW_none,errW_some] <;> rfl)),(tfg ag.out ad.out (by decide)),(Ae4 HB aQ aV aY a0)⟩
end
end Go.Proofs.YtofmbomonkbeaaaGreatDoor.QFnSnapsCut
