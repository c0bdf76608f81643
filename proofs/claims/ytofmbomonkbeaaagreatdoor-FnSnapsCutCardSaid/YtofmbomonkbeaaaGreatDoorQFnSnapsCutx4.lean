/- Functions that a law reaches, as functions of Lean, and the walks that show that the calls come to their answers. No condition. -/
import Derived.Test.YtofmbomonkbeaaaGreatDoorQFnSnapsCutx0
import Derived.Test.YtofmbomonkbeaaaGreatDoorQFnSnapsCutx1
import Derived.Test.YtofmbomonkbeaaaGreatDoorVFnSnapsCuthort3
import Derived.Test.YtofmbomonkbeaaaGreatDoorVFnSnapsCuthort2
import Derived.Test.YtofmbomonkbeaaaGreatDoorVFnSnapsCuthort
import Derived.Test.YtofmbomonkbeaaaGreatDoorVFnSnapsCuthort8
namespace Go.Proofs.YtofmbomonkbeaaaGreatDoor.QFnSnapsCut
open Go.RowKit Go.Proofs.YtofmbomonkbeaaaGreatDoorW.PrintWords Go.Proofs.YtofmbomonkbeaaaGreatDoorW.PrintLast Go.Proofs.YtofmbomonkbeaaaGreatDoorW.PrintMore Go.Proofs.YtofmbomonkbeaaaGreatDoor.Short
set_option linter.unusedVariables false
set_option linter.unusedSimpArgs false
set_option maxHeartbeats 8000000
set_option maxRecDepth 100000
variable {p:Prop}
theorem D4x0_ (h:p:=by exact⟨⟨B13x0_⟩,Ck4 HK ao aw aT ap,Ce5 HB (IsS73.gf j) ax aB aS a6⟩):p:=h
theorem D4x1_ (h:p:=by exact⟨B12x15_,B12x0_,(Ae5 HB (IsS73.gf j) al av aJ aP),(Ak4 HK ah ai aC aN)⟩):p:=h
theorem D4x2_ (h:p:=by exact⟨⟨B12x0_⟩,Ck4 HK ah ai aC aN,Ce5 HB (IsS73.gf j) al av aJ aP⟩):p:=h
section
attribute [local go_sem] max2_int min2_int max_two min_two max_three min_three max_four min_four
theorem B12x0_ (h:p:=by repeat (first|(with_reducible first|exact j.out|apply IsS73.alloc|apply IsS73.drewN|apply IsS73.drew|apply IsS73.set_1|apply IsS73.set_2|refine IsS73.far ?_ cU.out _|refine IsS73.far ?_ cd.out _|refine IsS73.far ?_ bQ.out _|refine IsS73.far ?_ ev.out _)|exact j.out)):p:=h
theorem B12x3_ (h:p:=by repeat (first|(with_reducible first|exact j.out|apply IsS73.alloc|apply IsS73.drewN|apply IsS73.drew|apply IsS73.set_1|apply IsS73.set_2|refine IsS73.far ?_ cU.out _|refine IsS73.far ?_ cd.out _)|exact j.out)):p:=h
theorem B12x8_ (h:p:=by repeat (first|(with_reducible first|exact j.out|apply IsS73.alloc|apply IsS73.drewN|apply IsS73.drew|apply IsS73.set_1|apply IsS73.set_2)|exact j.out)):p:=h
theorem B12x15_ (h:p:=by first|rfl|(simp [errW_none,errW_some] <;> rfl)|(simp [*,errW_none,errW_some] <;> rfl)):p:=h
theorem B12x17_ (h:p:=by repeat (first|(with_reducible first|exact j.out|apply IsS73.alloc|apply IsS73.drewN|apply IsS73.drew|apply IsS73.set_1|apply IsS73.set_2|refine IsS73.far ?_ cU.out _|refine IsS73.far ?_ cd.out _|refine IsS73.far ?_ bQ.out _)|exact j.out)):p:=h
theorem B12x35_ (h:p:=by rw [hw];exact B12x0_):p:=h
theorem B12x36_ (h:p:=by rw [hw];exact(Ae5 HB (IsS73.gf j) al av aJ aP)):p:=h
theorem B12x37_ (h:p:=by rw [hw];exact(Ak4 HK ah ai aC aN)):p:=h
theorem B12x38_ (h:p:=by have:=gh.out;first|omega|exact Nat.le_refl _):p:=h
def spec_KeepNew.f  : Option ((List (S76)) × (List (S79))):=some (([]:List (S76)),(([(⟨(⟨#[114,111,111,116]⟩:ByteArray),(⟨#[]⟩:ByteArray),1⟩:S79)]:List (S79))))
theorem spec_KeepNew.calls  (r1:List (S76)) (r2:List (S79)) (w:World) (h:spec_KeepNew.f =some (r1,r2)) :
  Calls Tryz.prog 40 #[] w fun e w'=>∃ fR fS:Value,e=.returned (.agg #[fR,fS])∧Kd.R k76 76 w' w.heap.size (fun _=>True) fR r1∧Kd.R k79 79 w' w.heap.size (fun _=>True) fS r2∧Below w.heap.size w w':=by
 have fw:=Tryz.underlying52
 have hG:=Tryz.underlying79
 have HB:=am (Below.refl w.heap.size w)
 have Y:=h
 clear h
 unfold spec_KeepNew.f at Y
 obtain⟨h7,dt⟩:∃ y_:List (S79),y_=(([(⟨(⟨#[114,111,111,116]⟩:ByteArray),(⟨#[]⟩:ByteArray),1⟩:S79)]:List (S79))):=⟨_,rfl⟩
 (first|with_reducible replace Y:=hq dt Y|rw [←dt] at Y|simp only [←dt] at Y)
 have fn:=am dt
 clear dt
 obtain⟨rfl,rfl⟩:=s2 Y
 clear Y
 go_enter Tryz.func40,Tryz.ntmps40
 go_wp2_with (first|((with_reducible refine gate_dst (N:=0) rfl ?_);refine bx (N:=0) (cs:=#[.slice none 0 0,.slice none 0 0]) (t:=52) ?_;intro gR hg w1 hbox hb;have cT:=am hbox;have eo:=gA hg HB;replace HB:=hA HB hb;clear hb hbox hg)|((with_reducible refine gate_dst (N:=2) rfl ?_);refine lL k79 79 2 ([(⟨(⟨#[114,111,111,116]⟩:ByteArray),(⟨#[]⟩:ByteArray),1⟩:S79)]:List (S79)) [.string (⟨#[114,111,111,116]⟩:ByteArray),.string (⟨#[]⟩:ByteArray),.int .i64 1] (Reps.c3 (show Kd.M k79 _ _ _ (⟨(⟨#[114,111,111,116]⟩:ByteArray),(⟨#[]⟩:ByteArray),1⟩:S79) [.string (⟨#[114,111,111,116]⟩:ByteArray),.string (⟨#[]⟩:ByteArray),.int .i64 1] from (k79_mkM _ _ _ (⟨(⟨#[114,111,111,116]⟩:ByteArray),(⟨#[]⟩:ByteArray),1⟩:S79) )) (Reps.none _ _)) ?_;intro lc w2 dn hb;(first|rw [←fn.out] at dn|(simp only [Int.reduceToNat] at dn;rw [←fn.out] at dn));have fl:=am (Kd.R_lower dn (below_size (Ae1 HB eo)));replace cT:=bA cT hb;replace HB:=De1 HB eo hb;clear hb dn;obtain⟨f9,gE,gP⟩:=Kd.R_slice fl.out;subst gP;obtain⟨ly,lz,lC,lD⟩:=cf2 cT))
 refine bodyPost_ret (results_cell_row rfl _ _ gR 52 #[.slice none 0 0,.slice f9 h7.length gE] (0,0) _ rfl (Ap0 cT) Tryz.underlying52 rfl gk_) rfl ?_
 exact⟨_,_,B12x15_,gn_,(tfg fl.out cT.out (by decide)),(Ae1 HB eo)⟩

def spec_l01Once.f (q:List Int) (ae:Int) (af:Int) (a1:Int):Option (Bool × Int × Int):=(spec_l01Below.f q ae af a1).bind fun ew=>(some ((ew.1 == 0),ew.2.1,ew.2.2))
theorem spec_l01Once.calls (g:Nat) (q:List Int) (ae:Int) (af:Int) (a1:Int) (r1:Bool) (r2:Int) (r3:Int) (l w:World) (hI:IsS73 l w g q ae af) (hB:Below l.heap.size l w) (h:spec_l01Once.f q ae af a1=some (r1,r2,r3)) :
  Calls Tryz.prog 42 #[.pointer (some ⟨g,0,none⟩),.int .i64 a1] w fun e w'=>e=.returned (.bool r1)∧IsS73 l w' g q r2 r3∧Below l.heap.size l w'∧KeepBut w w' g none:=by
 have j:=am hI
 have HK:=am (KeepBut.refl w g none)
 have HL:=am hB.size
 clear hI
 have bu:=am hB.size
 have HB:=am hB
 clear hB
 have Y:=h
 clear h
 unfold spec_l01Once.f at Y
 obtain⟨⟨hM,hN,hO⟩,A3,aj⟩:=bsi Y
 (try dsimp only at aj)
 obtain⟨rfl,rfl,rfl⟩:=s3 aj
 clear aj Y
 go_enter Tryz.func42,Tryz.ntmps42
 go_wp2_with (first|((with_reducible refine gate_callee (f:=15) rfl ?_);refine goesL_ (some 7) rfl rfl Tryz.func15 gk_ rfl #[.pointer (some ⟨g,0,none⟩),.int .i64 a1] rfl gm_ ?_;refine(spec_l01Below.calls g q ae af a1 hM hN hO l _ B12x8_ (Ae1 HB (IsS73.gf j)) A3.out).mono ?_;rintro e w4 ⟨rfl,hi,hb,hk⟩;refine⟨_,rfl, ?_⟩;replace HK:=Dk0 HK hk;replace HB:=am hb;replace j:=am hi))
 go_ret
 exact⟨B12x15_,B12x8_,(Ae1 HB (IsS73.gf j)),(Ak0 HK)⟩

def spec_l01PickInt.f (q:List Int) (ae:Int) (af:Int) (l1:List Int):Option (Int × Int × Int):=(spec_l01Below.f q ae af (l1.length:Int)).bind fun cZ=>(if 0≤cZ.1 then (if cZ.1<(l1.length:Int) then (some (rd l1 cZ.1,cZ.2.1,cZ.2.2)) else (none)) else (none))
theorem spec_l01PickInt.calls (g:Nat) (q:List Int) (ae:Int) (af:Int) (A1:Option Addr) (c1:Nat) (l1:List Int) (r1:Int) (r2:Int) (r3:Int) (l w:World) (hI:IsS73 l w g q ae af) (hB:Below l.heap.size l w) (dq:Kd.C (Kd.int .i64) w A1 l1.length l1) (dh:l1.length≤c1) (cm:∀ ad,A1=some ad→0<l1.length→ad.block≠g) (h:spec_l01PickInt.f q ae af l1=some (r1,r2,r3)) :
  Calls Tryz.prog 96 #[.pointer (some ⟨g,0,none⟩),.slice A1 l1.length c1] w fun e w'=>e=.returned (.int .i64 r1)∧IsS73 l w' g q r2 r3∧Below l.heap.size l w'∧KeepBut w w' g none:=by
 have er:=am dq
 have gb:=am dh
 clear dq dh
 have j:=am hI
 have HK:=am (KeepBut.refl w g none)
 have HL:=am hB.size
 clear hI
 have bu:=am hB.size
 have HB:=am hB
 clear hB
 have Y:=h
 clear h
 unfold spec_l01PickInt.f at Y
 obtain⟨⟨d7,hP,hQ⟩,A3,aj⟩:=bsi Y
 (try dsimp only at aj)
 obtain⟨gr,aX⟩:=yd aj
 obtain⟨gv,ay⟩:=yd aX
 obtain⟨rfl,rfl,rfl⟩:=s3 ay
 clear ay Y aj aX
 go_enter Tryz.func96,Tryz.ntmps96
 go_wp2_with (first|((with_reducible refine gate_callee (f:=15) rfl ?_);refine goesL_ (some 9) rfl rfl Tryz.func15 gk_ rfl #[.pointer (some ⟨g,0,none⟩),.int .i64 (l1.length:Int)] rfl gm_ ?_;refine(spec_l01Below.calls g q ae af (l1.length:Int) d7 hP hQ l _ B12x8_ (Ae1 HB (IsS73.gf j)) A3.out).mono ?_;rintro e w6 ⟨rfl,hi,hb,hk⟩;refine⟨_,rfl, ?_⟩;replace HK:=Dk0 HK hk;replace HB:=am hb;replace j:=am hi;have eI:0≤(d7:Int):=dga;have eL:d7<(l1.length:Int):=dga;obtain⟨gi,gG,fx⟩:=Kd.at_int er.out d7 eI eL;cases gG;replace fx:=keep_cell HK.out fx (by first|(rw [add_block];exact cm _ rfl (by omega))|exact cm _ rfl (by omega)|exact cm gi rfl (by omega));replace eI:=eq_true eI;replace eL:=eq_true eL))
 go_ret
 exact⟨B12x15_,B12x8_,(Ae1 HB (IsS73.gf j)),(Ak0 HK)⟩

def spec_l01Pick.f (q:List Int) (ae:Int) (af:Int) (l1:List ByteArray):Option (ByteArray × Int × Int):=(spec_l01Below.f q ae af (l1.length:Int)).bind fun da=>(if 0≤da.1 then (if da.1<(l1.length:Int) then (some (rdOf ByteArray.empty l1 da.1,da.2.1,da.2.2)) else (none)) else (none))
theorem spec_l01Pick.calls (g:Nat) (q:List Int) (ae:Int) (af:Int) (A1:Option Addr) (c1:Nat) (l1:List ByteArray) (r1:ByteArray) (r2:Int) (r3:Int) (l w:World) (hI:IsS73 l w g q ae af) (hB:Below l.heap.size l w) (dq:Kd.C Kd.string w A1 l1.length l1) (dh:l1.length≤c1) (cm:∀ ad,A1=some ad→0<l1.length→ad.block≠g) (h:spec_l01Pick.f q ae af l1=some (r1,r2,r3)) :
  Calls Tryz.prog 97 #[.pointer (some ⟨g,0,none⟩),.slice A1 l1.length c1] w fun e w'=>e=.returned (.string r1)∧IsS73 l w' g q r2 r3∧Below l.heap.size l w'∧KeepBut w w' g none:=by
 have er:=am dq
 have gb:=am dh
 clear dq dh
 have j:=am hI
 have HK:=am (KeepBut.refl w g none)
 have HL:=am hB.size
 clear hI
 have bu:=am hB.size
 have HB:=am hB
 clear hB
 have Y:=h
 clear h
 unfold spec_l01Pick.f at Y
 obtain⟨⟨d8,hR,hS⟩,A3,aj⟩:=bsi Y
 (try dsimp only at aj)
 obtain⟨gr,aX⟩:=yd aj
 obtain⟨gv,ay⟩:=yd aX
 obtain⟨rfl,rfl,rfl⟩:=s3 ay
 clear ay Y aj aX
 go_enter Tryz.func97,Tryz.ntmps97
 go_wp2_with (first|((with_reducible refine gate_callee (f:=15) rfl ?_);refine goesL_ (some 9) rfl rfl Tryz.func15 gk_ rfl #[.pointer (some ⟨g,0,none⟩),.int .i64 (l1.length:Int)] rfl gm_ ?_;refine(spec_l01Below.calls g q ae af (l1.length:Int) d8 hR hS l _ B12x8_ (Ae1 HB (IsS73.gf j)) A3.out).mono ?_;rintro e w6 ⟨rfl,hi,hb,hk⟩;refine⟨_,rfl, ?_⟩;replace HK:=Dk0 HK hk;replace HB:=am hb;replace j:=am hi;have eJ:0≤(d8:Int):=dga;have eM:d8<(l1.length:Int):=dga;obtain⟨gj,gH,fy⟩:=Kd.at_string er.out d8 eJ eM;cases gH;replace fy:=keep_cell HK.out fy (by first|(rw [add_block];exact cm _ rfl (by omega))|exact cm _ rfl (by omega)|exact cm gj rfl (by omega));replace eJ:=eq_true eJ;replace eM:=eq_true eM))
 go_ret
 exact⟨B12x15_,B12x8_,(Ae1 HB (IsS73.gf j)),(Ak0 HK)⟩

mutual
def spec_l15Of.j0:Nat→Bool→Bool→List Int→Int→Int→Int→Int→Int→ByteArray→ByteArray→Int→ByteArray→ByteArray→Int→Option (Int × Int × Int × ByteArray × ByteArray × Int × Int × Int)
 |0,_,_,_,_,_,_,_,_,_,_,_,_,_,_=>none
 |k+1,x7,h5,aD,bG,bH,ca,cr,ct,cu,cM,ej,eW,eX,ek=>if h5=true then ((spec_l01Pick.f aD bG bH (([(⟨#[]⟩:ByteArray),(⟨#[49]⟩:ByteArray),(⟨#[116,119,111]⟩:ByteArray),(⟨#[116,104,114,101,101]⟩:ByteArray)]:List ByteArray))).bind fun ex=>(spec_l15Of.j1 k x7 aD ex.2.1 ex.2.2 ca cr ct cu ex.1 ej eW eX ek)) else (spec_l15Of.j1 k x7 aD bG bH ca cr ct cu cM ej eW eX ek)
def spec_l15Of.j1:Nat→Bool→List Int→Int→Int→Int→Int→Int→ByteArray→ByteArray→Int→ByteArray→ByteArray→Int→Option (Int × Int × Int × ByteArray × ByteArray × Int × Int × Int)
 |0,_,_,_,_,_,_,_,_,_,_,_,_,_=>none
 |k+1,x7,aD,bG,bH,ca,cr,ct,cu,cM,ej,eW,eX,ek=>if ca=5 then ((spec_l01Below.f aD bG bH 20).bind fun cE=>(if x7=true then ((spec_l01Once.f aD cE.2.1 cE.2.2 3).bind fun db=>(if db.1=true then (some (ca,cr,ct,cu,cM,wrap64 (1+cE.1),db.2.1,db.2.2)) else (some (ca,cr,ct,cu,cM,ek,db.2.1,db.2.2)))) else (some (ca,cr,ct,cu,cM,wrap64 (1+cE.1),cE.2.1,cE.2.2)))) else (some (ca,cr,ct,cu,cM,ej,bG,bH))
end
def spec_l15Of.f (k:Nat) (q:List Int) (ae:Int) (af:Int) (z:List (S76)) (aa:List (S79)):Option (Int × Int × Int × ByteArray × ByteArray × Int × Int × Int):=(spec_l01PickInt.f q ae af (([2,2,2,3,3,4,5,5]:List Int))).bind fun cD=>((spec_l01Pick.f q cD.2.1 cD.2.2 (([(⟨#[97]⟩:ByteArray),(⟨#[98]⟩:ByteArray),(⟨#[99]⟩:ByteArray),(⟨#[114,111,111,116]⟩:ByteArray),(⟨#[120,49]⟩:ByteArray)]:List ByteArray))).bind fun cj=>((spec_ItemOf.f k z aa cj.1).bind fun b8=>(if cD.1=2 then (spec_l15Of.j0 k b8.2.2.2 true q cj.2.1 cj.2.2 cD.1 0 0 cj.1 (⟨#[]⟩:ByteArray) 0 b8.1 b8.2.1 b8.2.2.1) else (spec_l15Of.j0 k b8.2.2.2 (cD.1 == 5) q cj.2.1 cj.2.2 cD.1 0 0 cj.1 (⟨#[]⟩:ByteArray) 0 b8.1 b8.2.1 b8.2.2.1))))
theorem spec_l15Of.calls (k:Nat) (g:Nat) (q:List Int) (ae:Int) (af:Int) (aR:Option Addr) (aF:Nat) (z:List (S76)) (aE:Option Addr) (aG:Nat) (aa:List (S79)) (r1:Int) (r2:Int) (r3:Int) (r4:ByteArray) (r5:ByteArray) (r6:Int) (r7:Int) (r8:Int) (l w:World) (hI:IsS73 l w g q ae af) (hB:Below l.heap.size l w) (dr:∀ W_,KeepBut w W_ g none→Kd.C k76 W_ aR z.length z) (di:z.length≤aF) (ds:∀ W_,KeepBut w W_ g none→Kd.C k79 W_ aE aa.length aa) (dj:aa.length≤aG) (h:spec_l15Of.f k q ae af z aa=some (r1,r2,r3,r4,r5,r6,r7,r8)) :
  Calls Tryz.prog 76 #[.pointer (some ⟨g,0,none⟩),.agg #[.slice aR z.length aF,.slice aE aa.length aG]] w fun e w'=>e=.returned (.agg #[.int .i64 r1,.int .i64 r2,.int .i64 r3,.string r4,.string r5,.int .i64 r6])∧IsS73 l w' g q r7 r8∧Below l.heap.size l w'∧KeepBut w w' g none:=by
 have fw:=Tryz.underlying52
 have hH:=Tryz.underlying84
 have hG:=Tryz.underlying79
 have br:=am dr
 have ep:=am di
 clear dr di
 have et:=am ds
 have eq:=am dj
 clear ds dj
 have j:=am hI
 have HK:=am (KeepBut.refl w g none)
 have HL:=am hB.size
 clear hI
 have bu:=am hB.size
 have HB:=am hB
 clear hB
 have Y:=h
 clear h
 unfold spec_l15Of.f at Y
 obtain⟨el,du⟩:∃ y_:List Int,y_=(([2,2,2,3,3,4,5,5]:List Int)):=⟨_,rfl⟩
 (first|with_reducible replace Y:=hq du Y|rw [←du] at Y|simp only [←du] at Y)
 have fo:=am du
 clear du
 obtain⟨⟨ar,d9,ea⟩,A3,aj⟩:=bsi Y
 (try dsimp only at aj)
 obtain⟨em,dv⟩:∃ y_:List ByteArray,y_=(([(⟨#[97]⟩:ByteArray),(⟨#[98]⟩:ByteArray),(⟨#[99]⟩:ByteArray),(⟨#[114,111,111,116]⟩:ByteArray),(⟨#[120,49]⟩:ByteArray)]:List ByteArray)):=⟨_,rfl⟩
 (first|with_reducible replace aj:=hq dv aj|rw [←dv] at aj|simp only [←dv] at aj)
 have fp:=am dv
 clear dv
 obtain⟨⟨ak,cn,co⟩,A4,aX⟩:=bsi aj
 (try dsimp only at aX)
 obtain⟨⟨bZ,b0,a4,eO⟩,A5,ay⟩:=bsi aX
 (try dsimp only at ay)
 replace ay:=am ay
 clear Y aj aX
 go_enter Tryz.func76,Tryz.ntmps76
 go_upto_region 3 with (first|((with_reducible refine gate_dst (N:=3) rfl ?_);refine bx (N:=3) (cs:=#[.slice aR z.length aF,.slice aE aa.length aG]) (t:=52) ?_;intro d3 hg w7 hbox hb;replace HB:=De1 HB (IsS73.gf j) hb;have Z:=am hbox;have ah:=gK hg HK;have al:=am (Nat.le_trans bu.out (bs hg (keep_size HK.out)):l.heap.size≤d3);replace HK:=Ek0 HK hb;have cU:=am (nl hg (IsS73.lt j.out));have dW:=am (ng hg (IsS73.lt j.out));replace j:=am (IsS73.below B12x8_ hb);clear hb hbox hg)|((with_reducible refine gate_dst (N:=4) rfl ?_);refine bx (N:=4) (cs:=#[.int .i64 0,.int .i64 0,.int .i64 0,.string (⟨#[]⟩:ByteArray),.string (⟨#[]⟩:ByteArray),.int .i64 0]) (t:=84) ?_;intro U hg w8 hbox hb;replace HB:=De2 HB (IsS73.gf j) al hb;have B:=am hbox;have ai:=gK hg HK;have av:=am (Nat.le_trans bu.out (bs hg (keep_size HK.out)):l.heap.size≤U);replace HK:=Ek1 HK ah hb;have cW:=nA hg Z;have cX:=mA hg Z;replace Z:=bA Z hb;have cd:=am (nl hg (IsS73.lt j.out));have bw:=am (ng hg (IsS73.lt j.out));replace j:=am (IsS73.below (by repeat (first|(with_reducible first|exact j.out|apply IsS73.alloc|apply IsS73.drewN|apply IsS73.drew|apply IsS73.set_1|apply IsS73.set_2|refine IsS73.far ?_ cU.out _)|exact j.out)) hb);clear hb hbox hg)|((with_reducible refine gate_dst (N:=9) rfl ?_);refine lL (Kd.int .i64) 3 9 ([2,2,2,3,3,4,5,5]:List Int) [.int .i64 2,.int .i64 2,.int .i64 2,.int .i64 3,.int .i64 3,.int .i64 4,.int .i64 5,.int .i64 5] (Reps.one (show Kd.M (Kd.int .i64) _ _ _ 2 [.int .i64 2] from rfl) (Reps.one (show Kd.M (Kd.int .i64) _ _ _ 2 [.int .i64 2] from rfl) (Reps.one (show Kd.M (Kd.int .i64) _ _ _ 2 [.int .i64 2] from rfl) (Reps.one (show Kd.M (Kd.int .i64) _ _ _ 3 [.int .i64 3] from rfl) (Reps.one (show Kd.M (Kd.int .i64) _ _ _ 3 [.int .i64 3] from rfl) (Reps.one (show Kd.M (Kd.int .i64) _ _ _ 4 [.int .i64 4] from rfl) (Reps.one (show Kd.M (Kd.int .i64) _ _ _ 5 [.int .i64 5] from rfl) (Reps.one (show Kd.M (Kd.int .i64) _ _ _ 5 [.int .i64 5] from rfl) (Reps.none _ _))))))))) ?_;intro ld w9 dl hb;(first|rw [←fo.out] at dl|(simp only [Int.reduceToNat] at dl;rw [←fo.out] at dl));have aL:=am (Kd.R_lower dl (keep_size (w:=w) (g:=g) (row:=none) (Ak2 HK ah ai)));replace Z:=bA Z hb;replace B:=bA B hb;replace HK:=Ek2 HK ah ai hb;replace HB:=De3 HB (IsS73.gf j) al av hb;replace j:=am (IsS73.below B12x3_ hb);clear hb dl;obtain⟨fi,fu,gN⟩:=Kd.R_slice aL.out;subst gN)|((with_reducible refine gate_callee (f:=96) rfl ?_);refine goesL_ (some 10) rfl rfl Tryz.func96 gk_ rfl #[.pointer (some ⟨g,0,none⟩),.slice fi el.length fu] rfl gm_ ?_;(with_reducible refine(spec_l01PickInt.calls g q ae af _ _ el ar d9 ea l _ ?z1 ?z2 ?z3 ?z4 ?z5 A3.out).mono ?_);(case z1=>exact B12x3_);(case z2=>exact(Ae3 HB (IsS73.gf j) al av));(case z3=>repeat (first|exact(Kd.R_reads' aL.out).2.2|(with_reducible refine Kd.C_alloc ?_ _)|(with_reducible refine Kd.C_drewN ?_ _)|(with_reducible refine Kd.C_drew ?_)));(case z4=>exact(Kd.R_reads' aL.out).2.1);(case z5=>exact far_slice (IsS73.own_ne j.out aL.out (by decide)));rintro e lh ⟨rfl,hi,hb,hk⟩;refine⟨_,rfl, ?_⟩;replace Z:=kA hk Z dW;replace B:=kA hk B bw;replace aL:=am (Kd.R_mono (Kd.R_keep (IsS73.apart (show IsS73 l _ g q ae af from B12x3_) (Ar aL) (by decide)) hk (fun _ h=>h.2)) (fun _ h=>h.1));replace HK:=Dk2 HK ah ai hk;replace HB:=am hb;replace j:=am hi)|((with_reducible refine gate_dst (N:=12) rfl ?_);refine lL Kd.string 9 12 ([(⟨#[97]⟩:ByteArray),(⟨#[98]⟩:ByteArray),(⟨#[99]⟩:ByteArray),(⟨#[114,111,111,116]⟩:ByteArray),(⟨#[120,49]⟩:ByteArray)]:List ByteArray) [.string (⟨#[97]⟩:ByteArray),.string (⟨#[98]⟩:ByteArray),.string (⟨#[99]⟩:ByteArray),.string (⟨#[114,111,111,116]⟩:ByteArray),.string (⟨#[120,49]⟩:ByteArray)] (Reps.one (show Kd.M Kd.string _ _ _ (⟨#[97]⟩:ByteArray) [.string (⟨#[97]⟩:ByteArray)] from rfl) (Reps.one (show Kd.M Kd.string _ _ _ (⟨#[98]⟩:ByteArray) [.string (⟨#[98]⟩:ByteArray)] from rfl) (Reps.one (show Kd.M Kd.string _ _ _ (⟨#[99]⟩:ByteArray) [.string (⟨#[99]⟩:ByteArray)] from rfl) (Reps.one (show Kd.M Kd.string _ _ _ (⟨#[114,111,111,116]⟩:ByteArray) [.string (⟨#[114,111,111,116]⟩:ByteArray)] from rfl) (Reps.one (show Kd.M Kd.string _ _ _ (⟨#[120,49]⟩:ByteArray) [.string (⟨#[120,49]⟩:ByteArray)] from rfl) (Reps.none _ _)))))) ?_;intro lf li dm hb;(first|rw [←fp.out] at dm|(simp only [Int.reduceToNat] at dm;rw [←fp.out] at dm));replace aL:=rA aL hb;have aV:=am (Kd.R_lower dm (keep_size (w:=w) (g:=g) (row:=none) (Ak2 HK ah ai)));replace Z:=bA Z hb;replace B:=bA B hb;replace HK:=Ek2 HK ah ai hb;replace HB:=De3 HB (IsS73.gf j) al av hb;replace j:=am (IsS73.below B12x3_ hb);clear hb dm;obtain⟨fj,fv,gO⟩:=Kd.R_slice aV.out;subst gO)|((with_reducible refine gate_callee (f:=97) rfl ?_);refine goesL_ (some 13) rfl rfl Tryz.func97 gk_ rfl #[.pointer (some ⟨g,0,none⟩),.slice fj em.length fv] rfl gm_ ?_;(with_reducible refine(spec_l01Pick.calls g q d9 ea _ _ em ak cn co l _ ?z1 ?z2 ?z3 ?z4 ?z5 A4.out).mono ?_);(case z1=>exact B12x3_);(case z2=>exact(Ae3 HB (IsS73.gf j) al av));(case z3=>repeat (first|exact(Kd.R_reads' aV.out).2.2|(with_reducible refine Kd.C_alloc ?_ _)|(with_reducible refine Kd.C_drewN ?_ _)|(with_reducible refine Kd.C_drew ?_)));(case z4=>exact(Kd.R_reads' aV.out).2.1);(case z5=>exact far_slice (IsS73.own_ne j.out aV.out (by decide)));rintro e lk ⟨rfl,hi,hb,hk⟩;refine⟨_,rfl, ?_⟩;replace Z:=kA hk Z dW;replace B:=kA hk B bw;replace aL:=am (Kd.R_mono (Kd.R_keep (IsS73.apart (show IsS73 l _ g q d9 ea from B12x3_) (Ar aL) (by decide)) hk (fun _ h=>h.2)) (fun _ h=>h.1));replace aV:=am (Kd.R_mono (Kd.R_keep (IsS73.apart (show IsS73 l _ g q d9 ea from B12x3_) (Ar aV) (by decide)) hk (fun _ h=>h.2)) (fun _ h=>h.1));replace HK:=Dk2 HK ah ai hk;replace HB:=am hb;replace j:=am hi)|((with_reducible refine gate_dst (N:=5) rfl ?_);refine bx (N:=5) (cs:=#[.int .i64 0,.int .i64 0,.int .i64 0,.string (⟨#[]⟩:ByteArray),.string (⟨#[]⟩:ByteArray),.int .i64 0]) (t:=84) ?_;intro aO hg hX hbox hb;replace aL:=rA aL hb;replace aV:=rA aV hb;replace HB:=De3 HB (IsS73.gf j) al av hb;have J:=am hbox;have aC:=gK hg HK;have aJ:=am (Nat.le_trans bu.out (bs hg (keep_size HK.out)):l.heap.size≤aO);replace HK:=Ek2 HK ah ai hb;have bR:=nA hg Z;have b6:=mA hg Z;replace Z:=bA Z hb;have aY:=nA hg B;have bK:=mA hg B;replace B:=bA B hb;have bQ:=am (nl hg (IsS73.lt j.out));have aZ:=am (ng hg (IsS73.lt j.out));replace j:=am (IsS73.below B12x3_ hb);clear hb hbox hg;have i0:=b6.out;have j4:=bR.out;have i1:=bK.out;have j5:=aY.out;have i2:=aZ.out;have j6:=bQ.out;obtain⟨bd,be,bh,bi,bj,bk,bl,bm,bn,bo,bp,bq⟩:=cf6 J)|((with_reducible refine gate_store (t:=84) (p:=5) rfl ?_);refine store_event (t:=84) (p:=5) (v:=?vo_w22) (w1:=((((((hX.setCell ⟨aO,0,none⟩ (.int .i64 ar)).setCell ⟨aO,1,none⟩ (.int .i64 0)).setCell ⟨aO,2,none⟩ (.int .i64 0)).setCell ⟨aO,3,none⟩ (.string ak)).setCell ⟨aO,4,none⟩ (.string (⟨#[]⟩:ByteArray))).setCell ⟨aO,5,none⟩ (.int .i64 0))) ?hg ?ho ?hn ?hr ?_;(case ho=>rfl);(case hg=>rfl);(case hn=>rfl);(case hr=>exact gs_);intro b9 hw;replace aL:Aside0 (Kd.R (Kd.int .i64) 3 b9 w.heap.size (fun _=>True) (.slice fi el.length fu) el):=⟨wtfg aL.out J.out (by decide)⟩;replace aV:Aside0 (Kd.R Kd.string 9 b9 w.heap.size (fun _=>True) (.slice fj em.length fv) em):=⟨wtfg aV.out J.out (by decide)⟩;replace Z:Hc b9 d3 #[.slice aR z.length aF,.slice aE aa.length aG] 52:=⟨wAp1 Z bR⟩;replace B:Hc b9 U #[.int .i64 0,.int .i64 0,.int .i64 0,.string (⟨#[]⟩:ByteArray),.string (⟨#[]⟩:ByteArray),.int .i64 0] 84:=⟨wAp1 B aY⟩;replace J:Hc b9 aO #[.int .i64 ar,.int .i64 0,.int .i64 0,.string ak,.string (⟨#[]⟩:ByteArray),.int .i64 0] 84:=⟨wAp0 J⟩;replace HK:Hk w b9 g:=⟨wAk3 HK ah ai aC⟩;replace HB:Hb l b9:=⟨wAe4 HB (IsS73.gf j) al av aJ⟩;replace j:Aside0 (IsS73 l b9 g q cn co):=⟨(by rw [hw];exact B12x17_)⟩;clear hw;have i3:=cW.out;have j7:=cX.out;have i4:=dW.out;have j8:=cU.out;obtain⟨lA,lB,lE,lF⟩:=cf2 Z;obtain⟨bd,be,bh,bi,bj,bk,bl,bm,bn,bo,bp,bq⟩:=cf6 J)|((with_reducible refine gate_callee (f:=94) rfl ?_);refine goesL_ (some 19) rfl rfl Tryz.func94 gk_ rfl #[.agg #[.slice aR z.length aF,.slice aE aa.length aG],.string ak] rfl gm_ ?_;refine(spec_ItemOf.calls k _ _ z _ _ aa ak bZ b0 a4 eO _ (Kd.C_foot_now br.out (Ak3 HK ah ai aC)) ep.out (Kd.C_foot_now et.out (Ak3 HK ah ai aC)) eq.out A5.out).mono ?_;rintro e ll ⟨rfl,hb⟩;refine⟨_,rfl, ?_⟩;replace aL:=rA aL hb;replace aV:=rA aV hb;replace Z:=bA Z hb;replace B:=bA B hb;replace J:=bA J hb;replace HK:=Ek3 HK ah ai aC hb;replace HB:=De4 HB (IsS73.gf j) al av aJ hb;replace j:=am (IsS73.below B12x17_ hb))|((with_reducible refine gate_dst (N:=6) rfl ?_);refine bx (N:=6) (cs:=#[.string (⟨#[]⟩:ByteArray),.string (⟨#[]⟩:ByteArray),.int .i64 0]) (t:=79) ?_;intro cl hg lm hbox hb;replace aL:=rA aL hb;replace aV:=rA aV hb;replace HB:=De4 HB (IsS73.gf j) al av aJ hb;have au:=am hbox;have aN:=gK hg HK;have aP:=am (Nat.le_trans bu.out (bs hg (keep_size HK.out)):l.heap.size≤cl);replace HK:=Ek3 HK ah ai aC hb;have dX:=nA hg Z;have fm:=mA hg Z;replace Z:=bA Z hb;have cf:=nA hg B;have ch:=mA hg B;replace B:=bA B hb;have bS:=nA hg J;have bz:=mA hg J;replace J:=bA J hb;have ev:=am (nl hg (IsS73.lt j.out));have cg:=am (ng hg (IsS73.lt j.out));replace j:=am (IsS73.below B12x17_ hb);clear hb hbox hg;have i7:=fm.out;have kc:=dX.out;have i9:=ch.out;have kd:=cf.out;have gU:=bz.out;have he:=bS.out;have gV:=cg.out;have hf:=ev.out;obtain⟨h8,h9,ia,ij,ik,il⟩:=cf3 au))
 (try simp only [Act.put,List.setIfInBounds_toArray,List.set_cons_zero,List.set_cons_succ])
 go_cut [29] (fun hW wc=>∃ (kq:Nat) (eV:Bool),hW=.bool eV∧Aside0 (spec_l15Of.j0 kq eO eV q cn co ar 0 0 ak (⟨#[]⟩:ByteArray) 0 bZ b0 a4=some (r1,r2,r3,r4,r5,r6,r7,r8))∧Aside0 (kq≤k)∧Hc wc d3 #[(.slice aR z.length aF),(.slice aE aa.length aG)] 52∧Hc wc U #[.int .i64 0,.int .i64 0,.int .i64 0,.string (⟨#[]⟩:ByteArray),.string (⟨#[]⟩:ByteArray),.int .i64 0] 84∧Hc wc aO #[.int .i64 ar,.int .i64 0,.int .i64 0,.string ak,.string (⟨#[]⟩:ByteArray),.int .i64 0] 84∧Hc wc cl #[.string bZ,.string b0,.int .i64 a4] 79∧Aside0 (IsS73 l wc g q cn co)∧Hk w wc g∧Hb l wc)
 case first=>
  replace ay:=ay.out
  obtain⟨dY,a7⟩|⟨dY,a7⟩:=sp ay
  ·obtain⟨dd,gq⟩:=yE dY;clear dY
   (first|rw [dd]|(simp only [i64_w,i32_w];rw [dd])|skip)
   replace a7:=am a7;clear ay;obtain⟨jb,kf,jc,kg,jd,kh,gW,hh⟩:=o8_ b6 bR bK aY bS bz aZ bQ;obtain⟨bd,be,bh,bi,bj,bk,bl,bm,bn,bo,bp,bq⟩:=cf6 J
   go_wp2
   go_meet
   case rel=>exact⟨_,true,be_,a7,⟨gl_⟩,Cp1 Z dX,Cp1 B cf,Cp1 J bS,Cp0 au,D4x2_⟩
  obtain⟨dd,gq⟩:=nE dY
  (first|rw [dd]|(simp only [i64_w,i32_w];rw [dd])|skip)
  replace a7:=am a7;clear ay;obtain⟨gX,hj,gY,hl,jf,kj,jg,kk⟩:=o8_ b6 bR bK aY bS bz aZ bQ;obtain⟨bd,be,bh,bi,bj,bk,bl,bm,bn,bo,bp,bq⟩:=cf6 J
  go_wp2
  go_meet
  case rel=>exact⟨_,((ar == 5)),be_,a7,⟨gl_⟩,Cp1 Z dX,Cp1 B cf,Cp1 J bS,Cp0 au,D4x2_⟩
 clear ay
 obtain⟨kq,eV,rfl,aM,gh,Z,B,J,au,j,HK,HB⟩:=hcut
 cases kq with
 |zero=>exact absurd aM.out (by simp [spec_l15Of.j0])
 |succ hL=>?_
 replace aM:=aM.out
 simp only [spec_l15Of.j0] at aM
 replace aM:=am aM
 go_upto_if 29 with (fail)
 go_cut [] (fun wc=>∃ (kq:Nat) (cp:Int) (cq:Int) (aI:ByteArray),Aside0 (spec_l15Of.j1 kq eO q cp cq ar 0 0 ak aI 0 bZ b0 a4=some (r1,r2,r3,r4,r5,r6,r7,r8))∧Aside0 (kq≤hL)∧Hc wc d3 #[(.slice aR z.length aF),(.slice aE aa.length aG)] 52∧Hc wc U #[.int .i64 0,.int .i64 0,.int .i64 0,.string (⟨#[]⟩:ByteArray),.string (⟨#[]⟩:ByteArray),.int .i64 0] 84∧Hc wc aO #[.int .i64 ar,.int .i64 0,.int .i64 0,.string ak,.string aI,.int .i64 0] 84∧Hc wc cl #[.string bZ,.string b0,.int .i64 a4] 79∧Aside0 (IsS73 l wc g q cp cq)∧Hk w wc g∧Hb l wc)
 case first=>
  replace aM:=aM.out
  obtain⟨rfl,a8⟩|⟨rfl,a8⟩:=sb aM
  ·obtain⟨fV,dw⟩:∃ y_:List ByteArray,y_=(([(⟨#[]⟩:ByteArray),(⟨#[49]⟩:ByteArray),(⟨#[116,119,111]⟩:ByteArray),(⟨#[116,104,114,101,101]⟩:ByteArray)]:List ByteArray)):=⟨_,rfl⟩
   (first|with_reducible replace a8:=hq dw a8|rw [←dw] at a8|simp only [←dw] at a8)
   have fq:=am dw;clear dw;obtain⟨⟨fD,fE,fF⟩,f5,cc⟩:=bsi a8;(try dsimp only at cc);replace cc:=am cc;clear aM a8
   go_wp2_with (first|((with_reducible refine gate_dst (N:=31) rfl ?_);refine lL Kd.string 9 31 ([(⟨#[]⟩:ByteArray),(⟨#[49]⟩:ByteArray),(⟨#[116,119,111]⟩:ByteArray),(⟨#[116,104,114,101,101]⟩:ByteArray)]:List ByteArray) [.string (⟨#[]⟩:ByteArray),.string (⟨#[49]⟩:ByteArray),.string (⟨#[116,119,111]⟩:ByteArray),.string (⟨#[116,104,114,101,101]⟩:ByteArray)] (Reps.one (show Kd.M Kd.string _ _ _ (⟨#[]⟩:ByteArray) [.string (⟨#[]⟩:ByteArray)] from rfl) (Reps.one (show Kd.M Kd.string _ _ _ (⟨#[49]⟩:ByteArray) [.string (⟨#[49]⟩:ByteArray)] from rfl) (Reps.one (show Kd.M Kd.string _ _ _ (⟨#[116,119,111]⟩:ByteArray) [.string (⟨#[116,119,111]⟩:ByteArray)] from rfl) (Reps.one (show Kd.M Kd.string _ _ _ (⟨#[116,104,114,101,101]⟩:ByteArray) [.string (⟨#[116,104,114,101,101]⟩:ByteArray)] from rfl) (Reps.none _ _))))) ?_;intro lg h0 dp hb;(first|rw [←fq.out] at dp|(simp only [Int.reduceToNat] at dp;rw [←fq.out] at dp));have cv:=am (Kd.R_lower dp (keep_size (w:=w) (g:=g) (row:=none) (Ak4 HK ah ai aC aN)));replace Z:=bA Z hb;replace B:=bA B hb;replace J:=bA J hb;replace au:=bA au hb;replace HK:=Ek4 HK ah ai aC aN hb;replace HB:=De5 HB (IsS73.gf j) al av aJ aP hb;replace j:=am (IsS73.below B12x0_ hb);clear hb dp;obtain⟨ga,gF,gQ⟩:=Kd.R_slice cv.out;subst gQ)|((with_reducible refine gate_callee (f:=97) rfl ?_);refine goesL_ (some 32) rfl rfl Tryz.func97 gk_ rfl #[.pointer (some ⟨g,0,none⟩),.slice ga fV.length gF] rfl gm_ ?_;(with_reducible refine(spec_l01Pick.calls g q cn co _ _ fV fD fE fF l _ ?z1 ?z2 ?z3 ?z4 ?z5 f5.out).mono ?_);(case z1=>exact B12x0_);(case z2=>exact(Ae5 HB (IsS73.gf j) al av aJ aP));(case z3=>repeat (first|exact(Kd.R_reads' cv.out).2.2|(with_reducible refine Kd.C_alloc ?_ _)|(with_reducible refine Kd.C_drewN ?_ _)|(with_reducible refine Kd.C_drew ?_)));(case z4=>exact(Kd.R_reads' cv.out).2.1);(case z5=>exact far_slice (IsS73.own_ne j.out cv.out (by decide)));rintro e lq ⟨rfl,hi,hb,hk⟩;refine⟨_,rfl, ?_⟩;replace Z:=kA hk Z dW;replace B:=kA hk B bw;replace J:=kA hk J aZ;replace au:=kA hk au cg;replace cv:=am (Kd.R_mono (Kd.R_keep (IsS73.apart (show IsS73 l _ g q cn co from B12x0_) (Ar cv) (by decide)) hk (fun _ h=>h.2)) (fun _ h=>h.1));replace HK:=Dk4 HK ah ai aC aN hk;replace HB:=am hb;replace j:=am hi;have jh:=b6.out;have kl:=bR.out;have ji:=bK.out;have km:=aY.out;have jj:=bS.out;have kn:=bz.out;have gZ:=aZ.out;have hm:=bQ.out;obtain⟨bd,be,bh,bi,bj,bk,bl,bm,bn,bo,bp,bq⟩:=cf6 J))
   go_meet
   case rel=>exact⟨_,fE,fF,fD,cc,⟨B12x38_⟩,Cp1 Z bR,Cp1 B aY,Cp0 J,Cp1 au bz,D4x2_⟩
  replace a8:=am a8;clear aM
  go_wp2
  go_meet
  case rel=>exact⟨_,cn,co,((⟨#[]⟩:ByteArray)),a8,⟨B12x38_⟩,Cb Z,Cb B,Cb J,Cb au,D4x2_⟩
 clear aM
 obtain⟨kq,cp,cq,aI,aK,iv,Z,B,J,au,j,HK,HB⟩:=hcut
 cases kq with
 |zero=>exact absurd aK.out (by simp [spec_l15Of.j1])
 |succ k8=>?_
 replace aK:=aK.out
 simp only [spec_l15Of.j1] at aK
 obtain⟨dZ,aW⟩|⟨dZ,aW⟩:=sp aK
 ·obtain⟨gs,gu⟩:=yE dZ;clear dZ;obtain⟨⟨a5,cF,cG⟩,en,bV⟩:=bsi aW;(try dsimp only at bV)
  obtain⟨rfl,bW⟩|⟨rfl,bW⟩:=sb bV
  ·obtain⟨⟨lb,eb,ec⟩,fh,b3⟩:=bsi bW;(try dsimp only at b3)
   obtain⟨rfl,bv⟩|⟨rfl,bv⟩:=sb b3
   ·obtain⟨rfl,rfl,rfl,rfl,rfl,rfl,rfl,rfl⟩:=s8 bv;clear bv aK aW bV bW b3;obtain⟨g0,hp,jp,ku,jq,kv,jr,kw⟩:=o8_ b6 bR bK aY bS bz aZ bQ;obtain⟨bd,be,bh,bi,bj,bk,bl,bm,bn,bo,bp,bq⟩:=cf6 J
    go_wp2_with (first|((with_reducible refine gate_callee (f:=15) rfl ?_);refine goesL_ (some 38) rfl rfl Tryz.func15 gk_ rfl #[.pointer (some ⟨g,0,none⟩),.int .i64 20] rfl gm_ ?_;refine(spec_l01Below.calls g q cp cq 20 a5 cF cG l _ B12x0_ (Ae5 HB (IsS73.gf j) al av aJ aP) en.out).mono ?_;rintro e ls ⟨rfl,hi,hb,hk⟩;refine⟨_,rfl, ?_⟩;replace B:=kA hk B bw;replace J:=kA hk J aZ;replace au:=kA hk au cg;replace HK:=Dk4 HK ah ai aC aN hk;replace HB:=am hb;replace j:=am hi;obtain⟨bd,be,bh,bi,bj,bk,bl,bm,bn,bo,bp,bq⟩:=cf6 J)|(go_at_call 42;refine(spec_l01Once.calls g q cF cG 3 true eb ec l _ B12x0_ (Ae5 HB (IsS73.gf j) al av aJ aP) fh.out).mono ?_;rintro e h1 ⟨rfl,hi,hb,hk⟩;replace B:=am (KeepBut.blk hk (g':=U) (o:=.cells #[.int .i64 0,.int .i64 0,.int .i64 0,.string (⟨#[]⟩:ByteArray),.string (⟨#[]⟩:ByteArray),.int .i64 0] 84 (0,0)) (Ap1 B aY) bw.out (by simp));replace J:=am (KeepBut.blk hk (g':=aO) (o:=.cells #[.int .i64 ar,.int .i64 0,.int .i64 0,.string ak,.string aI,.int .i64 (wrap64 (1+a5))] 84 (0,0)) (Ap0 J) aZ.out (by simp));replace au:=am (KeepBut.blk hk (g':=cl) (o:=.cells #[.string bZ,.string b0,.int .i64 a4] 79 (0,0)) (Ap1 au bz) cg.out (by simp));replace HK:=Dk4 HK ah ai aC aN hk;replace HB:=am hb;replace j:=am hi;obtain⟨bd,be,bh,bi,bj,bk,bl,bm,bn,bo,bp,bq⟩:=cf6 J;have g1:=cX.out;have hs:=cW.out;have g2:=cf.out;have ht:=ch.out;have g3:=bw.out;have hu:=cd.out;obtain⟨e0,e1,e2,e3,e4,e5,e8,e9,fa,fb,fc,fd⟩:=cf6 B)|((with_reducible refine gate_store (t:=84) (p:=4) rfl ?_);refine store_event (t:=84) (p:=4) (v:=?vo_w75) (w1:=((((((h1.setCell ⟨U,0,none⟩ (.int .i64 ar)).setCell ⟨U,1,none⟩ (.int .i64 0)).setCell ⟨U,2,none⟩ (.int .i64 0)).setCell ⟨U,3,none⟩ (.string ak)).setCell ⟨U,4,none⟩ (.string aI)).setCell ⟨U,5,none⟩ (.int .i64 (wrap64 (1+a5))))) ?hg ?ho ?hn ?hr ?_;(case ho=>rfl);(case hg=>rfl);(case hn=>rfl);(case hr=>exact gs_);intro cK hw;replace B:Hc cK U #[.int .i64 ar,.int .i64 0,.int .i64 0,.string ak,.string aI,.int .i64 (wrap64 (1+a5))] 84:=⟨wAp0 B⟩;replace J:Hc cK aO #[.int .i64 ar,.int .i64 0,.int .i64 0,.string ak,.string aI,.int .i64 (wrap64 (1+a5))] 84:=⟨wAp1 J bK⟩;replace au:Hc cK cl #[.string bZ,.string b0,.int .i64 a4] 79:=⟨wAp1 au ch⟩;replace HK:Hk w cK g:=⟨B12x37_⟩;replace HB:Hb l cK:=⟨B12x36_⟩;replace j:Aside0 (IsS73 l cK g q eb ec):=⟨B12x35_⟩;clear hw))
    refine bodyPost_ret (results_cell_row rfl _ _ U 84 #[.int .i64 ar,.int .i64 0,.int .i64 0,.string ak,.string aI,.int .i64 (wrap64 (1+a5))] (0,0) _ rfl (Ab B) Tryz.underlying84 rfl gk_) rfl ?_;exact D4x1_
   obtain⟨rfl,rfl,rfl,rfl,rfl,rfl,rfl,rfl⟩:=s8 bv;clear bv aK aW bV bW b3;obtain⟨jx,kD,jy,kE,g4,hv,g5,hx⟩:=o8_ b6 bR bK aY bS bz aZ bQ;obtain⟨bd,be,bh,bi,bj,bk,bl,bm,bn,bo,bp,bq⟩:=cf6 J
   go_wp2_with (first|((with_reducible refine gate_callee (f:=15) rfl ?_);refine goesL_ (some 38) rfl rfl Tryz.func15 gk_ rfl #[.pointer (some ⟨g,0,none⟩),.int .i64 20] rfl gm_ ?_;refine(spec_l01Below.calls g q cp cq 20 a5 cF cG l _ B12x0_ (Ae5 HB (IsS73.gf j) al av aJ aP) en.out).mono ?_;rintro e lv ⟨rfl,hi,hb,hk⟩;refine⟨_,rfl, ?_⟩;replace B:=kA hk B bw;replace J:=kA hk J aZ;replace au:=kA hk au cg;replace HK:=Dk4 HK ah ai aC aN hk;replace HB:=am hb;replace j:=am hi;obtain⟨bd,be,bh,bi,bj,bk,bl,bm,bn,bo,bp,bq⟩:=cf6 J)|(go_at_call 42;refine(spec_l01Once.calls g q cF cG 3 false eb ec l _ B12x0_ (Ae5 HB (IsS73.gf j) al av aJ aP) fh.out).mono ?_;rintro e h2 ⟨rfl,hi,hb,hk⟩;replace B:=am (KeepBut.blk hk (g':=U) (o:=.cells #[.int .i64 0,.int .i64 0,.int .i64 0,.string (⟨#[]⟩:ByteArray),.string (⟨#[]⟩:ByteArray),.int .i64 0] 84 (0,0)) (Ap1 B aY) bw.out (by simp));replace J:=am (KeepBut.blk hk (g':=aO) (o:=.cells #[.int .i64 ar,.int .i64 0,.int .i64 0,.string ak,.string aI,.int .i64 (wrap64 (1+a5))] 84 (0,0)) (Ap0 J) aZ.out (by simp));replace au:=am (KeepBut.blk hk (g':=cl) (o:=.cells #[.string bZ,.string b0,.int .i64 a4] 79 (0,0)) (Ap1 au bz) cg.out (by simp));replace HK:=Dk4 HK ah ai aC aN hk;replace HB:=am hb;replace j:=am hi;have jC:=fm.out;have kI:=dX.out;have jD:=ch.out;have kJ:=cf.out;have g6:=cg.out;have hz:=ev.out;obtain⟨h8,h9,ia,ij,ik,il⟩:=cf3 au;obtain⟨bd,be,bh,bi,bj,bk,bl,bm,bn,bo,bp,bq⟩:=cf6 J;have g7:=cX.out;have hC:=cW.out;have jG:=bw.out;have kM:=cd.out;obtain⟨e0,e1,e2,e3,e4,e5,e8,e9,fa,fb,fc,fd⟩:=cf6 B)|((with_reducible refine gate_store (t:=84) (p:=4) rfl ?_);refine store_event (t:=84) (p:=4) (v:=?vo_w92) (w1:=(((((((h2.setCell ⟨aO,5,none⟩ (.int .i64 a4)).setCell ⟨U,0,none⟩ (.int .i64 ar)).setCell ⟨U,1,none⟩ (.int .i64 0)).setCell ⟨U,2,none⟩ (.int .i64 0)).setCell ⟨U,3,none⟩ (.string ak)).setCell ⟨U,4,none⟩ (.string aI)).setCell ⟨U,5,none⟩ (.int .i64 a4))) ?hg ?ho ?hn ?hr ?_;(case ho=>rfl);(case hg=>rfl);(case hn=>rfl);(case hr=>exact gs_);intro cL hw;replace B:Hc cL U #[.int .i64 ar,.int .i64 0,.int .i64 0,.string ak,.string aI,.int .i64 a4] 84:=⟨wAp1 B aY⟩;replace J:Hc cL aO #[.int .i64 ar,.int .i64 0,.int .i64 0,.string ak,.string aI,.int .i64 a4] 84:=⟨wAp1 J bK⟩;replace au:Hc cL cl #[.string bZ,.string b0,.int .i64 a4] 79:=⟨wAp2 au ch bz⟩;replace HK:Hk w cL g:=⟨B12x37_⟩;replace HB:Hb l cL:=⟨B12x36_⟩;replace j:Aside0 (IsS73 l cL g q eb ec):=⟨B12x35_⟩;clear hw))
   refine bodyPost_ret (results_cell_row rfl _ _ U 84 #[.int .i64 ar,.int .i64 0,.int .i64 0,.string ak,.string aI,.int .i64 a4] (0,0) _ rfl (Ab B) Tryz.underlying84 rfl gk_) rfl ?_;exact D4x1_
  obtain⟨rfl,rfl,rfl,rfl,rfl,rfl,rfl,rfl⟩:=s8 bW;clear bW aK aW bV;obtain⟨g8,hD,g9,hE,jJ,kP,ha,hF⟩:=o8_ b6 bR bK aY bS bz aZ bQ;obtain⟨bd,be,bh,bi,bj,bk,bl,bm,bn,bo,bp,bq⟩:=cf6 J
  go_wp2_with (first|((with_reducible refine gate_callee (f:=15) rfl ?_);refine goesL_ (some 38) rfl rfl Tryz.func15 gk_ rfl #[.pointer (some ⟨g,0,none⟩),.int .i64 20] rfl gm_ ?_;refine(spec_l01Below.calls g q cp cq 20 a5 cF cG l _ B12x0_ (Ae5 HB (IsS73.gf j) al av aJ aP) en.out).mono ?_;rintro e h3 ⟨rfl,hi,hb,hk⟩;refine⟨_,rfl, ?_⟩;replace B:=kA hk B bw;replace J:=kA hk J aZ;replace HK:=Dk4 HK ah ai aC aN hk;replace HB:=am hb;replace j:=am hi;obtain⟨bd,be,bh,bi,bj,bk,bl,bm,bn,bo,bp,bq⟩:=cf6 J;have iM:=cX.out;have jM:=cW.out;have iN:=cf.out;have jN:=ch.out;have iO:=bw.out;have jO:=cd.out;obtain⟨e0,e1,e2,e3,e4,e5,e8,e9,fa,fb,fc,fd⟩:=cf6 B)|((with_reducible refine gate_store (t:=84) (p:=4) rfl ?_);refine store_event (t:=84) (p:=4) (v:=?vo_w104) (w1:=(((((((h3.setCell ⟨aO,5,none⟩ (.int .i64 (wrap64 (1+a5)))).setCell ⟨U,0,none⟩ (.int .i64 ar)).setCell ⟨U,1,none⟩ (.int .i64 0)).setCell ⟨U,2,none⟩ (.int .i64 0)).setCell ⟨U,3,none⟩ (.string ak)).setCell ⟨U,4,none⟩ (.string aI)).setCell ⟨U,5,none⟩ (.int .i64 (wrap64 (1+a5))))) ?hg ?ho ?hn ?hr ?_;(case ho=>rfl);(case hg=>rfl);(case hn=>rfl);(case hr=>exact gs_);intro dC hw;replace B:Hc dC U #[.int .i64 ar,.int .i64 0,.int .i64 0,.string ak,.string aI,.int .i64 (wrap64 (1+a5))] 84:=⟨wAp1 B aY⟩;replace J:Hc dC aO #[.int .i64 ar,.int .i64 0,.int .i64 0,.string ak,.string aI,.int .i64 (wrap64 (1+a5))] 84:=⟨wAp1 J bK⟩;replace HK:Hk w dC g:=⟨B12x37_⟩;replace HB:Hb l dC:=⟨B12x36_⟩;replace j:Aside0 (IsS73 l dC g q cF cG):=⟨B12x35_⟩;clear hw))
  refine bodyPost_ret (results_cell_row rfl _ _ U 84 #[.int .i64 ar,.int .i64 0,.int .i64 0,.string ak,.string aI,.int .i64 (wrap64 (1+a5))] (0,0) _ rfl (Ab B) Tryz.underlying84 rfl gk_) rfl ?_;exact D4x1_
 obtain⟨gs,gu⟩:=nE dZ
 obtain⟨rfl,rfl,rfl,rfl,rfl,rfl,rfl,rfl⟩:=s8 aW
 clear aW aK
 obtain⟨iP,jP,iQ,jQ,iR,jR,iS,jS⟩:=o8_ b6 bR bK aY bS bz aZ bQ
 obtain⟨bd,be,bh,bi,bj,bk,bl,bm,bn,bo,bp,bq⟩:=cf6 J
 obtain⟨iU,jU,iV,jV,iW,jW⟩:=o6_ cX cW cf ch bw cd
 obtain⟨e0,e1,e2,e3,e4,e5,e8,e9,fa,fb,fc,fd⟩:=cf6 B
 go_wp2_with (first|((with_reducible refine gate_store (t:=84) (p:=4) rfl ?_);refine store_event (t:=84) (p:=4) (v:=?vo_w114) (w1:=((((((wc.setCell ⟨U,0,none⟩ (.int .i64 ar)).setCell ⟨U,1,none⟩ (.int .i64 0)).setCell ⟨U,2,none⟩ (.int .i64 0)).setCell ⟨U,3,none⟩ (.string ak)).setCell ⟨U,4,none⟩ (.string aI)).setCell ⟨U,5,none⟩ (.int .i64 0))) ?hg ?ho ?hn ?hr ?_;(case ho=>rfl);(case hg=>rfl);(case hn=>rfl);(case hr=>exact gs_);intro ee hw;replace B:Hc ee U #[.int .i64 ar,.int .i64 0,.int .i64 0,.string ak,.string aI,.int .i64 0] 84:=⟨wAp0 B⟩;replace HK:Hk w ee g:=⟨B12x37_⟩;replace HB:Hb l ee:=⟨B12x36_⟩;replace j:Aside0 (IsS73 l ee g q cp cq):=⟨B12x35_⟩;clear hw))
 refine bodyPost_ret (results_cell_row rfl _ _ U 84 #[.int .i64 ar,.int .i64 0,.int .i64 0,.string ak,.string aI,.int .i64 0] (0,0) _ rfl (Ab B) Tryz.underlying84 rfl gk_) rfl ?_
 exact D4x1_
theorem B13x0_ (h:p:=by repeat (first|(with_reducible first|exact j.out|apply IsS73.alloc|apply IsS73.drewN|apply IsS73.drew|apply IsS73.set_1|apply IsS73.set_2|refine IsS73.far ?_ ce.out _|refine IsS73.far ?_ cV.out _|refine IsS73.far ?_ b5.out _|refine IsS73.far ?_ dV.out _)|exact j.out)):p:=h
theorem B13x4_ (h:p:=by repeat (first|(with_reducible first|exact j.out|apply IsS73.alloc|apply IsS73.drewN|apply IsS73.drew|apply IsS73.set_1|apply IsS73.set_2|refine IsS73.far ?_ ce.out _|refine IsS73.far ?_ cV.out _)|exact j.out)):p:=h
theorem B13x11_ (h:p:=by first|exact Nat.ne_of_lt (Nat.lt_of_lt_of_le d4 ap.out)|(rw [add_block];exact Nat.ne_of_lt (Nat.lt_of_lt_of_le d4 ap.out))|(show (Addr.add _ _).block≠_;rw [add_block];exact Nat.ne_of_lt (Nat.lt_of_lt_of_le d4 ap.out))|(dsimp only;exact Nat.ne_of_lt (Nat.lt_of_lt_of_le d4 ap.out))):p:=h
theorem B13x12_ (h:p:=by first|exact Nat.ne_of_lt (Nat.lt_of_lt_of_le d5 ap.out)|(rw [add_block];exact Nat.ne_of_lt (Nat.lt_of_lt_of_le d5 ap.out))|(show (Addr.add _ _).block≠_;rw [add_block];exact Nat.ne_of_lt (Nat.lt_of_lt_of_le d5 ap.out))|(dsimp only;exact Nat.ne_of_lt (Nat.lt_of_lt_of_le d5 ap.out))):p:=h
theorem B13x13_ (h:p:=by first|exact Nat.ne_of_lt (Nat.lt_of_lt_of_le d6 ap.out)|(rw [add_block];exact Nat.ne_of_lt (Nat.lt_of_lt_of_le d6 ap.out))|(show (Addr.add _ _).block≠_;rw [add_block];exact Nat.ne_of_lt (Nat.lt_of_lt_of_le d6 ap.out))|(dsimp only;exact Nat.ne_of_lt (Nat.lt_of_lt_of_le d6 ap.out))):p:=h
theorem B13x14_ (h:p:=by first|(rw [add_block];exact Kd.foot_ne br.out (by omega) (by decide))|(show (Addr.add _ _).block≠_;rw [add_block];exact Kd.foot_ne br.out (by omega) (by decide))|exact Kd.foot_ne br.out (by omega) (by decide)|(dsimp only;exact Kd.foot_ne br.out (by omega) (by decide))):p:=h
theorem B13x22_ (h:p:=by repeat (first|(with_reducible first|exact j.out|apply IsS73.alloc|apply IsS73.drewN|apply IsS73.drew|apply IsS73.set_1|apply IsS73.set_2|refine IsS73.far ?_ ce.out _|refine IsS73.far ?_ cV.out _|refine IsS73.far ?_ b5.out _)|exact j.out)):p:=h
theorem B13x27_ (h:p:=by have:=fk.out;have:=gg.out;first|omega|exact Nat.le_refl _):p:=h
theorem B13x32_ (h:p:=by have:=fk.out;first|omega|exact Nat.le_refl _):p:=h
mutual
def spec_l15Command.j0:Nat→Bool→List Int→Int→Int→List (S76)→List (S79)→Option (Int × Int × Int × ByteArray × ByteArray × Int × Int × Int)
 |0,_,_,_,_,_,_=>none
 |k+1,h4,aD,bG,bH,aU,h6=>if h4=true then (some (1,0,0,(⟨#[]⟩:ByteArray),(⟨#[]⟩:ByteArray),0,bG,bH)) else ((spec_l15Of.f k aD bG bH aU h6).bind fun a2=>(if 0≤(wrap64 ((aU.length:Int) - 1)) then (if (wrap64 ((aU.length:Int) - 1))<(aU.length:Int) then ((spec_l01Once.f aD a2.2.2.2.2.2.2.1 a2.2.2.2.2.2.2.2 4).bind fun dc=>(if dc.1=true then ((spec_l01Below.f aD dc.2.1 dc.2.2 (aU.length:Int)).bind fun ck=>(if 0≤ck.1 then (if ck.1<(aU.length:Int) then (spec_l15Command.j1 k aD ck.2.1 ck.2.2 a2.1 a2.2.1 a2.2.2.1 a2.2.2.2.1 a2.2.2.2.2.1 a2.2.2.2.2.2.1 ((rd_T76 aU ck.1).f0) ((rd_T76 aU ck.1).f1) ((rd_T76 aU ck.1).f2)) else (none)) else (none))) else (spec_l15Command.j1 k aD dc.2.1 dc.2.2 a2.1 a2.2.1 a2.2.2.1 a2.2.2.2.1 a2.2.2.2.2.1 a2.2.2.2.2.2.1 ((rd_T76 aU (wrap64 ((aU.length:Int) - 1))).f0) ((rd_T76 aU (wrap64 ((aU.length:Int) - 1))).f1) ((rd_T76 aU (wrap64 ((aU.length:Int) - 1))).f2)))) else (none)) else (none)))
def spec_l15Command.j1:Nat→List Int→Int→Int→Int→Int→Int→ByteArray→ByteArray→Int→Int→Int→ByteArray→Option (Int × Int × Int × ByteArray × ByteArray × Int × Int × Int)
 |0,_,_,_,_,_,_,_,_,_,_,_,_=>none
 |k+1,aD,bG,bH,cN,fT,fU,cQ,cR,cS,eY,eZ,lx=>(spec_l01Below.f aD bG bH 16).bind fun bP=>(if bP.1=0 then (spec_l15Command.j2 k aD bP.2.1 bP.2.2 cN eY eZ cQ cR cS) else (if bP.1=1 then ((spec_l01Below.f aD bP.2.1 bP.2.2 4).bind fun ez=>(spec_l15Command.j2 k aD ez.2.1 ez.2.2 cN eY ez.1 cQ cR cS)) else (if bP.1=2 then ((spec_l01Below.f aD bP.2.1 bP.2.2 9).bind fun eB=>(spec_l15Command.j2 k aD eB.2.1 eB.2.2 cN eB.1 (wrap64 (eZ+1)) cQ cR cS)) else (spec_l15Command.j2 k aD bP.2.1 bP.2.2 cN eY (wrap64 (eZ+1)) cQ cR cS))))
def spec_l15Command.j2:Nat→List Int→Int→Int→Int→Int→Int→ByteArray→ByteArray→Int→Option (Int × Int × Int × ByteArray × ByteArray × Int × Int × Int)
 |0,_,_,_,_,_,_,_,_,_=>none
 |k+1,aD,bG,bH,cN,fT,fU,cQ,cR,cS=>some (cN,fT,fU,cQ,cR,cS,bG,bH)
end
def spec_l15Command.f (k:Nat) (q:List Int) (ae:Int) (af:Int) (z:List (S76)) (aa:List (S79)):Option (Int × Int × Int × ByteArray × ByteArray × Int × Int × Int):=if (z.length:Int)=0 then (spec_l15Command.j0 k true q ae af z aa) else ((spec_l01Once.f q ae af 16).bind fun ey=>(spec_l15Command.j0 k ey.1 q ey.2.1 ey.2.2 z aa))
def spec_l15Command.T6:Bool × List (List Nat × List Nat):=(true,[([],[]),([0],[0]),([],[]),([],[]),([3],[3]),([4],[4]),([2,5],[2,5]),([1,6],[1,6]),([7],[7]),([8,6,0,1,2,3,4,5,6,7,8],[8])])
def spec_l15Command.B6:List Nat:=[0,1,0,0,8,24,60,127,255,511]
theorem spec_l15Command.tab6:rtab .any (opsOf Tryz.f41 6)=spec_l15Command.T6:=by kernel_rfl
theorem spec_l15Command.bits6:waitsOk spec_l15Command.T6.2 spec_l15Command.B6=true:=by kernel_rfl
theorem spec_l15Command.calls (k:Nat) (g:Nat) (q:List Int) (ae:Int) (af:Int) (aR:Option Addr) (aF:Nat) (z:List (S76)) (aE:Option Addr) (aG:Nat) (aa:List (S79)) (r1:Int) (r2:Int) (r3:Int) (r4:ByteArray) (r5:ByteArray) (r6:Int) (r7:Int) (r8:Int) (l w:World) (hI:IsS73 l w g q ae af) (hB:Below l.heap.size l w) (dr:∀ W_,KeepBut w W_ g none→Kd.C k76 W_ aR z.length z) (di:z.length≤aF) (ds:∀ W_,KeepBut w W_ g none→Kd.C k79 W_ aE aa.length aa) (dj:aa.length≤aG) (h:spec_l15Command.f k q ae af z aa=some (r1,r2,r3,r4,r5,r6,r7,r8)) :
  Calls Tryz.prog 41 #[.pointer (some ⟨g,0,none⟩),.agg #[.slice aR z.length aF,.slice aE aa.length aG]] w fun e w'=>e=.returned (.agg #[.int .i64 r1,.int .i64 r2,.int .i64 r3,.string r4,.string r5,.int .i64 r6])∧IsS73 l w' g q r7 r8∧Below l.heap.size l w'∧KeepBut w w' g none:=by
 have fw:=Tryz.underlying52
 have hH:=Tryz.underlying84
 have k4:=Tryz.underlying76
 have br:=am dr
 have ep:=am di
 clear dr di
 have et:=am ds
 have eq:=am dj
 clear ds dj
 have j:=am hI
 have HK:=am (KeepBut.refl w g none)
 have HL:=am hB.size
 clear hI
 have bu:=am hB.size
 have HB:=am hB
 clear hB
 have Y:=h
 clear h
 unfold spec_l15Command.f at Y
 replace Y:=am Y
 go_enter Tryz.func41,Tryz.ntmps41
 go_upto_region 1 with (first|((with_reducible refine gate_dst (N:=3) rfl ?_);refine bx (N:=3) (cs:=#[.slice aR z.length aF,.slice aE aa.length aG]) (t:=52) ?_;intro bU hg w4 hbox hb;replace HB:=De1 HB (IsS73.gf j) hb;have D:=am hbox;have ao:=gK hg HK;have ax:=am (Nat.le_trans bu.out (bs hg (keep_size HK.out)):l.heap.size≤bU);replace HK:=Ek0 HK hb;have ce:=am (nl hg (IsS73.lt j.out));have bT:=am (ng hg (IsS73.lt j.out));replace j:=am (IsS73.below (by repeat (first|(with_reducible first|exact j.out|apply IsS73.alloc|apply IsS73.drewN|apply IsS73.drew|apply IsS73.set_1|apply IsS73.set_2)|exact j.out)) hb);clear hb hbox hg)|((with_reducible refine gate_dst (N:=4) rfl ?_);refine bx (N:=4) (cs:=#[.int .i64 0,.int .i64 0,.int .i64 0,.string (⟨#[]⟩:ByteArray),.string (⟨#[]⟩:ByteArray),.int .i64 0]) (t:=84) ?_;intro az hg w5 hbox hb;replace HB:=De2 HB (IsS73.gf j) ax hb;have M:=am hbox;have aw:=gK hg HK;have aB:=am (Nat.le_trans bu.out (bs hg (keep_size HK.out)):l.heap.size≤az);replace HK:=Ek1 HK ao hb;have cz:=nA hg D;have cY:=mA hg D;replace D:=bA D hb;have cV:=am (nl hg (IsS73.lt j.out));have bX:=am (ng hg (IsS73.lt j.out));replace j:=am (IsS73.below (by repeat (first|(with_reducible first|exact j.out|apply IsS73.alloc|apply IsS73.drewN|apply IsS73.drew|apply IsS73.set_1|apply IsS73.set_2|refine IsS73.far ?_ ce.out _)|exact j.out)) hb);clear hb hbox hg))
 (try simp only [Act.put,List.setIfInBounds_toArray,List.set_cons_zero,List.set_cons_succ])
 go_cut [14] (fun hV wc=>∃ (kq:Nat) (eU:Bool) (dE:Int) (dF:Int),hV=.bool eU∧Aside0 (spec_l15Command.j0 kq eU q dE dF z aa=some (r1,r2,r3,r4,r5,r6,r7,r8))∧Aside0 (kq≤k)∧Hc wc bU #[(.slice aR z.length aF),(.slice aE aa.length aG)] 52∧Hc wc az #[.int .i64 0,.int .i64 0,.int .i64 0,.string (⟨#[]⟩:ByteArray),.string (⟨#[]⟩:ByteArray),.int .i64 0] 84∧Aside0 (IsS73 l wc g q dE dF)∧Hk w wc g∧Hb l wc)
 case first=>
  replace Y:=Y.out
  obtain⟨c6,aj⟩|⟨c6,aj⟩:=sp Y
  ·obtain⟨df,gx⟩:=yE c6;clear c6
   (first|rw [df]|(simp only [i64_w,i32_w];rw [df])|skip)
   replace aj:=am aj;clear Y;obtain⟨jw,kC,jz,kF⟩:=o4_ cz cY bT ce;obtain⟨e6,e7,fe,ff⟩:=cf2 D
   go_wp2
   go_meet
   case rel=>exact⟨_,true,ae,af,be_,aj,⟨gl_⟩,Cb D,Cb M,⟨B13x4_⟩,Ck2 HK ao aw,Ce3 HB (IsS73.gf j) ax aB⟩
  obtain⟨df,gx⟩:=nE c6
  have iy:¬ (z=[]):=fun h_=>c6 (by rw [h_];rfl)
  (first|rw [df]|(simp only [i64_w,i32_w];rw [df])|skip)
  obtain⟨⟨fG,fH,fI⟩,f2,aX⟩:=bsi aj;(try dsimp only at aX);replace aX:=am aX;clear Y aj;obtain⟨iT,jT,iX,jX⟩:=o4_ cz cY bT ce;obtain⟨e6,e7,fe,ff⟩:=cf2 D
  go_wp2_with (first|(go_at_call 42;refine(spec_l01Once.calls g q ae af 16 fG fH fI l _ B13x4_ (Ae3 HB (IsS73.gf j) ax aB) f2.out).mono ?_;rintro e lj ⟨rfl,hi,hb,hk⟩;replace D:=kA hk D bT;replace M:=kA hk M bX;replace HK:=Dk2 HK ao aw hk;replace HB:=am hb;replace j:=am hi))
  go_meet
  case rel=>exact⟨_,fG,fH,fI,be_,aX,⟨gl_⟩,Cb D,Cb M,⟨B13x4_⟩,Ck2 HK ao aw,Ce3 HB (IsS73.gf j) ax aB⟩
 clear Y
 obtain⟨kq,eU,dE,dF,rfl,ay,fk,D,M,j,HK,HB⟩:=hcut
 cases kq with
 |zero=>exact absurd ay.out (by simp [spec_l15Command.j0])
 |succ fC=>?_
 replace ay:=ay.out
 simp only [spec_l15Command.j0] at ay
 obtain⟨rfl,a7⟩|⟨rfl,a7⟩:=sb ay
 ·obtain⟨rfl,rfl,rfl,rfl,rfl,rfl,rfl,rfl⟩:=s8 a7;clear a7 ay;obtain⟨iY,jY,iZ,jZ⟩:=o4_ cY cz bX cV;obtain⟨ib,ic,ie,ig,ih,ii,im,io,ip,iq,ir,iu⟩:=cf6 M
  go_wp2_with (first|((with_reducible refine gate_store (t:=84) (p:=4) rfl ?_);refine store_event (t:=84) (p:=4) (v:=?vo_w19) (w1:=((((((wc.setCell ⟨az,0,none⟩ (.int .i64 1)).setCell ⟨az,1,none⟩ (.int .i64 0)).setCell ⟨az,2,none⟩ (.int .i64 0)).setCell ⟨az,3,none⟩ (.string (⟨#[]⟩:ByteArray))).setCell ⟨az,4,none⟩ (.string (⟨#[]⟩:ByteArray))).setCell ⟨az,5,none⟩ (.int .i64 0))) ?hg ?ho ?hn ?hr ?_;(case ho=>rfl);(case hg=>rfl);(case hn=>rfl);(case hr=>exact gs_);intro dD hw;replace D:Hc dD bU #[.slice aR z.length aF,.slice aE aa.length aG] 52:=⟨wAp1 D cz⟩;replace M:Hc dD az #[.int .i64 1,.int .i64 0,.int .i64 0,.string (⟨#[]⟩:ByteArray),.string (⟨#[]⟩:ByteArray),.int .i64 0] 84:=⟨wAp0 M⟩;replace HK:Hk w dD g:=⟨wAk2 HK ao aw⟩;replace HB:Hb l dD:=⟨wAe3 HB (IsS73.gf j) ax aB⟩;replace j:Aside0 (IsS73 l dD g q dE dF):=⟨(by rw [hw];exact B13x4_)⟩;clear hw))
  refine bodyPost_ret (results_cell_row rfl _ _ az 84 #[.int .i64 1,.int .i64 0,.int .i64 0,.string (⟨#[]⟩:ByteArray),.string (⟨#[]⟩:ByteArray),.int .i64 0] (0,0) _ rfl (Ab M) Tryz.underlying84 rfl gk_) rfl ?_
  exact⟨(by first|rfl|(simp [errW_none,errW_some] <;> rfl)|(simp [*,errW_none,errW_some] <;> rfl)),B13x4_,(Ae3 HB (IsS73.gf j) ax aB),(Ak2 HK ao aw)⟩
 obtain⟨⟨bC,cH,cI,bD,bE,bF,eP,eQ⟩,fg,aM⟩:=bsi a7
 (try dsimp only at aM)
 obtain⟨ba,dk⟩:∃ j_:Int,(wrap64 ((z.length:Int) - 1))=j_:=⟨_,rfl⟩
 (first|rw [dk] at aM|simp only [dk] at aM)
 (try rw [dk] at fg)
 have iC:(IntKind.i64.wrap ((z.length:Int) - 1))=ba:=(i64_w _).trans dk
 obtain⟨fr,a8⟩:=yd aM
 obtain⟨fs,cc⟩:=yd a8
 obtain⟨⟨hT,eR,eS⟩,f3,aK⟩:=bsi cc
 (try dsimp only at aK)
 replace aK:=am aK
 clear ay a7 aM a8 cc
 obtain⟨i5,j9,i6,ka⟩:=o4_ cz cY bT ce
 obtain⟨e6,e7,fe,ff⟩:=cf2 D
 go_upto_if 28 with (first|((with_reducible refine gate_callee (f:=76) rfl ?_);refine goesL_ (some 18) rfl rfl Tryz.func76 gk_ rfl #[.pointer (some ⟨g,0,none⟩),.agg #[.slice aR z.length aF,.slice aE aa.length aG]] rfl gm_ ?_;refine(spec_l15Of.calls fC g q dE dF _ _ z _ _ aa bC cH cI bD bE bF eP eQ l _ B13x4_ (Ae3 HB (IsS73.gf j) ax aB) (Kd.C_foot_step br.out (Ak2 HK ao aw)) ep.out (Kd.C_foot_step et.out (Ak2 HK ao aw)) eq.out fg.out).mono ?_;rintro e ln ⟨rfl,hi,hb,hk⟩;refine⟨_,rfl, ?_⟩;replace D:=kA hk D bT;replace M:=kA hk M bX;replace HK:=Dk2 HK ao aw hk;replace HB:=am hb;replace j:=am hi)|((with_reducible refine gate_dst (N:=5) rfl ?_);refine bx (N:=5) (cs:=#[.int .i64 0,.int .i64 0,.int .i64 0,.string (⟨#[]⟩:ByteArray),.string (⟨#[]⟩:ByteArray),.int .i64 0]) (t:=84) ?_;intro bB hg hY hbox hb;replace HB:=De3 HB (IsS73.gf j) ax aB hb;have ac:=am hbox;have aT:=gK hg HK;have aS:=am (Nat.le_trans bu.out (bs hg (keep_size HK.out)):l.heap.size≤bB);replace HK:=Ek2 HK ao aw hb;have bL:=nA hg D;have cA:=mA hg D;replace D:=bA D hb;have bM:=nA hg M;have cB:=mA hg M;replace M:=bA M hb;have b5:=am (nl hg (IsS73.lt j.out));have bN:=am (ng hg (IsS73.lt j.out));replace j:=am (IsS73.below B13x4_ hb);clear hb hbox hg;have gU:=cA.out;have he:=bL.out;have gV:=cB.out;have hf:=bM.out;have ja:=bN.out;have ke:=b5.out;obtain⟨dH,dI,dJ,dK,dL,dM,dN,dO,dP,dQ,dR,dS⟩:=cf6 ac)|((with_reducible refine gate_store (t:=84) (p:=5) rfl ?_);refine store_event (t:=84) (p:=5) (v:=?vo_w35) (w1:=((((((hY.setCell ⟨bB,0,none⟩ (.int .i64 bC)).setCell ⟨bB,1,none⟩ (.int .i64 cH)).setCell ⟨bB,2,none⟩ (.int .i64 cI)).setCell ⟨bB,3,none⟩ (.string bD)).setCell ⟨bB,4,none⟩ (.string bE)).setCell ⟨bB,5,none⟩ (.int .i64 bF))) ?hg ?ho ?hn ?hr ?_;(case ho=>rfl);(case hg=>rfl);(case hn=>rfl);(case hr=>exact gs_);intro cJ hw;replace D:Hc cJ bU #[.slice aR z.length aF,.slice aE aa.length aG] 52:=⟨wAp1 D bL⟩;replace M:Hc cJ az #[.int .i64 0,.int .i64 0,.int .i64 0,.string (⟨#[]⟩:ByteArray),.string (⟨#[]⟩:ByteArray),.int .i64 0] 84:=⟨wAp1 M bM⟩;replace ac:Hc cJ bB #[.int .i64 bC,.int .i64 cH,.int .i64 cI,.string bD,.string bE,.int .i64 bF] 84:=⟨wAp0 ac⟩;replace HK:Hk w cJ g:=⟨wAk3 HK ao aw aT⟩;replace HB:Hb l cJ:=⟨wAe4 HB (IsS73.gf j) ax aB aS⟩;replace j:Aside0 (IsS73 l cJ g q eP eQ):=⟨(by rw [hw];exact B13x22_)⟩;clear hw;obtain⟨e6,e7,fe,ff⟩:=cf2 D;have dx:0≤((ba):Int):=dga;have dy:(ba)<(z.length:Int):=dga;obtain⟨aQ,gI,fz,fA,fB⟩:=at_T76 (Kd.C_foot_now br.out HK.out) (ba) dx dy;cases gI;replace dx:=eq_true dx;replace dy:=eq_true dy)|((with_reducible refine gate_dst (N:=6) rfl ?_);refine bx (N:=6) (cs:=#[.int .i64 0,.int .i64 0,.string (⟨#[]⟩:ByteArray)]) (t:=76) ?_;intro aA hg lp hbox hb;replace HB:=De4 HB (IsS73.gf j) ax aB aS hb;have ag:=am hbox;have ap:=gK hg HK;have a6:=am (Nat.le_trans bu.out (bs hg (keep_size HK.out)):l.heap.size≤aA);replace HK:=Ek3 HK ao aw aT hb;have a0:=nA hg D;have cC:=mA hg D;replace D:=bA D hb;have bY:=nA hg M;have ci:=mA hg M;replace M:=bA M hb;have bO:=nA hg ac;have a9:=mA hg ac;replace ac:=bA ac hb;have dV:=am (nl hg (IsS73.lt j.out));have b7:=am (ng hg (IsS73.lt j.out));replace j:=am (IsS73.below B13x22_ hb);clear hb hbox hg;have gW:=cC.out;have hh:=a0.out;have je:=ci.out;have ki:=bY.out;have gX:=a9.out;have hj:=bO.out;have gY:=b7.out;have hl:=dV.out;obtain⟨fW,fX,fY,fZ,f0,f1⟩:=cf3 ag)|((with_reducible refine gate_callee (f:=42) rfl ?_);refine goesL_ (some 28) rfl rfl Tryz.func42 gk_ rfl #[.pointer (some ⟨g,0,none⟩),.int .i64 4] rfl gm_ ?_;refine(spec_l01Once.calls g q eP eQ 4 hT eR eS l _ B13x0_ (Ae5 HB (IsS73.gf j) ax aB aS a6) f3.out).mono ?_;rintro e hZ ⟨rfl,hi,hb,hk⟩;refine⟨_,rfl, ?_⟩;replace D:=am (KeepBut.blk hk (g':=bU) (o:=.cells #[.slice (some aQ) z.length aF,.slice aE aa.length aG] 52 (0,0)) (Ap1 D a0) bT.out (by simp));replace M:=am (KeepBut.blk hk (g':=az) (o:=.cells #[.int .i64 0,.int .i64 0,.int .i64 0,.string (⟨#[]⟩:ByteArray),.string (⟨#[]⟩:ByteArray),.int .i64 0] 84 (0,0)) (Ap1 M bY) bX.out (by simp));replace ac:=am (KeepBut.blk hk (g':=bB) (o:=.cells #[.int .i64 bC,.int .i64 cH,.int .i64 cI,.string bD,.string bE,.int .i64 bF] 84 (0,0)) (Ap1 ac bO) bN.out (by simp));replace ag:=am (KeepBut.blk hk (g':=aA) (o:=.cells #[.int .i64 ((rd_T76 z (ba)).f0),.int .i64 ((rd_T76 z (ba)).f1),.string ((rd_T76 z (ba)).f2)] 76 (0,0)) (Ap0 ag) b7.out (by simp));replace HK:=Dk4 HK ao aw aT ap hk;replace HB:=am hb;replace j:=am hi))
 (try simp only [Act.put,List.setIfInBounds_toArray,List.set_cons_zero,List.set_cons_succ])
 go_cut [] (fun wc=>∃ (kq:Nat) (ef:Int) (eh:Int) (b1:Int) (b2:Int) (dG:ByteArray),Aside0 (spec_l15Command.j1 kq q ef eh bC cH cI bD bE bF b1 b2 dG=some (r1,r2,r3,r4,r5,r6,r7,r8))∧Aside0 (kq≤fC)∧Hc wc bU #[(.slice (some aQ) z.length aF),(.slice aE aa.length aG)] 52∧Hc wc az #[.int .i64 0,.int .i64 0,.int .i64 0,.string (⟨#[]⟩:ByteArray),.string (⟨#[]⟩:ByteArray),.int .i64 0] 84∧Hc wc bB #[.int .i64 bC,.int .i64 cH,.int .i64 cI,.string bD,.string bE,.int .i64 bF] 84∧Hc wc aA #[.int .i64 b1,.int .i64 b2,.string dG] 76∧Aside0 (IsS73 l wc g q ef eh)∧Hk w wc g∧Hb l wc)
 case first=>
  replace aK:=aK.out
  obtain⟨rfl,aW⟩|⟨rfl,aW⟩:=sb aK
  ·obtain⟨⟨aH,fJ,fK⟩,f4,bV⟩:=bsi aW;(try dsimp only at bV);obtain⟨ft,bW⟩:=yd bV
   (first|rw [ft]|(simp only [i64_w,i32_w];rw [ft])|skip)
   obtain⟨ix,b3⟩:=yd bW;replace b3:=am b3;clear aK aW bV bW
   try go_wp2
   replace D:=dA D;replace M:=dA M;replace ac:=dA ac;replace ag:=dA ag;replace j:=am (IsS73.drew j.out);replace HK:=kdr HK;replace HB:=bdr HB
   have eK:0≤(aH:Int):=dga
   have eN:aH<(z.length:Int):=dga
   obtain⟨gl,gJ,eF,eG,eH⟩:=at_T76 (Kd.C_foot_now br.out HK.out) aH eK eN;have k7:=eH;have k6:=eG;have k5:=eF;obtain rfl:aQ=gl:=(by injection gJ);have eE:=(show (⟨(aQ.add ((aH).toNat * 3)).block,(aQ.add ((aH).toNat * 3)).off+2,none⟩:Addr).block≠g from B13x14_);have d6:=(Kd.foot_lt br.out (by omega) (by decide));have eD:=(show (⟨(aQ.add ((aH).toNat * 3)).block,(aQ.add ((aH).toNat * 3)).off+1,none⟩:Addr).block≠g from B13x14_);have d5:=(Kd.foot_lt br.out (by omega) (by decide));have eC:=(show ((aQ.add ((aH).toNat * 3)):Addr).block≠g from B13x14_);have d4:=(Kd.foot_lt br.out (by omega) (by decide));replace eK:=eq_true eK;replace eN:=eq_true eN;refine st_ 10 (fun w'=>w'.cell? ⟨bU,0,none⟩=some (.slice (some aQ) z.length aF)∧w'.cell? ⟨bU,1,none⟩=some (.slice aE aa.length aG)∧w'.cell? (aQ.add ((aH).toNat * 3))=some (.int .i64 ((rd_T76 z aH).f0))∧w'.cell? ⟨(aQ.add ((aH).toNat * 3)).block,(aQ.add ((aH).toNat * 3)).off+1,none⟩=some (.int .i64 ((rd_T76 z aH).f1))∧w'.cell? ⟨(aQ.add ((aH).toNat * 3)).block,(aQ.add ((aH).toNat * 3)).off+2,none⟩=some (.string ((rd_T76 z aH).f2))) [] spec_l15Command.tab6 spec_l15Command.bits6 ⟨bc D 0,bc D 1,eF,eG,eH⟩ (fun a3 bI eu=>?_);generalize hZ.drew=h0 at D M ac ag j HK HB eF eG eH a3 ⊢;refine pu_ 0 29 bI ?_;refine pu_ 2 31 bI ?_;refine pu_ 3 32 bI ?_;refine ta_ 1 30 bI eu a3 ?_;refine ta_ 4 33 bI eu a3 ?_;refine pu_ 5 34 bI ?_;refine on_ 6 (some 35) bI (fun K hK=>?_);refine goes_ Tryz.func15 gk_ rfl #[.pointer (some ⟨g,0,none⟩),.int .i64 (z.length:Int)] (by rfl) rfl rfl gm_ ?_;refine(spec_l01Below.calls g q eR eS (z.length:Int) aH fJ fK l _ B13x0_ (Ae5 HB (IsS73.gf j) ax aB aS a6) f4.out).mono ?_;rintro e eT ⟨rfl,hi,hb,hk⟩;have HS2_:=keep_cell hk (a3.2.2.1) (by first|(rw [add_block];exact eC)|(show (Addr.add _ _).block≠_;rw [add_block];exact eC)|exact eC);have HS3_:=keep_cell hk (a3.2.2.2.1) (by first|(rw [add_block];exact eD)|(show (Addr.add _ _).block≠_;rw [add_block];exact eD)|exact eD);have HS4_:=keep_cell hk (a3.2.2.2.2) (by first|(rw [add_block];exact eE)|(show (Addr.add _ _).block≠_;rw [add_block];exact eE)|exact eE);refine⟨_,rfl, ?_⟩;replace D:=kA hk D bT;replace M:=kA hk M bX;replace ac:=kA hk ac bN;replace ag:=kA hk ag b7;replace HK:=Dk4 HK ao aw aT ap hk;replace HB:=am hb;replace j:=am hi;refine hK.out _ _ ⟨bc D 0,bc D 1,HS2_,HS3_,HS4_⟩ (fun a3=>nm_ ?_);clear hK K;refine pu_ 7 36 bI ?_;refine ta_ 8 37 bI eu a3 ?_;refine on_ 9 none bI (fun K hK=>?_)
   have k1:eT.cell? ⟨aA,0,none⟩=some (.int .i64 ((rd_T76 z (ba)).f0)):=bc ag 0
   have iz:=blk_frozen ag.out 0;obtain⟨kS,kT,kU,iD,iE,iF⟩:=o6_ a0 bY bO cC ci a9
   have k2:eT.cell? ⟨aA,1,none⟩=some (.int .i64 ((rd_T76 z (ba)).f1)):=bc ag 1
   have iA:=blk_frozen ag.out 1;obtain⟨kV,kW,kX,iG,iH,iI⟩:=o6_ a0 bY bO cC ci a9
   have k3:eT.cell? ⟨aA,2,none⟩=some (.string ((rd_T76 z (ba)).f2)):=bc ag 2
   have iB:=blk_frozen ag.out 2;obtain⟨kY,kZ,k0,iJ,iK,iL⟩:=o6_ a0 bY bO cC ci a9;refine skip_ (w1:=?_) (by rfl) rfl ?_ ?_;rotate_left
   ·go_simp;rfl
   refine hK.out _ _ ⟨((cell_far (p:=⟨aA,_,none⟩) a0.out _).trans (((cell_far (p:=⟨aA,_,none⟩) a0.out _).trans (((cell_far (p:=⟨aA,_,none⟩) a0.out _).trans (a3.1)))))),((cell_far (p:=⟨aA,_,none⟩) a0.out _).trans (((cell_far (p:=⟨aA,_,none⟩) a0.out _).trans (((cell_far (p:=⟨aA,_,none⟩) a0.out _).trans (a3.2.1)))))),((cell_far (p:=⟨aA,_,none⟩) B13x11_ _).trans (((cell_far (p:=⟨aA,_,none⟩) B13x11_ _).trans (((cell_far (p:=⟨aA,_,none⟩) B13x11_ _).trans (a3.2.2.1)))))),((cell_far (p:=⟨aA,_,none⟩) B13x12_ _).trans (((cell_far (p:=⟨aA,_,none⟩) B13x12_ _).trans (((cell_far (p:=⟨aA,_,none⟩) B13x12_ _).trans (a3.2.2.2.1)))))),((cell_far (p:=⟨aA,_,none⟩) B13x13_ _).trans (((cell_far (p:=⟨aA,_,none⟩) B13x13_ _).trans (((cell_far (p:=⟨aA,_,none⟩) B13x13_ _).trans (a3.2.2.2.2))))))⟩ (fun a3=>?_);clear hK K;refine done_ (done_of bI.out gk_) ?_
   try go_wp2
   go_meet
   case rel=>exact⟨_,fJ,fK,((rd_T76 z aH).f0),((rd_T76 z aH).f1),((rd_T76 z aH).f2),b3,⟨B13x32_⟩,Cp1 D a0,Cp1 M bY,Cp1 ac bO,Cp0 ag,D4x0_⟩
  replace aW:=am aW;clear aK
  go_wp2
  go_meet
  case rel=>exact⟨_,eR,eS,((rd_T76 z (ba)).f0),((rd_T76 z (ba)).f1),((rd_T76 z (ba)).f2),aW,⟨B13x32_⟩,Cb D,Cb M,Cb ac,Cb ag,D4x0_⟩
 clear aK
 try clear gm
 try clear gn
 try clear fr
 try clear gp
 try clear fs
 try clear fz
 try clear fA
 try clear fB
 try clear dx
 try clear dy
 obtain⟨kq,ef,eh,b1,b2,dG,bv,gg,D,M,ac,ag,j,HK,HB⟩:=hcut
 cases kq with
 |zero=>exact absurd bv.out (by simp [spec_l15Command.j1])
 |succ hJ=>?_
 replace bv:=bv.out
 simp only [spec_l15Command.j1] at bv
 obtain⟨⟨hU,dz,dB⟩,f6,bJ⟩:=bsi bv
 (try dsimp only at bJ)
 replace bJ:=am bJ
 clear bv
 obtain⟨gZ,hm,jk,ko,jl,kp,jm,kr⟩:=o8_ cC a0 ci bY a9 bO b7 dV
 obtain⟨fW,fX,fY,fZ,f0,f1⟩:=cf3 ag
 obtain⟨jn,ks,jo,kt,g0,hp⟩:=o6_ cA bL cB bM bN b5
 obtain⟨dH,dI,dJ,dK,dL,dM,dN,dO,dP,dQ,dR,dS⟩:=cf6 ac
 go_upto_block 0 with (first|((with_reducible refine gate_callee (f:=15) rfl ?_);refine goesL_ (some 46) rfl rfl Tryz.func15 gk_ rfl #[.pointer (some ⟨g,0,none⟩),.int .i64 16] rfl gm_ ?_;refine(spec_l01Below.calls g q ef eh 16 hU dz dB l _ B13x0_ (Ae5 HB (IsS73.gf j) ax aB aS a6) f6.out).mono ?_;rintro e lr ⟨rfl,hi,hb,hk⟩;refine⟨_,rfl, ?_⟩;replace D:=am (KeepBut.blk hk (g':=bU) (o:=.cells #[.slice (some aQ) z.length aF,.slice aE aa.length aG] 52 (0,0)) (Ap1 D bL) bT.out (by simp));replace M:=am (KeepBut.blk hk (g':=az) (o:=.cells #[.int .i64 0,.int .i64 0,.int .i64 0,.string (⟨#[]⟩:ByteArray),.string (⟨#[]⟩:ByteArray),.int .i64 0] 84 (0,0)) (Ap1 M bM) bX.out (by simp));replace ac:=am (KeepBut.blk hk (g':=bB) (o:=.cells #[.int .i64 bC,.int .i64 b1,.int .i64 (wrap64 (b2+1)),.string bD,.string bE,.int .i64 bF] 84 (0,0)) (Ap0 ac) bN.out (by simp));replace ag:=am (KeepBut.blk hk (g':=aA) (o:=.cells #[.int .i64 b1,.int .i64 b2,.string dG] 76 (0,0)) (Ap1 ag a9) b7.out (by simp));replace HK:=Dk4 HK ao aw aT ap hk;replace HB:=am hb;replace j:=am hi))
 (try simp only [Act.put,List.setIfInBounds_toArray,List.set_cons_zero,List.set_cons_succ])
 go_cut [] (fun wc=>∃ (kq:Nat) (eg:Int) (ei:Int) (cO:Int) (cP:Int),Aside0 (spec_l15Command.j2 kq q eg ei bC cO cP bD bE bF=some (r1,r2,r3,r4,r5,r6,r7,r8))∧Aside0 (kq≤hJ)∧Hc wc bU #[(.slice (some aQ) z.length aF),(.slice aE aa.length aG)] 52∧Hc wc az #[.int .i64 0,.int .i64 0,.int .i64 0,.string (⟨#[]⟩:ByteArray),.string (⟨#[]⟩:ByteArray),.int .i64 0] 84∧Hc wc bB #[.int .i64 bC,.int .i64 cO,.int .i64 cP,.string bD,.string bE,.int .i64 bF] 84∧Hc wc aA #[.int .i64 b1,.int .i64 b2,.string dG] 76∧Aside0 (IsS73 l wc g q eg ei)∧Hk w wc g∧Hb l wc)
 case first=>
  replace bJ:=bJ.out
  obtain⟨d0,b4⟩|⟨d0,b4⟩:=sp bJ
  ·obtain⟨de,gw⟩:=yE d0;clear d0
   (first|rw [de]|(simp only [i64_w,i32_w];rw [de])|skip)
   replace b4:=am b4;clear bJ;obtain⟨js,kx,jt,ky,ju,kz,jv,kB⟩:=o8_ cC a0 ci bY a9 bO b7 dV;obtain⟨fW,fX,fY,fZ,f0,f1⟩:=cf3 ag;obtain⟨g1,hs,g2,ht,g3,hu⟩:=o6_ cA bL cB bM bN b5;obtain⟨dH,dI,dJ,dK,dL,dM,dN,dO,dP,dQ,dR,dS⟩:=cf6 ac
   go_wp2
   go_meet
   case rel=>exact⟨_,dz,dB,b1,b2,b4,⟨B13x27_⟩,Cp1 D bL,Cp1 M bM,Cp0 ac,Cp1 ag a9,D4x0_⟩
  obtain⟨de,gw⟩:=nE d0
  (first|rw [de]|(simp only [i64_w,i32_w];rw [de])|skip)
  obtain⟨d1,cw⟩|⟨d1,cw⟩:=sp b4
  ·obtain⟨gy,gB⟩:=yE d1;clear d1;obtain⟨⟨fL,fM,fN⟩,f7,dT⟩:=bsi cw;(try dsimp only at dT);replace dT:=am dT;clear bJ b4 cw
   go_wp2_with (first|((with_reducible refine gate_callee (f:=15) rfl ?_);refine goesL_ (some 55) rfl rfl Tryz.func15 gk_ rfl #[.pointer (some ⟨g,0,none⟩),.int .i64 4] rfl gm_ ?_;refine(spec_l01Below.calls g q dz dB 4 fL fM fN l _ B13x0_ (Ae5 HB (IsS73.gf j) ax aB aS a6) f7.out).mono ?_;rintro e lu ⟨rfl,hi,hb,hk⟩;refine⟨_,rfl, ?_⟩;replace D:=kA hk D bT;replace M:=kA hk M bX;replace ac:=kA hk ac bN;replace ag:=kA hk ag b7;replace HK:=Dk4 HK ao aw aT ap hk;replace HB:=am hb;replace j:=am hi;have g4:=cA.out;have hv:=bL.out;have g5:=cB.out;have hx:=bM.out;have jA:=bO.out;have kG:=a9.out;have jB:=bN.out;have kH:=b5.out;obtain⟨dH,dI,dJ,dK,dL,dM,dN,dO,dP,dQ,dR,dS⟩:=cf6 ac))
   go_meet
   case rel=>exact⟨_,fM,fN,b1,fL,dT,⟨B13x27_⟩,Cp1 D bL,Cp1 M bM,Cp0 ac,Cp1 ag a9,D4x0_⟩
  obtain⟨gy,gB⟩:=nE d1
  obtain⟨d2,cx⟩|⟨d2,cx⟩:=sp cw
  ·obtain⟨gC,gD⟩:=yE d2;clear d2;obtain⟨⟨fO,fP,fQ⟩,f8,dU⟩:=bsi cx;(try dsimp only at dU);replace dU:=am dU;clear bJ b4 cw cx
   go_wp2_with (first|((with_reducible refine gate_callee (f:=15) rfl ?_);refine goesL_ (some 60) rfl rfl Tryz.func15 gk_ rfl #[.pointer (some ⟨g,0,none⟩),.int .i64 9] rfl gm_ ?_;refine(spec_l01Below.calls g q dz dB 9 fO fP fQ l _ B13x0_ (Ae5 HB (IsS73.gf j) ax aB aS a6) f8.out).mono ?_;rintro e lw ⟨rfl,hi,hb,hk⟩;refine⟨_,rfl, ?_⟩;replace D:=kA hk D bT;replace M:=kA hk M bX;replace ac:=kA hk ac bN;replace ag:=kA hk ag b7;replace HK:=Dk4 HK ao aw aT ap hk;replace HB:=am hb;replace j:=am hi;have g6:=cA.out;have hz:=bL.out;have jE:=cB.out;have kK:=bM.out;have jF:=bO.out;have kL:=a9.out;have g7:=bN.out;have hC:=b5.out;obtain⟨dH,dI,dJ,dK,dL,dM,dN,dO,dP,dQ,dR,dS⟩:=cf6 ac))
   go_meet
   case rel=>exact⟨_,fP,fQ,fO,(wrap64 (b2+1)),dU,⟨B13x27_⟩,Cp1 D bL,Cp1 M bM,Cp0 ac,Cp1 ag a9,D4x0_⟩
  obtain⟨gC,gD⟩:=nE d2;replace cx:=am cx;clear bJ b4 cw
  go_wp2
  go_meet
  case rel=>exact⟨_,dz,dB,b1,(wrap64 (b2+1)),cx,⟨B13x27_⟩,Cb D,Cb M,Cb ac,Cb ag,D4x0_⟩
 clear bJ
 try clear gm
 try clear gn
 try clear fr
 try clear gp
 try clear fs
 try clear fz
 try clear fA
 try clear fB
 try clear dx
 try clear dy
 obtain⟨kq,eg,ei,cO,cP,cy,iw,D,M,ac,ag,j,HK,HB⟩:=hcut
 cases kq with
 |zero=>exact absurd cy.out (by simp [spec_l15Command.j2])
 |succ k9=>?_
 replace cy:=cy.out
 simp only [spec_l15Command.j2] at cy
 obtain⟨rfl,rfl,rfl,rfl,rfl,rfl,rfl,rfl⟩:=s8 cy
 clear cy
 obtain⟨jH,kN,jI,kO,g8,hD,g9,hE⟩:=o8_ cA bL cB bM bO a9 bN b5
 obtain⟨dH,dI,dJ,dK,dL,dM,dN,dO,dP,dQ,dR,dS⟩:=cf6 ac
 obtain⟨ha,hF,jK,kQ,jL,kR⟩:=o6_ cY cz bY ci bX cV
 obtain⟨ib,ic,ie,ig,ih,ii,im,io,ip,iq,ir,iu⟩:=cf6 M
 go_wp2_with (first|((with_reducible refine gate_store (t:=84) (p:=4) rfl ?_);refine store_event (t:=84) (p:=4) (v:=?vo_w100) (w1:=((((((wc.setCell ⟨az,0,none⟩ (.int .i64 bC)).setCell ⟨az,1,none⟩ (.int .i64 cO)).setCell ⟨az,2,none⟩ (.int .i64 cP)).setCell ⟨az,3,none⟩ (.string bD)).setCell ⟨az,4,none⟩ (.string bE)).setCell ⟨az,5,none⟩ (.int .i64 bF))) ?hg ?ho ?hn ?hr ?_;(case ho=>rfl);(case hg=>rfl);(case hn=>rfl);(case hr=>exact gs_);intro ed hw;replace M:Hc ed az #[.int .i64 bC,.int .i64 cO,.int .i64 cP,.string bD,.string bE,.int .i64 bF] 84:=⟨wAp0 M⟩;replace HK:Hk w ed g:=⟨wAk4 HK ao aw aT ap⟩;replace HB:Hb l ed:=⟨wAe5 HB (IsS73.gf j) ax aB aS a6⟩;replace j:Aside0 (IsS73 l ed g q eg ei):=⟨(by rw [hw];exact B13x0_)⟩;clear hw))
 refine bodyPost_ret (results_cell_row rfl _ _ az 84 #[.int .i64 bC,.int .i64 cO,.int .i64 cP,.string bD,.string bE,.int .i64 bF] (0,0) _ rfl (Ab M) Tryz.underlying84 rfl gk_) rfl ?_
 exact⟨(by first|rfl|(simp [errW_none,errW_some] <;> rfl)|(simp only [←dk];first|rfl|(simp [errW_none,errW_some] <;> rfl))|(simp [*,errW_none,errW_some] <;> rfl)),B13x0_,(Ae5 HB (IsS73.gf j) ax aB aS a6),(Ak4 HK ao aw aT ap)⟩
end
end Go.Proofs.YtofmbomonkbeaaaGreatDoor.QFnSnapsCut
