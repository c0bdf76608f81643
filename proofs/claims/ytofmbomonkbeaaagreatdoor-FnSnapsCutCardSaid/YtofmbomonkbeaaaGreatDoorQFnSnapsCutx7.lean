/- Functions that a law reaches, as functions of Lean, and the walks that show that the calls come to their answers. No condition. -/
import Derived.Test.YtofmbomonkbeaaaGreatDoorQFnSnapsCutx0
import Derived.Test.YtofmbomonkbeaaaGreatDoorQFnSnapsCutx5
import Derived.Test.YtofmbomonkbeaaaGreatDoorQFnSnapsCutx6
import Derived.Test.YtofmbomonkbeaaaGreatDoorVFnSnapsCuthort3
import Derived.Test.YtofmbomonkbeaaaGreatDoorVFnSnapsCuthort2
import Derived.Test.YtofmbomonkbeaaaGreatDoorVFnSnapsCuthort
import Derived.Test.YtofmbomonkbeaaaGreatDoorVFnSnapsCuthort8
import Derived.Laws.Cover1
namespace Go.Proofs.YtofmbomonkbeaaaGreatDoor.QFnSnapsCut
open Go.RowKit Go.Proofs.YtofmbomonkbeaaaGreatDoorW.PrintWords Go.Proofs.YtofmbomonkbeaaaGreatDoorW.PrintLast Go.Proofs.YtofmbomonkbeaaaGreatDoorW.PrintMore Go.Proofs.YtofmbomonkbeaaaGreatDoor.Short
set_option linter.unusedVariables false
set_option linter.unusedSimpArgs false
set_option maxHeartbeats 8000000
set_option maxRecDepth 100000
variable {p:Prop}
theorem D7x0_ (h:p:=by exact⟨bc ak 0,bc ak 1,bc ak 2,bc aj 0,((hbc HB cM).trans cM),((hbc HB cN).trans cN),((hbc HB cO).trans cO)⟩):p:=h
theorem D7x1_ (h:p:=by exact⟨B23x12_,(Ae0 HB)⟩):p:=h
theorem D7x2_ (h:p:=by exact⟨⟨gl_⟩,Cr bE,Cb ai,Cb au,Ce3 HB (IsS94.gf aC) aQ a4⟩):p:=h
theorem D7x3_ (h:p:=by exact⟨B23x7_,(Ae1 HB (IsS94.gf aW)),(Ak0 HK)⟩):p:=h
theorem D7x4_ (h:p:=by exact⟨⟨B23x34_⟩,⟨tfg ah.out bd.out (by decide)⟩,Cp1 Y b0,Cp1 ad b1,Cp1 ae b3,Ce4 HB ax ay aA cH⟩):p:=h
section
attribute [local go_sem] max2_int min2_int max_two min_two max_three min_three max_four min_four
theorem B23x4_ (h:p:=by repeat (first|(with_reducible first|exact aC.out|apply IsS94.alloc|apply IsS94.drewN|apply IsS94.drew|apply IsS94.set_0|apply IsS94.set_1|apply IsS94.set_2|refine IsS94.far ?_ gY.out _|refine IsS94.far ?_ eC.out _)|exact aC.out)):p:=h
theorem B23x7_ (h:p:=by repeat (first|(with_reducible first|exact aW.out|apply IsS94.alloc|apply IsS94.drewN|apply IsS94.drew|apply IsS94.set_0|apply IsS94.set_1|apply IsS94.set_2)|exact aW.out)):p:=h
theorem B23x12_ (h:p:=by first|rfl|(simp [errW_none,errW_some] <;> rfl)|(simp [*,errW_none,errW_some] <;> rfl)):p:=h
theorem B23x34_ (h:p:=by have:=ao.out;have:=d7.out;omega):p:=h
theorem B23x36_ (h:p:=by have:=ao.out;first|omega|exact Nat.le_refl _):p:=h
def spec_l05Take.f (aM:ByteArray) (az:Int) (bw:Bool) (a1:Int):Option (ByteArray × ByteArray × Int × Bool):=if bw=true then (some ((⟨#[]⟩:ByteArray),aM,az,true)) else (if a1>(wrap64 ((aM.size:Int) - az)) then (some ((⟨#[]⟩:ByteArray),aM,az,true)) else (if 0≤(wrap64 ((wrap64 (az+a1)) - a1)) then (if (wrap64 ((wrap64 (az+a1)) - a1))≤(wrap64 (az+a1)) then (if (wrap64 (az+a1))≤(aM.size:Int) then (some (aM.extract ((wrap64 ((wrap64 (az+a1)) - a1)):Int).toNat ((wrap64 (az+a1)):Int).toNat,aM,wrap64 (az+a1),bw)) else (none)) else (none)) else (none)))
theorem spec_l05Take.calls (g:Nat) (aM:ByteArray) (az:Int) (bw:Bool) (a1:Int) (r1:ByteArray) (r2:ByteArray) (r3:Int) (r4:Bool) (w0 w:World) (hI:IsS94 w0 w g aM az bw) (hB:Below w0.heap.size w0 w) (h:spec_l05Take.f aM az bw a1=some (r1,r2,r3,r4)) :
  Calls Tryz.prog 82 #[.pointer (some ⟨g,0,none⟩),.int .i64 a1] w fun e w'=>e=.returned (.string r1)∧IsS94 w0 w' g r2 r3 r4∧Below w0.heap.size w0 w'∧KeepBut w w' g none:=by
 have aW:=am hI
 have HK:=am (KeepBut.refl w g none)
 have HL:=am hB.size
 clear hI
 have gW:=am hB.size
 have HB:=am hB
 clear hB
 have q:=h
 clear h
 unfold spec_l05Take.f at q
 obtain⟨rfl,j⟩|⟨rfl,j⟩:=sb q
 ·obtain⟨rfl,rfl,rfl,rfl⟩:=s4 j;clear j q;obtain⟨dc,hW⟩:=aW.out;have lv:=cellS94_0 dc;have lw:=cellS94_1 dc;have lx:=cellS94_2 dc;obtain⟨lV,lW,lX⟩:=fr3 dc;clear dc hW;go_enter Tryz.func82,Tryz.ntmps82
  go_wp2
  repeat (go_quiet (fail);try go_wp2)
  go_ret;exact⟨B23x12_,D7x3_⟩
 ·obtain⟨c5,l⟩|⟨c5,l⟩:=sp j
  ·have eJ:decide ((wrap64 ((aM.size:Int) - az))<a1)=true:=decide_eq_true c5
   clear c5;obtain⟨rfl,rfl,rfl,rfl⟩:=s4 l;clear l q j;obtain⟨dd,hX⟩:=aW.out;have lA:=cellS94_0 dd;have lB:=cellS94_1 dd;have lC:=cellS94_2 dd;obtain⟨l2,l3,l4⟩:=fr3 dd;clear dd hX;go_enter Tryz.func82,Tryz.ntmps82
   go_wp2
   repeat (go_quiet (fail);try go_wp2)
   go_ret;exact⟨B23x12_,D7x3_⟩
  ·have eJ:decide ((wrap64 ((aM.size:Int) - az))<a1)=false:=decide_eq_false c5
   clear c5;obtain⟨h7,ei⟩:∃ j_:Int,(wrap64 ((wrap64 (az+a1)) - a1))=j_:=⟨_,rfl⟩
   (first|rw [ei] at l|simp only [ei] at l)
   have jI:(IntKind.i64.wrap ((wrap64 (az+a1)) - a1))=h7:=(i64_w _).trans ei
   obtain⟨hv,jy,U⟩:=ye l;obtain⟨c9,M⟩:=yn U;have b5:=eq_true c9;have jz:=decide_eq_true c9;obtain⟨c10,J⟩:=yn M;have fF:=eq_true c10;have g4:=decide_eq_true c10;obtain⟨rfl,rfl,rfl,rfl⟩:=s4 J;clear J q j l U M;obtain⟨cY,hS⟩:=aW.out;have lc:=cellS94_0 cY;have ld:=cellS94_1 cY;have lf:=cellS94_2 cY;obtain⟨lD,lE,lF⟩:=fr3 cY;clear cY hS;go_enter Tryz.func82,Tryz.ntmps82
   go_wp2
   repeat (go_quiet (fail);try go_wp2)
   go_ret
   exact⟨(by first|rfl|(simp [errW_none,errW_some] <;> rfl)|(simp only [←ei];first|rfl|(simp [errW_none,errW_some] <;> rfl))|(simp [*,errW_none,errW_some] <;> rfl)),D7x3_⟩

def spec_l05ReadShort.f (k:Nat) (aM:ByteArray) (az:Int) (bw:Bool):Option (ByteArray × ByteArray × Int × Bool):=(spec_l05Var.f k aM az bw).bind fun eb=>((spec_l05Take.f eb.2.1 eb.2.2.1 eb.2.2.2 eb.1).bind fun ec=>(some (ec.1,ec.2.1,ec.2.2.1,ec.2.2.2)))
theorem spec_l05ReadShort.calls (k:Nat) (g:Nat) (aM:ByteArray) (az:Int) (bw:Bool) (r1:ByteArray) (r2:ByteArray) (r3:Int) (r4:Bool) (w0 w:World) (hI:IsS94 w0 w g aM az bw) (hB:Below w0.heap.size w0 w) (h:spec_l05ReadShort.f k aM az bw=some (r1,r2,r3,r4)) :
  Calls Tryz.prog 52 #[.pointer (some ⟨g,0,none⟩)] w fun e w'=>e=.returned (.string r1)∧IsS94 w0 w' g r2 r3 r4∧Below w0.heap.size w0 w'∧KeepBut w w' g none:=by
 have aW:=am hI
 have HK:=am (KeepBut.refl w g none)
 have HL:=am hB.size
 clear hI
 have gW:=am hB.size
 have HB:=am hB
 clear hB
 have q:=h
 clear h
 unfold spec_l05ReadShort.f at q
 obtain⟨⟨e3,fP,fQ,fR⟩,A2,j⟩:=bsi q
 (try dsimp only at j)
 obtain⟨⟨h9,ia,ib,ic⟩,A3,l⟩:=bsi j
 (try dsimp only at l)
 obtain⟨rfl,rfl,rfl,rfl⟩:=s4 l
 clear l q j
 go_enter Tryz.func52,Tryz.ntmps52
 go_wp2_with (first|((with_reducible refine gate_callee (f:=50) rfl ?_);refine goesL_ (some 5) rfl rfl Tryz.func50 gk_ rfl #[.pointer (some ⟨g,0,none⟩)] rfl gm_ ?_;refine(spec_l05Var.calls k g aM az bw e3 fP fQ fR w0 _ B23x7_ (Ae1 HB (IsS94.gf aW)) A2.out).mono ?_;rintro e w4 ⟨rfl,hi,hb,hk⟩;refine⟨_,rfl, ?_⟩;replace HK:=Dk0 HK hk;replace HB:=am hb;replace aW:=am hi)|((with_reducible refine gate_callee (f:=82) rfl ?_);refine goesL_ (some 8) rfl rfl Tryz.func82 gk_ rfl #[.pointer (some ⟨g,0,none⟩),.int .i64 e3] rfl gm_ ?_;refine(spec_l05Take.calls g fP fQ fR e3 h9 ia ib ic w0 _ B23x7_ (Ae1 HB (IsS94.gf aW)) A3.out).mono ?_;rintro e w5 ⟨rfl,hi,hb,hk⟩;refine⟨_,rfl, ?_⟩;replace HK:=Dk0 HK hk;replace HB:=am hb;replace aW:=am hi))
 go_ret
 exact⟨B23x12_,D7x3_⟩

def spec_ReadSnap.j0:Nat→Bool→Int→Int→List Int→ByteArray→Option (Int × Int × List Int × ByteArray × Bool)
 |0,_,_,_,_,_=>none
 |k+1,iE,iF,iG,iH,iI=>if iE=true then (some (0,0,([]:List Int),(⟨#[]⟩:ByteArray),false)) else (some (iF,iG,iH,iI,true))
def spec_ReadSnap.f (k:Nat) (B:ByteArray):Option (Int × Int × List Int × ByteArray × Bool):=(spec_Unsealed.f k B).bind fun fz=>((spec_l05Var.f k fz.1 0 (!fz.2)).bind fun co=>((spec_l05Var.f k co.2.1 co.2.2.1 co.2.2.2).bind fun cp=>((spec_l05ReadShort.f k cp.2.1 cp.2.2.1 cp.2.2.2).bind fun ed=>((spec_ReadConf.f k ed.1).bind fun ee=>((spec_l05ReadShort.f k ed.2.1 ed.2.2.1 ed.2.2.2).bind fun dn=>((spec_SnapText.f k co.1 cp.1 ee.1 dn.1).bind fun fA=>(if dn.2.2.2=true then (spec_ReadSnap.j0 k true co.1 cp.1 ee.1 dn.1) else (if fA.2=true then (spec_ReadSnap.j0 k (fA.1.toList != B.toList) co.1 cp.1 ee.1 dn.1) else (spec_ReadSnap.j0 k true co.1 cp.1 ee.1 dn.1)))))))))
theorem spec_ReadSnap.calls (k:Nat) (B:ByteArray) (r1:Int) (r2:Int) (r3:List Int) (r4:ByteArray) (r5:Bool) (w:World) (h:spec_ReadSnap.f k B=some (r1,r2,r3,r4,r5)) :
  Calls Tryz.prog 24 #[.string B] w fun e w'=>∃ dV:Value,e=.returned (.tuple #[.agg #[.int .i64 r1,.int .i64 r2,dV,.string r4],.bool r5])∧Kd.R (Kd.int .i64) 3 w' w.heap.size (fun _=>True) dV r3∧Below w.heap.size w w':=by
 have fO:=Tryz.underlying29
 have kO:=Tryz.underlying94
 have HB:=am (Below.refl w.heap.size w)
 have q:=h
 clear h
 unfold spec_ReadSnap.f at q
 obtain⟨⟨e4,e5⟩,A2,j⟩:=bsi q
 (try dsimp only at j)
 obtain⟨⟨bL,fS,fT,fU⟩,A3,l⟩:=bsi j
 (try dsimp only at l)
 obtain⟨⟨bW,fV,fW,fX⟩,A4,U⟩:=bsi l
 (try dsimp only at U)
 obtain⟨⟨e6,e7,e8,e9⟩,A5,M⟩:=bsi U
 (try dsimp only at M)
 obtain⟨⟨a8,ie⟩,A6,J⟩:=bsi M
 (try dsimp only at J)
 obtain⟨⟨b9,fY,fZ,f0⟩,A7,Z⟩:=bsi J
 (try dsimp only at Z)
 obtain⟨⟨f1,ig⟩,A8,af⟩:=bsi Z
 (try dsimp only at af)
 replace af:=am af
 clear q j l U M J Z
 go_enter Tryz.func24,Tryz.ntmps24
 go_upto_region 9 with (first|((with_reducible refine gate_dst (N:=2) rfl ?_);refine bx (N:=2) (cs:=#[.int .i64 0,.int .i64 0,.slice none 0 0,.string (⟨#[]⟩:ByteArray)]) (t:=29) ?_;intro b7 hg iu hbox hb;have ai:=am hbox;have aQ:=gA hg HB;replace HB:=hA HB hb;clear hb hbox hg)|((with_reducible refine gate_callee (f:=49) rfl ?_);refine goesL_ (some 12) rfl rfl Tryz.func49 gk_ rfl #[.string B] rfl gm_ ?_;refine(spec_Unsealed.calls k B e4 e5 _ A2.out).mono ?_;rintro e kZ ⟨rfl,hb⟩;refine⟨_,rfl, ?_⟩;replace ai:=bA ai hb;replace HB:=De1 HB aQ hb)|((with_reducible refine gate_dst (N:=19) rfl ?_);refine bx (N:=19) (cs:=#[.string e4,.int .i64 0,.bool (!e5)]) (t:=94) ?_;intro bI hg ek hbox hb;have cW:=am hbox;have ex:=gA hg HB;replace HB:=De1 HB aQ hb;have ea:=nA hg ai;have gY:=mA hg ai;replace ai:=bA ai hb;clear hb hbox hg)|((with_reducible refine gate_dst (N:=7) rfl ?_);refine bx (N:=7) (cs:=#[.int .i64 0,.int .i64 0,.slice none 0 0,.string (⟨#[]⟩:ByteArray)]) (t:=29) ?_;intro b8 hg k0 hbox hb;have au:=am hbox;have a4:=gA hg HB;replace HB:=De2 HB aQ ex hb;have bZ:=nA hg ai;have eD:=mA hg ai;replace ai:=bA ai hb;have eC:=nA hg cW;have df:=mA hg cW;replace cW:=bA cW hb;clear hb hbox hg;have jM:=eD.out;have kk:=bZ.out;have hY:=df.out;have h1:=eC.out;obtain⟨dY,dZ,d0,d1,d2,d3,d4,d5⟩:=cf4 au)|((with_reducible refine gate_callee (f:=50) rfl ?_);refine goesL_ (some 22) rfl rfl Tryz.func50 gk_ rfl #[.pointer (some ⟨bI,0,none⟩)] rfl gm_ ?_;(with_reducible refine(spec_l05Var.calls k bI e4 0 (!e5) bL fS fT fU w _ ?z1 ?z2 A3.out).mono ?_);(case z1=>exact⟨(Ap1 cW eC),ex.out⟩);(case z2=>repeat (first|(with_reducible first|exact HB.out|apply below_alloc|apply pw_below_drewN|apply below_drew1|refine below_set ?_ aQ.out|refine below_set ?_ ex.out|refine below_set ?_ a4.out)|exact HB.out));rintro e iv ⟨rfl,hi,hb,hk⟩;refine⟨_,rfl, ?_⟩;replace ai:=am (KeepBut.blk hk (g':=b7) (o:=.cells #[.int .i64 0,.int .i64 0,.slice none 0 0,.string (⟨#[]⟩:ByteArray)] 29 (0,0)) (Ap1 ai bZ) ea.out (by simp));replace au:=am (KeepBut.blk hk (g':=b8) (o:=.cells #[.int .i64 0,.int .i64 0,.slice none 0 0,.string (⟨#[]⟩:ByteArray)] 29 (0,0)) (Ap0 au) df.out (by simp));replace HB:=am hb;have aC:=am hi;obtain⟨dY,dZ,d0,d1,d2,d3,d4,d5⟩:=cf4 au)|((with_reducible refine gate_callee (f:=50) rfl ?_);refine goesL_ (some 25) rfl rfl Tryz.func50 gk_ rfl #[.pointer (some ⟨bI,0,none⟩)] rfl gm_ ?_;refine(spec_l05Var.calls k bI fS fT fU bW fV fW fX w _ B23x4_ (Ae3 HB (IsS94.gf aC) aQ a4) A4.out).mono ?_;rintro e ix ⟨rfl,hi,hb,hk⟩;refine⟨_,rfl, ?_⟩;replace ai:=am (KeepBut.blk hk (g':=b7) (o:=.cells #[.int .i64 0,.int .i64 0,.slice none 0 0,.string (⟨#[]⟩:ByteArray)] 29 (0,0)) (Ap1 ai bZ) ea.out (by simp));replace au:=am (KeepBut.blk hk (g':=b8) (o:=.cells #[.int .i64 bL,.int .i64 0,.slice none 0 0,.string (⟨#[]⟩:ByteArray)] 29 (0,0)) (Ap0 au) df.out (by simp));replace HB:=am hb;replace aC:=am hi;obtain⟨dY,dZ,d0,d1,d2,d3,d4,d5⟩:=cf4 au)|((with_reducible refine gate_callee (f:=52) rfl ?_);refine goesL_ (some 29) rfl rfl Tryz.func52 gk_ rfl #[.pointer (some ⟨bI,0,none⟩)] rfl gm_ ?_;refine(spec_l05ReadShort.calls k bI fV fW fX e6 e7 e8 e9 w _ B23x4_ (Ae3 HB (IsS94.gf aC) aQ a4) A5.out).mono ?_;rintro e cQ ⟨rfl,hi,hb,hk⟩;refine⟨_,rfl, ?_⟩;replace ai:=am (KeepBut.blk hk (g':=b7) (o:=.cells #[.int .i64 0,.int .i64 0,.slice none 0 0,.string (⟨#[]⟩:ByteArray)] 29 (0,0)) (Ap1 ai bZ) ea.out (by simp));replace au:=am (KeepBut.blk hk (g':=b8) (o:=.cells #[.int .i64 bL,.int .i64 bW,.slice none 0 0,.string (⟨#[]⟩:ByteArray)] 29 (0,0)) (Ap0 au) df.out (by simp));replace HB:=am hb;replace aC:=am hi)|((with_reducible refine gate_callee (f:=51) rfl ?_);refine goesL_ (some 30) rfl rfl Tryz.func51 gk_ rfl #[.string e6] rfl gm_ ?_;refine(spec_ReadConf.calls k e6 a8 ie _ A6.out).mono ?_;rintro e iy ⟨kR,rfl,bJ,hb⟩;refine⟨_,rfl, ?_⟩;have bE:=am (Kd.R_lower bJ (below_size (Ae3 HB (IsS94.gf aC) aQ a4)));replace ai:=bA ai hb;replace au:=bA au hb;replace HB:=De3 HB (IsS94.gf aC) aQ a4 hb;replace aC:=am (IsS94.below B23x4_ hb);obtain⟨ch,b6,hJ⟩:=Kd.R_slice bE.out;subst hJ;obtain⟨dY,dZ,d0,d1,d2,d3,d4,d5⟩:=cf4 au)|((with_reducible refine gate_callee (f:=52) rfl ?_);refine goesL_ (some 35) rfl rfl Tryz.func52 gk_ rfl #[.pointer (some ⟨bI,0,none⟩)] rfl gm_ ?_;refine(spec_l05ReadShort.calls k bI e7 e8 e9 b9 fY fZ f0 w _ B23x4_ (Ae3 HB (IsS94.gf aC) aQ a4) A7.out).mono ?_;rintro e iz ⟨rfl,hi,hb,hk⟩;refine⟨_,rfl, ?_⟩;replace ai:=am (KeepBut.blk hk (g':=b7) (o:=.cells #[.int .i64 0,.int .i64 0,.slice none 0 0,.string (⟨#[]⟩:ByteArray)] 29 (0,0)) (Ap1 ai bZ) ea.out (by simp));replace bE:=am (Kd.R_mono (Kd.R_keep (IsS94.apart (show IsS94 w _ bI e7 e8 e9 from B23x4_) (tr (Kd.R_mono (Kd.R_far (p:=⟨b8,2,none⟩) (Kd.R_types bE.out au.out (by decide)) (fun _ hk=>hk.2) (.slice ch a8.length b6)) (fun _ h_=>h_.1))) (by decide)) hk (fun _ h=>h.2)) (fun _ h=>h.1));replace au:=am (KeepBut.blk hk (g':=b8) (o:=.cells #[.int .i64 bL,.int .i64 bW,.slice ch a8.length b6,.string (⟨#[]⟩:ByteArray)] 29 (0,0)) (Ap0 au) df.out (by simp));replace HB:=am hb;replace aC:=am hi;obtain⟨dY,dZ,d0,d1,d2,d3,d4,d5⟩:=cf4 au)|((with_reducible refine gate_callee (f:=19) rfl ?_);refine goesL_ (some 39) rfl rfl Tryz.func19 gk_ rfl #[.agg #[.int .i64 bL,.int .i64 bW,.slice ch a8.length b6,.string b9]] rfl gm_ ?_;(with_reducible refine(spec_SnapText.calls k bL bW _ _ a8 b9 f1 ig _ ?z1 ?z2 A8.out).mono ?_);(case z1=>refine(Kd.R_reads' (e:=3) (base:=w.heap.size) (ok:=fun k_=>True) (n:=a8.length) (c:=b6) ?_).2.2;exact(tfg bE.out au.out (by decide)));(case z2=>exact(Kd.R_reads' bE.out).2.1);rintro e f9 ⟨rfl,hb⟩;refine⟨_,rfl, ?_⟩;replace bE:=am (Kd.R_below (tfg bE.out au.out (by decide)) hb);replace ai:=am (blk_below (g:=b7) (o:=.cells #[.int .i64 0,.int .i64 0,.slice none 0 0,.string (⟨#[]⟩:ByteArray)] 29 (0,0)) (Ap1 ai bZ) hb);replace au:=am (blk_below (g:=b8) (o:=.cells #[.int .i64 bL,.int .i64 bW,.slice ch a8.length b6,.string b9] 29 (0,0)) (Ap0 au) hb);replace HB:=De3 HB (IsS94.gf aC) aQ a4 hb;replace aC:=am (IsS94.below (show IsS94 w (iz.setCell ⟨b8,3,none⟩ (.string b9)) bI fY fZ f0 from B23x4_) hb)))
 (try simp only [Act.put,List.setIfInBounds_toArray,List.set_cons_zero,List.set_cons_succ])
 go_cut [54] (fun iq wc=>∃ (kq:Nat) (fq:Bool),iq=.bool fq∧Aside0 (spec_ReadSnap.j0 kq fq bL bW a8 b9=some (r1,r2,r3,r4,r5))∧Aside0 (kq≤k)∧Aside0 (Kd.R (Kd.int .i64) 3 wc w.heap.size (fun _=>True) (.slice ch a8.length b6) a8)∧Hc wc b7 #[.int .i64 0,.int .i64 0,(.slice none 0 0),.string (⟨#[]⟩:ByteArray)] 29∧Hc wc b8 #[.int .i64 bL,.int .i64 bW,(.slice ch a8.length b6),.string b9] 29∧Hb w wc)
 case first=>
  replace af:=af.out
  obtain⟨rfl,ap⟩|⟨rfl,ap⟩:=sb af
  ·replace ap:=am ap;clear af;obtain⟨cZ,hT⟩:=aC.out;have iO:=cellS94_0 cZ;have lj:=cellS94_1 cZ;have lk:=cellS94_2 cZ;obtain⟨i1,lJ,lK⟩:=fr3 cZ;clear cZ hT
   go_wp2
   go_meet
   case rel=>exact⟨_,true,be_,ap,D7x2_⟩
  ·obtain⟨rfl,ar⟩|⟨rfl,ar⟩:=sb ap
   ·replace ar:=am ar;clear af ap;obtain⟨da,hU⟩:=aC.out;have iP:=cellS94_0 da;have ll:=cellS94_1 da;have lm:=cellS94_2 da;obtain⟨i2,lM,lN⟩:=fr3 da;clear da hU
    go_wp2
    go_meet
    case rel=>exact⟨_,((f1.toList != B.toList)),be_,ar,D7x2_⟩
   ·replace ar:=am ar;clear af ap;obtain⟨db,hV⟩:=aC.out;have ln:=cellS94_0 db;have lp:=cellS94_1 db;have lq:=cellS94_2 db;obtain⟨lO,lP,lQ⟩:=fr3 db;clear db hV
    go_wp2
    go_meet
    case rel=>exact⟨_,true,be_,ar,D7x2_⟩
 case rest=>
  clear af;obtain⟨kq,fq,rfl,ag,ji,gU,ai,au,HB⟩:=hcut
  cases kq with
  |zero=>exact absurd ag.out (by simp [spec_ReadSnap.j0])
  |succ kQ=>?_
  replace ag:=ag.out;simp only [spec_ReadSnap.j0] at ag
  obtain⟨rfl,aY⟩|⟨rfl,aY⟩:=sb ag
  ·obtain⟨rfl,rfl,rfl,rfl,rfl⟩:=s5 aY;clear aY ag;obtain⟨hZ,h2⟩:=o2_ bZ eD;obtain⟨iQ,iR,iS,iT,i3,i4,i5,i6⟩:=cf4 ai
   go_wp2
   refine bodyPost_ret (results_ct rfl _ _ b7 29 #[.int .i64 0,.int .i64 0,.slice none 0 0,.string (⟨#[]⟩:ByteArray)] (0,0) _ rfl (Ap0 ai) Tryz.underlying29 rfl gk_) rfl ?_;exact⟨_,B23x12_,gn_,(Ae2 HB aQ a4)⟩
  ·obtain⟨rfl,rfl,rfl,rfl,rfl⟩:=s5 aY;clear aY ag;obtain⟨h0,h3⟩:=o2_ eD bZ;obtain⟨dY,dZ,d0,d1,d2,d3,d4,d5⟩:=cf4 au;obtain⟨iQ,iR,iS,iT,i3,i4,i5,i6⟩:=cf4 ai
   go_wp2
   refine bodyPost_ret (results_ct rfl _ _ b7 29 #[.int .i64 bL,.int .i64 bW,.slice ch a8.length b6,.string b9] (0,0) _ rfl (Ap0 ai) Tryz.underlying29 rfl gk_) rfl ?_;exact⟨_,B23x12_,(tfg gU.out ai.out (by decide)),(Ae2 HB aQ a4)⟩

mutual
def spec_NewestSnap.l0:Nat→Int→List (S59)→Int→Int→List Int→ByteArray→Option (Int × Int × List Int × ByteArray × Bool)
 |0,_,_,_,_,_,_=>none
 |k+1,x5,bC,ce,cS,cT,cU=>if x5<(bC.length:Int) then ((spec_DiskOk.f k bC).bind fun ej=>(spec_NewestSnap.j1 k x5 ej bC ce cS cT cU)) else (spec_NewestSnap.j1 k x5 false bC ce cS cT cU)
def spec_NewestSnap.j1:Nat→Int→Bool→List (S59)→Int→Int→List Int→ByteArray→Option (Int × Int × List Int × ByteArray × Bool)
 |0,_,_,_,_,_,_,_=>none
 |k+1,x5,iD,bC,ce,cS,cT,cU=>if iD=true then (if 0≤x5 then (if x5<(bC.length:Int) then ((spec_l08Index.f k ((rd_T59 bC x5).f0)).bind fun bz=>((spec_ReadSnap.f k ((rd_T59 bC x5).f1)).bind fun cK=>(if bz≥0 then (if cK.2.2.2.2=true then (if cK.1=bz then (if bz>ce then (spec_NewestSnap.l0 k (wrap64 (x5+1)) bC cK.1 cK.2.1 cK.2.2.1 cK.2.2.2.1) else (spec_NewestSnap.l0 k (wrap64 (x5+1)) bC ce cS cT cU)) else (none)) else (none)) else (spec_NewestSnap.l0 k (wrap64 (x5+1)) bC ce cS cT cU)))) else (none)) else (none)) else (if ce<0 then (some (0,0,([]:List Int),(⟨#[]⟩:ByteArray),false)) else (some (ce,cS,cT,cU,true)))
end
def spec_NewestSnap.f (k:Nat) (z:List (S59)):Option (Int × Int × List Int × ByteArray × Bool):=spec_NewestSnap.l0 k 0 z (-1) 0 ([]:List Int) (⟨#[]⟩:ByteArray)
theorem spec_NewestSnap.calls (k:Nat) (aE:Option Addr) (av:Nat) (z:List (S59)) (r1:Int) (r2:Int) (r3:List Int) (r4:ByteArray) (r5:Bool) (w:World) (dF:Kd.C k59 w aE z.length z) (dw:z.length≤av) (h:spec_NewestSnap.f k z=some (r1,r2,r3,r4,r5)) :
  Calls Tryz.prog 6 #[.agg #[.slice aE z.length av]] w fun e w'=>∃ dV:Value,e=.returned (.tuple #[.agg #[.int .i64 r1,.int .i64 r2,dV,.string r4],.bool r5])∧Kd.R (Kd.int .i64) 3 w' w.heap.size (fun _=>True) dV r3∧Below w.heap.size w w':=by
 have h4:=Tryz.underlying26
 have fO:=Tryz.underlying29
 have bh:=am dF
 have fr:=am dw
 clear dF dw
 have HB:=am (Below.refl w.heap.size w)
 have q:=h
 clear h
 unfold spec_NewestSnap.f at q
 replace q:=am q
 go_enter Tryz.func6,Tryz.ntmps6
 go_wp2_with (first|((with_reducible refine gate_dst (N:=1) rfl ?_);refine bx (N:=1) (cs:=#[.slice aE z.length av]) (t:=26) ?_;intro bj hg w2 hbox hb;have Y:=am hbox;have ax:=gA hg HB;replace HB:=hA HB hb;clear hb hbox hg)|((with_reducible refine gate_dst (N:=2) rfl ?_);refine bx (N:=2) (cs:=#[.int .i64 0,.int .i64 0,.slice none 0 0,.string (⟨#[]⟩:ByteArray)]) (t:=29) ?_;intro dv hg w3 hbox hb;have ad:=am hbox;have ay:=gA hg HB;replace HB:=De1 HB ax hb;have ck:=nA hg Y;have cl:=mA hg Y;replace Y:=bA Y hb;clear hb hbox hg)|((with_reducible refine gate_dst (N:=4) rfl ?_);refine bx (N:=4) (cs:=#[.int .i64 0,.int .i64 0,.slice none 0 0,.string (⟨#[]⟩:ByteArray)]) (t:=29) ?_;intro cu hg w4 hbox hb;have ae:=am hbox;have aA:=gA hg HB;replace HB:=De2 HB ax ay hb;have bF:=nA hg Y;have b2:=mA hg Y;replace Y:=bA Y hb;have cm:=nA hg ad;have dh:=mA hg ad;replace ad:=bA ad hb;clear hb hbox hg;have jX:=b2.out;have kw:=bF.out;have j7:=dh.out;have kD:=cm.out;obtain⟨el,em,en,eo,ep,eq,er,et⟩:=cf4 ae))
 go_loopg [5] k (fun kq v5 w'=>∃ (aa:Int) (bO:Int) (cf:Int) (bY:List Int) (cg:ByteArray) (bX:Value),v5=.int .i64 aa∧Aside0 (spec_NewestSnap.l0 kq aa z bO cf bY cg=some (r1,r2,r3,r4,r5))∧Aside0 (kq≤k)∧Aside0 (Kd.R (Kd.int .i64) 3 w' w.heap.size (fun _=>True) bX bY)∧Aside0 (w'.heap[bj]?=some (.cells #[(.slice aE z.length av)] 26 (0,0)))∧Aside0 (w'.heap[dv]?=some (.cells #[.int .i64 0,.int .i64 0,(.slice none 0 0),.string (⟨#[]⟩:ByteArray)] 29 (0,0)))∧Aside0 (w'.heap[cu]?=some (.cells #[.int .i64 bO,.int .i64 cf,bX,.string cg] 29 (0,0)))∧Aside0 (Below w.heap.size w w'))
 case atStart=>exact⟨(0),((-1)),0,(([]:List Int)),((⟨#[]⟩:ByteArray)),(.slice none 0 0),be_,q,⟨Nat.le_refl _⟩,⟨gn_⟩,Cp1 Y bF,Cp1 ad cm,Cp0 ae,Ce3 HB ax ay aA⟩
 case round=>
  clear q;obtain⟨aa,bO,cf,bY,cg,bX,rfl,j,ao,ah,Y,ad,ae,HB⟩:=hrel
  cases gk with
  |zero=>exact absurd j.out (by simp [spec_NewestSnap.l0])
  |succ k1=>?_
  replace j:=j.out;simp only [spec_NewestSnap.l0] at j;replace j:=am j
  go_upto_region 3 with (fail)
  go_cut [18] (fun io wc=>∃ (kq:Nat) (fo:Bool),io=.bool fo∧Aside0 (spec_NewestSnap.j1 kq aa fo z bO cf bY cg=some (r1,r2,r3,r4,r5))∧Aside0 (kq≤k1)∧Aside0 (Kd.R (Kd.int .i64) 3 wc w.heap.size (fun _=>True) bX bY)∧Hc wc bj #[(.slice aE z.length av)] 26∧Hc wc dv #[.int .i64 0,.int .i64 0,(.slice none 0 0),.string (⟨#[]⟩:ByteArray)] 29∧Hc wc cu #[.int .i64 bO,.int .i64 cf,bX,.string cg] 29∧Hb w wc)
  case first=>
   replace j:=j.out
   obtain⟨b5,l⟩|⟨b5,l⟩:=sd j
   ·(first|rw [b5]|(simp only [i64_w,i32_w];rw [b5])|skip)
    obtain⟨ej,eu,U⟩:=bsi l;(try dsimp only at U);replace U:=am U;clear j l;obtain⟨jK,ki,jL,kj⟩:=o4_ ck cl bF b2
    have lg:wr.cell? ⟨bj,0,none⟩=some (.slice aE z.length av):=bc Y 0
    have lG:=blk_frozen Y.out 0
    go_wp2_with (first|(go_at_call 22;(with_reducible refine(spec_DiskOk.calls k1 _ _ z ej _ ?z1 ?z2 eu.out).mono ?_);(case z1=>repeat (first|exact(Kd.C_below bh.out HB.out)|(with_reducible refine Kd.C_alloc ?_ _)|(with_reducible refine Kd.C_drewN ?_ _)|(with_reducible refine Kd.C_drew ?_)));(case z2=>exact fr.out);rintro e k3 ⟨rfl,hb⟩;replace ah:=rA ah hb;replace Y:=bA Y hb;replace ad:=bA ad hb;replace ae:=bA ae hb;replace HB:=De3 HB ax ay aA hb))
    go_meet
    case rel=>exact⟨_,ej,be_,U,⟨B23x36_⟩,Cr ah,Cb Y,Cb ad,Cb ae,Ce3 HB ax ay aA⟩
   ·(first|rw [b5]|(simp only [i64_w,i32_w];rw [b5])|skip)
    replace l:=am l;clear j;obtain⟨hY,h1,jN,kl⟩:=o4_ ck cl bF b2
    have lh:wr.cell? ⟨bj,0,none⟩=some (.slice aE z.length av):=bc Y 0
    have lH:=blk_frozen Y.out 0
    go_wp2
    go_meet
    case rel=>exact⟨_,false,be_,l,⟨B23x36_⟩,Cr ah,Cb Y,Cb ad,Cb ae,Ce3 HB ax ay aA⟩
  case rest=>
   clear j;obtain⟨kq,fo,rfl,M,d7,ah,Y,ad,ae,HB⟩:=hcut
   cases kq with
   |zero=>exact absurd M.out (by simp [spec_NewestSnap.j1])
   |succ bV=>?_
   replace M:=M.out;simp only [spec_NewestSnap.j1] at M
   obtain⟨rfl,J⟩|⟨rfl,J⟩:=sb M
   ·obtain⟨jt,Z⟩:=yd J;obtain⟨ju,af⟩:=yd Z;obtain⟨bz,ev,ap⟩:=bsi af;(try dsimp only at ap);obtain⟨⟨ca,cc,a9,cd,f2⟩,ew,ar⟩:=bsi ap;(try dsimp only at ar)
    obtain⟨dq,ag⟩|⟨dq,ag⟩:=sp ar
    ·have he:decide (0≤bz)=true:=decide_eq_true dq
     clear dq
     by_cases eh:f2=true
     rotate_left
     ·replace eh:=Bool.eq_false_iff.mpr eh;subst eh;rw [if_neg (show ¬ (false=true) by decide)] at ag;exact absurd ag (by simp)
     subst eh;rw [if_pos rfl] at ag;obtain⟨fI,aY⟩:=yn ag;obtain⟨jv,jw⟩:=yE fI;clear fI
     obtain⟨dr,aR⟩|⟨dr,aR⟩:=sp aY
     ·have hf:decide (bO<bz)=true:=decide_eq_true dr
      clear dr;replace aR:=am aR;clear M J Z af ap ar ag aY;obtain⟨jQ,ko,jR,kp⟩:=o4_ ck cl bF b2
      have iO:wc.cell? ⟨bj,0,none⟩=some (.slice aE z.length av):=bc Y 0
      have i1:=blk_frozen Y.out 0
      have bq:0≤(aa:Int):=dga
      have bu:aa<(z.length:Int):=dga
      obtain⟨bS,dt,bk,bl,bm⟩:=at_T59 bh.out aa bq bu;cases dt;replace bk:=(hbc HB bk).trans bk;replace bl:=(hbc HB bl).trans bl;replace bm:=(hbc HB bm).trans bm;replace bq:=eq_true bq;replace bu:=eq_true bu
      go_wp2_with (first|((with_reducible refine gate_callee (f:=23) rfl ?_);refine goesL_ (some 27) rfl rfl Tryz.func23 gk_ rfl #[.string ((rd_T59 z aa).f0)] rfl gm_ ?_;refine(spec_l08Index.calls bV ((rd_T59 z aa).f0) bz _ ev.out).mono ?_;rintro e ga ⟨rfl,hb⟩;refine⟨_,rfl, ?_⟩;replace ah:=rA ah hb;replace Y:=bA Y hb;replace ad:=bA ad hb;replace ae:=bA ae hb;replace HB:=De3 HB ax ay aA hb;have iP:ga.cell? ⟨bj,0,none⟩=some (.slice (some bS) z.length av):=bc Y 0;have i2:=blk_frozen Y.out 0;have br:0≤(aa:Int):=dga;have bv:aa<(z.length:Int):=dga;obtain⟨dl,du,bn,bo,bp⟩:=at_T59 bh.out aa br bv;obtain rfl:bS=dl:=(by injection du);replace bn:=(hbc HB bn).trans bn;replace bo:=(hbc HB bo).trans bo;replace bp:=(hbc HB bp).trans bp;replace br:=eq_true br;replace bv:=eq_true bv)|((with_reducible refine gate_callee (f:=24) rfl ?_);refine goesL_ (some 35) rfl rfl Tryz.func24 gk_ rfl #[.string ((rd_T59 z aa).f1)] rfl gm_ ?_;refine(spec_ReadSnap.calls bV ((rd_T59 z aa).f1) ca cc a9 cd true _ ew.out).mono ?_;rintro e k5 ⟨f7,rfl,bJ,hb⟩;refine⟨_,rfl, ?_⟩;have aX:=am (Kd.R_lower (Kd.R_new' bJ (Kd.R_lt (Ar ah))) (below_size (Ae3 HB ax ay aA)));replace ah:=am (Kd.R_elder' (Ar ah) (Kd.R_base bJ) hb);replace Y:=bA Y hb;replace ad:=bA ad hb;replace ae:=bA ae hb;replace HB:=De3 HB ax ay aA hb)|((with_reducible refine gate_dst (N:=7) rfl ?_);refine bx (N:=7) (cs:=#[.int .i64 0,.int .i64 0,.slice none 0 0,.string (⟨#[]⟩:ByteArray)]) (t:=29) ?_;intro cv hg iA hbox hb;replace ah:=rA ah hb;replace aX:=rA aX hb;have bd:=am hbox;have cH:=gA hg HB;replace HB:=De3 HB ax ay aA hb;have b0:=nA hg Y;have di:=mA hg Y;replace Y:=bA Y hb;have b1:=nA hg ad;have dj:=mA hg ad;replace ad:=bA ad hb;have b3:=nA hg ae;have cJ:=mA hg ae;replace ae:=bA ae hb;clear hb hbox hg;have hZ:=di.out;have h2:=b0.out;have jS:=dj.out;have kr:=b1.out;have h0:=cJ.out;have h3:=b3.out;obtain⟨gi,gj,gl,gm,gs,gu,gv,gw⟩:=cf4 bd;obtain⟨ci,cr,hN⟩:=Kd.R_slice aX.out;subst hN;have jT:=dh.out;have ks:=cm.out;obtain⟨el,em,en,eo,ep,eq,er,et⟩:=cf4 ae)|((with_reducible refine gate_store (t:=29) (p:=4) rfl ?_);refine store_event (t:=29) (p:=4) (v:=?vo_w41) (w1:=((((((((iA.setCell ⟨cv,0,none⟩ (.int .i64 ca)).setCell ⟨cv,1,none⟩ (.int .i64 cc)).setCell ⟨cv,2,none⟩ (.slice ci a9.length cr)).setCell ⟨cv,3,none⟩ (.string cd)).setCell ⟨cu,0,none⟩ (.int .i64 ca)).setCell ⟨cu,1,none⟩ (.int .i64 cc)).setCell ⟨cu,2,none⟩ (.slice ci a9.length cr)).setCell ⟨cu,3,none⟩ (.string cd))) ?hg ?ho ?hn ?hr ?_;(case ho=>rfl);(case hg=>rfl);(case hn=>rfl);(case hr=>exact gs_);intro cE hw;replace ah:Aside0 (Kd.R (Kd.int .i64) 3 cE w.heap.size (fun k_=>some k_≠(.slice ci a9.length cr:Value).ownBlock) bX bY):=⟨wtfh ah.out bd.out (by decide) ae.out (by decide)⟩;replace aX:Aside0 (Kd.R (Kd.int .i64) 3 cE w.heap.size (fun k_=>some k_≠(bX:Value).ownBlock) (.slice ci a9.length cr) a9):=⟨wtfh aX.out bd.out (by decide) ae.out (by decide)⟩;replace Y:Hc cE bj #[.slice (some bS) z.length av] 26:=⟨wAp2 Y bF b0⟩;replace ad:Hc cE dv #[.int .i64 0,.int .i64 0,.slice none 0 0,.string (⟨#[]⟩:ByteArray)] 29:=⟨wAp2 ad cm b1⟩;replace ae:Hc cE cu #[.int .i64 ca,.int .i64 cc,.slice ci a9.length cr,.string cd] 29:=⟨wAp1 ae b3⟩;replace bd:Hc cE cv #[.int .i64 ca,.int .i64 cc,.slice ci a9.length cr,.string cd] 29:=⟨wAp1 bd cJ⟩;replace HB:Hb w cE:=⟨wAe4 HB ax ay aA cH⟩;clear hw))
      go_roundg bV
      case measure=>have:=ao.out;have:=d7.out;omega
      case rel=>exact⟨(wrap64 (aa+1)),ca,cc,a9,cd,(.slice ci a9.length cr),be_,aR,⟨B23x34_⟩,⟨(by (with_reducible repeat (first|apply Kd.R_alloc|apply Kd.R_drewN|apply Kd.R_drew));exact Kd.R_mono aX.out (fun _ hk=>trivial))⟩,Cb Y,Cb ad,Cb ae,Ce4 HB ax ay aA cH⟩
     ·have hf:decide (bO<bz)=false:=decide_eq_false dr
      clear dr;replace aR:=am aR;clear M J Z af ap ar ag aY;obtain⟨jU,kt,jV,ku⟩:=o4_ ck cl bF b2
      have ls:wc.cell? ⟨bj,0,none⟩=some (.slice aE z.length av):=bc Y 0
      have lT:=blk_frozen Y.out 0
      have bq:0≤(aa:Int):=dga
      have bu:aa<(z.length:Int):=dga
      obtain⟨bS,dt,bk,bl,bm⟩:=at_T59 bh.out aa bq bu;cases dt;replace bk:=(hbc HB bk).trans bk;replace bl:=(hbc HB bl).trans bl;replace bm:=(hbc HB bm).trans bm;replace bq:=eq_true bq;replace bu:=eq_true bu
      go_wp2_with (first|((with_reducible refine gate_callee (f:=23) rfl ?_);refine goesL_ (some 27) rfl rfl Tryz.func23 gk_ rfl #[.string ((rd_T59 z aa).f0)] rfl gm_ ?_;refine(spec_l08Index.calls bV ((rd_T59 z aa).f0) bz _ ev.out).mono ?_;rintro e iB ⟨rfl,hb⟩;refine⟨_,rfl, ?_⟩;replace ah:=rA ah hb;replace Y:=bA Y hb;replace ad:=bA ad hb;replace ae:=bA ae hb;replace HB:=De3 HB ax ay aA hb;have lu:iB.cell? ⟨bj,0,none⟩=some (.slice (some bS) z.length av):=bc Y 0;have lU:=blk_frozen Y.out 0;have br:0≤(aa:Int):=dga;have bv:aa<(z.length:Int):=dga;obtain⟨dl,du,bn,bo,bp⟩:=at_T59 bh.out aa br bv;obtain rfl:bS=dl:=(by injection du);replace bn:=(hbc HB bn).trans bn;replace bo:=(hbc HB bo).trans bo;replace bp:=(hbc HB bp).trans bp;replace br:=eq_true br;replace bv:=eq_true bv)|((with_reducible refine gate_callee (f:=24) rfl ?_);refine goesL_ (some 35) rfl rfl Tryz.func24 gk_ rfl #[.string ((rd_T59 z aa).f1)] rfl gm_ ?_;refine(spec_ReadSnap.calls bV ((rd_T59 z aa).f1) ca cc a9 cd true _ ew.out).mono ?_;rintro e k6 ⟨f7,rfl,bJ,hb⟩;refine⟨_,rfl, ?_⟩;have aX:=am (Kd.R_lower (Kd.R_new' bJ (Kd.R_lt (Ar ah))) (below_size (Ae3 HB ax ay aA)));replace ah:=am (Kd.R_elder' (Ar ah) (Kd.R_base bJ) hb);replace Y:=bA Y hb;replace ad:=bA ad hb;replace ae:=bA ae hb;replace HB:=De3 HB ax ay aA hb)|((with_reducible refine gate_dst (N:=7) rfl ?_);refine bx (N:=7) (cs:=#[.int .i64 0,.int .i64 0,.slice none 0 0,.string (⟨#[]⟩:ByteArray)]) (t:=29) ?_;intro cv hg k7 hbox hb;replace ah:=rA ah hb;replace aX:=rA aX hb;have bd:=am hbox;have cH:=gA hg HB;replace HB:=De3 HB ax ay aA hb;have b0:=nA hg Y;have di:=mA hg Y;replace Y:=bA Y hb;have b1:=nA hg ad;have dj:=mA hg ad;replace ad:=bA ad hb;have b3:=nA hg ae;have cJ:=mA hg ae;replace ae:=bA ae hb;clear hb hbox hg;have jW:=di.out;have kv:=b0.out;have jY:=dj.out;have kx:=b1.out;have jZ:=cJ.out;have ky:=b3.out;obtain⟨gi,gj,gl,gm,gs,gu,gv,gw⟩:=cf4 bd;obtain⟨jf,jA,hO⟩:=Kd.R_slice aX.out;subst hO;have j4:=dh.out;have kz:=cm.out;obtain⟨el,em,en,eo,ep,eq,er,et⟩:=cf4 ae))
      go_roundg bV
      case measure=>have:=ao.out;have:=d7.out;omega
      case rel=>exact⟨(wrap64 (aa+1)),bO,cf,bY,cg,bX,be_,aR,D7x4_⟩
    ·have he:decide (0≤bz)=false:=decide_eq_false dq
     clear dq;replace ag:=am ag;clear M J Z af ap ar;obtain⟨j5,kB,j6,kC⟩:=o4_ ck cl bF b2
     have ly:wc.cell? ⟨bj,0,none⟩=some (.slice aE z.length av):=bc Y 0
     have lY:=blk_frozen Y.out 0
     have bq:0≤(aa:Int):=dga
     have bu:aa<(z.length:Int):=dga
     obtain⟨bS,dt,bk,bl,bm⟩:=at_T59 bh.out aa bq bu;cases dt;replace bk:=(hbc HB bk).trans bk;replace bl:=(hbc HB bl).trans bl;replace bm:=(hbc HB bm).trans bm;replace bq:=eq_true bq;replace bu:=eq_true bu
     go_wp2_with (first|((with_reducible refine gate_callee (f:=23) rfl ?_);refine goesL_ (some 27) rfl rfl Tryz.func23 gk_ rfl #[.string ((rd_T59 z aa).f0)] rfl gm_ ?_;refine(spec_l08Index.calls bV ((rd_T59 z aa).f0) bz _ ev.out).mono ?_;rintro e iC ⟨rfl,hb⟩;refine⟨_,rfl, ?_⟩;replace ah:=rA ah hb;replace Y:=bA Y hb;replace ad:=bA ad hb;replace ae:=bA ae hb;replace HB:=De3 HB ax ay aA hb;have lz:iC.cell? ⟨bj,0,none⟩=some (.slice (some bS) z.length av):=bc Y 0;have lZ:=blk_frozen Y.out 0;have br:0≤(aa:Int):=dga;have bv:aa<(z.length:Int):=dga;obtain⟨dl,du,bn,bo,bp⟩:=at_T59 bh.out aa br bv;obtain rfl:bS=dl:=(by injection du);replace bn:=(hbc HB bn).trans bn;replace bo:=(hbc HB bo).trans bo;replace bp:=(hbc HB bp).trans bp;replace br:=eq_true br;replace bv:=eq_true bv)|((with_reducible refine gate_callee (f:=24) rfl ?_);refine goesL_ (some 35) rfl rfl Tryz.func24 gk_ rfl #[.string ((rd_T59 z aa).f1)] rfl gm_ ?_;refine(spec_ReadSnap.calls bV ((rd_T59 z aa).f1) ca cc a9 cd f2 _ ew.out).mono ?_;rintro e k8 ⟨f7,rfl,bJ,hb⟩;refine⟨_,rfl, ?_⟩;have aX:=am (Kd.R_lower (Kd.R_new' bJ (Kd.R_lt (Ar ah))) (below_size (Ae3 HB ax ay aA)));replace ah:=am (Kd.R_elder' (Ar ah) (Kd.R_base bJ) hb);replace Y:=bA Y hb;replace ad:=bA ad hb;replace ae:=bA ae hb;replace HB:=De3 HB ax ay aA hb)|((with_reducible refine gate_dst (N:=7) rfl ?_);refine bx (N:=7) (cs:=#[.int .i64 0,.int .i64 0,.slice none 0 0,.string (⟨#[]⟩:ByteArray)]) (t:=29) ?_;intro cv hg k9 hbox hb;replace ah:=rA ah hb;replace aX:=rA aX hb;have bd:=am hbox;have cH:=gA hg HB;replace HB:=De3 HB ax ay aA hb;have b0:=nA hg Y;have di:=mA hg Y;replace Y:=bA Y hb;have b1:=nA hg ad;have dj:=mA hg ad;replace ad:=bA ad hb;have b3:=nA hg ae;have cJ:=mA hg ae;replace ae:=bA ae hb;clear hb hbox hg;have j8:=di.out;have kE:=b0.out;have j9:=dj.out;have kF:=b1.out;have ka:=cJ.out;have kG:=b3.out;obtain⟨gi,gj,gl,gm,gs,gu,gv,gw⟩:=cf4 bd;obtain⟨jg,jB,hP⟩:=Kd.R_slice aX.out;subst hP))
     go_roundg bV
     case measure=>have:=ao.out;have:=d7.out;omega
     case rel=>exact⟨(wrap64 (aa+1)),bO,cf,bY,cg,bX,be_,ag,D7x4_⟩
   ·obtain⟨hs,de⟩|⟨hs,de⟩:=sd J
    ·obtain⟨rfl,rfl,rfl,rfl,rfl⟩:=s5 de;clear de M J;obtain⟨kc,kH,kd,kI⟩:=o4_ b2 bF dh cm;obtain⟨el,em,en,eo,ep,eq,er,et⟩:=cf4 ae;obtain⟨ke,kJ⟩:=o2_ cl ck;obtain⟨iU,iV,iW,iX,i7,i9,ja,jb⟩:=cf4 ad
     go_wp2
     refine bodyPost_ret (results_ct rfl _ _ dv 29 #[.int .i64 0,.int .i64 0,.slice none 0 0,.string (⟨#[]⟩:ByteArray)] (0,0) _ rfl (Ap0 ad) Tryz.underlying29 rfl gk_) rfl ?_;exact⟨_,B23x12_,gn_,(Ae3 HB ax ay aA)⟩
    ·obtain⟨rfl,rfl,rfl,rfl,rfl⟩:=s5 de;clear de M J;obtain⟨kf,kK,kg,kL⟩:=o4_ b2 bF dh cm;obtain⟨el,em,en,eo,ep,eq,er,et⟩:=cf4 ae;obtain⟨kh,kM⟩:=o2_ cl ck;obtain⟨iU,iV,iW,iX,i7,i9,ja,jb⟩:=cf4 ad;obtain⟨gG,hD,hQ⟩:=Kd.R_slice ah.out;subst hQ
     go_wp2
     refine bodyPost_ret (results_ct rfl _ _ dv 29 #[.int .i64 bO,.int .i64 cf,.slice gG bY.length hD,.string cg] (0,0) _ rfl (Ap0 ad) Tryz.underlying29 rfl gk_) rfl ?_;exact⟨_,B23x12_,(tfg ah.out ad.out (by decide)),(Ae3 HB ax ay aA)⟩

def impl_within.f (B:Int) (a1:Int) (a2:Int):Option (Bool):=if B≥a1 then (some (decide (B≤a2))) else (some false)
theorem impl_within.calls (B:Int) (a1:Int) (a2:Int) (r:Bool) (w:World) (h:impl_within.f B a1 a2=some r) :
  Calls Tryz.prog 60 #[.int .i64 B,.int .i64 a1,.int .i64 a2] w fun e w'=>e=.returned (.bool r)∧Drawn0 w w':=by
 have q:=h
 clear h
 unfold impl_within.f at q
 obtain⟨c4,j⟩|⟨c4,j⟩:=sp q
 ·have aZ:decide (a1≤B)=true:=decide_eq_true c4
  clear c4;obtain rfl:=Option.some.inj j;clear j q;go_enter Tryz.func60,Tryz.ntmps60
  go_wp2
  go_ret;exact⟨gr_,gd_⟩
 ·have aZ:decide (a1≤B)=false:=decide_eq_false c4
  clear c4;obtain rfl:=Option.some.inj j;clear j q;go_enter Tryz.func60,Tryz.ntmps60
  go_wp2
  go_ret;exact⟨gr_,gd_⟩

def impl_isNode.f (B:Int):Option (Bool):=(impl_within.f B 1 4).bind fun fa=>(some fa)
theorem impl_isNode.calls (B:Int) (r:Bool) (w:World) (h:impl_isNode.f B=some r) :
  Calls Tryz.prog 105 #[.int .i64 B] w fun e w'=>e=.returned (.bool r)∧Drawn0 w w':=by
 have q:=h
 clear h
 unfold impl_isNode.f at q
 obtain⟨fa,A2,j⟩:=bsi q
 (try dsimp only at j)
 obtain rfl:=Option.some.inj j
 clear j q
 go_enter Tryz.func105,Tryz.ntmps105
 go_wp2_with (first|((with_reducible refine gate_callee (f:=60) rfl ?_);refine goesL_ (some 4) rfl rfl Tryz.func60 gk_ rfl #[.int .i64 B,.int .i64 1,.int .i64 4] rfl gm_ ?_;refine(impl_within.calls B 1 4 fa _ A2.out).mono ?_;rintro e w' ⟨rfl,⟨nd,rfl⟩⟩;refine⟨_,rfl, ?_⟩))
 go_ret
 exact⟨gr_,gd_⟩
theorem B24x9_ (h:p:=by have:=ao.out;omega):p:=h
theorem B24x11_ (h:p:=by exact(below_size (Ae0 HB))):p:=h
def impl_nodesOk.l0:Nat→List Int→List Int→Int→Int→Option (Bool)
 |0,_,_,_,_=>none
 |k+1,x0,x5,x6,x7=>if x7<x6 then (if 0≤x7 then (if x7<(x5.length:Int) then ((impl_isNode.f (rd x5 x7)).bind fun f3=>(if f3=true then (if x7>0 then (if 0≤(wrap64 (x7 - 1)) then (if (wrap64 (x7 - 1))<(x0.length:Int) then (if (rd x0 (wrap64 (x7 - 1)))≥(rd x5 x7) then (some false) else (impl_nodesOk.l0 k x0 x5 x6 (wrap64 (x7+1)))) else (none)) else (none)) else (impl_nodesOk.l0 k x0 x5 x6 (wrap64 (x7+1)))) else (some false))) else (none)) else (none)) else (some true)
def impl_nodesOk.f (k:Nat) (l0:List Int):Option (Bool):=impl_nodesOk.l0 k l0 l0 (l0.length:Int) 0
theorem impl_nodesOk.calls (k:Nat) (A0:Option Addr) (c0:Nat) (l0:List Int) (r:Bool) (w:World) (aK:Kd.C (Kd.int .i64) w A0 l0.length l0) (aJ:l0.length≤c0) (h:impl_nodesOk.f k l0=some r) :
  Calls Tryz.prog 100 #[.slice A0 l0.length c0] w fun e w'=>e=.returned (.bool r)∧Drawn0 w w':=by
 have aG:=am aK
 have bR:=am aJ
 clear aK aJ
 have q:=h
 clear h
 unfold impl_nodesOk.f at q
 replace q:=am q
 go_enter Tryz.func100,Tryz.ntmps100
 go_wp2
 go_loopg [7] k (fun kq v7 w'=>∃ (al:Int),v7=.int .i64 al∧Aside0 (impl_nodesOk.l0 kq l0 l0 (l0.length:Int) al=some r)∧Aside0 (kq≤k)∧Drawn0 w w')
 case atStart=>exact⟨(0),be_,q,⟨Nat.le_refl _⟩,gd_⟩
 case round=>
  clear q;obtain⟨al,rfl,j,ao,⟨m1,rfl⟩⟩:=hrel
  cases gk with
  |zero=>exact absurd j.out (by simp [impl_nodesOk.l0])
  |succ k1=>?_
  replace j:=j.out;simp only [impl_nodesOk.l0] at j
  obtain⟨bi,l⟩|⟨bi,l⟩:=sd j
  ·obtain⟨cq,U⟩:=yd l;obtain⟨aZ,M⟩:=yd U;obtain⟨f3,A5,J⟩:=bsi M;(try dsimp only at J)
   obtain⟨rfl,Z⟩|⟨rfl,Z⟩:=sb J
   ·obtain⟨c7,af⟩|⟨c7,af⟩:=sp Z
    ·have cL:decide (0<al)=true:=decide_eq_true c7
     clear c7;obtain⟨bU,dy⟩:∃ j_:Int,(wrap64 (al - 1))=j_:=⟨_,rfl⟩
     (first|rw [dy] at af|simp only [dy] at af)
     (try rw [dy] at A5)
     have jJ:(IntKind.i64.wrap (al - 1))=bU:=(i64_w _).trans dy
     obtain⟨b5,ap⟩:=yd af;obtain⟨fF,ar⟩:=yd ap
     obtain⟨dp,ag⟩|⟨dp,ag⟩:=sp ar
     ·have g5:decide ((rd l0 al)≤(rd l0 (bU)))=true:=decide_eq_true dp
      clear dp;obtain rfl:=Option.some.inj ag;clear ag j l U M J Z af ap ar
      have aU:0≤(al:Int):=dga
      have aV:al<(l0.length:Int):=dga
      obtain⟨dm,ct,eP⟩:=Kd.at_int aG.out al aU aV;cases ct;replace aU:=eq_true aU;replace aV:=eq_true aV
      go_wp2_with (first|((with_reducible refine gate_callee (f:=105) rfl ?_);refine goesL_ (some 13) rfl rfl Tryz.func105 gk_ rfl #[.int .i64 (rd l0 al)] rfl gm_ ?_;refine(impl_isNode.calls (rd l0 al) true _ A5.out).mono ?_;rintro e w' ⟨rfl,⟨nd,rfl⟩⟩;refine⟨_,rfl, ?_⟩;have cA:0≤((bU):Int):=dga;have cC:(bU)<(l0.length:Int):=dga;obtain⟨eF,eM,h6⟩:=Kd.at_int aG.out (bU) cA cC;obtain rfl:dm=eF:=(by injection eM);replace cA:=eq_true cA;replace cC:=eq_true cC))
      go_ret
      exact⟨(by first|rfl|(simp;done)|(simp only [←dy] <;> (first|rfl|simp))|(simp [*];done)),gd_⟩
     ·have g5:decide ((rd l0 al)≤(rd l0 (bU)))=false:=decide_eq_false dp
      clear dp;replace ag:=am ag;clear j l U M J Z af ap ar
      have aU:0≤(al:Int):=dga
      have aV:al<(l0.length:Int):=dga
      obtain⟨dm,ct,eP⟩:=Kd.at_int aG.out al aU aV;cases ct;replace aU:=eq_true aU;replace aV:=eq_true aV
      go_wp2_with (first|((with_reducible refine gate_callee (f:=105) rfl ?_);refine goesL_ (some 13) rfl rfl Tryz.func105 gk_ rfl #[.int .i64 (rd l0 al)] rfl gm_ ?_;refine(impl_isNode.calls (rd l0 al) true _ A5.out).mono ?_;rintro e w' ⟨rfl,⟨nd,rfl⟩⟩;refine⟨_,rfl, ?_⟩;have cA:0≤((bU):Int):=dga;have cC:(bU)<(l0.length:Int):=dga;obtain⟨eF,eM,h6⟩:=Kd.at_int aG.out (bU) cA cC;obtain rfl:dm=eF:=(by injection eM);replace cA:=eq_true cA;replace cC:=eq_true cC))
      go_roundg k1
      case measure=>have:=ao.out;omega
      case rel=>exact⟨(wrap64 (al+1)),be_,ag,⟨B24x9_⟩,gd_⟩
    ·have cL:decide (0<al)=false:=decide_eq_false c7
     clear c7;replace af:=am af;clear j l U M J Z
     have aU:0≤(al:Int):=dga
     have aV:al<(l0.length:Int):=dga
     obtain⟨dm,ct,eP⟩:=Kd.at_int aG.out al aU aV;cases ct;replace aU:=eq_true aU;replace aV:=eq_true aV
     go_wp2_with (first|((with_reducible refine gate_callee (f:=105) rfl ?_);refine goesL_ (some 13) rfl rfl Tryz.func105 gk_ rfl #[.int .i64 (rd l0 al)] rfl gm_ ?_;refine(impl_isNode.calls (rd l0 al) true _ A5.out).mono ?_;rintro e w' ⟨rfl,⟨nd,rfl⟩⟩;refine⟨_,rfl, ?_⟩))
     go_roundg k1
     case measure=>have:=ao.out;omega
     case rel=>exact⟨(wrap64 (al+1)),be_,af,⟨B24x9_⟩,gd_⟩
   ·obtain rfl:=Option.some.inj Z;clear Z j l U M J
    have aU:0≤(al:Int):=dga
    have aV:al<(l0.length:Int):=dga
    obtain⟨dm,ct,eP⟩:=Kd.at_int aG.out al aU aV;cases ct;replace aU:=eq_true aU;replace aV:=eq_true aV
    go_wp2_with (first|((with_reducible refine gate_callee (f:=105) rfl ?_);refine goesL_ (some 13) rfl rfl Tryz.func105 gk_ rfl #[.int .i64 (rd l0 al)] rfl gm_ ?_;refine(impl_isNode.calls (rd l0 al) false _ A5.out).mono ?_;rintro e w' ⟨rfl,⟨nd,rfl⟩⟩;refine⟨_,rfl, ?_⟩))
    go_ret;exact⟨gr_,gd_⟩
  ·obtain rfl:=Option.some.inj l;clear l j
   go_wp2
   go_ret;exact⟨gr_,gd_⟩

def impl_ConfOk.f (k:Nat) (l0:List Int):Option (Bool):=if (l0.length:Int)>0 then ((impl_nodesOk.f k l0).bind fun fb=>(some fb)) else (some false)
theorem impl_ConfOk.calls (k:Nat) (A0:Option Addr) (c0:Nat) (l0:List Int) (r:Bool) (w:World) (aK:Kd.C (Kd.int .i64) w A0 l0.length l0) (aJ:l0.length≤c0) (h:impl_ConfOk.f k l0=some r) :
  Calls Tryz.prog 83 #[.slice A0 l0.length c0] w fun e w'=>e=.returned (.bool r)∧Drawn0 w w':=by
 have aG:=am aK
 have bR:=am aJ
 clear aK aJ
 have q:=h
 clear h
 unfold impl_ConfOk.f at q
 obtain⟨c2,j⟩|⟨c2,j⟩:=sp q
 ·have bi:decide (0<(l0.length:Int))=true:=decide_eq_true c2
  have ds:decide (0<l0.length)=true:=decide_eq_true (by omega)
  clear c2;obtain⟨fb,A3,l⟩:=bsi j;(try dsimp only at l);obtain rfl:=Option.some.inj l;clear l q j;go_enter Tryz.func83,Tryz.ntmps83
  go_wp2_with (first|(go_at_call 100;refine(impl_nodesOk.calls k _ _ l0 fb _ (Ac aG) bR.out A3.out).mono ?_;rintro e w' ⟨rfl,⟨nd,rfl⟩⟩))
  go_ret;exact⟨gr_,gd_⟩
 ·have bi:decide (0<(l0.length:Int))=false:=decide_eq_false c2
  have ds:decide (0<l0.length)=false:=decide_eq_false (by omega)
  clear c2;obtain rfl:=Option.some.inj j;clear j q;go_enter Tryz.func83,Tryz.ntmps83
  go_wp2
  go_ret;exact⟨gr_,gd_⟩

def impl_byteTexts.l0:Nat→List Int→List Int→Int→Int→Option (ByteArray)
 |0,_,_,_,_=>none
 |k+1,x3,x7,x8,x9=>if x9<x8 then (if 0≤x9 then (if x9<(x7.length:Int) then (if x3.length<140737488355328 then (impl_byteTexts.l0 k (x3 ++ [(rd x7 x9) % 256]) x7 x8 (wrap64 (x9+1))) else (none)) else (none)) else (none)) else (some (strOfNums x3))
def impl_byteTexts.f (k:Nat) (l0:List Int):Option (ByteArray):=impl_byteTexts.l0 k (([]:List Int)) l0 (l0.length:Int) 0
theorem impl_byteTexts.calls (k:Nat) (A0:Option Addr) (c0:Nat) (l0:List Int) (r:ByteArray) (w:World) (aK:Kd.C (Kd.int .i64) w A0 l0.length l0) (aJ:l0.length≤c0) (h:impl_byteTexts.f k l0=some r) :
  Calls Tryz.prog 84 #[.slice A0 l0.length c0] w fun e w'=>e=.returned (.string r)∧Below w.heap.size w w':=by
 have aG:=am aK
 have bR:=am aJ
 clear aK aJ
 have HB:=am (Below.refl w.heap.size w)
 have q:=h
 clear h
 unfold impl_byteTexts.f at q
 obtain⟨iJ,dJ⟩:∃ y_:List Int,y_=(([]:List Int)):=⟨_,rfl⟩
 (first|with_reducible replace q:=hq dJ q|rw [←dJ] at q|simp only [←dJ] at q)
 have fu:=am dJ
 clear dJ
 replace q:=am q
 go_enter Tryz.func84,Tryz.ntmps84
 go_wp2_with (first|((with_reducible refine gate_dst (N:=6) rfl ?_);refine lL (Kd.int .u8) 5 6 ([]:List Int) [] (Reps.none _ _) ?_;intro kS w2 dC hb;(first|rw [←fu.out] at dC|(simp only [Int.reduceToNat] at dC;rw [←fu.out] at dC));have gJ:=am (Kd.R_lower dC (below_size (Ae0 HB)));replace HB:=hA HB hb;clear hb dC))
 go_loopg [3,9] k (fun kq v3 v9 w'=>∃ (aN:List Int) (bP:Int),v9=.int .i64 bP∧Aside0 (impl_byteTexts.l0 kq aN l0 (l0.length:Int) bP=some r)∧Aside0 (kq≤k)∧Aside0 (Kd.R (Kd.int .u8) 5 w' w.heap.size (fun _=>True) v3 aN)∧Aside0 (Below w.heap.size w w'))
 case atStart=>exact⟨(iJ),0,be_,q,⟨Nat.le_refl _⟩,Cr gJ,Ce0 HB⟩
 case round=>
  clear q;obtain⟨aN,bP,rfl,j,ao,ey,HB⟩:=hrel
  cases gk with
  |zero=>exact absurd j.out (by simp [impl_byteTexts.l0])
  |succ k1=>?_
  replace j:=j.out;simp only [impl_byteTexts.l0] at j
  obtain⟨aZ,l⟩|⟨aZ,l⟩:=sd j
  ·obtain⟨eJ,U⟩:=yd l;obtain⟨bT,M⟩:=yd U;obtain⟨eB,J⟩:=ya M;obtain⟨iK,dK⟩:∃ y_:List Int,y_=(aN ++ [(rd l0 bP) % 256]):=⟨_,rfl⟩
   (first|with_reducible replace J:=hq dK J|rw [←dK] at J|simp only [←dK] at J)
   have gZ:=am dK;clear dK;replace J:=am J;clear j l U M
   have eU:0≤(bP:Int):=dga
   have eZ:bP<(l0.length:Int):=dga
   obtain⟨jj,hE,eQ⟩:=Kd.at_int aG.out bP eU eZ;cases hE;replace eQ:=(hbc HB eQ).trans eQ;replace eU:=eq_true eU;replace eZ:=eq_true eZ
   go_wp2_with (first|((with_reducible refine gate_builtin (b:=.append) (xs:=#[.tmp 13,.tmp 16]) rfl ?_);at_builtin;refine Kd.R_append (Kd.int .u8) (w0:=w) w.heap.size rfl (.tmp 13) (.tmp 16) 22 5 (.int .u8 0) 1 rfl Tryz.underlying22 info5 rfl (by decide) (by omega) u3 aN ((rd l0 bP) % 256) [.int .u8 ((rd l0 bP) % 256)] (fun _=>True) (fun _=>False) rfl rfl ?aP (fun _ hk=>hk.elim) ?aF ?aO ?aB ?aS ?aL ?_;(case aP=>exact rfl);(case aB=>exact(Ae0 HB));(case aF=>exact(fun _ _=>trivial));(case aO=>(with_reducible repeat (first|apply Kd.R_alloc|apply Kd.R_drewN|apply Kd.R_drew));exact ey.out);(case aS=>exact B24x11_);(case aL=>have:=eB.out;omega);intro kT w8 ho hb hg hat;rw [←gZ.out] at ho;replace HB:=am hb;have gN:=am ho;clear ey;clear ho hb hg hat))
   go_roundg k1
   case measure=>have:=ao.out;omega
   case rel=>exact⟨(iK),(wrap64 (bP+1)),be_,J,⟨B24x9_⟩,Cr gN,Ce0 HB⟩
  ·obtain rfl:=Option.some.inj l;clear l j;have jF:=own_string (P:=Tryz.prog) Tryz.underlying22 Tryz.underlying5 Tryz.underlying9 (Kd.own_of_R ey.out)
   go_wp2
   go_ret;exact D7x1_

def impl_ConfText.f (k:Nat) (l0:List Int):Option (ByteArray × Bool):=(impl_ConfOk.f k l0).bind fun f4=>(if f4=true then ((impl_byteTexts.f k l0).bind fun fc=>(some (fc,true))) else (some ((⟨#[]⟩:ByteArray),false)))
theorem impl_ConfText.calls (k:Nat) (A0:Option Addr) (c0:Nat) (l0:List Int) (r1:ByteArray) (r2:Bool) (w:World) (aK:Kd.C (Kd.int .i64) w A0 l0.length l0) (aJ:l0.length≤c0) (h:impl_ConfText.f k l0=some (r1,r2)) :
  Calls Tryz.prog 53 #[.slice A0 l0.length c0] w fun e w'=>e=.returned (.tuple #[.string r1,.bool r2])∧Below w.heap.size w w':=by
 have aG:=am aK
 have bR:=am aJ
 clear aK aJ
 have HB:=am (Below.refl w.heap.size w)
 have q:=h
 clear h
 unfold impl_ConfText.f at q
 obtain⟨f4,A2,j⟩:=bsi q
 (try dsimp only at j)
 obtain⟨rfl,l⟩|⟨rfl,l⟩:=sb j
 ·obtain⟨fc,A4,U⟩:=bsi l;(try dsimp only at U);obtain⟨rfl,rfl⟩:=s2 U;clear U q j l;go_enter Tryz.func53,Tryz.ntmps53
  go_wp2_with (first|((with_reducible refine gate_callee (f:=83) rfl ?_);refine goesL_ (some 5) rfl rfl Tryz.func83 gk_ rfl #[.slice A0 l0.length c0] rfl gm_ ?_;refine(impl_ConfOk.calls k _ _ l0 true _ (Ac aG) bR.out A2.out).mono ?_;rintro e w' ⟨rfl,⟨nd,rfl⟩⟩;refine⟨_,rfl, ?_⟩)|((with_reducible refine gate_callee (f:=84) rfl ?_);refine goesL_ (some 8) rfl rfl Tryz.func84 gk_ rfl #[.slice A0 l0.length c0] rfl gm_ ?_;refine(impl_byteTexts.calls k _ _ l0 fc _ (Ac aG) bR.out A4.out).mono ?_;rintro e w5 ⟨rfl,hb⟩;refine⟨_,rfl, ?_⟩;replace HB:=hA HB hb))
  go_ret2
  exact D7x1_
 ·obtain⟨rfl,rfl⟩:=s2 l;clear l q j;go_enter Tryz.func53,Tryz.ntmps53
  go_wp2_with (first|((with_reducible refine gate_callee (f:=83) rfl ?_);refine goesL_ (some 5) rfl rfl Tryz.func83 gk_ rfl #[.slice A0 l0.length c0] rfl gm_ ?_;refine(impl_ConfOk.calls k _ _ l0 false _ (Ac aG) bR.out A2.out).mono ?_;rintro e w' ⟨rfl,⟨nd,rfl⟩⟩;refine⟨_,rfl, ?_⟩))
  go_ret2
  exact D7x1_

def impl_VarText.l0:Nat→Int→List Int→Option (ByteArray × Bool)
 |0,_,_=>none
 |k+1,x0,x4=>if x0>127 then (if x4.length<140737488355328 then (impl_VarText.l0 k (wrap64 (Int.tdiv x0 128)) (x4 ++ [(wrap64 ((Int.tmod x0 128)+128)) % 256])) else (none)) else (if x4.length<140737488355328 then (some (strOfNums (x4 ++ [(x0) % 256]),true)) else (none))
def impl_VarText.f (k:Nat) (B:Int):Option (ByteArray × Bool):=(impl_within.f B 0 1000000000).bind fun f5=>(if f5=true then (impl_VarText.l0 k B (([]:List Int))) else (some ((⟨#[]⟩:ByteArray),false)))
theorem impl_VarText.calls (k:Nat) (B:Int) (r1:ByteArray) (r2:Bool) (w:World) (h:impl_VarText.f k B=some (r1,r2)) :
  Calls Tryz.prog 85 #[.int .i64 B] w fun e w'=>e=.returned (.tuple #[.string r1,.bool r2])∧Below w.heap.size w w':=by
 have HB:=am (Below.refl w.heap.size w)
 have q:=h
 clear h
 unfold impl_VarText.f at q
 obtain⟨f5,A2,j⟩:=bsi q
 (try dsimp only at j)
 obtain⟨rfl,l⟩|⟨rfl,l⟩:=sb j
 ·obtain⟨iL,dL⟩:∃ y_:List Int,y_=(([]:List Int)):=⟨_,rfl⟩
  (first|with_reducible replace l:=hq dL l|rw [←dL] at l|simp only [←dL] at l)
  have fv:=am dL;clear dL;replace l:=am l;clear q j;go_enter Tryz.func85,Tryz.ntmps85
  go_wp2_with (first|((with_reducible refine gate_callee (f:=60) rfl ?_);refine goesL_ (some 6) rfl rfl Tryz.func60 gk_ rfl #[.int .i64 B,.int .i64 0,.int .i64 1000000000] rfl gm_ ?_;refine(impl_within.calls B 0 1000000000 true _ A2.out).mono ?_;rintro e w' ⟨rfl,⟨nd,rfl⟩⟩;refine⟨_,rfl, ?_⟩)|((with_reducible refine gate_dst (N:=8) rfl ?_);refine lL (Kd.int .u8) 5 8 ([]:List Int) [] (Reps.none _ _) ?_;intro kU w4 dD hb;(first|rw [←fv.out] at dD|(simp only [Int.reduceToNat] at dD;rw [←fv.out] at dD));have gO:=am (Kd.R_lower dD (below_size (Ae0 HB)));replace HB:=hA HB hb;clear hb dD))
  go_loopg [0,4] k (fun kq v0 v4 w'=>∃ (aw:Int) (cF:List Int),v0=.int .i64 aw∧Aside0 (impl_VarText.l0 kq aw cF=some (r1,r2))∧Aside0 (kq≤k)∧Aside0 (Kd.R (Kd.int .u8) 5 w' w.heap.size (fun _=>True) v4 cF)∧Aside0 (Below w.heap.size w w'))
  case atStart=>exact⟨(B),iL,be_,l,⟨Nat.le_refl _⟩,Cr gO,Ce0 HB⟩
  case round=>
   clear l
   try clear c3
   obtain⟨aw,cF,rfl,U,ao,d9,HB⟩:=hrel
   cases gk with
   |zero=>exact absurd U.out (by simp [impl_VarText.l0])
   |succ k1=>?_
   replace U:=U.out;simp only [impl_VarText.l0] at U
   obtain⟨c6,M⟩|⟨c6,M⟩:=sp U
   ·have bT:decide (127<aw)=true:=decide_eq_true c6
    clear c6;obtain⟨eB,J⟩:=ya M;obtain⟨iM,dM⟩:∃ y_:List Int,y_=(cF ++ [(wrap64 ((Int.tmod aw 128)+128)) % 256]):=⟨_,rfl⟩
    (first|with_reducible replace J:=hq dM J|rw [←dM] at J|simp only [←dM] at J)
    have g0:=am dM;clear dM;replace J:=am J;clear U M
    go_wp2_with (first|((with_reducible refine gate_builtin (b:=.append) (xs:=#[.tmp 11,.tmp 16]) rfl ?_);at_builtin;refine Kd.R_append (Kd.int .u8) (w0:=w) w.heap.size rfl (.tmp 11) (.tmp 16) 22 5 (.int .u8 0) 1 rfl Tryz.underlying22 info5 rfl (by decide) (by omega) u4 cF ((wrap64 ((Int.tmod aw 128)+128)) % 256) [.int .u8 ((wrap64 ((Int.tmod aw 128)+128)) % 256)] (fun _=>True) (fun _=>False) rfl rfl ?aP (fun _ hk=>hk.elim) ?aF ?aO ?aB ?aS ?aL ?_;(case aP=>exact rfl);(case aB=>exact(Ae0 HB));(case aF=>exact(fun _ _=>trivial));(case aO=>exact(Ar d9));(case aS=>exact B24x11_);(case aL=>have:=eB.out;omega);intro kV w8 ho hb hg hat;rw [←g0.out] at ho;replace HB:=am hb;have gP:=am ho;clear d9;clear ho hb hg hat))
    go_roundg k1
    case measure=>have:=ao.out;omega
    case rel=>exact⟨(wrap64 (Int.tdiv aw 128)),iM,be_,J,⟨B24x9_⟩,Cr gP,Ce0 HB⟩
   ·have bT:decide (127<aw)=false:=decide_eq_false c6
    clear c6;obtain⟨gX,Z⟩:=ya M;obtain⟨lb,dN⟩:∃ y_:List Int,y_=(cF ++ [(aw) % 256]):=⟨_,rfl⟩
    (first|with_reducible replace Z:=hq dN Z|rw [←dN] at Z|simp only [←dN] at Z)
    have g1:=am dN;clear dN;obtain⟨rfl,rfl⟩:=s2 Z;clear Z U M
    go_wp2_with (first|((with_reducible refine gate_builtin (b:=.append) (xs:=#[.tmp 20,.tmp 23]) rfl ?_);at_builtin;refine Kd.R_append (Kd.int .u8) (w0:=w) w.heap.size rfl (.tmp 20) (.tmp 23) 22 5 (.int .u8 0) 1 rfl Tryz.underlying22 info5 rfl (by decide) (by omega) u4 cF ((aw) % 256) [.int .u8 ((aw) % 256)] (fun _=>True) (fun _=>False) rfl rfl ?aP (fun _ hk=>hk.elim) ?aF ?aO ?aB ?aS ?aL ?_;(case aP=>exact rfl);(case aB=>exact(Ae0 HB));(case aF=>exact(fun _ _=>trivial));(case aO=>exact(Ar d9));(case aS=>exact B24x11_);(case aL=>have:=gX.out;omega);intro kW iu ho hb hg hat;rw [←g1.out] at ho;replace HB:=am hb;have gQ:=am ho;clear d9;clear ho hb hg hat;have jD:=own_string (P:=Tryz.prog) Tryz.underlying22 Tryz.underlying5 Tryz.underlying9 (Kd.own_of_R gQ.out)))
    go_ret2
    exact D7x1_
 ·obtain⟨rfl,rfl⟩:=s2 l;clear l q j;go_enter Tryz.func85,Tryz.ntmps85
  go_wp2_with (first|((with_reducible refine gate_callee (f:=60) rfl ?_);refine goesL_ (some 6) rfl rfl Tryz.func60 gk_ rfl #[.int .i64 B,.int .i64 0,.int .i64 1000000000] rfl gm_ ?_;refine(impl_within.calls B 0 1000000000 false _ A2.out).mono ?_;rintro e w' ⟨rfl,⟨nd,rfl⟩⟩;refine⟨_,rfl, ?_⟩))
  go_ret2
  exact D7x1_

def impl_ShortText.f (k:Nat) (B:ByteArray):Option (ByteArray × Bool):=if (B.size:Int)>20000 then (some ((⟨#[]⟩:ByteArray),false)) else ((impl_VarText.f k (B.size:Int)).bind fun fB=>(if fB.1.size+B.size≤9223372036854775807 then (some (fB.1 ++ B,true)) else (none)))
theorem impl_ShortText.calls (k:Nat) (B:ByteArray) (r1:ByteArray) (r2:Bool) (w:World) (h:impl_ShortText.f k B=some (r1,r2)) :
  Calls Tryz.prog 54 #[.string B] w fun e w'=>e=.returned (.tuple #[.string r1,.bool r2])∧Below w.heap.size w w':=by
 have HB:=am (Below.refl w.heap.size w)
 have q:=h
 clear h
 unfold impl_ShortText.f at q
 obtain⟨c2,j⟩|⟨c2,j⟩:=sp q
 ·have bi:decide (20000<(B.size:Int))=true:=decide_eq_true c2
  have ds:decide (20000<B.size)=true:=decide_eq_true (by omega)
  clear c2;obtain⟨rfl,rfl⟩:=s2 j;clear j q;go_enter Tryz.func54,Tryz.ntmps54
  go_wp2
  go_ret2
  exact D7x1_
 ·have bi:decide (20000<(B.size:Int))=false:=decide_eq_false c2
  have ds:decide (20000<B.size)=false:=decide_eq_false (by omega)
  clear c2;obtain⟨⟨f6,ih⟩,A3,l⟩:=bsi j;(try dsimp only at l);obtain⟨c4,U⟩:=yn l;have aZ:=eq_true c4;have fJ:=decide_eq_true c4
  try have hj:(9223372036854775807<f6.size+B.size)=False:=eq_false (Nat.not_lt.2 c4)
  try(have hl:=hj;simp only [ByteArray.size_append] at hl)
  obtain⟨rfl,rfl⟩:=s2 U;clear U q j l;go_enter Tryz.func54,Tryz.ntmps54
  go_wp2_with (first|((with_reducible refine gate_callee (f:=85) rfl ?_);refine goesL_ (some 12) rfl rfl Tryz.func85 gk_ rfl #[.int .i64 (B.size:Int)] rfl gm_ ?_;refine(impl_VarText.calls k (B.size:Int) f6 ih _ A3.out).mono ?_;rintro e w5 ⟨rfl,hb⟩;refine⟨_,rfl, ?_⟩;replace HB:=hA HB hb))
  go_ret2
  exact D7x1_

def impl_isIndex.f (B:Int):Option (Bool):=(impl_within.f B 0 1000000).bind fun fd=>(some fd)
theorem impl_isIndex.calls (B:Int) (r:Bool) (w:World) (h:impl_isIndex.f B=some r) :
  Calls Tryz.prog 55 #[.int .i64 B] w fun e w'=>e=.returned (.bool r)∧Drawn0 w w':=by
 have q:=h
 clear h
 unfold impl_isIndex.f at q
 obtain⟨fd,A2,j⟩:=bsi q
 (try dsimp only at j)
 obtain rfl:=Option.some.inj j
 clear j q
 go_enter Tryz.func55,Tryz.ntmps55
 go_wp2_with (first|((with_reducible refine gate_callee (f:=60) rfl ?_);refine goesL_ (some 4) rfl rfl Tryz.func60 gk_ rfl #[.int .i64 B,.int .i64 0,.int .i64 1000000] rfl gm_ ?_;refine(impl_within.calls B 0 1000000 fd _ A2.out).mono ?_;rintro e w' ⟨rfl,⟨nd,rfl⟩⟩;refine⟨_,rfl, ?_⟩))
 go_ret
 exact⟨gr_,gd_⟩

def impl_isTerm.f (B:Int):Option (Bool):=(impl_within.f B 0 100000).bind fun fe=>(some fe)
theorem impl_isTerm.calls (B:Int) (r:Bool) (w:World) (h:impl_isTerm.f B=some r) :
  Calls Tryz.prog 56 #[.int .i64 B] w fun e w'=>e=.returned (.bool r)∧Drawn0 w w':=by
 have q:=h
 clear h
 unfold impl_isTerm.f at q
 obtain⟨fe,A2,j⟩:=bsi q
 (try dsimp only at j)
 obtain rfl:=Option.some.inj j
 clear j q
 go_enter Tryz.func56,Tryz.ntmps56
 go_wp2_with (first|((with_reducible refine gate_callee (f:=60) rfl ?_);refine goesL_ (some 4) rfl rfl Tryz.func60 gk_ rfl #[.int .i64 B,.int .i64 0,.int .i64 100000] rfl gm_ ?_;refine(impl_within.calls B 0 100000 fe _ A2.out).mono ?_;rintro e w' ⟨rfl,⟨nd,rfl⟩⟩;refine⟨_,rfl, ?_⟩))
 go_ret
 exact⟨gr_,gd_⟩

def impl_highFirst.l0:Nat→Int→List Int→Int→Option (ByteArray)
 |0,_,_,_=>none
 |k+1,x0,x5,x6=>if x6≥0 then (if 0≤x6 then (if x6<(x5.length:Int) then (impl_highFirst.l0 k (x0 / 256) (x5.set (x6:Int).toNat ((Go.bits .and .i64 x0 255) % 256)) (wrap64 (x6 - 1))) else (none)) else (none)) else (some (strOfNums x5))
def impl_highFirst.f (k:Nat) (B:Int) (a1:Int):Option (ByteArray):=if 0≤a1 then (if (a1:Int).toNat≤281474976710656 then (impl_highFirst.l0 k B (List.replicate (a1:Int).toNat 0) (wrap64 (a1 - 1))) else (none)) else (none)
theorem impl_highFirst.calls (k:Nat) (B:Int) (a1:Int) (r:ByteArray) (w:World) (h:impl_highFirst.f k B a1=some r) :
  Calls Tryz.prog 86 #[.int .i64 B,.int .i64 a1] w fun e w'=>e=.returned (.string r)∧Below w.heap.size w w':=by
 have HB:=am (Below.refl w.heap.size w)
 have q:=h
 clear h
 unfold impl_highFirst.f at q
 obtain⟨cq,hh,j⟩:=ye q
 obtain⟨aZ,fJ,l⟩:=ye j
 obtain⟨iN,dO⟩:∃ y_:List Int,y_=(List.replicate (a1:Int).toNat 0):=⟨_,rfl⟩
 (first|with_reducible replace l:=hq dO l|rw [←dO] at l|simp only [←dO] at l)
 have fw:=am dO
 clear dO
 replace l:=am l
 clear q j
 go_enter Tryz.func86,Tryz.ntmps86
 go_wp2_with (first|((with_reducible refine gate_dst (N:=8) rfl ?_);refine Kd.R_make (Kd.int .u8) _ 5 rfl (N:=8) rfl 22 _ _ rfl a1 rfl rfl Tryz.underlying22 (.int .u8 0) 1 info5 rfl (by decide) (by omega) 0 (ok:=fun _=>True) (okp:=fun _=>True) rfl (fun _ hk=>hk) trivial (dga) (Nat.le_trans (Nat.mul_le_mul_right _ (dga:a1.toNat≤281474976710656)) (by omega)) (Below.refl _ _) (Nat.le_refl _) ?_;intro ir w5 dE hb hg_ hnew_;clear hg_ hnew_;(first|rw [←fw.out] at dE|(simp only [Int.reduceToNat] at dE;rw [←fw.out] at dE));have gR:=am (Kd.R_lower dE (below_size (Ae0 HB)));replace HB:=hA HB hb;clear hb dE))
 go_loopg [0,6] k (fun kq v0 v6 w'=>∃ (aw:Int) (aa:List Int) (ba:Int),v0=.int .i64 aw∧v6=.int .i64 ba∧Aside0 (impl_highFirst.l0 kq aw aa ba=some r)∧Aside0 (kq≤k)∧Aside0 (Kd.R (Kd.int .u8) 5 w' w.heap.size (fun _=>True) ir aa)∧Aside0 (Below w.heap.size w w'))
 case atStart=>exact⟨(B),iN,(wrap64 (a1 - 1)),be_,be_,l,⟨Nat.le_refl _⟩,Cr gR,Ce0 HB⟩
 case round=>
  clear l
  try clear c3
  try clear cq
  try clear hh
  try clear c4
  try clear aZ
  try clear fJ
  obtain⟨aw,aa,ba,rfl,rfl,U,ao,cI,HB⟩:=hrel
  cases gk with
  |zero=>exact absurd U.out (by simp [impl_highFirst.l0])
  |succ k1=>?_
  replace U:=U.out;simp only [impl_highFirst.l0] at U
  obtain⟨c7,M⟩|⟨c7,M⟩:=sp U
  ·have cL:decide (0≤ba)=true:=decide_eq_true c7
   clear c7;obtain⟨hv,J⟩:=yd M;obtain⟨b5,Z⟩:=yd J;obtain⟨gb,dP⟩:∃ y_:List Int,y_=(aa.set (ba:Int).toNat ((Go.bits .and .i64 aw 255) % 256)):=⟨_,rfl⟩
   (first|with_reducible replace Z:=hq dP Z|rw [←dP] at Z|simp only [←dP] at Z)
   have g2:=am dP;clear dP;replace Z:=am Z;clear U M J
   have eT:0≤(ba:Int):=dga
   have eY:(ba:Int)<((aa.length:Int):Int):=dga
   obtain⟨eO,hx,fK,fL,hR,cl10,fs⟩:=Kd.R_form cI.out (by omega)
   (first|cases fK|(injection fK with ea_ en_ ec_;(first|subst ea_|(injection ea_ with ea_;subst ea_));subst ec_;clear en_))
   have gH:=am fL;have jh:=am fs;clear fL hR fs;obtain⟨kP,jG⟩:=Kd.R_celln 0 cI.out (ba:Int) eT eY;replace eT:=eq_true eT;replace eY:=eq_true eY;have ez:=Kd.R_putg cI.out (ba:Int) ((Go.bits .and .i64 aw 255) % 256)
   go_wp2_with (first|((with_reducible refine gate_store (t:=5) (p:=20) rfl ?_);refine store_event (t:=5) (p:=20) (v:=?vo_w12) (w1:=(wr.setCell ⟨eO,(ba:Int).toNat,none⟩ (.int .u8 ((Go.bits .and .i64 aw 255) % 256)))) ?hg ?ho ?hn ?hr ?_;(case ho=>rfl);(case hg=>rfl);(case hn=>rfl);(case hr=>exact gs_);intro ek hw;have hg:wr.grownBy ek (some eO):=(by rw [hw];exact ez.2);have hp_:Kd.R (Kd.int .u8) 5 ek w.heap.size (fun _=>True) (.slice (some ⟨eO,0,none⟩) aa.length hx) gb:=(by rw [hw,g2.out];exact ez.1);clear ez;replace cI:=am hp_;replace HB:=am (by rw [hw];exact below_set (HB.out) gH.out:Below w.heap.size w ek);clear hg hw hp_))
   go_roundg k1
   case measure=>have:=ao.out;omega
   case rel=>exact⟨(aw / 256),gb,(wrap64 (ba - 1)),be_,be_,Z,⟨B24x9_⟩,Cr cI,Ce0 HB⟩
  have cL:decide (0≤ba)=false:=decide_eq_false c7
  clear c7;obtain rfl:=Option.some.inj M;clear M U;have jE:=own_string (P:=Tryz.prog) Tryz.underlying22 Tryz.underlying5 Tryz.underlying9 (Kd.own_of_R cI.out)
  go_wp2
  go_ret;exact D7x1_
theorem B25x10_ (h:p:=by have:=ao.out;have:=d8.out;omega):p:=h
mutual
def impl_SumMore.l0:Nat→Int→ByteArray→Int→Option (Int)
 |0,_,_,_=>none
 |k+1,x0,x1,x5=>if x5<(x1.size:Int) then (if 0≤x5 then (impl_SumMore.l1 k (Go.bits .xor .u32 x0 ((bt x1 x5) % 4294967296)) x1 x5 0) else (none)) else (some x0)
def impl_SumMore.l1:Nat→Int→ByteArray→Int→Int→Option (Int)
 |0,_,_,_,_=>none
 |k+1,x0,x1,x5,fp=>if fp<8 then (if (Int.tmod x0 2)=1 then (impl_SumMore.l1 k (Go.bits .xor .u32 ((Int.tdiv x0 2) % 4294967296) 3558460437) x1 x5 (wrap64 (fp+1))) else (impl_SumMore.l1 k ((Int.tdiv x0 2) % 4294967296) x1 x5 (wrap64 (fp+1)))) else (impl_SumMore.l0 k x0 x1 (wrap64 (x5+1)))
end
def impl_SumMore.f (k:Nat) (B:Int) (a1:ByteArray):Option (Int):=impl_SumMore.l0 k B a1 0
theorem impl_SumMore.calls (k:Nat) (B:Int) (a1:ByteArray) (r:Int) (w:World) (h:impl_SumMore.f k B a1=some r) :
  Calls Tryz.prog 101 #[.int .u32 B,.string a1] w fun e w'=>e=.returned (.int .u32 r)∧Drawn0 w w':=by
 have q:=h
 clear h
 unfold impl_SumMore.f at q
 replace q:=am q
 go_enter Tryz.func101,Tryz.ntmps101
 go_wp2
 go_loopg [0,5] k (fun kq v0 v5 w'=>∃ (aw:Int) (aa:Int),v0=.int .u32 aw∧v5=.int .i64 aa∧Aside0 (impl_SumMore.l0 kq aw a1 aa=some r)∧Aside0 (kq≤k)∧Drawn0 w w')
 case atStart=>exact⟨(B),0,be_,be_,q,⟨Nat.le_refl _⟩,gd_⟩
 case round=>
  clear q;obtain⟨aw,aa,rfl,rfl,j,ao,⟨m1,rfl⟩⟩:=hrel
  cases gk with
  |zero=>exact absurd j.out (by simp [impl_SumMore.l0])
  |succ k1=>?_
  replace j:=j.out;simp only [impl_SumMore.l0] at j
  obtain⟨cq,l⟩|⟨cq,l⟩:=sd j
  ·obtain⟨aZ,U⟩:=yd l;replace U:=am U;clear j l
   have p5:0≤(aa:Int):=dga
   have q5:aa<(a1.size:Int):=dga
   have h5:=bt_at a1 aa;replace p5:=eq_true p5;replace q5:=eq_true q5
   go_wp2
   go_loopg [0,19] k1 (fun kq v0 ip w'=>∃ (cR:Int) (dX:Int),v0=.int .u32 cR∧ip=.int .i64 dX∧Aside0 (impl_SumMore.l1 kq cR a1 aa dX=some r)∧Aside0 (kq≤k1)∧Drawn0 w w')
   case atStart=>exact⟨(Go.bits .xor .u32 aw ((bt a1 aa) % 4294967296)),0,be_,be_,U,⟨Nat.le_refl _⟩,gd_⟩
   case round=>
    clear U
    try clear c3
    try clear cq
    try clear c4
    try clear aZ
    try clear p5
    try clear q5
    try clear h5
    try clear p5
    try clear q5
    obtain⟨cR,dX,rfl,rfl,M,d8,⟨m2,rfl⟩⟩:=hrel
    cases gk with
    |zero=>exact absurd M.out (by simp [impl_SumMore.l1])
    |succ k2=>?_
    replace M:=M.out;simp only [impl_SumMore.l1] at M
    obtain⟨bT,J⟩|⟨bT,J⟩:=sd M
    ·obtain⟨c7,Z⟩|⟨c7,Z⟩:=sp J
     ·obtain⟨cL,hu⟩:=yE c7;clear c7;replace Z:=am Z;clear M J
      go_wp2
      go_roundg k2
      case measure=>have:=ao.out;have:=d8.out;omega
      case rel=>exact⟨(Go.bits .xor .u32 ((Int.tdiv cR 2) % 4294967296) 3558460437),(wrap64 (dX+1)),be_,be_,Z,⟨B25x10_⟩,gd_⟩
     ·obtain⟨cL,hu⟩:=nE c7;replace Z:=am Z;clear M J
      go_wp2
      go_roundg k2
      case measure=>have:=ao.out;have:=d8.out;omega
      case rel=>exact⟨((Int.tdiv cR 2) % 4294967296),(wrap64 (dX+1)),be_,be_,Z,⟨B25x10_⟩,gd_⟩
    ·replace J:=am J;clear M
     go_wp2
     go_roundg k2
     case measure=>have:=ao.out;have:=d8.out;omega
     case rel=>exact⟨(cR),(wrap64 (aa+1)),be_,be_,J,⟨B25x10_⟩,gd_⟩
  ·obtain rfl:=Option.some.inj l;clear l j
   go_wp2
   go_ret;exact⟨gr_,gd_⟩

def impl_SumOf.f (k:Nat) (B:ByteArray):Option (Int):=(impl_SumMore.f k 4294967295 B).bind fun ff=>(some ff)
theorem impl_SumOf.calls (k:Nat) (B:ByteArray) (r:Int) (w:World) (h:impl_SumOf.f k B=some r) :
  Calls Tryz.prog 87 #[.string B] w fun e w'=>e=.returned (.int .u32 r)∧Drawn0 w w':=by
 have q:=h
 clear h
 unfold impl_SumOf.f at q
 obtain⟨ff,A2,j⟩:=bsi q
 (try dsimp only at j)
 obtain rfl:=Option.some.inj j
 clear j q
 go_enter Tryz.func87,Tryz.ntmps87
 go_wp2_with (first|((with_reducible refine gate_callee (f:=101) rfl ?_);refine goesL_ (some 4) rfl rfl Tryz.func101 gk_ rfl #[.int .u32 4294967295,.string B] rfl gm_ ?_;refine(impl_SumMore.calls k 4294967295 B ff _ A2.out).mono ?_;rintro e w' ⟨rfl,⟨nd,rfl⟩⟩;refine⟨_,rfl, ?_⟩))
 go_ret
 exact⟨gr_,gd_⟩

def impl_Sealed.f (k:Nat) (B:ByteArray):Option (ByteArray × Bool):=if (B.size:Int)>20000 then (some ((⟨#[]⟩:ByteArray),false)) else ((impl_SumOf.f k B).bind fun dS=>((impl_highFirst.f k (wrap64 (dS)) 4).bind fun dT=>(if B.size+dT.size≤9223372036854775807 then (some (B ++ dT,true)) else (none))))
theorem impl_Sealed.calls (k:Nat) (B:ByteArray) (r1:ByteArray) (r2:Bool) (w:World) (h:impl_Sealed.f k B=some (r1,r2)) :
  Calls Tryz.prog 57 #[.string B] w fun e w'=>e=.returned (.tuple #[.string r1,.bool r2])∧Below w.heap.size w w':=by
 have HB:=am (Below.refl w.heap.size w)
 have q:=h
 clear h
 unfold impl_Sealed.f at q
 obtain⟨c2,j⟩|⟨c2,j⟩:=sp q
 ·have bi:decide (20000<(B.size:Int))=true:=decide_eq_true c2
  have ds:decide (20000<B.size)=true:=decide_eq_true (by omega)
  clear c2;obtain⟨rfl,rfl⟩:=s2 j;clear j q;go_enter Tryz.func57,Tryz.ntmps57
  go_wp2
  go_ret2
  exact D7x1_
 ·have bi:decide (20000<(B.size:Int))=false:=decide_eq_false c2
  have ds:decide (20000<B.size)=false:=decide_eq_false (by omega)
  clear c2;obtain⟨dS,A3,l⟩:=bsi j;(try dsimp only at l);obtain⟨dT,A4,U⟩:=bsi l;(try dsimp only at U);obtain⟨c5,M⟩:=yn U;have eJ:=eq_true c5;have jx:=decide_eq_true c5
  try have hm:(9223372036854775807<B.size+dT.size)=False:=eq_false (Nat.not_lt.2 c5)
  try(have hp:=hm;simp only [ByteArray.size_append] at hp)
  obtain⟨rfl,rfl⟩:=s2 M;clear M q j l U;go_enter Tryz.func57,Tryz.ntmps57
  go_wp2_with (first|((with_reducible refine gate_callee (f:=87) rfl ?_);refine goesL_ (some 9) rfl rfl Tryz.func87 gk_ rfl #[.string B] rfl gm_ ?_;refine(impl_SumOf.calls k B dS _ A3.out).mono ?_;rintro e w' ⟨rfl,⟨nd,rfl⟩⟩;refine⟨_,rfl, ?_⟩)|((with_reducible refine gate_callee (f:=86) rfl ?_);refine goesL_ (some 11) rfl rfl Tryz.func86 gk_ rfl #[.int .i64 (wrap64 (dS)),.int .i64 4] rfl gm_ ?_;refine(impl_highFirst.calls k (wrap64 (dS)) 4 dT _ A4.out).mono ?_;rintro e w6 ⟨rfl,hb⟩;refine⟨_,rfl, ?_⟩;replace HB:=hA HB hb))
  go_ret2
  exact D7x1_

def impl_varTexts.l0:Nat→ByteArray→List Int→Int→Int→Option (ByteArray)
 |0,_,_,_,_=>none
 |k+1,x3,x8,x9,bB=>if bB<x9 then (if 0≤bB then (if bB<(x8.length:Int) then ((impl_VarText.f k (rd x8 bB)).bind fun fC=>(if x3.size+fC.1.size≤9223372036854775807 then (impl_varTexts.l0 k (x3 ++ fC.1) x8 x9 (wrap64 (bB+1))) else (none))) else (none)) else (none)) else (some x3)
def impl_varTexts.f (k:Nat) (l0:List Int):Option (ByteArray):=impl_varTexts.l0 k (⟨#[]⟩:ByteArray) l0 (l0.length:Int) 0
theorem impl_varTexts.calls (k:Nat) (A0:Option Addr) (c0:Nat) (l0:List Int) (r:ByteArray) (w:World) (aK:Kd.C (Kd.int .i64) w A0 l0.length l0) (aJ:l0.length≤c0) (h:impl_varTexts.f k l0=some r) :
  Calls Tryz.prog 58 #[.slice A0 l0.length c0] w fun e w'=>e=.returned (.string r)∧Below w.heap.size w w':=by
 have aG:=am aK
 have bR:=am aJ
 clear aK aJ
 have HB:=am (Below.refl w.heap.size w)
 have q:=h
 clear h
 unfold impl_varTexts.f at q
 replace q:=am q
 go_enter Tryz.func58,Tryz.ntmps58
 go_wp2
 go_loopg [3,10] k (fun kq v3 fn w'=>∃ (aN:ByteArray) (aD:Int),v3=.string aN∧fn=.int .i64 aD∧Aside0 (impl_varTexts.l0 kq aN l0 (l0.length:Int) aD=some r)∧Aside0 (kq≤k)∧Aside0 (Below w.heap.size w w'))
 case atStart=>exact⟨((⟨#[]⟩:ByteArray)),0,be_,be_,q,⟨Nat.le_refl _⟩,Ce0 HB⟩
 case round=>
  clear q;obtain⟨aN,aD,rfl,rfl,j,ao,HB⟩:=hrel
  cases gk with
  |zero=>exact absurd j.out (by simp [impl_varTexts.l0])
  |succ k1=>?_
  replace j:=j.out;simp only [impl_varTexts.l0] at j
  obtain⟨bi,l⟩|⟨bi,l⟩:=sd j
  ·obtain⟨cq,U⟩:=yd l;obtain⟨aZ,M⟩:=yd U;obtain⟨⟨fg,ii⟩,A5,J⟩:=bsi M;(try dsimp only at J);obtain⟨c6,Z⟩:=yn J;have bT:=eq_true c6;have ht:=decide_eq_true c6
   try have eK:(9223372036854775807<aN.size+fg.size)=False:=eq_false (Nat.not_lt.2 c6)
   try(have eL:=eK;simp only [ByteArray.size_append] at eL)
   replace Z:=am Z;clear j l U M J
   have eV:0≤(aD:Int):=dga
   have e0:aD<(l0.length:Int):=dga
   obtain⟨jk,hF,eR⟩:=Kd.at_int aG.out aD eV e0;cases hF;replace eR:=(hbc HB eR).trans eR;replace eV:=eq_true eV;replace e0:=eq_true e0
   go_wp2_with (first|((with_reducible refine gate_callee (f:=85) rfl ?_);refine goesL_ (some 16) rfl rfl Tryz.func85 gk_ rfl #[.int .i64 (rd l0 aD)] rfl gm_ ?_;refine(impl_VarText.calls k1 (rd l0 aD) fg ii _ A5.out).mono ?_;rintro e w7 ⟨rfl,hb⟩;refine⟨_,rfl, ?_⟩;replace HB:=hA HB hb))
   go_roundg k1
   case measure=>have:=ao.out;omega
   case rel=>exact⟨(aN ++ fg),(wrap64 (aD+1)),be_,be_,Z,⟨(by have:=ao.out;omega)⟩,Ce0 HB⟩
  ·obtain rfl:=Option.some.inj l;clear l j
   go_wp2
   go_ret;exact D7x1_

def impl_shortTexts.l0:Nat→ByteArray→List ByteArray→Int→Int→Option (ByteArray)
 |0,_,_,_,_=>none
 |k+1,x3,x8,x9,bB=>if bB<x9 then (if 0≤bB then (if bB<(x8.length:Int) then ((impl_ShortText.f k (rdOf ByteArray.empty x8 bB)).bind fun fD=>(if x3.size+fD.1.size≤9223372036854775807 then (impl_shortTexts.l0 k (x3 ++ fD.1) x8 x9 (wrap64 (bB+1))) else (none))) else (none)) else (none)) else (some x3)
def impl_shortTexts.f (k:Nat) (l0:List ByteArray):Option (ByteArray):=impl_shortTexts.l0 k (⟨#[]⟩:ByteArray) l0 (l0.length:Int) 0
theorem impl_shortTexts.calls (k:Nat) (A0:Option Addr) (c0:Nat) (l0:List ByteArray) (r:ByteArray) (w:World) (aK:Kd.C Kd.string w A0 l0.length l0) (aJ:l0.length≤c0) (h:impl_shortTexts.f k l0=some r) :
  Calls Tryz.prog 59 #[.slice A0 l0.length c0] w fun e w'=>e=.returned (.string r)∧Below w.heap.size w w':=by
 have aG:=am aK
 have bR:=am aJ
 clear aK aJ
 have HB:=am (Below.refl w.heap.size w)
 have q:=h
 clear h
 unfold impl_shortTexts.f at q
 replace q:=am q
 go_enter Tryz.func59,Tryz.ntmps59
 go_wp2
 go_loopg [3,10] k (fun kq v3 fn w'=>∃ (aN:ByteArray) (aD:Int),v3=.string aN∧fn=.int .i64 aD∧Aside0 (impl_shortTexts.l0 kq aN l0 (l0.length:Int) aD=some r)∧Aside0 (kq≤k)∧Aside0 (Below w.heap.size w w'))
 case atStart=>exact⟨((⟨#[]⟩:ByteArray)),0,be_,be_,q,⟨Nat.le_refl _⟩,Ce0 HB⟩
 case round=>
  clear q;obtain⟨aN,aD,rfl,rfl,j,ao,HB⟩:=hrel
  cases gk with
  |zero=>exact absurd j.out (by simp [impl_shortTexts.l0])
  |succ k1=>?_
  replace j:=j.out;simp only [impl_shortTexts.l0] at j
  obtain⟨bi,l⟩|⟨bi,l⟩:=sd j
  ·obtain⟨cq,U⟩:=yd l;obtain⟨aZ,M⟩:=yd U;obtain⟨⟨fh,ij⟩,A5,J⟩:=bsi M;(try dsimp only at J);obtain⟨c6,Z⟩:=yn J;have bT:=eq_true c6;have ht:=decide_eq_true c6
   try have eK:(9223372036854775807<aN.size+fh.size)=False:=eq_false (Nat.not_lt.2 c6)
   try(have eL:=eK;simp only [ByteArray.size_append] at eL)
   replace Z:=am Z;clear j l U M J
   have eW:0≤(aD:Int):=dga
   have e1:aD<(l0.length:Int):=dga
   obtain⟨jl,hG,eS⟩:=Kd.at_string aG.out aD eW e1;cases hG;replace eS:=(hbc HB eS).trans eS;replace eW:=eq_true eW;replace e1:=eq_true e1
   go_wp2_with (first|((with_reducible refine gate_callee (f:=54) rfl ?_);refine goesL_ (some 16) rfl rfl Tryz.func54 gk_ rfl #[.string (rdOf ByteArray.empty l0 aD)] rfl gm_ ?_;refine(impl_ShortText.calls k1 (rdOf ByteArray.empty l0 aD) fh ij _ A5.out).mono ?_;rintro e w7 ⟨rfl,hb⟩;refine⟨_,rfl, ?_⟩;replace HB:=hA HB hb))
   go_roundg k1
   case measure=>have:=ao.out;omega
   case rel=>exact⟨(aN ++ fh),(wrap64 (aD+1)),be_,be_,Z,⟨(by have:=ao.out;omega)⟩,Ce0 HB⟩
  ·obtain rfl:=Option.some.inj l;clear l j
   go_wp2
   go_ret;exact D7x1_

def impl_SnapText.f (k:Nat) (a6:Int) (a7:Int) (bK:List Int) (cn:ByteArray):Option (ByteArray × Bool):=(impl_ConfText.f k bK).bind fun fE=>((impl_ShortText.f k cn).bind fun eG=>(if fE.2=true then (if eG.2=true then ((impl_isIndex.f a6).bind fun fi=>(if fi=true then ((impl_isTerm.f a7).bind fun fj=>(if fj=true then ((impl_varTexts.f k (([a6,a7]:List Int))).bind fun bM=>((impl_shortTexts.f k (([fE.1]:List ByteArray))).bind fun bN=>(if bM.size+bN.size≤9223372036854775807 then (if (bM ++ bN).size+eG.1.size≤9223372036854775807 then ((impl_Sealed.f k ((bM ++ bN) ++ eG.1)).bind fun eH=>(if eH.2=true then (if (eH.1.size:Int)>20000 then (none) else (some (eH.1,true))) else (none))) else (none)) else (none)))) else (none))) else (none))) else (none)) else (none)))
theorem impl_SnapText.calls (k:Nat) (a6:Int) (a7:Int) (d6:Option Addr) (ef:Nat) (bK:List Int) (cn:ByteArray) (r1:ByteArray) (r2:Bool) (w:World) (fN:Kd.C (Kd.int .i64) w d6 bK.length bK) (fM:bK.length≤ef) (h:impl_SnapText.f k a6 a7 bK cn=some (r1,r2)) :
  Calls Tryz.prog 25 #[.agg #[.int .i64 a6,.int .i64 a7,.slice d6 bK.length ef,.string cn]] w fun e w'=>e=.returned (.tuple #[.string r1,.bool r2])∧Below w.heap.size w w':=by
 have fO:=Tryz.underlying29
 have gV:=am fN
 have gI:=am fM
 clear fN fM
 have HB:=am (Below.refl w.heap.size w)
 have q:=h
 clear h
 unfold impl_SnapText.f at q
 obtain⟨⟨cP,ik⟩,A2,j⟩:=bsi q
 (try dsimp only at j)
 obtain⟨⟨dU,il⟩,A3,l⟩:=bsi j
 (try dsimp only at l)
 by_cases c4:ik=true
 rotate_left
 ·replace c4:=Bool.eq_false_iff.mpr c4;subst c4;rw [if_neg (show ¬ (false=true) by decide)] at l;exact absurd l (by simp)
 subst c4
 rw [if_pos rfl] at l
 by_cases c5:il=true
 rotate_left
 ·replace c5:=Bool.eq_false_iff.mpr c5;subst c5;rw [if_neg (show ¬ (false=true) by decide)] at l;exact absurd l (by simp)
 subst c5
 rw [if_pos rfl] at l
 obtain⟨fi,A6,U⟩:=bsi l
 (try dsimp only at U)
 by_cases c7:fi=true
 rotate_left
 ·replace c7:=Bool.eq_false_iff.mpr c7;subst c7;rw [if_neg (show ¬ (false=true) by decide)] at U;exact absurd U (by simp)
 subst c7
 rw [if_pos rfl] at U
 obtain⟨fj,A8,M⟩:=bsi U
 (try dsimp only at M)
 by_cases c9:fj=true
 rotate_left
 ·replace c9:=Bool.eq_false_iff.mpr c9;subst c9;rw [if_neg (show ¬ (false=true) by decide)] at M;exact absurd M (by simp)
 subst c9
 rw [if_pos rfl] at M
 obtain⟨gg,dQ⟩:∃ y_:List Int,y_=(([a6,a7]:List Int)):=⟨_,rfl⟩
 (first|with_reducible replace M:=hq dQ M|rw [←dQ] at M|simp only [←dQ] at M)
 have fx:=am dQ
 clear dQ
 obtain⟨bM,eu,J⟩:=bsi M
 (try dsimp only at J)
 obtain⟨gh,dR⟩:∃ y_:List ByteArray,y_=(([cP]:List ByteArray)):=⟨_,rfl⟩
 (first|with_reducible replace J:=hq dR J|rw [←dR] at J|simp only [←dR] at J)
 have fy:=am dR
 clear dR
 obtain⟨bN,cV,Z⟩:=bsi J
 (try dsimp only at Z)
 obtain⟨b4,af⟩:=yn Z
 have jm:=eq_true b4
 have jn:=decide_eq_true b4
 try have g6:(9223372036854775807<bM.size+bN.size)=False:=eq_false (Nat.not_lt.2 b4)
 try(have g7:=g6;simp only [ByteArray.size_append] at g7)
 obtain⟨bH,ap⟩:=yn af
 have fG:=eq_true bH
 have jo:=decide_eq_true bH
 try have g8:(9223372036854775807<(bM ++ bN).size+dU.size)=False:=eq_false (Nat.not_lt.2 bH)
 try have jp:(9223372036854775807<bM.size+bN.size+dU.size)=False:=eq_false (by have h_:=bH;simp only [ByteArray.size_append,ByteArray.size_extract,decide_eq_true_eq,decide_eq_false_iff_not] at *;omega)
 try(have g9:=g8;simp only [ByteArray.size_append] at g9)
 obtain⟨⟨fk,im⟩,gD,ar⟩:=bsi ap
 (try dsimp only at ar)
 by_cases eg:im=true
 rotate_left
 ·replace eg:=Bool.eq_false_iff.mpr eg;subst eg;rw [if_neg (show ¬ (false=true) by decide)] at ar;exact absurd ar (by simp)
 subst eg
 rw [if_pos rfl] at ar
 obtain⟨eI,ag⟩|⟨eI,ag⟩:=sp ar
 ·exact absurd ag (by simp)
 have ha:decide (20000<(fk.size:Int))=false:=decide_eq_false eI
 have jr:decide (20000<fk.size)=false:=decide_eq_false (by omega)
 clear eI
 obtain⟨rfl,rfl⟩:=s2 ag
 clear ag q j l U M J Z af ap ar
 go_enter Tryz.func25,Tryz.ntmps25
 go_wp2_with (first|((with_reducible refine gate_dst (N:=1) rfl ?_);(try(refine gate_guard (by rfl) ?_;dsimp only));refine bx (N:=1) (cs:=#[.int .i64 a6,.int .i64 a7,.slice d6 bK.length ef,.string cn]) (t:=29) ?_;intro jC hg iv hbox hb;have aI:=am hbox;have bD:=gA hg HB;replace HB:=hA HB hb;clear hb hbox hg;obtain⟨gn,gp,gq,gr,gx,gy,gB,gC⟩:=cf4 aI)|((with_reducible refine gate_callee (f:=53) rfl ?_);refine goesL_ (some 12) rfl rfl Tryz.func53 gk_ rfl #[.slice d6 bK.length ef] rfl gm_ ?_;(with_reducible refine(impl_ConfText.calls k _ _ bK cP true _ ?z1 ?z2 A2.out).mono ?_);(case z1=>repeat (first|exact(Kd.C_below gV.out HB.out)|(with_reducible refine Kd.C_alloc ?_ _)|(with_reducible refine Kd.C_drewN ?_ _)|(with_reducible refine Kd.C_drew ?_)));(case z2=>exact gI.out);rintro e ix ⟨rfl,hb⟩;refine⟨_,rfl, ?_⟩;replace aI:=bA aI hb;replace HB:=De1 HB bD hb;obtain⟨gn,gp,gq,gr,gx,gy,gB,gC⟩:=cf4 aI)|((with_reducible refine gate_callee (f:=54) rfl ?_);refine goesL_ (some 18) rfl rfl Tryz.func54 gk_ rfl #[.string cn] rfl gm_ ?_;refine(impl_ShortText.calls k cn dU true _ A3.out).mono ?_;rintro e cQ ⟨rfl,hb⟩;refine⟨_,rfl, ?_⟩;replace aI:=bA aI hb;replace HB:=De1 HB bD hb;obtain⟨gn,gp,gq,gr,gx,gy,gB,gC⟩:=cf4 aI)|(go_at_call 55;refine(impl_isIndex.calls a6 true _ A6.out).mono ?_;rintro e w' ⟨rfl,⟨nd,rfl⟩⟩)|(go_at_call 56;refine(impl_isTerm.calls a7 true _ A8.out).mono ?_;rintro e w' ⟨rfl,⟨nd,rfl⟩⟩)|((with_reducible refine gate_dst (N:=44) rfl ?_);(try(refine gate_guard (by rfl) ?_;dsimp only));refine lL (Kd.int .i64) 3 44 ([a6,a7]:List Int) [.int .i64 a6,.int .i64 a7] (Reps.one (show Kd.M (Kd.int .i64) _ _ _ a6 [.int .i64 a6] from rfl) (Reps.one (show Kd.M (Kd.int .i64) _ _ _ a7 [.int .i64 a7] from rfl) (Reps.none _ _))) ?_;intro kX f8 dz hb;(first|rw [←fx.out] at dz|(simp only [Int.reduceToNat] at dz;rw [←fx.out] at dz));have be:=am (Kd.R_lower dz (below_size (Ae1 HB bD)));replace aI:=bA aI hb;replace HB:=De1 HB bD hb;clear hb dz;obtain⟨gE,hz,hL⟩:=Kd.R_slice be.out;subst hL)|((with_reducible refine gate_callee (f:=58) rfl ?_);refine goesL_ (some 45) rfl rfl Tryz.func58 gk_ rfl #[.slice gE gg.length hz] rfl gm_ ?_;(with_reducible refine(impl_varTexts.calls k _ _ gg bM _ ?z1 ?z2 eu.out).mono ?_);(case z1=>repeat (first|exact(Kd.R_reads' be.out).2.2|(with_reducible refine Kd.C_alloc ?_ _)|(with_reducible refine Kd.C_drewN ?_ _)|(with_reducible refine Kd.C_drew ?_)));(case z2=>exact(Kd.R_reads' be.out).2.1);rintro e dW ⟨rfl,hb⟩;refine⟨_,rfl, ?_⟩;replace be:=rA be hb;replace aI:=bA aI hb;replace HB:=De1 HB bD hb)|((with_reducible refine gate_dst (N:=47) rfl ?_);(try(refine gate_guard (by rfl) ?_;dsimp only));refine lL Kd.string 9 47 ([cP]:List ByteArray) [.string cP] (Reps.one (show Kd.M Kd.string _ _ _ cP [.string cP] from rfl) (Reps.none _ _)) ?_;intro kY f9 dB hb;(first|rw [←fy.out] at dB|(simp only [Int.reduceToNat] at dB;rw [←fy.out] at dB));replace be:=rA be hb;have cj:=am (Kd.R_lower dB (below_size (Ae1 HB bD)));replace aI:=bA aI hb;replace HB:=De1 HB bD hb;clear hb dB;obtain⟨gF,hC,hM⟩:=Kd.R_slice cj.out;subst hM)|((with_reducible refine gate_callee (f:=59) rfl ?_);refine goesL_ (some 48) rfl rfl Tryz.func59 gk_ rfl #[.slice gF gh.length hC] rfl gm_ ?_;(with_reducible refine(impl_shortTexts.calls k _ _ gh bN _ ?z1 ?z2 cV.out).mono ?_);(case z1=>repeat (first|exact(Kd.R_reads' cj.out).2.2|(with_reducible refine Kd.C_alloc ?_ _)|(with_reducible refine Kd.C_drewN ?_ _)|(with_reducible refine Kd.C_drew ?_)));(case z2=>exact(Kd.R_reads' cj.out).2.1);rintro e ga ⟨rfl,hb⟩;refine⟨_,rfl, ?_⟩;replace be:=rA be hb;replace cj:=rA cj hb;replace aI:=bA aI hb;replace HB:=De1 HB bD hb)|((with_reducible refine gate_callee (f:=57) rfl ?_);refine goesL_ (some 52) rfl rfl Tryz.func57 gk_ rfl #[.string ((bM ++ bN) ++ dU)] rfl gm_ ?_;refine(impl_Sealed.calls k ((bM ++ bN) ++ dU) fk true _ gD.out).mono ?_;rintro e k4 ⟨rfl,hb⟩;refine⟨_,rfl, ?_⟩;replace be:=rA be hb;replace cj:=rA cj hb;replace aI:=bA aI hb;replace HB:=De1 HB bD hb))
 go_ret2
 exact⟨B23x12_,(Ae1 HB bD)⟩
mutual
def impl_DiskOk.l0:Nat→List (S59)→Int→Int→List (S59)→Option (Bool)
 |0,_,_,_,_=>none
 |k+1,x6,x7,x8,cG=>if x8<x7 then (if 0≤x8 then (if x8<(x6.length:Int) then ((impl_within.f (((rd_T59 x6 x8).f0).size:Int) 1 8).bind fun fl=>(if fl=true then (if (((rd_T59 x6 x8).f1).size:Int)>20000 then (none) else ((impl_within.f ((rd_T59 x6 x8).f2) 0 (((rd_T59 x6 x8).f1).size:Int)).bind fun fm=>(if fm=true then (if x8>0 then (if 0≤(wrap64 (x8 - 1)) then (if (wrap64 (x8 - 1))<(cG.length:Int) then (if ((Op.bytesLess (((rd_T59 cG (wrap64 (x8 - 1))).f0).toList) (((rd_T59 x6 x8).f0).toList))=true) then (impl_DiskOk.j1 k x6 x7 x8 cG) else (none)) else (none)) else (none)) else (impl_DiskOk.j1 k x6 x7 x8 cG)) else (none)))) else (none))) else (none)) else (none)) else (some (decide ((cG.length:Int)≤30)))
def impl_DiskOk.j1:Nat→List (S59)→Int→Int→List (S59)→Option (Bool)
 |0,_,_,_,_=>none
 |k+1,x6,x7,x8,cG=>impl_DiskOk.l0 k x6 x7 (wrap64 (x8+1)) cG
end
def impl_DiskOk.f (k:Nat) (z:List (S59)):Option (Bool):=impl_DiskOk.l0 k z (z.length:Int) 0 z
def impl_DiskOk.T4:Bool × List (List Nat × List Nat):=(true,[([],[]),([0],[0]),([1],[1]),([2],[2]),([3],[3]),([4,3],[4]),([5],[5]),([6,5],[5,6]),([7,5],[5,7]),([8,5],[5,8]),([5,9],[5,9]),([10,5],[10]),([11],[11]),([12,11],[11,12]),([11],[11]),([14,11],[11,14]),([15,11],[11,15]),([13,16,11,11],[11,13,16]),([17,11],[11,17]),([11,18],[11,18]),([19,17],[19]),([20],[20]),([21,20],[20,21]),([22,20,20],[20,22]),([23],[23]),([24,23],[23,24]),([23],[23]),([26,23],[23,26]),([25,27,23],[23,25,27]),([28,23],[23,28]),([29,23],[23,29]),([23],[23]),([31,23],[23,31]),([30,32,23],[23,30,32]),([23,33,20],[20,23,33]),([20,34],[20,34])])
def impl_DiskOk.B4:List Nat:=[0,1,3,7,15,31,63,127,255,511,1023,2047,4095,8191,4095,20479,53247,131071,262143,524287,1048575,2097151,4194303,8388607,16777215,33554431,16777215,83886079,268435455,536870911,1073741823,16777215,2164260863,8589934591,17179869183,34359738367]
theorem impl_DiskOk.tab4:rtab .any (opsOf Tryz.f26 4)=impl_DiskOk.T4:=by kernel_rfl
theorem impl_DiskOk.bits4:waitsOk impl_DiskOk.T4.2 impl_DiskOk.B4=true:=by kernel_rfl
theorem impl_DiskOk.calls (k:Nat) (aE:Option Addr) (av:Nat) (z:List (S59)) (r:Bool) (w:World) (dF:Kd.C k59 w aE z.length z) (dw:z.length≤av) (h:impl_DiskOk.f k z=some r) :
  Calls Tryz.prog 26 #[.agg #[.slice aE z.length av]] w fun e w'=>e=.returned (.bool r)∧Below w.heap.size w w':=by
 have h4:=Tryz.underlying26
 have kN:=Tryz.underlying59
 have bh:=am dF
 have fr:=am dw
 clear dF dw
 have HB:=am (Below.refl w.heap.size w)
 have q:=h
 clear h
 unfold impl_DiskOk.f at q
 replace q:=am q
 go_enter Tryz.func26,Tryz.ntmps26
 go_wp2_with (first|((with_reducible refine gate_dst (N:=1) rfl ?_);(try(refine gate_guard (by rfl) ?_;dsimp only));refine bx (N:=1) (cs:=#[.slice aE z.length av]) (t:=26) ?_;intro cw hg w2 hbox hb;have aj:=am hbox;have bQ:=gA hg HB;replace HB:=hA HB hb;clear hb hbox hg;have lr:w2.cell? ⟨cw,0,none⟩=some (.slice aE z.length av):=bc aj 0;have lR:=blk_frozen aj.out 0))
 go_loopg [8] k (fun kq v8 w'=>∃ (ac:Int),v8=.int .i64 ac∧Aside0 (impl_DiskOk.l0 kq z (z.length:Int) ac z=some r)∧Aside0 (kq≤k)∧Aside0 (w'.heap[cw]?=some (.cells #[(.slice aE z.length av)] 26 (0,0)))∧Aside0 (Below w.heap.size w w'))
 case atStart=>exact⟨(0),be_,q,⟨Nat.le_refl _⟩,Cb aj,Ce1 HB bQ⟩
 case round=>
  clear q;obtain⟨ac,rfl,j,ao,aj,HB⟩:=hrel
  cases gk with
  |zero=>exact absurd j.out (by simp [impl_DiskOk.l0])
  |succ k1=>?_
  replace j:=j.out;simp only [impl_DiskOk.l0] at j
  obtain⟨aZ,l⟩|⟨aZ,l⟩:=sd j
  ·replace l:=am l;clear j
   go_upto_block 1 with (fail)
   go_cut [] (fun wc=>∃ (kq:Nat),Aside0 (impl_DiskOk.j1 kq z (z.length:Int) ac z=some r)∧Aside0 (kq≤k1)∧Hc wc cw #[(.slice aE z.length av)] 26∧Hb w wc)
   case first=>
    replace l:=l.out;obtain⟨bT,U⟩:=yd l
    (first|rw [bT]|(simp only [i64_w,i32_w];rw [bT])|skip)
    obtain⟨cL,M⟩:=yd U;obtain⟨fl,A8,J⟩:=bsi M;(try dsimp only at J)
    by_cases c9:fl=true
    rotate_left
    ·replace c9:=Bool.eq_false_iff.mpr c9;subst c9;rw [if_neg (show ¬ (false=true) by decide)] at J;exact absurd J (by simp)
    subst c9;rw [if_pos rfl] at J
    obtain⟨c10,Z⟩|⟨c10,Z⟩:=sp J
    ·exact absurd Z (by simp)
    ·have fF:decide (20000<(((rd_T59 z ac).f1).size:Int))=false:=decide_eq_false c10
     have g4:decide (20000<((rd_T59 z ac).f1).size)=false:=decide_eq_false (by omega)
     clear c10;obtain⟨fm,cV,af⟩:=bsi Z;(try dsimp only at af)
     by_cases b4:fm=true
     rotate_left
     ·replace b4:=Bool.eq_false_iff.mpr b4;subst b4;rw [if_neg (show ¬ (false=true) by decide)] at af;exact absurd af (by simp)
     subst b4;rw [if_pos rfl] at af
     obtain⟨bH,ap⟩|⟨bH,ap⟩:=sp af
     ·have fG:decide (0<ac)=true:=decide_eq_true bH
      clear bH;obtain⟨a3,dx⟩:∃ j_:Int,(wrap64 (ac - 1))=j_:=⟨_,rfl⟩
      (first|rw [dx] at ap|simp only [dx] at ap)
      (try rw [dx] at A8);(try rw [dx] at cV)
      have jH:(IntKind.i64.wrap (ac - 1))=a3:=(i64_w _).trans dx
      obtain⟨jq,ar⟩:=yd ap;obtain⟨ha,ag⟩:=yd ar;obtain⟨fH,aY⟩:=yn ag
      have js:(Op.bytesLess (((rd_T59 z (a3)).f0).toList) (((rd_T59 z ac).f0).toList))=true:=fH
      clear fH;replace aY:=am aY;clear l U M J Z af ap ar ag
      have cB:0≤(ac:Int):=dga
      have cD:ac<(z.length:Int):=dga
      obtain⟨bG,eN,cx,cy,cz⟩:=at_T59 bh.out ac cB cD;cases eN;replace cx:=(hbc HB cx).trans cx;replace cy:=(hbc HB cy).trans cy;replace cz:=(hbc HB cz).trans cz;replace cB:=eq_true cB;replace cD:=eq_true cD
      try go_wp2_with (first|((with_reducible refine gate_dst (N:=4) rfl ?_);(try(refine gate_guard (by rfl) ?_;dsimp only));refine bx (N:=4) (cs:=#[.string (⟨#[]⟩:ByteArray),.string (⟨#[]⟩:ByteArray),.int .i64 0]) (t:=59) ?_;intro aT hg iw hbox hb;have ak:=am hbox;have cX:=gA hg HB;replace HB:=De1 HB bQ hb;have dk:=nA hg aj;have eE:=mA hg aj;replace aj:=bA aj hb;clear hb hbox hg;have jO:=eE.out;have km:=dk.out;obtain⟨iY,iZ,i0,jc,jd,je⟩:=cf3 ak))
      generalize hw:(((iw.setCell ⟨aT,0,none⟩ (.string ((rd_T59 z ac).f0))).setCell ⟨aT,1,none⟩ (.string ((rd_T59 z ac).f1))).setCell ⟨aT,2,none⟩ (.int .i64 ((rd_T59 z ac).f2)))=cQ;replace hw:=hw.symm
      replace aj:Hc cQ cw #[.slice (some bG) z.length av] 26:=⟨wAp1 aj dk⟩
      replace ak:Hc cQ aT #[.string ((rd_T59 z ac).f0),.string ((rd_T59 z ac).f1),.int .i64 ((rd_T59 z ac).f2)] 59:=⟨wAp0 ak⟩
      replace HB:Hb w cQ:=⟨wAe2 HB bQ cX⟩
      clear hw;replace aj:=dA aj;replace ak:=dA ak;replace HB:=bdr HB
      have eX:0≤((a3):Int):=dga
      have e2:(a3)<(z.length:Int):=dga
      obtain⟨g3,hH,dG,dH,dI⟩:=at_T59 bh.out (a3) eX e2;have cO:=dI;have cN:=dH;have cM:=dG;obtain rfl:bG=g3:=(by injection hH);replace dG:=(hbc HB dG).trans dG;replace dH:=(hbc HB dH).trans dH;replace dI:=(hbc HB dI).trans dI;replace eX:=eq_true eX;replace e2:=eq_true e2;refine st_ 36 (fun w'=>w'.cell? ⟨aT,0,none⟩=some (.string ((rd_T59 z ac).f0))∧w'.cell? ⟨aT,1,none⟩=some (.string ((rd_T59 z ac).f1))∧w'.cell? ⟨aT,2,none⟩=some (.int .i64 ((rd_T59 z ac).f2))∧w'.cell? ⟨cw,0,none⟩=some (.slice (some bG) z.length av)∧w'.cell? (bG.add (((a3)).toNat * 3))=some (.string ((rd_T59 z (a3)).f0))∧w'.cell? ⟨(bG.add (((a3)).toNat * 3)).block,(bG.add (((a3)).toNat * 3)).off+1,none⟩=some (.string ((rd_T59 z (a3)).f1))∧w'.cell? ⟨(bG.add (((a3)).toNat * 3)).block,(bG.add (((a3)).toNat * 3)).off+2,none⟩=some (.int .i64 ((rd_T59 z (a3)).f2))) [] impl_DiskOk.tab4 impl_DiskOk.bits4 D7x0_ (fun aH D a5=>?_);generalize cQ.drew=iy at aj ak HB dG dH dI aH ⊢;refine pu_ 0 13 D ?_;refine ta_ 1 14 D a5 aH ?_;refine pu_ 2 15 D ?_;refine on_ 3 (some 16) D (fun K hK=>?_);refine goes_ Tryz.func60 gk_ rfl #[.int .i64 (((rd_T59 z ac).f0).size:Int),.int .i64 1,.int .i64 8] (by rfl) rfl rfl gm_ ?_;refine(impl_within.calls (((rd_T59 z ac).f0).size:Int) 1 8 true _ A8.out).mono ?_;rintro e w' ⟨rfl,⟨nd,rfl⟩⟩;refine⟨_,rfl, ?_⟩;refine hK.out _ _ D7x0_ (fun aH=>nm_ ?_);clear hK K;refine pu_ 4 17 D ?_;refine pu_ 5 18 D ?_;refine pu_ 6 19 D ?_;refine ta_ 7 20 D a5 aH ?_;refine pu_ 8 21 D ?_;refine pu_ 9 22 D ?_;refine pu_ 10 23 D ?_;refine pu_ 11 24 D ?_;refine pu_ 12 25 D ?_;refine pu_ 14 27 D ?_;refine ta_ 13 26 D a5 aH ?_;refine ta_ 15 28 D a5 aH ?_;refine pu_ 16 29 D ?_;refine on_ 17 (some 30) D (fun K hK=>?_);refine goes_ Tryz.func60 gk_ rfl #[.int .i64 ((rd_T59 z ac).f2),.int .i64 0,.int .i64 (((rd_T59 z ac).f1).size:Int)] (by rfl) rfl rfl gm_ ?_;refine(impl_within.calls ((rd_T59 z ac).f2) 0 (((rd_T59 z ac).f1).size:Int) true _ cV.out).mono ?_;rintro e w' ⟨rfl,⟨nd,rfl⟩⟩;refine⟨_,rfl, ?_⟩;refine hK.out _ _ D7x0_ (fun aH=>nm_ ?_);clear hK K;refine pu_ 18 31 D ?_;refine pu_ 19 32 D ?_;refine pu_ 20 33 D ?_;refine pu_ 21 34 D ?_;refine pu_ 22 35 D ?_;refine pu_ 23 36 D ?_;refine pu_ 24 37 D ?_;refine pu_ 26 39 D ?_;refine pu_ 27 40 D ?_;refine pu_ 31 44 D ?_;refine ta_ 25 38 D a5 aH ?_;refine pu_ 28 41 D ?_;refine pu_ 29 42 D ?_;refine ta_ 30 43 D a5 aH ?_;refine ta_ 32 45 D a5 aH ?_;refine pu_ 33 46 D ?_;refine pu_ 34 47 D ?_;refine pu_ 35 48 D ?_;refine done_ (done_of D.out gk_) ?_
      try go_wp2
      go_meet
      case rel=>exact⟨_,aY,⟨B23x36_⟩,Cb aj,Ce2 HB bQ cX⟩
     ·have fG:decide (0<ac)=false:=decide_eq_false bH
      clear bH;replace ap:=am ap;clear l U M J Z af
      have cB:0≤(ac:Int):=dga
      have cD:ac<(z.length:Int):=dga
      obtain⟨bG,eN,cx,cy,cz⟩:=at_T59 bh.out ac cB cD;cases eN;replace cx:=(hbc HB cx).trans cx;replace cy:=(hbc HB cy).trans cy;replace cz:=(hbc HB cz).trans cz;replace cB:=eq_true cB;replace cD:=eq_true cD
      try go_wp2_with (first|((with_reducible refine gate_dst (N:=4) rfl ?_);(try(refine gate_guard (by rfl) ?_;dsimp only));refine bx (N:=4) (cs:=#[.string (⟨#[]⟩:ByteArray),.string (⟨#[]⟩:ByteArray),.int .i64 0]) (t:=59) ?_;intro aT hg f8 hbox hb;have ak:=am hbox;have cX:=gA hg HB;replace HB:=De1 HB bQ hb;have dk:=nA hg aj;have eE:=mA hg aj;replace aj:=bA aj hb;clear hb hbox hg;have jP:=eE.out;have kn:=dk.out;obtain⟨iY,iZ,i0,jc,jd,je⟩:=cf3 ak))
      generalize hw:(((f8.setCell ⟨aT,0,none⟩ (.string ((rd_T59 z ac).f0))).setCell ⟨aT,1,none⟩ (.string ((rd_T59 z ac).f1))).setCell ⟨aT,2,none⟩ (.int .i64 ((rd_T59 z ac).f2)))=dW;replace hw:=hw.symm
      replace aj:Hc dW cw #[.slice (some bG) z.length av] 26:=⟨wAp1 aj dk⟩
      replace ak:Hc dW aT #[.string ((rd_T59 z ac).f0),.string ((rd_T59 z ac).f1),.int .i64 ((rd_T59 z ac).f2)] 59:=⟨wAp0 ak⟩
      replace HB:Hb w dW:=⟨wAe2 HB bQ cX⟩
      clear hw;replace aj:=dA aj;replace ak:=dA ak;replace HB:=bdr HB;refine st_ 36 (fun w'=>w'.cell? ⟨aT,0,none⟩=some (.string ((rd_T59 z ac).f0))∧w'.cell? ⟨aT,1,none⟩=some (.string ((rd_T59 z ac).f1))∧w'.cell? ⟨aT,2,none⟩=some (.int .i64 ((rd_T59 z ac).f2))) [] impl_DiskOk.tab4 impl_DiskOk.bits4 ⟨bc ak 0,bc ak 1,bc ak 2⟩ (fun aH D a5=>?_);generalize dW.drew=f9 at aj ak HB aH ⊢;refine pu_ 0 13 D ?_;refine ta_ 1 14 D a5 aH ?_;refine pu_ 2 15 D ?_;refine on_ 3 (some 16) D (fun K hK=>?_);refine goes_ Tryz.func60 gk_ rfl #[.int .i64 (((rd_T59 z ac).f0).size:Int),.int .i64 1,.int .i64 8] (by rfl) rfl rfl gm_ ?_;refine(impl_within.calls (((rd_T59 z ac).f0).size:Int) 1 8 true _ A8.out).mono ?_;rintro e w' ⟨rfl,⟨nd,rfl⟩⟩;refine⟨_,rfl, ?_⟩;refine hK.out _ _ ⟨bc ak 0,bc ak 1,bc ak 2⟩ (fun aH=>nm_ ?_);clear hK K;refine pu_ 4 17 D ?_;refine pu_ 5 18 D ?_;refine pu_ 6 19 D ?_;refine ta_ 7 20 D a5 aH ?_;refine pu_ 8 21 D ?_;refine pu_ 9 22 D ?_;refine pu_ 10 23 D ?_;refine pu_ 11 24 D ?_;refine pu_ 12 25 D ?_;refine pu_ 14 27 D ?_;refine ta_ 13 26 D a5 aH ?_;refine ta_ 15 28 D a5 aH ?_;refine pu_ 16 29 D ?_;refine on_ 17 (some 30) D (fun K hK=>?_);refine goes_ Tryz.func60 gk_ rfl #[.int .i64 ((rd_T59 z ac).f2),.int .i64 0,.int .i64 (((rd_T59 z ac).f1).size:Int)] (by rfl) rfl rfl gm_ ?_;refine(impl_within.calls ((rd_T59 z ac).f2) 0 (((rd_T59 z ac).f1).size:Int) true _ cV.out).mono ?_;rintro e w' ⟨rfl,⟨nd,rfl⟩⟩;refine⟨_,rfl, ?_⟩;refine hK.out _ _ ⟨bc ak 0,bc ak 1,bc ak 2⟩ (fun aH=>nm_ ?_);clear hK K;refine pu_ 18 31 D ?_;refine pu_ 19 32 D ?_;refine pu_ 20 33 D ?_;refine pu_ 21 34 D ?_;refine pu_ 22 35 D ?_;refine pu_ 23 36 D ?_;refine of_ 24 37 D ?_;refine of_ 25 38 D ?_;refine of_ 26 39 D ?_;refine of_ 27 40 D ?_;refine of_ 28 41 D ?_;refine of_ 29 42 D ?_;refine of_ 30 43 D ?_;refine of_ 31 44 D ?_;refine of_ 32 45 D ?_;refine of_ 33 46 D ?_;refine pu_ 34 47 D ?_;refine pu_ 35 48 D ?_;refine done_ (done_of D.out gk_) ?_
      try go_wp2
      go_meet
      case rel=>exact⟨_,ap,⟨B23x36_⟩,Cb aj,Ce2 HB bQ cX⟩
   case rest=>
    clear l;obtain⟨kq,aR,ft,aj,HB⟩:=hcut
    cases kq with
    |zero=>exact absurd aR.out (by simp [impl_DiskOk.j1])
    |succ h8=>?_
    replace aR:=aR.out;simp only [impl_DiskOk.j1] at aR;replace aR:=am aR
    go_wp2
    go_roundg h8
    case measure=>have:=ao.out;have:=ft.out;omega
    case rel=>exact⟨(wrap64 (ac+1)),be_,aR,⟨(by have:=ao.out;have:=ft.out;omega)⟩,Cb aj,Ce1 HB bQ⟩
  ·obtain rfl:=Option.some.inj l;clear l j
   have li:wr.cell? ⟨cw,0,none⟩=some (.slice aE z.length av):=bc aj 0
   have lI:=blk_frozen aj.out 0
   go_wp2
   go_ret
   exact⟨(by first|rfl|(simp [errW_none,errW_some] <;> rfl)|(simp [*,errW_none,errW_some] <;> rfl)),(Ae1 HB bQ)⟩

-- NOT PRINTED: function 88 (impl_File)
end
end Go.Proofs.YtofmbomonkbeaaaGreatDoor.QFnSnapsCut
