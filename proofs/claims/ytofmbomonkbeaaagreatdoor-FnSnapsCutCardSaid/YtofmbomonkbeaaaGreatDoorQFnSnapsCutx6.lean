/- Functions that a law reaches, as functions of Lean, and the walks that show that the calls come to their answers. No condition. -/
import Derived.Test.YtofmbomonkbeaaaGreatDoorQFnSnapsCutx0
import Derived.Test.YtofmbomonkbeaaaGreatDoorQFnSnapsCutx1
import Derived.Test.YtofmbomonkbeaaaGreatDoorQFnSnapsCutx2
import Derived.Test.YtofmbomonkbeaaaGreatDoorQFnSnapsCutx5
import Derived.Test.YtofmbomonkbeaaaGreatDoorVFnSnapsCuthort3
import Derived.Test.YtofmbomonkbeaaaGreatDoorVFnSnapsCuthort2
import Derived.Test.YtofmbomonkbeaaaGreatDoorVFnSnapsCuthort
import Derived.Test.YtofmbomonkbeaaaGreatDoorVFnSnapsCuthort8
import Derived.Laws.Cover1
namespace Go.Proofs.YtofmbomonkbeaaaGreatDoor.QFnSnapsCut
open Go.RowKit Go.Proofs.YtofmbomonkbeaaaGreatDoorW.PrintWords Go.Proofs.YtofmbomonkbeaaaGreatDoorW.PrintLast Go.Proofs.YtofmbomonkbeaaaGreatDoorW.PrintMore Go.Proofs.YtofmbomonkbeaaaGreatDoor.Short
set_option linter.unusedVariables false
set_option linter.unusedSimpArgs false
set_option maxHeartbeats 8000000
set_option maxRecDepth 100000
variable {p:Prop}
theorem D6x0_ (h:p:=by exact⟨(blk_cell ah.out.1 0).trans rfl,(blk_cell ah.out.1 1).trans rfl,(blk_cell ah.out.1 2).trans rfl⟩):p:=h
theorem D6x1_ (h:p:=by exact⟨bc aw 0,bc aw 1,bc aw 2,bc ak 0,((hbc HB bY).trans bY),((hbc HB bZ).trans bZ),((hbc HB b0).trans b0)⟩):p:=h
theorem D6x2_ (h:p:=by exact⟨B18x17_,(Ae0 HB)⟩):p:=h
section
attribute [local go_sem] max2_int min2_int max_two min_two max_three min_three max_four min_four
theorem B18x0_ (h:p:=by repeat (first|(with_reducible first|exact Y.out|apply IsS73.alloc|apply IsS73.drewN|apply IsS73.drew|apply IsS73.set_1|apply IsS73.set_2|refine IsS73.far ?_ de.out _|refine IsS73.far ?_ df.out _|refine IsS73.far ?_ dh.out _)|exact Y.out)):p:=h
theorem B18x5_ (h:p:=by repeat (first|(with_reducible first|exact Y.out|apply IsS73.alloc|apply IsS73.drewN|apply IsS73.drew|apply IsS73.set_1|apply IsS73.set_2|refine IsS73.far ?_ de.out _|refine IsS73.far ?_ df.out _|refine IsS73.far ?_ dh.out _|refine IsS73.far ?_ d8.out _)|exact Y.out)):p:=h
theorem B18x17_ (h:p:=by first|rfl|(simp [errW_none,errW_some] <;> rfl)|(simp [*,errW_none,errW_some] <;> rfl)):p:=h
def spec_SnapName.f (k:Nat) (l:Int):Option (ByteArray):=(spec_l01In.f l 0 1000000).bind fun ex=>(if ex=true then ((spec_Decimal.f k l).bind fun cy=>(if 1+cy.size≤9223372036854775807 then (some ((⟨#[115]⟩:ByteArray) ++ cy)) else (none))) else (some (⟨#[]⟩:ByteArray)))
theorem spec_SnapName.calls (k:Nat) (l:Int) (r:ByteArray) (w:World) (h:spec_SnapName.f k l=some r) :
  Calls Tryz.prog 21 #[.int .i64 l] w fun e w'=>e=.returned (.string r)∧Below w.heap.size w w':=by
 have HB:=am (Below.refl w.heap.size w)
 have ac:=h
 clear h
 unfold spec_SnapName.f at ac
 obtain⟨ex,A2,D⟩:=bsi ac
 (try dsimp only at D)
 obtain⟨rfl,z⟩|⟨rfl,z⟩:=sb D
 ·obtain⟨cy,A4,J⟩:=bsi z;(try dsimp only at J);obtain⟨c5,ai⟩:=yn J;have cV:=eq_true c5;have gU:=decide_eq_true c5
  try have fz:(9223372036854775807<1+cy.size)=False:=eq_false (Nat.not_lt.2 c5)
  try(have fA:=fz;simp only [ByteArray.size_append] at fA)
  obtain rfl:=Option.some.inj ai;clear ai ac D z J;go_enter Tryz.func21,Tryz.ntmps21
  go_wp2_with (first|((with_reducible refine gate_callee (f:=31) rfl ?_);refine goesL_ (some 4) rfl rfl Tryz.func31 gk_ rfl #[.int .i64 l,.int .i64 0,.int .i64 1000000] rfl gm_ ?_;refine(spec_l01In.calls l 0 1000000 true _ A2.out).mono ?_;rintro e w' ⟨rfl,⟨nd,rfl⟩⟩;refine⟨_,rfl, ?_⟩)|((with_reducible refine gate_callee (f:=46) rfl ?_);refine goesL_ (some 7) rfl rfl Tryz.func46 gk_ rfl #[.int .i64 l] rfl gm_ ?_;refine(spec_Decimal.calls k l cy _ A4.out).mono ?_;rintro e w6 ⟨rfl,hb⟩;refine⟨_,rfl, ?_⟩;replace HB:=hA HB hb))
  go_ret;exact D6x2_
 ·obtain rfl:=Option.some.inj z;clear z ac D;go_enter Tryz.func21,Tryz.ntmps21
  go_wp2_with (first|((with_reducible refine gate_callee (f:=31) rfl ?_);refine goesL_ (some 4) rfl rfl Tryz.func31 gk_ rfl #[.int .i64 l,.int .i64 0,.int .i64 1000000] rfl gm_ ?_;refine(spec_l01In.calls l 0 1000000 false _ A2.out).mono ?_;rintro e w' ⟨rfl,⟨nd,rfl⟩⟩;refine⟨_,rfl, ?_⟩))
  go_ret;exact D6x2_

def spec_DrawRightSnaps.l0:Nat→Int→List Int→Int→Int→List (S59)→Option ((List (S59)) × Int × Int × List Int × ByteArray)
 |0,_,_,_,_,_=>none
 |k+1,x6,bk,gm,gn,eN=>(spec_l01Below.f bk gm gn 3).bind fun ce=>(if x6<ce.1 then ((spec_l15Keep.f k bk ce.2.1 ce.2.2 6).bind fun cO=>((spec_KeepText.f k cO.1 cO.2.1).bind fun fj=>((spec_l01Below.f bk cO.2.2.1 cO.2.2.2 9).bind fun cP=>((spec_l01Below.f bk cP.2.1 cP.2.2 5).bind fun dl=>((spec_l05Conf.f k bk dl.2.1 dl.2.2).bind fun dm=>((spec_SnapText.f k cP.1 dl.1 dm.1 fj.1).bind fun ef=>((spec_SnapName.f k cP.1).bind fun cG=>((spec_l03Put.f k eN cG ef.1 (ef.1.size:Int)).bind fun cH=>(spec_DrawRightSnaps.l0 k (wrap64 (x6+1)) bk dm.2.1 dm.2.2 cH))))))))) else ((spec_l15Keep.f k bk ce.2.1 ce.2.2 12).bind fun cQ=>((spec_KeepText.f k cQ.1 cQ.2.1).bind fun fk=>((spec_l01Below.f bk cQ.2.2.1 cQ.2.2.2 9).bind fun dn=>((spec_l01Below.f bk dn.2.1 dn.2.2 5).bind fun dp=>((spec_l05Conf.f k bk dp.2.1 dp.2.2).bind fun fl=>(some (eN,wrap64 (9+dn.1),dp.1,fl.1,fk.1))))))))
def spec_DrawRightSnaps.f (k:Nat) (l0:List Int):Option ((List (S59)) × Int × Int × List Int × ByteArray):=(spec_l01New.f k l0).bind fun dk=>(spec_DrawRightSnaps.l0 k 0 dk.1 dk.2.1 dk.2.2 ([]:List (S59)))
def spec_DrawRightSnaps.T9:Bool × List (List Nat × List Nat):=(true,[([],[]),([],[]),([1],[1]),([2],[2]),([],[]),([],[]),([5],[5]),([3,4,6],[3,4,6]),([0,7,3],[0,7]),([8,8,0,1,2,3,4,5,6,7,8],[8])])
def spec_DrawRightSnaps.B9:List Nat:=[0,0,2,6,0,0,32,126,255,511]
theorem spec_DrawRightSnaps.tab9:rtab .any (opsOf Tryz.f5 9)=spec_DrawRightSnaps.T9:=by kernel_rfl
theorem spec_DrawRightSnaps.bits9:waitsOk spec_DrawRightSnaps.T9.2 spec_DrawRightSnaps.B9=true:=by kernel_rfl
def spec_DrawRightSnaps.T11:Bool × List (List Nat × List Nat):=(true,[([],[]),([],[]),([1],[1]),([2],[2]),([],[]),([4,2],[4]),([],[]),([6,5],[6]),([],[]),([3,5,7,8],[3,5,7,8]),([0,7,0],[0]),([9,10,0,1,2,3,4,5,6,7,8,9,10],[9])])
def spec_DrawRightSnaps.B11:List Nat:=[0,0,2,6,0,22,0,118,0,510,247,2047]
theorem spec_DrawRightSnaps.tab11:rtab .any (opsOf Tryz.f5 11)=spec_DrawRightSnaps.T11:=by kernel_rfl
theorem spec_DrawRightSnaps.bits11:waitsOk spec_DrawRightSnaps.T11.2 spec_DrawRightSnaps.B11=true:=by kernel_rfl
theorem spec_DrawRightSnaps.calls (k:Nat) (A0:Option Addr) (c0:Nat) (l0:List Int) (r1:List (S59)) (r2:Int) (r3:Int) (r4:List Int) (r5:ByteArray) (w:World) (et:Kd.C (Kd.int .u8) w A0 l0.length l0) (eq:l0.length≤c0) (h:spec_DrawRightSnaps.f k l0=some (r1,r2,r3,r4,r5)) :
  Calls Tryz.prog 5 #[.slice A0 l0.length c0] w fun e w'=>∃ cI eJ:Value,e=.returned (.tuple #[.agg #[cI],.agg #[.int .i64 r2,.int .i64 r3,eJ,.string r5]])∧Kd.R k59 59 w' w.heap.size (fun _=>True) cI r1∧Kd.R (Kd.int .i64) 3 w' w.heap.size (fun _=>True) eJ r4∧Below w.heap.size w w':=by
 have fU:=Tryz.underlying26
 have ie:=Tryz.underlying29
 have fV:=Tryz.underlying59
 have fc:=am et
 have e5:=am eq
 clear et eq
 have HB:=am (Below.refl w.heap.size w)
 have ac:=h
 clear h
 unfold spec_DrawRightSnaps.f at ac
 obtain⟨⟨ax,ey,ez⟩,A2,D⟩:=bsi ac
 (try dsimp only at D)
 replace D:=am D
 clear ac
 go_enter Tryz.func5,Tryz.ntmps5
 go_wp2_with (first|((with_reducible refine gate_dst (N:=2) rfl ?_);refine bx (N:=2) (cs:=#[.slice none 0 0]) (t:=26) ?_;intro ck hg w3 hbox hb;have Z:=am hbox;have ay:=gA hg HB;replace HB:=hA HB hb;clear hb hbox hg)|((with_reducible refine gate_dst (N:=3) rfl ?_);refine bx (N:=3) (cs:=#[.int .i64 0,.int .i64 0,.slice none 0 0,.string (⟨#[]⟩:ByteArray)]) (t:=29) ?_;intro a2 hg w4 hbox hb;have U:=am hbox;have az:=gA hg HB;replace HB:=De1 HB ay hb;have bQ:=nA hg Z;have bR:=mA hg Z;replace Z:=bA Z hb;clear hb hbox hg)|((with_reducible refine gate_callee (f:=14) rfl ?_);refine goesL_ (some 15) rfl rfl Tryz.func14 gk_ rfl #[.slice A0 l0.length c0] rfl gm_ ?_;(with_reducible refine(spec_l01New.calls k _ _ l0 ax ey ez w _ ?z1 ?z2 ?z3 A2.out).mono ?_);(case z1=>repeat (first|(with_reducible first|exact HB.out|apply below_alloc|apply pw_below_drewN|apply below_drew1|refine below_set ?_ ay.out|refine below_set ?_ az.out)|exact HB.out));(case z2=>exact fc.out);(case z3=>exact e5.out);rintro e w5 ⟨aj,rfl,hi,hb,bE⟩;refine⟨_,rfl, ?_⟩;replace HB:=am hb;have Y:=am hi;have de:=am (IsS73.ne_blk hi (bb Z.out bE) (by decide));have ba:=am (Ne.symm (IsS73.ne_blk hi (bb Z.out bE) (by decide)));replace Z:=am (bb Z.out bE);have df:=am (IsS73.ne_blk hi (bb U.out bE) (by decide));have bd:=am (Ne.symm (IsS73.ne_blk hi (bb U.out bE) (by decide)));replace U:=am (bb U.out bE))|((with_reducible refine gate_dst (N:=5) rfl ?_);refine bx (N:=5) (cs:=#[.slice none 0 0]) (t:=26) ?_;intro bT hg w6 hbox hb;have aa:=am hbox;have aD:=gA hg HB;replace HB:=De3 HB (IsS73.gf Y) ay az hb;have cc:=nA hg Z;have cN:=mA hg Z;replace Z:=bA Z hb;have br:=nA hg U;have be:=mA hg U;replace U:=bA U hb;have dh:=am (nl hg (IsS73.lt Y.out));have aZ:=am (ng hg (IsS73.lt Y.out));replace Y:=am (IsS73.below (by repeat (first|(with_reducible first|exact Y.out|apply IsS73.alloc|apply IsS73.drewN|apply IsS73.drew|apply IsS73.set_1|apply IsS73.set_2|refine IsS73.far ?_ de.out _|refine IsS73.far ?_ df.out _)|exact Y.out)) hb);clear hb hbox hg;have hG:=cN.out;have hR:=cc.out;have hH:=be.out;have hS:=br.out;have hJ:=aZ.out;have hT:=dh.out;have gr:w6.cell? ⟨bT,0,none⟩=some (.slice none 0 0):=bc aa 0;have gw:=blk_frozen aa.out 0))
 go_loopg [6] k (fun kq v6 w'=>∃ (da:Int) (bM:Int) (bN:Int) (bO:List (S59)) (b5:Value),v6=.int .i64 da∧Aside0 (spec_DrawRightSnaps.l0 kq da ax bM bN bO=some (r1,r2,r3,r4,r5))∧Aside0 (kq≤k)∧Aside0 (Kd.R k59 59 w' w.heap.size (fun _=>True) b5 bO)∧Aside0 (w'.heap[ck]?=some (.cells #[(.slice none 0 0)] 26 (0,0)))∧Aside0 (w'.heap[a2]?=some (.cells #[.int .i64 0,.int .i64 0,(.slice none 0 0),.string (⟨#[]⟩:ByteArray)] 29 (0,0)))∧Aside0 (w'.heap[bT]?=some (.cells #[b5] 26 (0,0)))∧Aside0 (IsS73 w w' aj ax bM bN)∧Aside0 (Below w.heap.size w w'))
 case atStart=>exact⟨(0),ey,ez,(([]:List (S59))),(.slice none 0 0),be_,D,⟨Nat.le_refl _⟩,⟨gn_⟩,Cp1 Z cc,Cp1 U br,Cp0 aa,⟨B18x0_⟩,Ce4 HB (IsS73.gf Y) ay az aD⟩
 case round=>
  clear D;obtain⟨da,bM,bN,bO,b5,rfl,z,aN,af,Z,U,aa,Y,HB⟩:=hrel
  cases gk with
  |zero=>exact absurd z.out (by simp [spec_DrawRightSnaps.l0])
  |succ k1=>?_
  replace z:=z.out;simp only [spec_DrawRightSnaps.l0] at z;obtain⟨⟨eB,b1,b2⟩,aY,J⟩:=bsi z;(try dsimp only at J)
  obtain⟨cf,ai⟩|⟨cf,ai⟩:=sd J
  ·obtain⟨⟨dE,dF,cz,cA⟩,eO,ae⟩:=bsi ai;(try dsimp only at ae);obtain⟨⟨b3,fX⟩,eP,ag⟩:=bsi ae;(try dsimp only at ag);obtain⟨⟨bw,cB,cC⟩,cL,ap⟩:=bsi ag;(try dsimp only at ap);obtain⟨⟨b4,cD,cE⟩,eQ,au⟩:=bsi ap;(try dsimp only at au);obtain⟨⟨bL,dG,dH⟩,eR,av⟩:=bsi au;(try dsimp only at av);obtain⟨⟨cF,fY⟩,eS,aJ⟩:=bsi av;(try dsimp only at aJ);obtain⟨cG,eT,aE⟩:=bsi aJ;(try dsimp only at aE);obtain⟨cH,eU,aK⟩:=bsi aE;(try dsimp only at aK);replace aK:=am aK;clear z J ai ae ag ap au av aJ aE
   try go_wp2_with (first|((with_reducible refine gate_callee (f:=15) rfl ?_);refine goesL_ (some 19) rfl rfl Tryz.func15 gk_ rfl #[.pointer (some ⟨aj,0,none⟩),.int .i64 3] rfl gm_ ?_;refine(spec_l01Below.calls aj ax bM bN 3 eB b1 b2 w _ B18x0_ (Ae4 HB (IsS73.gf Y) ay az aD) aY.out).mono ?_;rintro e f9 ⟨rfl,hi,hb,hk⟩;refine⟨_,rfl, ?_⟩;replace af:=am (Kd.R_mono (Kd.R_keep (IsS73.apart (show IsS73 w _ aj ax bM bN from B18x0_) (Ar af) (by decide)) hk (fun _ h=>h.2)) (fun _ h=>h.1));replace Z:=kA hk Z ba;replace U:=kA hk U bd;replace aa:=kA hk aa aZ;replace HB:=am hb;replace Y:=am hi)|((with_reducible refine gate_callee (f:=17) rfl ?_);refine goesL_ (some 25) rfl rfl Tryz.func17 gk_ rfl #[.pointer (some ⟨aj,0,none⟩),.int .i64 6] rfl gm_ ?_;refine(spec_l15Keep.calls k1 aj ax b1 b2 6 dE dF cz cA w _ B18x0_ (Ae4 HB (IsS73.gf Y) ay az aD) eO.out).mono ?_;rintro e ga ⟨ii,ij,rfl,bj,dx,hi,hb,hk⟩;refine⟨_,rfl, ?_⟩;replace af:=am (Kd.R_mono (Kd.R_keep (IsS73.apart (show IsS73 w _ aj ax b1 b2 from B18x0_) (Ar af) (by decide)) hk (fun _ h=>h.2)) (fun _ h=>h.1));replace Z:=kA hk Z ba;replace U:=kA hk U bd;replace aa:=kA hk aa aZ;have aH:=am (Kd.R_lower bj (below_size (Ae4 HB (IsS73.gf Y) ay az aD)));have aI:=am (Kd.R_lower dx (below_size (Ae4 HB (IsS73.gf Y) ay az aD)));replace HB:=am hb;replace Y:=am hi;obtain⟨dZ,ej,dv⟩:=Kd.R_slice aH.out;subst dv;obtain⟨d0,ek,dw⟩:=Kd.R_slice aI.out;subst dw)|((with_reducible refine gate_callee (f:=16) rfl ?_);refine goesL_ (some 26) rfl rfl Tryz.func16 gk_ rfl #[.agg #[.slice dZ dE.length ej,.slice d0 dF.length ek]] rfl gm_ ?_;(with_reducible refine(spec_KeepText.calls k1 _ _ dE _ _ dF b3 fX _ ?z1 ?z2 ?z3 ?z4 eP.out).mono ?_);(case z1=>repeat (first|exact(Kd.R_reads' aH.out).2.2|(with_reducible refine Kd.C_alloc ?_ _)|(with_reducible refine Kd.C_drewN ?_ _)|(with_reducible refine Kd.C_drew ?_)));(case z2=>exact(Kd.R_reads' aH.out).2.1);(case z3=>repeat (first|exact(Kd.R_reads' aI.out).2.2|(with_reducible refine Kd.C_alloc ?_ _)|(with_reducible refine Kd.C_drewN ?_ _)|(with_reducible refine Kd.C_drew ?_)));(case z4=>exact(Kd.R_reads' aI.out).2.1);rintro e gb ⟨rfl,hb⟩;refine⟨_,rfl, ?_⟩;replace af:=rA af hb;replace aH:=rA aH hb;replace aI:=rA aI hb;replace Z:=bA Z hb;replace U:=bA U hb;replace aa:=bA aa hb;replace HB:=De4 HB (IsS73.gf Y) ay az aD hb;replace Y:=am (IsS73.below B18x0_ hb))|((with_reducible refine gate_callee (f:=15) rfl ?_);refine goesL_ (some 30) rfl rfl Tryz.func15 gk_ rfl #[.pointer (some ⟨aj,0,none⟩),.int .i64 9] rfl gm_ ?_;refine(spec_l01Below.calls aj ax cz cA 9 bw cB cC w _ B18x0_ (Ae4 HB (IsS73.gf Y) ay az aD) cL.out).mono ?_;rintro e eL ⟨rfl,hi,hb,hk⟩;refine⟨_,rfl, ?_⟩;replace af:=am (Kd.R_mono (Kd.R_keep (IsS73.apart (show IsS73 w _ aj ax cz cA from B18x0_) (Ar af) (by decide)) hk (fun _ h=>h.2)) (fun _ h=>h.1));replace Z:=kA hk Z ba;replace U:=kA hk U bd;replace aa:=kA hk aa aZ;replace aH:=am (Kd.R_mono (Kd.R_keep (IsS73.apart (show IsS73 w _ aj ax cz cA from B18x0_) (Ar aH) (by decide)) hk (fun _ h=>h.2)) (fun _ h=>h.1));replace aI:=am (Kd.R_mono (Kd.R_keep (IsS73.apart (show IsS73 w _ aj ax cz cA from B18x0_) (Ar aI) (by decide)) hk (fun _ h=>h.2)) (fun _ h=>h.1));replace HB:=am hb;replace Y:=am hi)|((with_reducible refine gate_callee (f:=15) rfl ?_);refine goesL_ (some 32) rfl rfl Tryz.func15 gk_ rfl #[.pointer (some ⟨aj,0,none⟩),.int .i64 5] rfl gm_ ?_;refine(spec_l01Below.calls aj ax cB cC 5 b4 cD cE w _ B18x0_ (Ae4 HB (IsS73.gf Y) ay az aD) eQ.out).mono ?_;rintro e iH ⟨rfl,hi,hb,hk⟩;refine⟨_,rfl, ?_⟩;replace af:=am (Kd.R_mono (Kd.R_keep (IsS73.apart (show IsS73 w _ aj ax cB cC from B18x0_) (Ar af) (by decide)) hk (fun _ h=>h.2)) (fun _ h=>h.1));replace Z:=kA hk Z ba;replace U:=kA hk U bd;replace aa:=kA hk aa aZ;replace aH:=am (Kd.R_mono (Kd.R_keep (IsS73.apart (show IsS73 w _ aj ax cB cC from B18x0_) (Ar aH) (by decide)) hk (fun _ h=>h.2)) (fun _ h=>h.1));replace aI:=am (Kd.R_mono (Kd.R_keep (IsS73.apart (show IsS73 w _ aj ax cB cC from B18x0_) (Ar aI) (by decide)) hk (fun _ h=>h.2)) (fun _ h=>h.1));replace HB:=am hb;replace Y:=am hi)|((with_reducible refine gate_callee (f:=18) rfl ?_);refine goesL_ (some 34) rfl rfl Tryz.func18 gk_ rfl #[.pointer (some ⟨aj,0,none⟩)] rfl gm_ ?_;refine(spec_l05Conf.calls k1 aj ax cD cE bL dG dH w _ B18x0_ (Ae4 HB (IsS73.gf Y) ay az aD) eR.out).mono ?_;rintro e gg ⟨ik,rfl,bj,hi,hb,hk⟩;refine⟨_,rfl, ?_⟩;replace af:=am (Kd.R_mono (Kd.R_keep (IsS73.apart (show IsS73 w _ aj ax cD cE from B18x0_) (Ar af) (by decide)) hk (fun _ h=>h.2)) (fun _ h=>h.1));replace Z:=kA hk Z ba;replace U:=kA hk U bd;replace aa:=kA hk aa aZ;replace aH:=am (Kd.R_mono (Kd.R_keep (IsS73.apart (show IsS73 w _ aj ax cD cE from B18x0_) (Ar aH) (by decide)) hk (fun _ h=>h.2)) (fun _ h=>h.1));replace aI:=am (Kd.R_mono (Kd.R_keep (IsS73.apart (show IsS73 w _ aj ax cD cE from B18x0_) (Ar aI) (by decide)) hk (fun _ h=>h.2)) (fun _ h=>h.1));have a9:=am (Kd.R_lower bj (below_size (Ae4 HB (IsS73.gf Y) ay az aD)));replace HB:=am hb;replace Y:=am hi;obtain⟨cM,cj,fO⟩:=Kd.R_slice a9.out;subst fO)|((with_reducible refine gate_dst (N:=9) rfl ?_);refine bx (N:=9) (cs:=#[.int .i64 0,.int .i64 0,.slice none 0 0,.string (⟨#[]⟩:ByteArray)]) (t:=29) ?_;intro bn hg eM hbox hb;replace af:=rA af hb;replace aH:=rA aH hb;replace aI:=rA aI hb;replace a9:=rA a9 hb;have aA:=am hbox;have b6:=gA hg HB;replace HB:=De4 HB (IsS73.gf Y) ay az aD hb;have d6:=nA hg Z;have fe:=mA hg Z;replace Z:=bA Z hb;have d7:=nA hg U;have ff:=mA hg U;replace U:=bA U hb;have di:=nA hg aa;have d9:=mA hg aa;replace aa:=bA aa hb;have d8:=am (nl hg (IsS73.lt Y.out));have fg:=am (ng hg (IsS73.lt Y.out));replace Y:=am (IsS73.below B18x0_ hb);clear hb hbox hg;have hC:=fe.out;have hN:=d6.out;have hD:=ff.out;have hO:=d7.out;have hE:=d9.out;have hP:=di.out;have hF:=fg.out;have hQ:=d8.out;obtain⟨i2,i3,i4,i5,jk,jl,jm,jn⟩:=cf4 aA)|((with_reducible refine gate_callee (f:=19) rfl ?_);refine goesL_ (some 39) rfl rfl Tryz.func19 gk_ rfl #[.agg #[.int .i64 bw,.int .i64 b4,.slice cM bL.length cj,.string b3]] rfl gm_ ?_;(with_reducible refine(spec_SnapText.calls k1 bw b4 _ _ bL b3 cF fY _ ?z1 ?z2 eS.out).mono ?_);(case z1=>refine(Kd.R_reads' (e:=3) (base:=w.heap.size) (ok:=fun k_=>True) (n:=bL.length) (c:=cj) ?_).2.2;exact(tfg a9.out aA.out (by decide)));(case z2=>exact(Kd.R_reads' a9.out).2.1);rintro e gh ⟨rfl,hb⟩;refine⟨_,rfl, ?_⟩;replace af:=am (Kd.R_below (tfg af.out aA.out (by decide)) hb);replace aH:=am (Kd.R_below (tfg aH.out aA.out (by decide)) hb);replace aI:=am (Kd.R_below (tfg aI.out aA.out (by decide)) hb);replace a9:=am (Kd.R_below (tfg a9.out aA.out (by decide)) hb);replace Z:=am (blk_below (g:=ck) (o:=.cells #[.slice none 0 0] 26 (0,0)) (Ap1 Z d6) hb);replace U:=am (blk_below (g:=a2) (o:=.cells #[.int .i64 0,.int .i64 0,.slice none 0 0,.string (⟨#[]⟩:ByteArray)] 29 (0,0)) (Ap1 U d7) hb);replace aa:=am (blk_below (g:=bT) (o:=.cells #[b5] 26 (0,0)) (Ap1 aa di) hb);replace aA:=am (blk_below (g:=bn) (o:=.cells #[.int .i64 bw,.int .i64 b4,.slice cM bL.length cj,.string b3] 29 (0,0)) (Ap0 aA) hb);replace HB:=De5 HB (IsS73.gf Y) ay az aD b6 hb;replace Y:=am (IsS73.below (show IsS73 w ((((eM.setCell ⟨bn,0,none⟩ (.int .i64 bw)).setCell ⟨bn,1,none⟩ (.int .i64 b4)).setCell ⟨bn,2,none⟩ (.slice cM bL.length cj)).setCell ⟨bn,3,none⟩ (.string b3)) aj ax dG dH from B18x5_) hb)))
   replace af:=eA af;replace aH:=eA aH;replace aI:=eA aI;replace a9:=eA a9;replace Z:=dA Z;replace U:=dA U;replace aa:=dA aa;replace aA:=dA aA;replace Y:=am (IsS73.drew Y.out);replace HB:=bdr HB;refine st_ 10 (fun w'=>w'.cell? ⟨bT,0,none⟩=some (b5)∧w'.cell? ⟨bn,0,none⟩=some (.int .i64 bw)∧w'.cell? ⟨bn,1,none⟩=some (.int .i64 b4)∧w'.cell? ⟨bn,2,none⟩=some (.slice cM bL.length cj)∧w'.cell? ⟨bn,3,none⟩=some (.string b3)) [9] spec_DrawRightSnaps.tab9 spec_DrawRightSnaps.bits9 ⟨bc aa 0,bc aA 0,bc aA 1,bc aA 2,bc aA 3⟩ (fun B j ar=>?_);generalize gh.drew=iI at af aH aI a9 Z U aa aA Y HB B ⊢;refine pu_ 1 43 j ?_;refine pu_ 4 46 j ?_;refine pu_ 5 47 j ?_;refine pu_ 6 48 j ?_;refine ta_ 0 42 j ar B ?_;refine ta_ 2 44 j ar B ?_;refine on_ 3 (some 45) j (fun K hK=>?_);refine goes_ Tryz.func21 gk_ rfl #[.int .i64 bw] (by rfl) rfl rfl gm_ ?_;refine(spec_SnapName.calls k1 bw cG _ eT.out).mono ?_;rintro e iJ ⟨rfl,hb⟩;refine⟨_,rfl, ?_⟩;replace af:=rA af hb;replace Z:=bA Z hb;replace U:=bA U hb;replace aa:=bA aa hb;replace aA:=bA aA hb;replace HB:=De5 HB (IsS73.gf Y) ay az aD b6 hb;replace Y:=am (IsS73.below B18x5_ hb);obtain⟨d1,el,em⟩:=Kd.R_slice af.out
   (first|subst em|(injection em with f1_ f2_ f3_;have f4_:=f1_.symm;have f5_:=f3_.symm;clear f1_ f2_ f3_;subst f4_;subst f5_))
   refine hK.out _ _ ⟨bc aa 0,bc aA 0,bc aA 1,bc aA 2,bc aA 3⟩ (fun B=>nm_ ?_);clear hK K;refine pu_ 7 49 j ?_;refine on_ 8 (some 50) j (fun K hK=>?_);refine goes_ Tryz.func20 gk_ rfl #[.agg #[.slice d1 bO.length el],.agg #[.string cG,.string cF,.int .i64 (cF.size:Int)]] (by rfl) rfl rfl gm_ ?_
   with_reducible refine(spec_l03Put.calls k1 _ _ bO cG cF (cF.size:Int) cH _ ?z1 ?z2 eU.out).mono ?_
   (case z1=>repeat (first|exact(Kd.R_reads' af.out).2.2|(with_reducible refine Kd.C_alloc ?_ _)|(with_reducible refine Kd.C_drewN ?_ _)|(with_reducible refine Kd.C_drew ?_)))
   (case z2=>exact(Kd.R_reads' af.out).2.1)
   rintro e gi ⟨il,rfl,bj,hb⟩;refine⟨_,rfl, ?_⟩;have d4:=am (Kd.R_lower (Kd.R_new' bj (Kd.R_lt (Ar af))) (below_size (Ae5 HB (IsS73.gf Y) ay az aD b6)));replace af:=am (Kd.R_elder' (Ar af) (Kd.R_base bj) hb);replace Z:=bA Z hb;replace U:=bA U hb;replace aa:=bA aa hb;replace aA:=bA aA hb;replace HB:=De5 HB (IsS73.gf Y) ay az aD b6 hb;replace Y:=am (IsS73.below B18x5_ hb);obtain⟨e0,fE,en⟩:=Kd.R_slice d4.out
   (first|subst en|(injection en with f1_ f2_ f3_;have f4_:=f1_.symm;have f5_:=f3_.symm;clear f1_ f2_ f3_;subst f4_;subst f5_))
   refine hK.out _ _ ⟨bc aa 0,bc aA 0,bc aA 1,bc aA 2,bc aA 3⟩ (fun B=>nm_ ?_);clear hK K;refine last_ (i:=9) (N:=none) #[true,true,true,true,true,true,true,true,true,true] rfl rfl (one_of j.out gk_) (by decide) (fun K hK=>?_)
   have h7:gi.cell? ⟨bT,0,none⟩=some (.slice d1 bO.length el):=bc aa 0
   have g0:=blk_frozen aa.out 0;obtain⟨hU,hV,hW,g8,g9,ha⟩:=o6_ cc br d9 cN be di;refine skip_ (w1:=?_) (by rfl) rfl ?_ ?_;rotate_left
   ·go_simp;rfl
   refine hK.out _ _ ?_;clear hK K;refine done_ (done_of j.out gk_) ?_
   try go_wp2
   go_roundg k1
   case measure=>have:=aN.out;omega
   case rel=>exact⟨(wrap64 (da+1)),dG,dH,cH,(.slice e0 cH.length fE),be_,aK,⟨(by have:=aN.out;omega)⟩,⟨tfg d4.out aa.out (by decide)⟩,Cp1 Z cc,Cp1 U br,Cp0 aa,⟨B18x5_⟩,Ce5 HB (IsS73.gf Y) ay az aD b6⟩
  ·obtain⟨⟨dI,dJ,dK,dL⟩,eV,bB⟩:=bsi ai;(try dsimp only at bB);obtain⟨⟨eC,fZ⟩,eW,bC⟩:=bsi bB;(try dsimp only at bC);obtain⟨⟨eD,dM,dN⟩,eX,bm⟩:=bsi bC;(try dsimp only at bm);obtain⟨⟨eE,dO,dP⟩,eY,dc⟩:=bsi bm;(try dsimp only at dc);obtain⟨⟨eF,f3,f4⟩,eZ,dd⟩:=bsi dc;(try dsimp only at dd);obtain⟨rfl,rfl,rfl,rfl,rfl⟩:=s5 dd;clear dd z J ai bB bC bm dc
   try go_wp2_with (first|((with_reducible refine gate_callee (f:=15) rfl ?_);refine goesL_ (some 19) rfl rfl Tryz.func15 gk_ rfl #[.pointer (some ⟨aj,0,none⟩),.int .i64 3] rfl gm_ ?_;refine(spec_l01Below.calls aj ax bM bN 3 eB b1 b2 w _ B18x0_ (Ae4 HB (IsS73.gf Y) ay az aD) aY.out).mono ?_;rintro e iK ⟨rfl,hi,hb,hk⟩;refine⟨_,rfl, ?_⟩;replace af:=am (Kd.R_mono (Kd.R_keep (IsS73.apart (show IsS73 w _ aj ax bM bN from B18x0_) (Ar af) (by decide)) hk (fun _ h=>h.2)) (fun _ h=>h.1));replace Z:=kA hk Z ba;replace U:=kA hk U bd;replace aa:=kA hk aa aZ;replace HB:=am hb;replace Y:=am hi)|((with_reducible refine gate_callee (f:=17) rfl ?_);refine goesL_ (some 53) rfl rfl Tryz.func17 gk_ rfl #[.pointer (some ⟨aj,0,none⟩),.int .i64 12] rfl gm_ ?_;refine(spec_l15Keep.calls k1 aj ax b1 b2 12 dI dJ dK dL w _ B18x0_ (Ae4 HB (IsS73.gf Y) ay az aD) eV.out).mono ?_;rintro e iL ⟨im,io,rfl,bj,dx,hi,hb,hk⟩;refine⟨_,rfl, ?_⟩;replace af:=am (Kd.R_mono (Kd.R_keep (IsS73.apart (show IsS73 w _ aj ax b1 b2 from B18x0_) (Ar af) (by decide)) hk (fun _ h=>h.2)) (fun _ h=>h.1));replace Z:=kA hk Z ba;replace U:=kA hk U bd;replace aa:=kA hk aa aZ;have bp:=am (Kd.R_lower bj (below_size (Ae4 HB (IsS73.gf Y) ay az aD)));have bq:=am (Kd.R_lower dx (below_size (Ae4 HB (IsS73.gf Y) ay az aD)));replace HB:=am hb;replace Y:=am hi;obtain⟨e1,fF,fP⟩:=Kd.R_slice bp.out;subst fP;obtain⟨e2,fG,fQ⟩:=Kd.R_slice bq.out;subst fQ)|((with_reducible refine gate_callee (f:=16) rfl ?_);refine goesL_ (some 54) rfl rfl Tryz.func16 gk_ rfl #[.agg #[.slice e1 dI.length fF,.slice e2 dJ.length fG]] rfl gm_ ?_;(with_reducible refine(spec_KeepText.calls k1 _ _ dI _ _ dJ eC fZ _ ?z1 ?z2 ?z3 ?z4 eW.out).mono ?_);(case z1=>repeat (first|exact(Kd.R_reads' bp.out).2.2|(with_reducible refine Kd.C_alloc ?_ _)|(with_reducible refine Kd.C_drewN ?_ _)|(with_reducible refine Kd.C_drew ?_)));(case z2=>exact(Kd.R_reads' bp.out).2.1);(case z3=>repeat (first|exact(Kd.R_reads' bq.out).2.2|(with_reducible refine Kd.C_alloc ?_ _)|(with_reducible refine Kd.C_drewN ?_ _)|(with_reducible refine Kd.C_drew ?_)));(case z4=>exact(Kd.R_reads' bq.out).2.1);rintro e gj ⟨rfl,hb⟩;refine⟨_,rfl, ?_⟩;replace af:=rA af hb;replace bp:=rA bp hb;replace bq:=rA bq hb;replace Z:=bA Z hb;replace U:=bA U hb;replace aa:=bA aa hb;replace HB:=De4 HB (IsS73.gf Y) ay az aD hb;replace Y:=am (IsS73.below B18x0_ hb)))
   replace af:=eA af;replace bp:=eA bp;replace bq:=eA bq;replace Z:=dA Z;replace U:=dA U;replace aa:=dA aa;replace Y:=am (IsS73.drew Y.out);replace HB:=bdr HB;refine st_ 12 (fun w'=>w'.cell? ⟨bT,0,none⟩=some (b5)) [] spec_DrawRightSnaps.tab11 spec_DrawRightSnaps.bits11 (bc aa 0) (fun B j ar=>?_);generalize gj.drew=iM at af bp bq Z U aa Y HB B ⊢;refine pu_ 1 58 j ?_;refine pu_ 4 61 j ?_;refine pu_ 6 63 j ?_;refine pu_ 8 65 j ?_;refine take_ (i:=0) (N:=some 57) (v:=?_) (a':=?_) #[true,true,false,false,true,false,true,false,true,false,false,false] rfl rfl (take_ofW j.out ar.out gk_) (fun _ _ _ h=>h) (Or.inl ⟨(by rfl), ?_⟩) B ?_ ?_;rotate_left
   ·intro w' s0;go_simp;with_reducible rfl
   rotate_left
   ·simp only [Act.put,List.setIfInBounds_toArray,List.set_cons_zero,List.set_cons_succ,i64_w,i32_w];rfl
   refine on_ 2 (some 59) j (fun K hK=>?_);refine goes_ Tryz.func15 gk_ rfl #[.pointer (some ⟨aj,0,none⟩),.int .i64 9] (by rfl) rfl rfl gm_ ?_;refine(spec_l01Below.calls aj ax dK dL 9 eD dM dN w _ B18x0_ (Ae4 HB (IsS73.gf Y) ay az aD) eX.out).mono ?_;rintro e iN ⟨rfl,hi,hb,hk⟩;refine⟨_,rfl, ?_⟩;replace af:=am (Kd.R_mono (Kd.R_keep (IsS73.apart (show IsS73 w _ aj ax dK dL from B18x0_) (Ar af) (by decide)) hk (fun _ h=>h.2)) (fun _ h=>h.1));replace Z:=kA hk Z ba;replace U:=kA hk U bd;replace aa:=kA hk aa aZ;replace HB:=am hb;replace Y:=am hi;refine hK.out _ _ (bc aa 0) (fun B=>nm_ ?_);clear hK K;refine pu_ 3 60 j ?_;refine on_ 5 (some 62) j (fun K hK=>?_);refine goes_ Tryz.func15 gk_ rfl #[.pointer (some ⟨aj,0,none⟩),.int .i64 5] (by rfl) rfl rfl gm_ ?_;refine(spec_l01Below.calls aj ax dM dN 5 eE dO dP w _ B18x0_ (Ae4 HB (IsS73.gf Y) ay az aD) eY.out).mono ?_;rintro e iO ⟨rfl,hi,hb,hk⟩;refine⟨_,rfl, ?_⟩;replace af:=am (Kd.R_mono (Kd.R_keep (IsS73.apart (show IsS73 w _ aj ax dM dN from B18x0_) (Ar af) (by decide)) hk (fun _ h=>h.2)) (fun _ h=>h.1));replace Z:=kA hk Z ba;replace U:=kA hk U bd;replace aa:=kA hk aa aZ;replace HB:=am hb;replace Y:=am hi;refine hK.out _ _ (bc aa 0) (fun B=>nm_ ?_);clear hK K;refine on_ 7 (some 64) j (fun K hK=>?_);refine goes_ Tryz.func18 gk_ rfl #[.pointer (some ⟨aj,0,none⟩)] (by rfl) rfl rfl gm_ ?_;refine(spec_l05Conf.calls k1 aj ax dO dP eF f3 f4 w _ B18x0_ (Ae4 HB (IsS73.gf Y) ay az aD) eZ.out).mono ?_;rintro e cK ⟨ip,rfl,bj,hi,hb,hk⟩;refine⟨_,rfl, ?_⟩;replace af:=am (Kd.R_mono (Kd.R_keep (IsS73.apart (show IsS73 w _ aj ax dO dP from B18x0_) (Ar af) (by decide)) hk (fun _ h=>h.2)) (fun _ h=>h.1));replace Z:=kA hk Z ba;replace U:=kA hk U bd;replace aa:=kA hk aa aZ;have d5:=am (Kd.R_lower bj (below_size (Ae4 HB (IsS73.gf Y) ay az aD)));replace HB:=am hb;replace Y:=am hi;obtain⟨e3,fH,eo⟩:=Kd.R_slice d5.out
   (first|subst eo|(injection eo with f1_ f2_ f3_;have f4_:=f1_.symm;have f5_:=f3_.symm;clear f1_ f2_ f3_;subst f4_;subst f5_))
   obtain⟨e4,fI,ep⟩:=Kd.R_slice af.out
   (first|subst ep|(injection ep with f1_ f2_ f3_;have f4_:=f1_.symm;have f5_:=f3_.symm;clear f1_ f2_ f3_;subst f4_;subst f5_))
   refine hK.out _ _ (bc aa 0) (fun B=>nm_ ?_);clear hK K;refine pu_ 9 66 j ?_;refine on_ 10 none j (fun K hK=>?_)
   have h8:cK.cell? ⟨ck,0,none⟩=some (.slice none 0 0):=bc Z 0
   have g1:=blk_frozen Z.out 0;obtain⟨hX,hY,he,hf⟩:=o4_ bR cN bQ cc;refine skip_ (w1:=?_) (by rfl) rfl ?_ ?_;rotate_left
   ·go_simp;rfl
   refine hK.out _ _ (((cell_far (p:=⟨ck,_,none⟩) cN.out _).trans (B))) (fun B=>?_);clear hK K;refine on_ 11 none j (fun K hK=>?_)
   have h9:cK.cell? ⟨a2,0,none⟩=some (.int .i64 0):=bc U 0
   have g2:=blk_frozen U.out 0;obtain⟨hZ,h0,hh,hj⟩:=o4_ bQ be bR br
   have ia:cK.cell? ⟨a2,1,none⟩=some (.int .i64 0):=bc U 1
   have g3:=blk_frozen U.out 1;obtain⟨h1,h2,hm,hn⟩:=o4_ bQ be bR br
   have ib:cK.cell? ⟨a2,2,none⟩=some (.slice none 0 0):=bc U 2
   have g4:=blk_frozen U.out 2;obtain⟨h3,h4,hp,hs⟩:=o4_ bQ be bR br
   have ic:cK.cell? ⟨a2,3,none⟩=some (.string (⟨#[]⟩:ByteArray)):=bc U 3
   have g5:=blk_frozen U.out 3;obtain⟨h5,h6,hu,hv⟩:=o4_ bQ be bR br;refine skip_ (w1:=?_) (by rfl) rfl ?_ ?_;rotate_left
   ·go_simp;rfl
   refine hK.out _ _ (((cell_far (p:=⟨a2,_,none⟩) be.out _).trans (((cell_far (p:=⟨a2,_,none⟩) be.out _).trans (((cell_far (p:=⟨a2,_,none⟩) be.out _).trans (((cell_far (p:=⟨a2,_,none⟩) be.out _).trans (B))))))))) (fun B=>?_);clear hK K;refine done_ (done_of j.out gk_) ?_
   try go_wp2
   refine bodyPost_ret (results_cc rfl _ _ ck a2 26 29 #[.slice e4 bO.length fI] #[.int .i64 (wrap64 (9+eD)),.int .i64 eE,.slice e3 eF.length fH,.string eC] (0,0) (0,0) _ _ rfl (Ap1 Z bQ) Tryz.underlying26 rfl gk_ rfl (Ap1 U bR) Tryz.underlying29 rfl gk_) rfl ?_;exact⟨_,_,B18x17_,(tfh af.out Z.out (by decide) U.out (by decide)),(tfh d5.out Z.out (by decide) U.out (by decide)),(Ae4 HB (IsS73.gf Y) ay az aD)⟩

def spec_l03Name.f (l:ByteArray):Option (Bool):=(spec_l01In.f (l.size:Int) 1 8).bind fun dQ=>(some dQ)
theorem spec_l03Name.calls (l:ByteArray) (r:Bool) (w:World) (h:spec_l03Name.f l=some r) :
  Calls Tryz.prog 47 #[.string l] w fun e w'=>e=.returned (.bool r)∧Drawn0 w w':=by
 have ac:=h
 clear h
 unfold spec_l03Name.f at ac
 obtain⟨dQ,A2,D⟩:=bsi ac
 (try dsimp only at D)
 obtain rfl:=Option.some.inj D
 clear D ac
 go_enter Tryz.func47,Tryz.ntmps47
 go_wp2_with (first|((with_reducible refine gate_callee (f:=31) rfl ?_);refine goesL_ (some 5) rfl rfl Tryz.func31 gk_ rfl #[.int .i64 (l.size:Int),.int .i64 1,.int .i64 8] rfl gm_ ?_;refine(spec_l01In.calls (l.size:Int) 1 8 dQ _ A2.out).mono ?_;rintro e w' ⟨rfl,⟨nd,rfl⟩⟩;refine⟨_,rfl, ?_⟩))
 go_ret
 exact⟨gr_,gd_⟩
theorem B19x9_ (h:p:=by have:=aN.out;first|omega|exact Nat.le_refl _):p:=h
mutual
def spec_DiskOk.l0:Nat→Int→List (S59)→Option (Bool)
 |0,_,_=>none
 |k+1,x3,aW=>if x3<(aW.length:Int) then (if 0≤x3 then ((spec_l03Name.f ((rd_T59 aW x3).f0)).bind fun dR=>(if dR=true then (if (((rd_T59 aW x3).f1).size:Int)>20000 then (none) else ((spec_l01In.f ((rd_T59 aW x3).f2) 0 (((rd_T59 aW x3).f1).size:Int)).bind fun dS=>(if dS=true then (if x3>0 then (if 0≤(wrap64 (x3 - 1)) then (if (wrap64 (x3 - 1))<(aW.length:Int) then (if ((Op.bytesLess (((rd_T59 aW (wrap64 (x3 - 1))).f0).toList) (((rd_T59 aW x3).f0).toList))=true) then (spec_DiskOk.j1 k x3 aW) else (none)) else (none)) else (none)) else (spec_DiskOk.j1 k x3 aW)) else (none)))) else (none))) else (none)) else (some true)
def spec_DiskOk.j1:Nat→Int→List (S59)→Option (Bool)
 |0,_,_=>none
 |k+1,x3,aW=>spec_DiskOk.l0 k (wrap64 (x3+1)) aW
end
def spec_DiskOk.f (k:Nat) (M:List (S59)):Option (Bool):=if (M.length:Int)>30 then (none) else (spec_DiskOk.l0 k 0 M)
def spec_DiskOk.T7:Bool × List (List Nat × List Nat):=(true,[([],[]),([0],[0]),([1],[1]),([2],[2]),([3,2],[3]),([4],[4]),([5,4],[4,5]),([6,4],[4,6]),([7,4],[4,7]),([4,8],[4,8]),([9,4],[9]),([10],[10]),([11,10],[10,11]),([10],[10]),([13,10],[10,13]),([14,10],[10,14]),([12,15,10,10],[10,12,15]),([16,10],[10,16]),([10,17],[10,17]),([18,16],[18]),([19],[19]),([20,19],[19,20]),([21,19,19],[19,21]),([22],[22]),([23,22],[22,23]),([22],[22]),([25,22],[22,25]),([24,26,22],[22,24,26]),([27,22],[22,27]),([28,22],[22,28]),([22],[22]),([30,22],[22,30]),([29,31,22],[22,29,31]),([22,32,19],[19,22,32]),([19,33],[19,33])])
def spec_DiskOk.B7:List Nat:=[0,1,3,7,15,31,63,127,255,511,1023,2047,4095,2047,10239,26623,65535,131071,262143,524287,1048575,2097151,4194303,8388607,16777215,8388607,41943039,134217727,268435455,536870911,8388607,1082130431,4294967295,8589934591,17179869183]
theorem spec_DiskOk.tab7:rtab .any (opsOf Tryz.f22 7)=spec_DiskOk.T7:=by kernel_rfl
theorem spec_DiskOk.bits7:waitsOk spec_DiskOk.T7.2 spec_DiskOk.B7=true:=by kernel_rfl
theorem spec_DiskOk.calls (k:Nat) (a8:Option Addr) (aU:Nat) (M:List (S59)) (r:Bool) (w:World) (eu:Kd.C k59 w a8 M.length M) (er:M.length≤aU) (h:spec_DiskOk.f k M=some r) :
  Calls Tryz.prog 22 #[.agg #[.slice a8 M.length aU]] w fun e w'=>e=.returned (.bool r)∧Below w.heap.size w w':=by
 have fU:=Tryz.underlying26
 have fV:=Tryz.underlying59
 have db:=am eu
 have gG:=am er
 clear eu er
 have HB:=am (Below.refl w.heap.size w)
 have ac:=h
 clear h
 unfold spec_DiskOk.f at ac
 obtain⟨c2,D⟩|⟨c2,D⟩:=sp ac
 ·exact absurd D (by simp)
 have bD:decide (30<(M.length:Int))=false:=decide_eq_false c2
 have cU:decide (30<M.length)=false:=decide_eq_false (by omega)
 clear c2
 replace D:=am D
 clear ac
 go_enter Tryz.func22,Tryz.ntmps22
 go_wp2_with (first|((with_reducible refine gate_dst (N:=1) rfl ?_);(try(refine gate_guard (by rfl) ?_;dsimp only));refine bx (N:=1) (cs:=#[.slice a8 M.length aU]) (t:=26) ?_;intro bi hg w3 hbox hb;have ak:=am hbox;have bl:=gA hg HB;replace HB:=hA HB hb;clear hb hbox hg;have i1:w3.cell? ⟨bi,0,none⟩=some (.slice a8 M.length aU):=bc ak 0;have jj:=blk_frozen ak.out 0))
 go_loopg [3] k (fun kq v3 w'=>∃ (ad:Int),v3=.int .i64 ad∧Aside0 (spec_DiskOk.l0 kq ad M=some r)∧Aside0 (kq≤k)∧Aside0 (w'.heap[bi]?=some (.cells #[(.slice a8 M.length aU)] 26 (0,0)))∧Aside0 (Below w.heap.size w w'))
 case atStart=>exact⟨(0),be_,D,⟨Nat.le_refl _⟩,Cb ak,Ce1 HB bl⟩
 case round=>
  clear D
  try clear c2
  try clear bD
  try clear cU
  obtain⟨ad,rfl,z,aN,ak,HB⟩:=hrel
  cases gk with
  |zero=>exact absurd z.out (by simp [spec_DiskOk.l0])
  |succ k1=>?_
  replace z:=z.out;simp only [spec_DiskOk.l0] at z
  obtain⟨cV,J⟩|⟨cV,J⟩:=sd z
  ·replace J:=am J;clear z
   have ja:wr.cell? ⟨bi,0,none⟩=some (.slice a8 M.length aU):=bc ak 0
   have jr:=blk_frozen ak.out 0
   go_upto_block 1 with (fail)
   go_cut [] (fun wc=>∃ (kq:Nat),Aside0 (spec_DiskOk.j1 kq ad M=some r)∧Aside0 (kq≤k1)∧Hc wc bi #[(.slice a8 M.length aU)] 26∧Hb w wc)
   case first=>
    replace J:=J.out;obtain⟨bS,ai⟩:=yd J
    (first|rw [bS]|(simp only [i64_w,i32_w];rw [bS])|skip)
    obtain⟨dR,A9,ae⟩:=bsi ai;(try dsimp only at ae)
    by_cases c10:dR=true
    rotate_left
    ·replace c10:=Bool.eq_false_iff.mpr c10;subst c10;rw [if_neg (show ¬ (false=true) by decide)] at ae;exact absurd ae (by simp)
    subst c10;rw [if_pos rfl] at ae
    obtain⟨ds,ag⟩|⟨ds,ag⟩:=sp ae
    ·exact absurd ag (by simp)
    have gI:decide (20000<(((rd_T59 M ad).f1).size:Int))=false:=decide_eq_false ds
    have gJ:decide (20000<((rd_T59 M ad).f1).size)=false:=decide_eq_false (by omega)
    clear ds;obtain⟨dS,bP,ap⟩:=bsi ag;(try dsimp only at ap)
    by_cases aQ:dS=true
    rotate_left
    ·replace aQ:=Bool.eq_false_iff.mpr aQ;subst aQ;rw [if_neg (show ¬ (false=true) by decide)] at ap;exact absurd ap (by simp)
    subst aQ;rw [if_pos rfl] at ap
    obtain⟨cg,au⟩|⟨cg,au⟩:=sp ap
    ·have eg:decide (0<ad)=true:=decide_eq_true cg
     clear cg;obtain⟨aV,cl⟩:∃ j_:Int,(wrap64 (ad - 1))=j_:=⟨_,rfl⟩
     (first|rw [cl] at au|simp only [cl] at au)
     (try rw [cl] at A9);(try rw [cl] at bP)
     have g6:(IntKind.i64.wrap (ad - 1))=aV:=(i64_w _).trans cl
     obtain⟨fq,av⟩:=yd au;obtain⟨fs,aJ⟩:=yd av;obtain⟨ch,aE⟩:=yn aJ
     have ft:(Op.bytesLess (((rd_T59 M (aV)).f0).toList) (((rd_T59 M ad).f0).toList))=true:=ch
     clear ch;replace aE:=am aE;clear J ai ae ag ap au av aJ
     have iY:wr.cell? ⟨bi,0,none⟩=some (.slice a8 M.length aU):=bc ak 0
     have jg:=blk_frozen ak.out 0
     have bJ:0≤(ad:Int):=dga
     have bK:ad<(M.length:Int):=dga
     obtain⟨bh,du,bG,bH,bI⟩:=at_T59 db.out ad bJ bK;cases du;replace bG:=(hbc HB bG).trans bG;replace bH:=(hbc HB bH).trans bH;replace bI:=(hbc HB bI).trans bI;replace bJ:=eq_true bJ;replace bK:=eq_true bK
     try go_wp2_with (first|((with_reducible refine gate_dst (N:=4) rfl ?_);(try(refine gate_guard (by rfl) ?_;dsimp only));refine bx (N:=4) (cs:=#[.string (⟨#[]⟩:ByteArray),.string (⟨#[]⟩:ByteArray),.int .i64 0]) (t:=59) ?_;intro aR hg eK hbox hb;have aw:=am hbox;have b7:=gA hg HB;replace HB:=De1 HB bl hb;have cd:=nA hg ak;have dj:=mA hg ak;replace ak:=bA ak hb;clear hb hbox hg;have hx:=dj.out;have hL:=cd.out;obtain⟨gs,gu,gv,gx,gy,gB⟩:=cf3 aw))
     generalize hw:(((eK.setCell ⟨aR,0,none⟩ (.string ((rd_T59 M ad).f0))).setCell ⟨aR,1,none⟩ (.string ((rd_T59 M ad).f1))).setCell ⟨aR,2,none⟩ (.int .i64 ((rd_T59 M ad).f2)))=cJ;replace hw:=hw.symm
     replace ak:Hc cJ bi #[.slice (some bh) M.length aU] 26:=⟨wAp1 ak cd⟩
     replace aw:Hc cJ aR #[.string ((rd_T59 M ad).f0),.string ((rd_T59 M ad).f1),.int .i64 ((rd_T59 M ad).f2)] 59:=⟨wAp0 aw⟩
     replace HB:Hb w cJ:=⟨wAe2 HB bl b7⟩
     clear hw;replace ak:=dA ak;replace aw:=dA aw;replace HB:=bdr HB
     have dC:0≤((aV):Int):=dga
     have dD:(aV)<(M.length:Int):=dga
     obtain⟨fi,fJ,cn,co,cp⟩:=at_T59 db.out (aV) dC dD;have b0:=cp;have bZ:=co;have bY:=cn;obtain rfl:bh=fi:=(by injection fJ);replace cn:=(hbc HB cn).trans cn;replace co:=(hbc HB co).trans co;replace cp:=(hbc HB cp).trans cp;replace dC:=eq_true dC;replace dD:=eq_true dD;refine st_ 35 (fun w'=>w'.cell? ⟨aR,0,none⟩=some (.string ((rd_T59 M ad).f0))∧w'.cell? ⟨aR,1,none⟩=some (.string ((rd_T59 M ad).f1))∧w'.cell? ⟨aR,2,none⟩=some (.int .i64 ((rd_T59 M ad).f2))∧w'.cell? ⟨bi,0,none⟩=some (.slice (some bh) M.length aU)∧w'.cell? (bh.add (((aV)).toNat * 3))=some (.string ((rd_T59 M (aV)).f0))∧w'.cell? ⟨(bh.add (((aV)).toNat * 3)).block,(bh.add (((aV)).toNat * 3)).off+1,none⟩=some (.string ((rd_T59 M (aV)).f1))∧w'.cell? ⟨(bh.add (((aV)).toNat * 3)).block,(bh.add (((aV)).toNat * 3)).off+2,none⟩=some (.int .i64 ((rd_T59 M (aV)).f2))) [] spec_DiskOk.tab7 spec_DiskOk.bits7 D6x1_ (fun B j ar=>?_);generalize cJ.drew=iG at ak aw HB cn co cp B ⊢;refine pu_ 0 21 j ?_;refine ta_ 1 22 j ar B ?_;refine on_ 2 (some 23) j (fun K hK=>?_);refine goes_ Tryz.func47 gk_ rfl #[.string ((rd_T59 M ad).f0)] (by rfl) rfl rfl gm_ ?_;refine(spec_l03Name.calls ((rd_T59 M ad).f0) true _ A9.out).mono ?_;rintro e w' ⟨rfl,⟨nd,rfl⟩⟩;refine⟨_,rfl, ?_⟩;refine hK.out _ _ D6x1_ (fun B=>nm_ ?_);clear hK K;refine pu_ 3 24 j ?_;refine pu_ 4 25 j ?_;refine pu_ 5 26 j ?_;refine ta_ 6 27 j ar B ?_;refine pu_ 7 28 j ?_;refine pu_ 8 29 j ?_;refine pu_ 9 30 j ?_;refine pu_ 10 31 j ?_;refine pu_ 11 32 j ?_;refine pu_ 13 34 j ?_;refine ta_ 12 33 j ar B ?_;refine ta_ 14 35 j ar B ?_;refine pu_ 15 36 j ?_;refine on_ 16 (some 37) j (fun K hK=>?_);refine goes_ Tryz.func31 gk_ rfl #[.int .i64 ((rd_T59 M ad).f2),.int .i64 0,.int .i64 (((rd_T59 M ad).f1).size:Int)] (by rfl) rfl rfl gm_ ?_;refine(spec_l01In.calls ((rd_T59 M ad).f2) 0 (((rd_T59 M ad).f1).size:Int) true _ bP.out).mono ?_;rintro e w' ⟨rfl,⟨nd,rfl⟩⟩;refine⟨_,rfl, ?_⟩;refine hK.out _ _ D6x1_ (fun B=>nm_ ?_);clear hK K;refine pu_ 17 38 j ?_;refine pu_ 18 39 j ?_;refine pu_ 19 40 j ?_;refine pu_ 20 41 j ?_;refine pu_ 21 42 j ?_;refine pu_ 22 43 j ?_;refine pu_ 23 44 j ?_;refine pu_ 25 46 j ?_;refine pu_ 26 47 j ?_;refine pu_ 30 51 j ?_;refine ta_ 24 45 j ar B ?_;refine pu_ 27 48 j ?_;refine pu_ 28 49 j ?_;refine ta_ 29 50 j ar B ?_;refine ta_ 31 52 j ar B ?_;refine pu_ 32 53 j ?_;refine pu_ 33 54 j ?_;refine pu_ 34 55 j ?_;refine done_ (done_of j.out gk_) ?_
     try go_wp2
     go_meet
     case rel=>exact⟨_,aE,⟨B19x9_⟩,Cb ak,Ce2 HB bl b7⟩
    have eg:decide (0<ad)=false:=decide_eq_false cg
    clear cg;replace au:=am au;clear J ai ae ag ap
    have iZ:wr.cell? ⟨bi,0,none⟩=some (.slice a8 M.length aU):=bc ak 0
    have jh:=blk_frozen ak.out 0
    have bJ:0≤(ad:Int):=dga
    have bK:ad<(M.length:Int):=dga
    obtain⟨bh,du,bG,bH,bI⟩:=at_T59 db.out ad bJ bK;cases du;replace bG:=(hbc HB bG).trans bG;replace bH:=(hbc HB bH).trans bH;replace bI:=(hbc HB bI).trans bI;replace bJ:=eq_true bJ;replace bK:=eq_true bK
    try go_wp2_with (first|((with_reducible refine gate_dst (N:=4) rfl ?_);(try(refine gate_guard (by rfl) ?_;dsimp only));refine bx (N:=4) (cs:=#[.string (⟨#[]⟩:ByteArray),.string (⟨#[]⟩:ByteArray),.int .i64 0]) (t:=59) ?_;intro aR hg eL hbox hb;have aw:=am hbox;have b7:=gA hg HB;replace HB:=De1 HB bl hb;have cd:=nA hg ak;have dj:=mA hg ak;replace ak:=bA ak hb;clear hb hbox hg;have hz:=dj.out;have hM:=cd.out;obtain⟨gs,gu,gv,gx,gy,gB⟩:=cf3 aw))
    generalize hw:(((eL.setCell ⟨aR,0,none⟩ (.string ((rd_T59 M ad).f0))).setCell ⟨aR,1,none⟩ (.string ((rd_T59 M ad).f1))).setCell ⟨aR,2,none⟩ (.int .i64 ((rd_T59 M ad).f2)))=cZ;replace hw:=hw.symm
    replace ak:Hc cZ bi #[.slice (some bh) M.length aU] 26:=⟨wAp1 ak cd⟩
    replace aw:Hc cZ aR #[.string ((rd_T59 M ad).f0),.string ((rd_T59 M ad).f1),.int .i64 ((rd_T59 M ad).f2)] 59:=⟨wAp0 aw⟩
    replace HB:Hb w cZ:=⟨wAe2 HB bl b7⟩
    clear hw;replace ak:=dA ak;replace aw:=dA aw;replace HB:=bdr HB;refine st_ 35 (fun w'=>w'.cell? ⟨aR,0,none⟩=some (.string ((rd_T59 M ad).f0))∧w'.cell? ⟨aR,1,none⟩=some (.string ((rd_T59 M ad).f1))∧w'.cell? ⟨aR,2,none⟩=some (.int .i64 ((rd_T59 M ad).f2))) [] spec_DiskOk.tab7 spec_DiskOk.bits7 ⟨bc aw 0,bc aw 1,bc aw 2⟩ (fun B j ar=>?_);generalize cZ.drew=eM at ak aw HB B ⊢;refine pu_ 0 21 j ?_;refine ta_ 1 22 j ar B ?_;refine on_ 2 (some 23) j (fun K hK=>?_);refine goes_ Tryz.func47 gk_ rfl #[.string ((rd_T59 M ad).f0)] (by rfl) rfl rfl gm_ ?_;refine(spec_l03Name.calls ((rd_T59 M ad).f0) true _ A9.out).mono ?_;rintro e w' ⟨rfl,⟨nd,rfl⟩⟩;refine⟨_,rfl, ?_⟩;refine hK.out _ _ ⟨bc aw 0,bc aw 1,bc aw 2⟩ (fun B=>nm_ ?_);clear hK K;refine pu_ 3 24 j ?_;refine pu_ 4 25 j ?_;refine pu_ 5 26 j ?_;refine ta_ 6 27 j ar B ?_;refine pu_ 7 28 j ?_;refine pu_ 8 29 j ?_;refine pu_ 9 30 j ?_;refine pu_ 10 31 j ?_;refine pu_ 11 32 j ?_;refine pu_ 13 34 j ?_;refine ta_ 12 33 j ar B ?_;refine ta_ 14 35 j ar B ?_;refine pu_ 15 36 j ?_;refine on_ 16 (some 37) j (fun K hK=>?_);refine goes_ Tryz.func31 gk_ rfl #[.int .i64 ((rd_T59 M ad).f2),.int .i64 0,.int .i64 (((rd_T59 M ad).f1).size:Int)] (by rfl) rfl rfl gm_ ?_;refine(spec_l01In.calls ((rd_T59 M ad).f2) 0 (((rd_T59 M ad).f1).size:Int) true _ bP.out).mono ?_;rintro e w' ⟨rfl,⟨nd,rfl⟩⟩;refine⟨_,rfl, ?_⟩;refine hK.out _ _ ⟨bc aw 0,bc aw 1,bc aw 2⟩ (fun B=>nm_ ?_);clear hK K;refine pu_ 17 38 j ?_;refine pu_ 18 39 j ?_;refine pu_ 19 40 j ?_;refine pu_ 20 41 j ?_;refine pu_ 21 42 j ?_;refine pu_ 22 43 j ?_;refine of_ 23 44 j ?_;refine of_ 24 45 j ?_;refine of_ 25 46 j ?_;refine of_ 26 47 j ?_;refine of_ 27 48 j ?_;refine of_ 28 49 j ?_;refine of_ 29 50 j ?_;refine of_ 30 51 j ?_;refine of_ 31 52 j ?_;refine of_ 32 53 j ?_;refine pu_ 33 54 j ?_;refine pu_ 34 55 j ?_;refine done_ (done_of j.out gk_) ?_
    try go_wp2
    go_meet
    case rel=>exact⟨_,au,⟨B19x9_⟩,Cb ak,Ce2 HB bl b7⟩
   clear J
   try clear c2
   obtain⟨kq,aK,d3,ak,HB⟩:=hcut
   cases kq with
   |zero=>exact absurd aK.out (by simp [spec_DiskOk.j1])
   |succ fW=>?_
   replace aK:=aK.out;simp only [spec_DiskOk.j1] at aK;replace aK:=am aK
   go_wp2
   go_roundg fW
   case measure=>have:=aN.out;have:=d3.out;omega
   case rel=>exact⟨(wrap64 (ad+1)),be_,aK,⟨(by have:=aN.out;have:=d3.out;omega)⟩,Cb ak,Ce1 HB bl⟩
  obtain rfl:=Option.some.inj J;clear J z
  have i0:wr.cell? ⟨bi,0,none⟩=some (.slice a8 M.length aU):=bc ak 0
  have ji:=blk_frozen ak.out 0
  go_wp2
  go_ret
  exact⟨(by first|rfl|(simp [errW_none,errW_some] <;> rfl)|(simp [*,errW_none,errW_some] <;> rfl)),(Ae1 HB bl)⟩
theorem B20x5_ (h:p:=by first|rfl|(simp [errW_none,errW_some] <;> rfl)|(simp only [←bF];first|rfl|(simp [errW_none,errW_some] <;> rfl))|(simp [*,errW_none,errW_some] <;> rfl)):p:=h
theorem B20x6_ (h:p:=by (try simp only [List.map_toArray,List.map_cons,List.map_nil]);first|done|(simp only [bF];rfl)|rfl|(simp only [List.length_drop,List.length_take];rfl)):p:=h
def spec_ReadDecimal.l0:Nat→ByteArray→Int→Int→Option (Int × Bool)
 |0,_,_,_=>none
 |k+1,x0,x4,x5=>if x5<(x0.size:Int) then (if 0≤x5 then (if (bt x0 x5)<48 then (some (0,false)) else (if (bt x0 x5)>57 then (some (0,false)) else (spec_ReadDecimal.l0 k x0 (wrap64 ((wrap64 ((wrap64 (10 * x4))+(wrap64 (bt x0 x5)))) - 48)) (wrap64 (x5+1))))) else (none)) else (if x4>1000000000 then (some (0,false)) else ((spec_Decimal.f k x4).bind fun cW=>(if cW.toList=x0.toList then (some (x4,true)) else (some (0,false)))))
def spec_ReadDecimal.f (k:Nat) (l:ByteArray):Option (Int × Bool):=if (l.size:Int)>10 then (none) else (spec_ReadDecimal.l0 k l 0 0)
theorem spec_ReadDecimal.calls (k:Nat) (l:ByteArray) (r1:Int) (r2:Bool) (w:World) (h:spec_ReadDecimal.f k l=some (r1,r2)) :
  Calls Tryz.prog 48 #[.string l] w fun e w'=>e=.returned (.tuple #[.int .i64 r1,.bool r2])∧Below w.heap.size w w':=by
 have HB:=am (Below.refl w.heap.size w)
 have ac:=h
 clear h
 unfold spec_ReadDecimal.f at ac
 obtain⟨c2,D⟩|⟨c2,D⟩:=sp ac
 ·exact absurd D (by simp)
 ·have bD:decide (10<(l.size:Int))=false:=decide_eq_false c2
  have cU:decide (10<l.size)=false:=decide_eq_false (by omega)
  clear c2;replace D:=am D;clear ac;go_enter Tryz.func48,Tryz.ntmps48
  go_wp2
  go_loopg [4,5] k (fun kq v4 v5 w'=>∃ (aG:Int) (ao:Int),v4=.int .i64 aG∧v5=.int .i64 ao∧Aside0 (spec_ReadDecimal.l0 kq l aG ao=some (r1,r2))∧Aside0 (kq≤k)∧Aside0 (Below w.heap.size w w'))
  case atStart=>exact⟨(0),0,be_,be_,D,⟨Nat.le_refl _⟩,Ce0 HB⟩
  case round=>
   clear D
   try clear c2
   try clear bD
   try clear cU
   obtain⟨aG,ao,rfl,rfl,z,aN,HB⟩:=hrel
   cases gk with
   |zero=>exact absurd z.out (by simp [spec_ReadDecimal.l0])
   |succ k1=>?_
   replace z:=z.out;simp only [spec_ReadDecimal.l0] at z
   obtain⟨ei,J⟩|⟨ei,J⟩:=sd z
   ·obtain⟨ci,ai⟩:=yd J
    obtain⟨bv,ae⟩|⟨bv,ae⟩:=sd ai
    ·obtain⟨rfl,rfl⟩:=s2 ae;clear ae z J ai
     have p5:0≤(ao:Int):=dga
     have q5:ao<(l.size:Int):=dga
     have ev:=bt_at l ao;replace p5:=eq_true p5;replace q5:=eq_true q5
     go_wp2
     go_ret2
     exact D6x2_
    ·obtain⟨c8,ag⟩|⟨c8,ag⟩:=sp ae
     ·have bS:decide (57<(bt l ao))=true:=decide_eq_true c8
      clear c8;obtain⟨rfl,rfl⟩:=s2 ag;clear ag z J ai ae
      have p5:0≤(ao:Int):=dga
      have q5:ao<(l.size:Int):=dga
      have ev:=bt_at l ao;replace p5:=eq_true p5;replace q5:=eq_true q5
      have p7:0≤(ao:Int):=dga
      have q7:ao<(l.size:Int):=dga
      have ew:=bt_at l ao;replace p7:=eq_true p7;replace q7:=eq_true q7
      go_wp2
      go_ret2
      exact D6x2_
     ·have bS:decide (57<(bt l ao))=false:=decide_eq_false c8
      clear c8;replace ag:=am ag;clear z J ai ae
      have p5:0≤(ao:Int):=dga
      have q5:ao<(l.size:Int):=dga
      have ev:=bt_at l ao;replace p5:=eq_true p5;replace q5:=eq_true q5
      have p7:0≤(ao:Int):=dga
      have q7:ao<(l.size:Int):=dga
      have ew:=bt_at l ao;replace p7:=eq_true p7;replace q7:=eq_true q7
      have p9:0≤(ao:Int):=dga
      have q9:ao<(l.size:Int):=dga
      have ig:=bt_at l ao;replace p9:=eq_true p9;replace q9:=eq_true q9
      go_wp2
      go_roundg k1
      case measure=>have:=aN.out;omega
      case rel=>exact⟨(wrap64 ((wrap64 ((wrap64 (10 * aG))+(wrap64 (bt l ao)))) - 48)),(wrap64 (ao+1)),be_,be_,ag,⟨(by have:=aN.out;omega)⟩,Ce0 HB⟩
   ·obtain⟨c10,ap⟩|⟨c10,ap⟩:=sp J
    ·have cR:decide (1000000000<aG)=true:=decide_eq_true c10
     clear c10;obtain⟨rfl,rfl⟩:=s2 ap;clear ap z J
     go_wp2
     go_ret2
     exact D6x2_
    ·have cR:decide (1000000000<aG)=false:=decide_eq_false c10
     clear c10;obtain⟨cW,aY,au⟩:=bsi ap;(try dsimp only at au)
     obtain⟨cS,av⟩|⟨cS,av⟩:=sp au
     ·obtain⟨cf,fo⟩:=yE cS;clear cS;obtain⟨rfl,rfl⟩:=s2 av;clear av z J ap au
      go_wp2_with (first|(go_at_call 46;refine(spec_Decimal.calls k1 aG cW _ aY.out).mono ?_;rintro e iB ⟨rfl,hb⟩;replace HB:=hA HB hb))
      go_ret2
      exact D6x2_
     ·obtain⟨cf,fo⟩:=nE cS;obtain⟨rfl,rfl⟩:=s2 av;clear av z J ap au
      go_wp2_with (first|(go_at_call 46;refine(spec_Decimal.calls k1 aG cW _ aY.out).mono ?_;rintro e f7 ⟨rfl,hb⟩;replace HB:=hA HB hb))
      go_ret2
      exact D6x2_

def spec_l08Index.f (k:Nat) (l:ByteArray):Option (Int):=if (l.size:Int)<2 then (none) else (if 1≤(l.size:Int) then ((spec_ReadDecimal.f k (l.extract 1 l.size)).bind fun dq=>(if dq.2=true then ((spec_SnapName.f k dq.1).bind fun dU=>(if dU.toList=l.toList then (some dq.1) else (none))) else (some (-1)))) else (none))
theorem spec_l08Index.calls (k:Nat) (l:ByteArray) (r:Int) (w:World) (h:spec_l08Index.f k l=some r) :
  Calls Tryz.prog 23 #[.string l] w fun e w'=>e=.returned (.int .i64 r)∧Below w.heap.size w w':=by
 have HB:=am (Below.refl w.heap.size w)
 have ac:=h
 clear h
 unfold spec_l08Index.f at ac
 obtain⟨c2,D⟩|⟨c2,D⟩:=sp ac
 ·exact absurd D (by simp)
 ·have bD:=decide_eq_false c2
  have cU:decide (l.size<2)=false:=decide_eq_false (by omega)
  clear c2;obtain⟨ei,gR,z⟩:=ye D;obtain⟨⟨dT,ih⟩,A4,J⟩:=bsi z;(try dsimp only at J)
  obtain⟨rfl,ai⟩|⟨rfl,ai⟩:=sb J
  ·obtain⟨dU,A6,ae⟩:=bsi ai;(try dsimp only at ae);obtain⟨c7,ag⟩:=yn ae;obtain⟨fB,fC⟩:=yE c7;clear c7;obtain rfl:=Option.some.inj ag;clear ag ac D z J ai ae;go_enter Tryz.func23,Tryz.ntmps23
   go_wp2_with (first|((with_reducible refine gate_callee (f:=48) rfl ?_);refine goesL_ (some 11) rfl rfl Tryz.func48 gk_ rfl #[.string (l.extract 1 l.size)] rfl gm_ ?_;refine(spec_ReadDecimal.calls k (l.extract 1 l.size) dT true _ A4.out).mono ?_;rintro e w8 ⟨rfl,hb⟩;refine⟨_,rfl, ?_⟩;replace HB:=hA HB hb)|(go_at_call 21;refine(spec_SnapName.calls k dT dU _ A6.out).mono ?_;rintro e w9 ⟨rfl,hb⟩;replace HB:=hA HB hb))
   go_ret;exact D6x2_
  ·obtain rfl:=Option.some.inj ai;clear ai ac D z J;go_enter Tryz.func23,Tryz.ntmps23
   go_wp2_with (first|((with_reducible refine gate_callee (f:=48) rfl ?_);refine goesL_ (some 11) rfl rfl Tryz.func48 gk_ rfl #[.string (l.extract 1 l.size)] rfl gm_ ?_;refine(spec_ReadDecimal.calls k (l.extract 1 l.size) dT false _ A4.out).mono ?_;rintro e iy ⟨rfl,hb⟩;refine⟨_,rfl, ?_⟩;replace HB:=hA HB hb))
   go_ret;exact D6x2_

def spec_Unsealed.f (k:Nat) (l:ByteArray):Option (ByteArray × Bool):=if (wrap64 ((l.size:Int) - 4))<0 then (some ((⟨#[]⟩:ByteArray),false)) else (if (wrap64 ((l.size:Int) - 4))>20000 then (some ((⟨#[]⟩:ByteArray),false)) else (if 0≤(wrap64 ((l.size:Int) - 4)) then (if (wrap64 ((l.size:Int) - 4))≤(l.size:Int) then ((spec_SumOf.f k (l.extract 0 ((wrap64 ((l.size:Int) - 4)):Int).toNat)).bind fun bz=>((spec_l02Four.f bz).bind fun cX=>(if (l.extract ((wrap64 ((l.size:Int) - 4)):Int).toNat l.size).toList=cX.toList then (some (l.extract 0 ((wrap64 ((l.size:Int) - 4)):Int).toNat,true)) else (some ((⟨#[]⟩:ByteArray),false))))) else (none)) else (none)))
def spec_Unsealed.T2:Bool × List (List Nat × List Nat):=(true,[([],[]),([0],[0]),([1],[1]),([2],[2]),([3,2],[2,3]),([2,4],[2,4]),([5,2],[5]),([6],[6]),([6],[6]),([7,8,6],[6,7,8]),([6],[6]),([6],[6]),([10,11,6],[6,10,11]),([12,6,6],[6,12]),([13,13,6],[6,13]),([9,14,6],[6,9,14]),([6,15],[6,15])])
def spec_Unsealed.B2:List Nat:=[0,1,3,7,15,31,63,127,127,511,127,127,3199,7295,15487,32767,65535]
theorem spec_Unsealed.tab2:rtab .any (opsOf Tryz.f49 2)=spec_Unsealed.T2:=by kernel_rfl
theorem spec_Unsealed.bits2:waitsOk spec_Unsealed.T2.2 spec_Unsealed.B2=true:=by kernel_rfl
theorem spec_Unsealed.calls (k:Nat) (l:ByteArray) (r1:ByteArray) (r2:Bool) (w:World) (h:spec_Unsealed.f k l=some (r1,r2)) :
  Calls Tryz.prog 49 #[.string l] w fun e w'=>e=.returned (.tuple #[.string r1,.bool r2])∧Below w.heap.size w w':=by
 have HB:=am (Below.refl w.heap.size w)
 have ac:=h
 clear h
 unfold spec_Unsealed.f at ac
 obtain⟨bD,D⟩|⟨bD,D⟩:=sd ac
 ·obtain⟨rfl,rfl⟩:=s2 D;clear D ac;go_enter Tryz.func49,Tryz.ntmps49
  try go_wp2
  replace HB:=bdr HB;refine st_ 17 (fun w'=>True) [] spec_Unsealed.tab2 spec_Unsealed.bits2 trivial (fun B j ar=>?_);generalize w.drew=w3 at HB B ⊢;refine pu_ 0 8 j ?_;refine pu_ 1 9 j ?_;refine pu_ 2 10 j ?_;refine of_ 3 11 j ?_;refine of_ 4 12 j ?_;refine pu_ 5 13 j ?_;refine pu_ 6 14 j ?_;refine of_ 7 15 j ?_;refine of_ 8 16 j ?_;refine of_ 9 17 j ?_;refine of_ 10 18 j ?_;refine of_ 11 19 j ?_;refine of_ 12 20 j ?_;refine of_ 13 21 j ?_;refine of_ 14 22 j ?_;refine of_ 15 23 j ?_;refine pu_ 16 24 j ?_;refine done_ (done_of j.out gk_) ?_
  try go_wp2
  go_ret2
  exact D6x2_
 obtain⟨c4,z⟩|⟨c4,z⟩:=sp D
 ·have ci:decide (20000<(wrap64 ((l.size:Int) - 4)))=true:=decide_eq_true c4
  clear c4;obtain⟨rfl,rfl⟩:=s2 z;clear z ac D;go_enter Tryz.func49,Tryz.ntmps49
  try go_wp2
  replace HB:=bdr HB;refine st_ 17 (fun w'=>True) [] spec_Unsealed.tab2 spec_Unsealed.bits2 trivial (fun B j ar=>?_);generalize w.drew=w5 at HB B ⊢;refine pu_ 0 8 j ?_;refine pu_ 1 9 j ?_;refine pu_ 2 10 j ?_;refine pu_ 3 11 j ?_;refine pu_ 4 12 j ?_;refine pu_ 5 13 j ?_;refine pu_ 6 14 j ?_;refine of_ 7 15 j ?_;refine of_ 8 16 j ?_;refine of_ 9 17 j ?_;refine of_ 10 18 j ?_;refine of_ 11 19 j ?_;refine of_ 12 20 j ?_;refine of_ 13 21 j ?_;refine of_ 14 22 j ?_;refine of_ 15 23 j ?_;refine pu_ 16 24 j ?_;refine done_ (done_of j.out gk_) ?_
  try go_wp2
  go_ret2
  exact D6x2_
 have ci:decide (20000<(wrap64 ((l.size:Int) - 4)))=false:=decide_eq_false c4
 clear c4
 obtain⟨bo,bF⟩:∃ j_:Int,(wrap64 ((l.size:Int) - 4))=j_:=⟨_,rfl⟩
 (first|rw [bF] at z|simp only [bF] at z)
 (try rw [bF] at bD)
 (try rw [bF] at ci)
 have g7:(IntKind.i64.wrap ((l.size:Int) - 4))=bo:=(i64_w _).trans bF
 obtain⟨fB,fC,J⟩:=ye z
 obtain⟨bS,gV,ai⟩:=ye J
 have fD:=eq_true (dga:0≤(bo))
 have cR:=eq_true (dga:(bo)≤(l.size:Int))
 obtain⟨bz,aY,ae⟩:=bsi ai
 (try dsimp only at ae)
 obtain⟨cX,bP,ag⟩:=bsi ae
 (try dsimp only at ag)
 obtain⟨aQ,ap⟩|⟨aQ,ap⟩:=sp ag
 ·obtain⟨dt,fp⟩:=yE aQ;clear aQ;have eg:=eq_true (dga:0≤(bo));have gN:=eq_true (dga:(bo)≤(l.size:Int));obtain⟨rfl,rfl⟩:=s2 ap;clear ap ac D z J ai ae ag;go_enter Tryz.func49,Tryz.ntmps49
  try go_wp2
  replace HB:=bdr HB;refine st_ 17 (fun w'=>True) [] spec_Unsealed.tab2 spec_Unsealed.bits2 trivial (fun B j ar=>?_);generalize w.drew=iD at HB B ⊢;refine pu_ 0 8 j ?_;refine pu_ 1 9 j ?_;refine pu_ 2 10 j ?_;refine pu_ 3 11 j ?_;refine pu_ 4 12 j ?_;refine pu_ 5 13 j ?_;refine pu_ 6 14 j ?_;refine pu_ 7 15 j ?_;refine pu_ 8 16 j ?_;refine pu_ 9 17 j ?_;refine pu_ 10 18 j ?_;refine pu_ 11 19 j ?_;refine pu_ 12 20 j ?_;refine on_ 13 (some 21) j (fun K hK=>?_);refine goes_ Tryz.func79 gk_ rfl #[.string (l.extract 0 ((bo):Int).toNat)] (by rfl) rfl rfl B20x6_ ?_;refine(spec_SumOf.calls k (l.extract 0 ((bo):Int).toNat) bz _ aY.out).mono ?_;rintro e w' ⟨rfl,⟨nd,rfl⟩⟩;refine⟨_,rfl, ?_⟩;refine hK.out _ _ trivial (fun B=>nm_ ?_);clear hK K;refine on_ 14 (some 22) j (fun K hK=>?_);refine goes_ Tryz.func78 gk_ rfl #[.int .u32 bz] (by rfl) rfl rfl gm_ ?_;refine(spec_l02Four.calls bz cX _ bP.out).mono ?_;rintro e iE ⟨rfl,hb⟩;refine⟨_,rfl, ?_⟩;replace HB:=hA HB hb;refine hK.out _ _ trivial (fun B=>nm_ ?_);clear hK K;refine pu_ 15 23 j ?_;refine pu_ 16 24 j ?_;refine done_ (done_of j.out gk_) ?_
  try go_wp2
  go_ret2
  exact⟨B20x5_,(Ae0 HB)⟩
 obtain⟨dt,fp⟩:=nE aQ
 obtain⟨rfl,rfl⟩:=s2 ap
 clear ap ac D z J ai ae ag
 go_enter Tryz.func49,Tryz.ntmps49
 try go_wp2
 replace HB:=bdr HB
 refine st_ 17 (fun w'=>True) [] spec_Unsealed.tab2 spec_Unsealed.bits2 trivial (fun B j ar=>?_)
 generalize w.drew=f8 at HB B ⊢
 refine pu_ 0 8 j ?_
 refine pu_ 1 9 j ?_
 refine pu_ 2 10 j ?_
 refine pu_ 3 11 j ?_
 refine pu_ 4 12 j ?_
 refine pu_ 5 13 j ?_
 refine pu_ 6 14 j ?_
 refine pu_ 7 15 j ?_
 refine pu_ 8 16 j ?_
 refine pu_ 9 17 j ?_
 refine pu_ 10 18 j ?_
 refine pu_ 11 19 j ?_
 refine pu_ 12 20 j ?_
 refine on_ 13 (some 21) j (fun K hK=>?_)
 refine goes_ Tryz.func79 gk_ rfl #[.string (l.extract 0 ((bo):Int).toNat)] (by rfl) rfl rfl B20x6_ ?_
 refine(spec_SumOf.calls k (l.extract 0 ((bo):Int).toNat) bz _ aY.out).mono ?_
 rintro e w' ⟨rfl,⟨nd,rfl⟩⟩
 refine⟨_,rfl, ?_⟩
 refine hK.out _ _ trivial (fun B=>nm_ ?_)
 clear hK K
 refine on_ 14 (some 22) j (fun K hK=>?_)
 refine goes_ Tryz.func78 gk_ rfl #[.int .u32 bz] (by rfl) rfl rfl gm_ ?_
 refine(spec_l02Four.calls bz cX _ bP.out).mono ?_
 rintro e iF ⟨rfl,hb⟩
 refine⟨_,rfl, ?_⟩
 replace HB:=hA HB hb
 (try clear hb)
 (try clear bE)
 (try clear hk)
 (try clear hi)
 (try clear hl)
 refine hK.out _ _ trivial (fun B=>nm_ ?_)
 clear hK K
 refine pu_ 15 23 j ?_
 refine pu_ 16 24 j ?_
 refine done_ (done_of j.out gk_) ?_
 try go_wp2
 go_ret2
 exact⟨B20x5_,(Ae0 HB)⟩
mutual
def spec_ReadVar.l0:Nat→ByteArray→Int→Int→Int→Int→Option (Int × Int × Bool)
 |0,_,_,_,_,_=>none
 |k+1,x0,x1,x7,x8,x9=>if x9<(x0.size:Int) then (spec_ReadVar.j1 k x0 x1 x7 x8 x9 (decide (x9<(wrap64 (x1+5))))) else (spec_ReadVar.j1 k x0 x1 x7 x8 x9 false)
def spec_ReadVar.j1:Nat→ByteArray→Int→Int→Int→Int→Bool→Option (Int × Int × Bool)
 |0,_,_,_,_,_,_=>none
 |k+1,x0,x1,x7,x8,x9,gl=>if gl=true then (if 0≤x9 then (if x9<(x0.size:Int) then (if (bt x0 x9)<128 then (if (wrap64 (x7+(wrap64 ((Int.tmod (wrap64 (bt x0 x9)) 128) * x8))))>1000000000 then (some (0,0,false)) else ((spec_l01Var.f k (wrap64 (x7+(wrap64 ((Int.tmod (wrap64 (bt x0 x9)) 128) * x8))))).bind fun cY=>(if 0≤x1 then (if x1≤(wrap64 (x9+1)) then (if (wrap64 (x9+1))≤(x0.size:Int) then (if cY.toList=(x0.extract (x1:Int).toNat ((wrap64 (x9+1)):Int).toNat).toList then (some (wrap64 (x7+(wrap64 ((Int.tmod (wrap64 (bt x0 x9)) 128) * x8))),wrap64 (x9+1),true)) else (some (0,0,false))) else (none)) else (none)) else (none)))) else (spec_ReadVar.l0 k x0 x1 (wrap64 (x7+(wrap64 ((Int.tmod (wrap64 (bt x0 x9)) 128) * x8)))) (wrap64 (x8 * 128)) (wrap64 (x9+1)))) else (none)) else (none)) else (some (0,0,false))
end
def spec_ReadVar.f (k:Nat) (l:ByteArray) (a1:Int):Option (Int × Int × Bool):=(spec_l01In.f a1 0 (l.size:Int)).bind fun eG=>(if eG=true then (spec_ReadVar.l0 k l a1 0 1 a1) else (some (0,0,false)))
def spec_ReadVar.T11:Bool × List (List Nat × List Nat):=(true,[([],[]),([0],[0]),([1],[1]),([2],[2]),([3,2,2],[2,3]),([2],[2]),([2],[2]),([2],[2]),([7,2],[2,7]),([5,6,8,2],[2,5,6,8]),([4,9,2],[2,4,9]),([2,10],[2,10])])
def spec_ReadVar.B11:List Nat:=[0,1,3,7,15,7,7,7,135,487,1023,2047]
theorem spec_ReadVar.tab11:rtab .any (opsOf Tryz.f81 11)=spec_ReadVar.T11:=by kernel_rfl
theorem spec_ReadVar.bits11:waitsOk spec_ReadVar.T11.2 spec_ReadVar.B11=true:=by kernel_rfl
theorem spec_ReadVar.calls (k:Nat) (l:ByteArray) (a1:Int) (r1:Int) (r2:Int) (r3:Bool) (w:World) (h:spec_ReadVar.f k l a1=some (r1,r2,r3)) :
  Calls Tryz.prog 81 #[.string l,.int .i64 a1] w fun e w'=>e=.returned (.tuple #[.int .i64 r1,.int .i64 r2,.bool r3])∧Below w.heap.size w w':=by
 have HB:=am (Below.refl w.heap.size w)
 have ac:=h
 clear h
 unfold spec_ReadVar.f at ac
 obtain⟨eG,A3,D⟩:=bsi ac
 (try dsimp only at D)
 obtain⟨rfl,z⟩|⟨rfl,z⟩:=sb D
 ·replace z:=am z;clear ac D;go_enter Tryz.func81,Tryz.ntmps81
  go_wp2_with (first|((with_reducible refine gate_callee (f:=31) rfl ?_);refine goesL_ (some 13) rfl rfl Tryz.func31 gk_ rfl #[.int .i64 a1,.int .i64 0,.int .i64 (l.size:Int)] rfl gm_ ?_;refine(spec_l01In.calls a1 0 (l.size:Int) true _ A3.out).mono ?_;rintro e w' ⟨rfl,⟨nd,rfl⟩⟩;refine⟨_,rfl, ?_⟩))
  go_loopg [7,8,9] k (fun kq v7 v8 v9 w'=>∃ (a7:Int) (aX:Int) (al:Int),v7=.int .i64 a7∧v8=.int .i64 aX∧v9=.int .i64 al∧Aside0 (spec_ReadVar.l0 kq l a1 a7 aX al=some (r1,r2,r3))∧Aside0 (kq≤k)∧Aside0 (Below w.heap.size w w'))
  case atStart=>exact⟨(0),1,a1,be_,be_,be_,z,⟨Nat.le_refl _⟩,Ce0 HB⟩
  case round=>
   clear z
   try clear c4
   obtain⟨a7,aX,al,rfl,rfl,rfl,J,aN,HB⟩:=hrel
   cases gk with
   |zero=>exact absurd J.out (by simp [spec_ReadVar.l0])
   |succ k1=>?_
   replace J:=J.out;simp only [spec_ReadVar.l0] at J;replace J:=am J
   go_upto_region 6 with (fail)
   go_cut [25] (fun f6 wc=>∃ (kq:Nat) (dX:Bool),f6=.bool dX∧Aside0 (spec_ReadVar.j1 kq l a1 a7 aX al dX=some (r1,r2,r3))∧Aside0 (kq≤k1)∧Hb w wc)
   case first=>
    replace J:=J.out
    obtain⟨bv,ai⟩|⟨bv,ai⟩:=sd J
    ·(first|rw [bv]|(simp only [i64_w,i32_w];rw [bv])|skip)
     replace ai:=am ai;clear J
     go_wp2
     go_meet
     case rel=>exact⟨_,(decide (al<(wrap64 (a1+5)))),be_,ai,⟨B19x9_⟩,Ce0 HB⟩
    (first|rw [bv]|(simp only [i64_w,i32_w];rw [bv])|skip)
    replace ai:=am ai;clear J
    go_wp2
    go_meet
    case rel=>exact⟨_,false,be_,ai,⟨B19x9_⟩,Ce0 HB⟩
   clear J
   try clear c4
   obtain⟨kq,dX,rfl,ae,d2,HB⟩:=hcut
   cases kq with
   |zero=>exact absurd ae.out (by simp [spec_ReadVar.j1])
   |succ dB=>?_
   replace ae:=ae.out;simp only [spec_ReadVar.j1] at ae
   obtain⟨rfl,ag⟩|⟨rfl,ag⟩:=sb ae
   ·obtain⟨bS,ap⟩:=yd ag;obtain⟨fD,au⟩:=yd ap
    obtain⟨cf,av⟩|⟨cf,av⟩:=sd au
    ·obtain⟨aQ,aJ⟩|⟨aQ,aJ⟩:=sp av
     ·have dt:decide (1000000000<(wrap64 (a7+(wrap64 ((Int.tmod (wrap64 (bt l al)) 128) * aX)))))=true:=decide_eq_true aQ
      clear aQ;obtain⟨rfl,rfl,rfl⟩:=s3 aJ;clear aJ ae ag ap au av
      have a3:0≤(al:Int):=dga
      have a5:al<(l.size:Int):=dga
      have dy:=bt_at l al;replace a3:=eq_true a3;replace a5:=eq_true a5
      have a4:0≤(al:Int):=dga
      have a6:al<(l.size:Int):=dga
      have dz:=bt_at l al;replace a4:=eq_true a4;replace a6:=eq_true a6
      try go_wp2
      replace HB:=bdr HB;refine st_ 12 (fun w'=>True) [] spec_ReadVar.tab11 spec_ReadVar.bits11 trivial (fun B j ar=>?_);generalize wc.drew=f7 at HB B ⊢;refine pu_ 0 43 j ?_;refine pu_ 1 44 j ?_;refine pu_ 2 45 j ?_;refine of_ 3 46 j ?_;refine of_ 4 47 j ?_;refine of_ 5 48 j ?_;refine of_ 6 49 j ?_;refine of_ 7 50 j ?_;refine of_ 8 51 j ?_;refine of_ 9 52 j ?_;refine of_ 10 53 j ?_;refine pu_ 11 54 j ?_;refine done_ (done_of j.out gk_) ?_
      try go_wp2
      go_ret3
      exact D6x2_
     have dt:decide (1000000000<(wrap64 (a7+(wrap64 ((Int.tmod (wrap64 (bt l al)) 128) * aX)))))=false:=decide_eq_false aQ
     clear aQ;obtain⟨cY,cL,aE⟩:=bsi aJ;(try dsimp only at aE);obtain⟨fq,gO,aK⟩:=ye aE;obtain⟨eh,bB⟩:=yn aK;have fs:=eq_true eh;have gP:=decide_eq_true eh;obtain⟨ch,bC⟩:=yn bB;have ft:=eq_true ch;have gQ:=decide_eq_true ch
     obtain⟨cT,bm⟩|⟨cT,bm⟩:=sp bC
     ·obtain⟨fu,fv⟩:=yE cT;clear cT;obtain⟨rfl,rfl,rfl⟩:=s3 bm;clear bm ae ag ap au av aJ aE aK bB bC
      have a3:0≤(al:Int):=dga
      have a5:al<(l.size:Int):=dga
      have dy:=bt_at l al;replace a3:=eq_true a3;replace a5:=eq_true a5
      have a4:0≤(al:Int):=dga
      have a6:al<(l.size:Int):=dga
      have dz:=bt_at l al;replace a4:=eq_true a4;replace a6:=eq_true a6
      try go_wp2
      replace HB:=bdr HB;refine st_ 12 (fun w'=>True) [] spec_ReadVar.tab11 spec_ReadVar.bits11 trivial (fun B j ar=>?_);generalize wc.drew=eK at HB B ⊢;refine pu_ 0 43 j ?_;refine pu_ 1 44 j ?_;refine pu_ 2 45 j ?_;refine pu_ 3 46 j ?_;refine pu_ 5 48 j ?_;refine pu_ 6 49 j ?_;refine pu_ 7 50 j ?_;refine pu_ 8 51 j ?_;refine pu_ 9 52 j ?_;refine on_ 4 (some 47) j (fun K hK=>?_);refine goes_ Tryz.func37 gk_ rfl #[.int .i64 (wrap64 (a7+(wrap64 ((Int.tmod (wrap64 (bt l al)) 128) * aX))))] (by rfl) rfl rfl gm_ ?_;refine(spec_l01Var.calls dB (wrap64 (a7+(wrap64 ((Int.tmod (wrap64 (bt l al)) 128) * aX)))) cY _ cL.out).mono ?_;rintro e f9 ⟨rfl,hb⟩;refine⟨_,rfl, ?_⟩;replace HB:=hA HB hb;refine hK.out _ _ trivial (fun B=>nm_ ?_);clear hK K;refine pu_ 10 53 j ?_;refine pu_ 11 54 j ?_;refine done_ (done_of j.out gk_) ?_
      try go_wp2
      go_ret3
      exact D6x2_
     obtain⟨fu,fv⟩:=nE cT;obtain⟨rfl,rfl,rfl⟩:=s3 bm;clear bm ae ag ap au av aJ aE aK bB bC
     have a3:0≤(al:Int):=dga
     have a5:al<(l.size:Int):=dga
     have dy:=bt_at l al;replace a3:=eq_true a3;replace a5:=eq_true a5
     have a4:0≤(al:Int):=dga
     have a6:al<(l.size:Int):=dga
     have dz:=bt_at l al;replace a4:=eq_true a4;replace a6:=eq_true a6
     try go_wp2
     replace HB:=bdr HB;refine st_ 12 (fun w'=>True) [] spec_ReadVar.tab11 spec_ReadVar.bits11 trivial (fun B j ar=>?_);generalize wc.drew=ga at HB B ⊢;refine pu_ 0 43 j ?_;refine pu_ 1 44 j ?_;refine pu_ 2 45 j ?_;refine pu_ 3 46 j ?_;refine pu_ 5 48 j ?_;refine pu_ 6 49 j ?_;refine pu_ 7 50 j ?_;refine pu_ 8 51 j ?_;refine pu_ 9 52 j ?_;refine on_ 4 (some 47) j (fun K hK=>?_);refine goes_ Tryz.func37 gk_ rfl #[.int .i64 (wrap64 (a7+(wrap64 ((Int.tmod (wrap64 (bt l al)) 128) * aX))))] (by rfl) rfl rfl gm_ ?_;refine(spec_l01Var.calls dB (wrap64 (a7+(wrap64 ((Int.tmod (wrap64 (bt l al)) 128) * aX)))) cY _ cL.out).mono ?_;rintro e cJ ⟨rfl,hb⟩;refine⟨_,rfl, ?_⟩;replace HB:=hA HB hb;refine hK.out _ _ trivial (fun B=>nm_ ?_);clear hK K;refine pu_ 10 53 j ?_;refine pu_ 11 54 j ?_;refine done_ (done_of j.out gk_) ?_
     try go_wp2
     go_ret3
     exact D6x2_
    replace av:=am av;clear ae ag ap au
    have a3:0≤(al:Int):=dga
    have a5:al<(l.size:Int):=dga
    have dy:=bt_at l al;replace a3:=eq_true a3;replace a5:=eq_true a5
    have a4:0≤(al:Int):=dga
    have a6:al<(l.size:Int):=dga
    have dz:=bt_at l al;replace a4:=eq_true a4;replace a6:=eq_true a6
    go_wp2
    go_roundg dB
    case measure=>have:=aN.out;have:=d2.out;omega
    case rel=>exact⟨(wrap64 (a7+(wrap64 ((Int.tmod (wrap64 (bt l al)) 128) * aX)))),(wrap64 (aX * 128)),(wrap64 (al+1)),be_,be_,be_,av,⟨(by have:=aN.out;have:=d2.out;omega)⟩,Ce0 HB⟩
   obtain⟨rfl,rfl,rfl⟩:=s3 ag;clear ag ae
   go_wp2
   go_ret3
   exact D6x2_
 obtain⟨rfl,rfl,rfl⟩:=s3 z
 clear z ac D
 go_enter Tryz.func81,Tryz.ntmps81
 go_wp2_with (first|((with_reducible refine gate_callee (f:=31) rfl ?_);refine goesL_ (some 13) rfl rfl Tryz.func31 gk_ rfl #[.int .i64 a1,.int .i64 0,.int .i64 (l.size:Int)] rfl gm_ ?_;refine(spec_l01In.calls a1 0 (l.size:Int) false _ A3.out).mono ?_;rintro e w' ⟨rfl,⟨nd,rfl⟩⟩;refine⟨_,rfl, ?_⟩))
 go_ret3
 exact D6x2_
/-- A state of type 94 at block g of W; what its slices lead to came in by w0. -/
theorem B22x2_ (h:p:=by repeat (first|(with_reducible first|exact ah.out|apply IsS94.alloc|apply IsS94.drewN|apply IsS94.drew|apply IsS94.set_0|apply IsS94.set_1|apply IsS94.set_2)|exact ah.out)):p:=h
theorem B22x6_ (h:p:=by repeat (first|exact(Kd.R_reads' aC.out).2.2|(with_reducible refine Kd.C_alloc ?_ _)|(with_reducible refine Kd.C_drewN ?_ _)|(with_reducible refine Kd.C_drew ?_))):p:=h
def IsS94 (w0 W:World) (g:Nat) (f0:ByteArray) (f1:Int) (f2:Bool):Prop:=W.heap[g]?=some (.cells #[.string f0,.int .i64 f1,.bool f2] 94 (0,0))∧w0.heap.size≤g
theorem IsS94.grown {w0 W:World} {g:Nat} {f0:ByteArray} {f1:Int} {f2:Bool} {W1:World} {row:Option Nat} (h:IsS94 w0 W g f0 f1 f2) (hw:W.grownBy W1 row) (hne:some g≠row):IsS94 w0 W1 g f0 f1 f2:=by
 obtain⟨hb,hg⟩:=h
 exact⟨blk_grown hb hw hne,hg⟩
theorem IsS94.own_neN {w0 W:World} {g:Nat} {f0:ByteArray} {f1:Int} {f2:Bool} {α:Type} {d:Kd α} {e:Nat} {base:Nat} {ok:Nat→Prop} {v:Value} {xs:List α} (h:IsS94 w0 W g f0 f1 f2) (ho:Kd.N d e W base ok v xs) (ht:e≠94):some g≠v.ownBlock:=by
 obtain⟨hb,hg⟩:=h
 exact Kd.N_ne ho hb ht
theorem IsS94.fresh {w0 W:World} {g:Nat} {f0:ByteArray} {f1:Int} {f2:Bool} (h:IsS94 w0 W g f0 f1 f2):∀ k,W.heap.size≤k→k≠g:=by
 obtain⟨hb,hg⟩:=h
 exact Kd.freshB hb
theorem IsS94.kept {w0 W:World} {g:Nat} {f0:ByteArray} {f1:Int} {f2:Bool} {W1:World} {S:Nat→Prop} (h:IsS94 w0 W g f0 f1 f2) (hk:Kept W W1 S) (hne:¬ S g):IsS94 w0 W1 g f0 f1 f2:=by
 obtain⟨hb,hg⟩:=h
 exact⟨blk_kept hb hk hne,hg⟩
theorem IsS94.below {w0 W:World} {g:Nat} {f0:ByteArray} {f1:Int} {f2:Bool} {W1:World} (h:IsS94 w0 W g f0 f1 f2) (hw:Below W.heap.size W W1):IsS94 w0 W1 g f0 f1 f2:=h.grown (grown_of_below hw none) (by simp)
theorem IsS94.alloc {w0 W:World} {g:Nat} {f0:ByteArray} {f1:Int} {f2:Bool} (h:IsS94 w0 W g f0 f1 f2) (o:Obj):IsS94 w0 (W.alloc o) g f0 f1 f2:=h.below (below_alloc (Below.refl _ _) o)
theorem IsS94.drewN {w0 W:World} {g:Nat} {f0:ByteArray} {f1:Int} {f2:Bool} (h:IsS94 w0 W g f0 f1 f2) (m:Nat):IsS94 w0 (W.drewN m) g f0 f1 f2:=h
theorem IsS94.drew {w0 W:World} {g:Nat} {f0:ByteArray} {f1:Int} {f2:Bool} (h:IsS94 w0 W g f0 f1 f2):IsS94 w0 W.drew g f0 f1 f2:=h
theorem IsS94.at_ {w0 W:World} {g:Nat} {f0:ByteArray} {f1:Int} {f2:Bool} {w':World} {m:Nat} (hq:W.drewN m=w') (h:IsS94 w0 W g f0 f1 f2):IsS94 w0 w' g f0 f1 f2:=by subst hq;exact IsS94.drewN h m
theorem IsS94.apart {w0 W:World} {g:Nat} {f0:ByteArray} {f1:Int} {f2:Bool} {α:Type} {d:Kd α} {e:Nat} {base:Nat} {ok:Nat→Prop} {v:Value} {xs:List α} (h:IsS94 w0 W g f0 f1 f2) (ho:d.R e W base ok v xs) (ht:∀ q,q∈e :: d.E→q≠94):d.R e W base (fun k=>ok k∧k≠g) v xs:=by
 obtain⟨hb,hg⟩:=h
 exact Kd.R_types ho hb ht
theorem IsS94.own_ne {w0 W:World} {g:Nat} {f0:ByteArray} {f1:Int} {f2:Bool} {α:Type} {d:Kd α} {e:Nat} {base:Nat} {ok:Nat→Prop} {v:Value} {xs:List α} (h:IsS94 w0 W g f0 f1 f2) (ho:d.R e W base ok v xs) (ht:e≠94):some g≠v.ownBlock:=by
 obtain⟨hb,hg⟩:=h
 exact Kd.R_ne ho hb ht
theorem IsS94.apartQ {w0 W:World} {g:Nat} {f0:ByteArray} {f1:Int} {f2:Bool} {α:Type} {d:Kd α} {e:Nat} {base:Nat} {ok:Nat→Prop} {v:Value} {xs:List α} (h:IsS94 w0 W g f0 f1 f2) (ho:d.Q e W base ok v xs) (ht:∀ q,q∈e :: d.E→q≠94):d.Q e W base (fun k=>ok k∧k≠g) v xs:=by
 obtain⟨hb,hg⟩:=h
 exact Kd.Q_types ho hb ht
theorem IsS94.own_neQ {w0 W:World} {g:Nat} {f0:ByteArray} {f1:Int} {f2:Bool} {α:Type} {d:Kd α} {e:Nat} {base:Nat} {ok:Nat→Prop} {v:Value} {xs:List α} (h:IsS94 w0 W g f0 f1 f2) (ho:d.Q e W base ok v xs) (ht:e≠94):some g≠v.ownBlock:=by
 obtain⟨hb,hg⟩:=h
 exact Kd.Q_ne ho hb ht
theorem IsS94.apartS {w0 W:World} {g:Nat} {f0:ByteArray} {f1:Int} {f2:Bool} {α:Type} {d:Kd α} {e:Nat} {base:Nat} {ok:Nat→Prop} {v:Value} {xs:List α} (h:IsS94 w0 W g f0 f1 f2) (ho:d.S e W base ok v xs) (ht:∀ q,q∈e :: d.E→q≠94):d.S e W base (fun k=>ok k∧k≠g) v xs:=by
 obtain⟨hb,hg⟩:=h
 exact Kd.S_types ho hb ht
theorem IsS94.own_neS {w0 W:World} {g:Nat} {f0:ByteArray} {f1:Int} {f2:Bool} {α:Type} {d:Kd α} {e:Nat} {base:Nat} {ok:Nat→Prop} {v:Value} {xs:List α} (h:IsS94 w0 W g f0 f1 f2) (ho:d.S e W base ok v xs) (ht:e≠94):some g≠v.ownBlock:=by
 obtain⟨hb,hg⟩:=h
 exact Kd.S_ne ho hb ht
theorem IsS94.lt {w0 W:World} {g:Nat} {f0:ByteArray} {f1:Int} {f2:Bool} (h:IsS94 w0 W g f0 f1 f2):g<W.heap.size:=by
 obtain⟨hb,hg⟩:=h
 exact blk_lt hb
theorem IsS94.ge {w0 W:World} {g:Nat} {f0:ByteArray} {f1:Int} {f2:Bool} (h:IsS94 w0 W g f0 f1 f2):w0.heap.size≤g:=by
 obtain⟨hb,hg⟩:=h
 exact hg
theorem IsS94.gf {w0 W:World} {g:Nat} {f0:ByteArray} {f1:Int} {f2:Bool} (h:Aside0 (IsS94 w0 W g f0 f1 f2)):Aside0 (w0.heap.size≤g):=⟨h.out.ge⟩
theorem IsS94.ne_blk {w0 W:World} {g:Nat} {f0:ByteArray} {f1:Int} {f2:Bool} {a:Nat} {cs:Array Value} {t:TypeId} {fr:Nat × Nat} (h:IsS94 w0 W g f0 f1 f2) (hb2:W.heap[a]?=some (.cells cs t fr)) (ht:t≠94):g≠a:=by
 obtain⟨hb,hg⟩:=h
 rintro rfl
 rw [hb] at hb2
 injection hb2 with hb2
 injection hb2 with _ ht2
 exact ht ht2.symm
theorem IsS94.far {w0 W:World} {g:Nat} {f0:ByteArray} {f1:Int} {f2:Bool} {p:Addr} (h:IsS94 w0 W g f0 f1 f2) (hne:g≠p.block) (u:Value):IsS94 w0 (W.setCell p u) g f0 f1 f2:=by
 obtain⟨hb,hg⟩:=h
 exact⟨blk_far hb hne u,hg⟩
theorem cellS94_0 {W:World} {g:Nat} {f0:ByteArray} {f1:Int} {f2:Bool} (h:W.heap[g]?=some (.cells #[.string f0,.int .i64 f1,.bool f2] 94 (0,0))):W.cell? ⟨g,0,none⟩=some (.string f0):=(blk_cell h 0).trans rfl
theorem IsS94.set_0 {w0 W:World} {g:Nat} {f0:ByteArray} {f1:Int} {f2:Bool} (h:IsS94 w0 W g f0 f1 f2) (x:ByteArray):IsS94 w0 (W.setCell ⟨g,0,none⟩ (.string x)) g x f1 f2:=by
 obtain⟨hb,hg⟩:=h
 exact⟨(by simpa using blk_set hb 0 (.string x)),hg⟩
theorem cellS94_1 {W:World} {g:Nat} {f0:ByteArray} {f1:Int} {f2:Bool} (h:W.heap[g]?=some (.cells #[.string f0,.int .i64 f1,.bool f2] 94 (0,0))):W.cell? ⟨g,1,none⟩=some (.int .i64 f1):=(blk_cell h 1).trans rfl
theorem IsS94.set_1 {w0 W:World} {g:Nat} {f0:ByteArray} {f1:Int} {f2:Bool} (h:IsS94 w0 W g f0 f1 f2) (x:Int):IsS94 w0 (W.setCell ⟨g,1,none⟩ (.int .i64 x)) g f0 x f2:=by
 obtain⟨hb,hg⟩:=h
 exact⟨(by simpa using blk_set hb 1 (.int .i64 x)),hg⟩
theorem cellS94_2 {W:World} {g:Nat} {f0:ByteArray} {f1:Int} {f2:Bool} (h:W.heap[g]?=some (.cells #[.string f0,.int .i64 f1,.bool f2] 94 (0,0))):W.cell? ⟨g,2,none⟩=some (.bool f2):=(blk_cell h 2).trans rfl
theorem IsS94.set_2 {w0 W:World} {g:Nat} {f0:ByteArray} {f1:Int} {f2:Bool} (h:IsS94 w0 W g f0 f1 f2) (x:Bool):IsS94 w0 (W.setCell ⟨g,2,none⟩ (.bool x)) g f0 f1 x:=by
 obtain⟨hb,hg⟩:=h
 exact⟨(by simpa using blk_set hb 2 (.bool x)),hg⟩
theorem IsS94.new (w0 W:World) (f0:ByteArray) (f1:Int) (f2:Bool) (hB:Below w0.heap.size w0 W):IsS94 w0 (W.alloc (.cells #[.string f0,.int .i64 f1,.bool f2] 94)) W.heap.size f0 f1 f2:=⟨(by simpa using heap_alloc_new W _),hB.size⟩

def spec_l05Var.f (k:Nat) (aM:ByteArray) (aT:Int) (cx:Bool):Option (Int × ByteArray × Int × Bool):=(spec_ReadVar.f k aM aT).bind fun dr=>(if cx=true then (some (0,aM,aT,true)) else (if dr.2.2=true then (some (dr.1,aM,dr.2.1,cx)) else (some (0,aM,aT,true))))
def spec_l05Var.T1:Bool × List (List Nat × List Nat):=(true,[([],[]),([0],[0]),([1],[1]),([2],[2]),([],[]),([4],[4]),([5],[5]),([6],[6]),([3,7],[3,7]),([8],[8]),([9],[9]),([9],[9]),([9],[9]),([10,8,0,1,2,3,4,5,6,7,8,9,10],[10]),([11,13,0,1,2,3,4,5,6,7,8,9,10,11,13],[11]),([12,14,0,1,2,3,4,5,6,7,8,9,10,11,12,13,14],[12])])
def spec_l05Var.B1:List Nat:=[0,1,3,7,0,16,48,112,255,511,1023,1023,1023,2047,12287,32767]
theorem spec_l05Var.tab1:rtab .any (opsOf Tryz.f50 1)=spec_l05Var.T1:=by kernel_rfl
theorem spec_l05Var.bits1:waitsOk spec_l05Var.T1.2 spec_l05Var.B1=true:=by kernel_rfl
theorem spec_l05Var.calls (k:Nat) (g:Nat) (aM:ByteArray) (aT:Int) (cx:Bool) (r1:Int) (r2:ByteArray) (r3:Int) (r4:Bool) (w0 w:World) (hI:IsS94 w0 w g aM aT cx) (hB:Below w0.heap.size w0 w) (h:spec_l05Var.f k aM aT cx=some (r1,r2,r3,r4)) :
  Calls Tryz.prog 50 #[.pointer (some ⟨g,0,none⟩)] w fun e w'=>e=.returned (.int .i64 r1)∧IsS94 w0 w' g r2 r3 r4∧Below w0.heap.size w0 w'∧KeepBut w w' g none:=by
 have ah:=am hI
 have HK:=am (KeepBut.refl w g none)
 have HL:=am hB.size
 clear hI
 have gH:=am hB.size
 have HB:=am hB
 clear hB
 have ac:=h
 clear h
 unfold spec_l05Var.f at ac
 obtain⟨⟨dV,dW,f5⟩,A2,D⟩:=bsi ac
 (try dsimp only at D)
 obtain⟨rfl,z⟩|⟨rfl,z⟩:=sb D
 ·obtain⟨rfl,rfl,rfl,rfl⟩:=s4 z;clear z ac D;go_enter Tryz.func50,Tryz.ntmps50
  try go_wp2
  replace ah:=am (IsS94.drew ah.out);replace HK:=kdr HK;replace HB:=bdr HB;refine st_ 16 (fun w'=>w'.cell? ⟨g,0,none⟩=some (.string aM)∧w'.cell? ⟨g,1,none⟩=some (.int .i64 aT)∧w'.cell? ⟨g,2,none⟩=some (.bool true)) [] spec_l05Var.tab1 spec_l05Var.bits1 D6x0_ (fun B j ar=>?_);generalize w.drew=w4 at ah HK HB B ⊢;refine pu_ 0 7 j ?_;refine pu_ 1 8 j ?_;refine pu_ 2 9 j ?_;refine pu_ 4 11 j ?_;refine pu_ 5 12 j ?_;refine pu_ 6 13 j ?_;refine ta_ 3 10 j ar B ?_;refine ta_ 7 14 j ar B ?_;refine on_ 8 (some 15) j (fun K hK=>?_);refine goes_ Tryz.func81 gk_ rfl #[.string aM,.int .i64 aT] (by rfl) rfl rfl gm_ ?_;refine(spec_ReadVar.calls k aM aT dV dW f5 _ A2.out).mono ?_;rintro e w5 ⟨rfl,hb⟩;refine⟨_,rfl, ?_⟩;replace HK:=Ek0 HK hb;replace HB:=De1 HB (IsS94.gf ah) hb;replace ah:=am (IsS94.below B22x2_ hb);refine hK.out _ _ D6x0_ (fun B=>nm_ ?_);clear hK K;refine pu_ 9 6 j ?_;refine pu_ 10 16 j ?_;refine pu_ 11 17 j ?_;refine pu_ 12 18 j ?_;refine pu_ 13 3 j ?_;refine pu_ 14 4 j ?_;refine pu_ 15 5 j ?_;refine done_ (done_of j.out gk_) ?_;obtain⟨ca,fT⟩:=ah.out;have i6:=cellS94_0 ca;have i7:=cellS94_1 ca;have i9:=cellS94_2 ca;obtain⟨jo,jp,jq⟩:=fr3 ca;clear ca fT
  try go_wp2
  go_ret;exact⟨B18x17_,B22x2_,(Ae1 HB (IsS94.gf ah)),(Ak0 HK)⟩
 ·obtain⟨rfl,J⟩|⟨rfl,J⟩:=sb z
  ·obtain⟨rfl,rfl,rfl,rfl⟩:=s4 J;clear J ac D z;go_enter Tryz.func50,Tryz.ntmps50
   try go_wp2
   replace ah:=am (IsS94.drew ah.out);replace HK:=kdr HK;replace HB:=bdr HB;refine st_ 16 (fun w'=>w'.cell? ⟨g,0,none⟩=some (.string aM)∧w'.cell? ⟨g,1,none⟩=some (.int .i64 aT)∧w'.cell? ⟨g,2,none⟩=some (.bool false)) [] spec_l05Var.tab1 spec_l05Var.bits1 D6x0_ (fun B j ar=>?_);generalize w.drew=w8 at ah HK HB B ⊢;refine pu_ 0 7 j ?_;refine pu_ 1 8 j ?_;refine pu_ 2 9 j ?_;refine pu_ 4 11 j ?_;refine pu_ 5 12 j ?_;refine pu_ 6 13 j ?_;refine ta_ 3 10 j ar B ?_;refine ta_ 7 14 j ar B ?_;refine on_ 8 (some 15) j (fun K hK=>?_);refine goes_ Tryz.func81 gk_ rfl #[.string aM,.int .i64 aT] (by rfl) rfl rfl gm_ ?_;refine(spec_ReadVar.calls k aM aT dV dW true _ A2.out).mono ?_;rintro e w9 ⟨rfl,hb⟩;refine⟨_,rfl, ?_⟩;replace HK:=Ek0 HK hb;replace HB:=De1 HB (IsS94.gf ah) hb;replace ah:=am (IsS94.below B22x2_ hb);refine hK.out _ _ D6x0_ (fun B=>nm_ ?_);clear hK K;refine pu_ 9 6 j ?_;refine pu_ 10 16 j ?_;refine pu_ 11 17 j ?_;refine pu_ 12 18 j ?_;refine pu_ 13 3 j ?_;refine pu_ 14 4 j ?_;refine pu_ 15 5 j ?_;refine done_ (done_of j.out gk_) ?_;obtain⟨b8,fR⟩:=ah.out;have gr:=cellS94_0 b8;have iT:=cellS94_1 b8;have iU:=cellS94_2 b8;obtain⟨gw,jb,jc⟩:=fr3 b8;clear b8 fR
   try go_wp2
   go_ret;exact⟨B18x17_,B22x2_,(Ae1 HB (IsS94.gf ah)),(Ak0 HK)⟩
  ·obtain⟨rfl,rfl,rfl,rfl⟩:=s4 J;clear J ac D z;go_enter Tryz.func50,Tryz.ntmps50
   try go_wp2
   replace ah:=am (IsS94.drew ah.out);replace HK:=kdr HK;replace HB:=bdr HB;refine st_ 16 (fun w'=>w'.cell? ⟨g,0,none⟩=some (.string aM)∧w'.cell? ⟨g,1,none⟩=some (.int .i64 aT)∧w'.cell? ⟨g,2,none⟩=some (.bool false)) [] spec_l05Var.tab1 spec_l05Var.bits1 D6x0_ (fun B j ar=>?_);generalize w.drew=iz at ah HK HB B ⊢;refine pu_ 0 7 j ?_;refine pu_ 1 8 j ?_;refine pu_ 2 9 j ?_;refine pu_ 4 11 j ?_;refine pu_ 5 12 j ?_;refine pu_ 6 13 j ?_;refine ta_ 3 10 j ar B ?_;refine ta_ 7 14 j ar B ?_;refine on_ 8 (some 15) j (fun K hK=>?_);refine goes_ Tryz.func81 gk_ rfl #[.string aM,.int .i64 aT] (by rfl) rfl rfl gm_ ?_;refine(spec_ReadVar.calls k aM aT dV dW false _ A2.out).mono ?_;rintro e iA ⟨rfl,hb⟩;refine⟨_,rfl, ?_⟩;replace HK:=Ek0 HK hb;replace HB:=De1 HB (IsS94.gf ah) hb;replace ah:=am (IsS94.below B22x2_ hb);refine hK.out _ _ D6x0_ (fun B=>nm_ ?_);clear hK K;refine pu_ 9 6 j ?_;refine pu_ 10 16 j ?_;refine pu_ 11 17 j ?_;refine pu_ 12 18 j ?_;refine pu_ 13 3 j ?_;refine pu_ 14 4 j ?_;refine pu_ 15 5 j ?_;refine done_ (done_of j.out gk_) ?_;obtain⟨b9,fS⟩:=ah.out;have iV:=cellS94_0 b9;have iW:=cellS94_1 b9;have iX:=cellS94_2 b9;obtain⟨jd,je,jf⟩:=fr3 b9;clear b9 fS
   try go_wp2
   go_ret;exact⟨B18x17_,B22x2_,(Ae1 HB (IsS94.gf ah)),(Ak0 HK)⟩

def spec_ReadConf.l0:Nat→ByteArray→List Int→Int→Option (List Int × Bool)
 |0,_,_,_=>none
 |k+1,x0,x4,x5=>if x5<(x0.size:Int) then (if x5≤4 then (if 0≤x5 then (if x4.length<17592186044416 then (spec_ReadConf.l0 k x0 (x4 ++ [wrap64 (bt x0 x5)]) (wrap64 (x5+1))) else (none)) else (none)) else (if (x4.length:Int)=(x0.size:Int) then ((spec_ConfOk.f k x4).bind fun eH=>(if eH=true then (some (x4,true)) else (some ((([]:List Int)),false)))) else (some ((([]:List Int)),false)))) else (if (x4.length:Int)=(x0.size:Int) then ((spec_ConfOk.f k x4).bind fun eI=>(if eI=true then (some (x4,true)) else (some ((([]:List Int)),false)))) else (some ((([]:List Int)),false)))
def spec_ReadConf.f (k:Nat) (l:ByteArray):Option (List Int × Bool):=spec_ReadConf.l0 k l (([]:List Int)) 0
theorem spec_ReadConf.calls (k:Nat) (l:ByteArray) (r1:List Int) (r2:Bool) (w:World) (h:spec_ReadConf.f k l=some (r1,r2)) :
  Calls Tryz.prog 51 #[.string l] w fun e w'=>∃ cI:Value,e=.returned (.tuple #[cI,.bool r2])∧Kd.R (Kd.int .i64) 3 w' w.heap.size (fun _=>True) cI r1∧Below w.heap.size w w':=by
 have HB:=am (Below.refl w.heap.size w)
 have ac:=h
 clear h
 unfold spec_ReadConf.f at ac
 obtain⟨gp,cq⟩:∃ y_:List Int,y_=(([]:List Int)):=⟨_,rfl⟩
 (first|with_reducible replace ac:=hq cq ac|rw [←cq] at ac|simp only [←cq] at ac)
 have ea:=am cq
 clear cq
 replace ac:=am ac
 go_enter Tryz.func51,Tryz.ntmps51
 go_wp2_with (first|((with_reducible refine gate_dst (N:=6) rfl ?_);refine lL (Kd.int .i64) 3 6 ([]:List Int) [] (Reps.none _ _) ?_;intro iq w2 cm hb;(first|rw [←ea.out] at cm|(simp only [Int.reduceToNat] at cm;rw [←ea.out] at cm));have e6:=am (Kd.R_lower cm (below_size (Ae0 HB)));replace HB:=hA HB hb;clear hb cm))
 go_loopg [4,5] k (fun kq v4 v5 w'=>∃ (aG:List Int) (ao:Int),v5=.int .i64 ao∧Aside0 (spec_ReadConf.l0 kq l aG ao=some (r1,r2))∧Aside0 (kq≤k)∧Aside0 (Kd.R (Kd.int .i64) 3 w' w.heap.size (fun _=>True) v4 aG)∧Aside0 (Below w.heap.size w w'))
 case atStart=>exact⟨(gp),0,be_,ac,⟨Nat.le_refl _⟩,Cr e6,Ce0 HB⟩
 case round=>
  clear ac;obtain⟨aG,ao,rfl,D,aN,aC,HB⟩:=hrel
  cases gk with
  |zero=>exact absurd D.out (by simp [spec_ReadConf.l0])
  |succ k1=>?_
  replace D:=D.out;simp only [spec_ReadConf.l0] at D
  obtain⟨ci,z⟩|⟨ci,z⟩:=sd D
  ·obtain⟨cV,J⟩|⟨cV,J⟩:=sd z
   ·obtain⟨bv,ai⟩:=yd J;obtain⟨fd,ae⟩:=ya ai;obtain⟨gq,cr⟩:∃ y_:List Int,y_=(aG ++ [wrap64 (bt l ao)]):=⟨_,rfl⟩
    (first|with_reducible replace ae:=hq cr ae|rw [←cr] at ae|simp only [←cr] at ae)
    have fh:=am cr;clear cr;replace ae:=am ae;clear D z J ai
    have p7:0≤(ao:Int):=dga
    have q7:ao<(l.size:Int):=dga
    have ew:=bt_at l ao;replace p7:=eq_true p7;replace q7:=eq_true q7
    go_wp2_with (first|((with_reducible refine gate_builtin (b:=.append) (xs:=#[.tmp 17,.tmp 22]) rfl ?_);at_builtin;refine Kd.R_append (Kd.int .i64) (w0:=w) w.heap.size rfl (.tmp 17) (.tmp 22) 27 3 (.int .i64 0) 8 rfl Tryz.underlying27 info3 rfl (by decide) (by omega) u4 aG (wrap64 (bt l ao)) [.int .i64 (wrap64 (bt l ao))] (fun _=>True) (fun _=>False) rfl rfl ?aP (fun _ hk=>hk.elim) ?aF ?aO ?aB ?aS ?aL ?_;(case aP=>exact rfl);(case aB=>exact(Ae0 HB));(case aF=>exact(fun _ _=>trivial));(case aO=>exact(Ar aC));(case aS=>exact(below_size (Ae0 HB)));(case aL=>have:=fd.out;omega);intro ir w9 ho hb hg hat;rw [←fh.out] at ho;replace HB:=am hb;have e7:=am ho;clear aC;clear ho hb hg hat))
    go_roundg k1
    case measure=>have:=aN.out;omega
    case rel=>exact⟨(gq),(wrap64 (ao+1)),be_,ae,⟨(by have:=aN.out;omega)⟩,Cr e7,Ce0 HB⟩
   obtain⟨c10,ag⟩|⟨c10,ag⟩:=sp J
   ·obtain⟨cR,fm⟩:=yE c10
    have fn:(aG.length == l.size)=true:=by first|simpa using c10|(simp at c10 ⊢;omega)
    clear c10;obtain⟨eH,aY,ap⟩:=bsi ag;(try dsimp only at ap)
    obtain⟨rfl,au⟩|⟨rfl,au⟩:=sb ap
    ·obtain⟨rfl,rfl⟩:=s2 au;clear au D z J ag ap;obtain⟨gC,gW,fK⟩:=Kd.R_slice aC.out;subst fK
     go_wp2_with (first|(go_at_call 77;refine(spec_ConfOk.calls k1 _ _ aG true _ B22x6_ ((Kd.R_reads' aC.out).2.1) aY.out).mono ?_;rintro e w' ⟨rfl,⟨nd,rfl⟩⟩))
     go_ret2
     exact⟨_,B18x17_,(Ar aC),(Ae0 HB)⟩
    obtain⟨iP,ct⟩:∃ y_:List Int,y_=(([]:List Int)):=⟨_,rfl⟩
    (first|with_reducible replace au:=hq ct au|rw [←ct] at au|simp only [←ct] at au)
    have eb:=am ct;clear ct;obtain⟨rfl,rfl⟩:=s2 au;clear au D z J ag ap;obtain⟨gD,gX,fL⟩:=Kd.R_slice aC.out;subst fL
    go_wp2_with (first|(go_at_call 77;refine(spec_ConfOk.calls k1 _ _ aG false _ B22x6_ ((Kd.R_reads' aC.out).2.1) aY.out).mono ?_;rintro e w' ⟨rfl,⟨nd,rfl⟩⟩)|((with_reducible refine gate_dst (N:=34) rfl ?_);refine lL (Kd.int .i64) 3 34 ([]:List Int) [] (Reps.none _ _) ?_;intro iu iC bU hb;(first|rw [←eb.out] at bU|(simp only [Int.reduceToNat] at bU;rw [←eb.out] at bU));have e8:=am (Kd.R_lower (Kd.R_new' bU (Kd.R_lt (Ar aC))) (below_size (Ae0 HB)));replace aC:=am (Kd.R_elder' (Ar aC) (Kd.R_base bU) hb);replace HB:=hA HB hb;clear hb bU))
    go_ret2
    exact⟨_,B18x17_,(by (with_reducible repeat (first|apply Kd.R_alloc|apply Kd.R_drewN|apply Kd.R_drew));exact Kd.R_mono e8.out (fun _ hk=>trivial)),(Ae0 HB)⟩
   obtain⟨cR,fm⟩:=nE c10
   have fn:(aG.length == l.size)=false:=by first|simpa using c10|(simp at c10 ⊢;omega)
   obtain⟨iQ,cu⟩:∃ y_:List Int,y_=(([]:List Int)):=⟨_,rfl⟩
   (first|with_reducible replace ag:=hq cu ag|rw [←cu] at ag|simp only [←cu] at ag)
   have ec:=am cu;clear cu;obtain⟨rfl,rfl⟩:=s2 ag;clear ag D z J;obtain⟨gE,gY,fM⟩:=Kd.R_slice aC.out;subst fM
   go_wp2_with (first|((with_reducible refine gate_dst (N:=34) rfl ?_);refine lL (Kd.int .i64) 3 34 ([]:List Int) [] (Reps.none _ _) ?_;intro iv f8 bV hb;(first|rw [←ec.out] at bV|(simp only [Int.reduceToNat] at bV;rw [←ec.out] at bV));have e9:=am (Kd.R_lower (Kd.R_new' bV (Kd.R_lt (Ar aC))) (below_size (Ae0 HB)));replace aC:=am (Kd.R_elder' (Ar aC) (Kd.R_base bV) hb);replace HB:=hA HB hb;clear hb bV))
   go_ret2
   exact⟨_,B18x17_,(by (with_reducible repeat (first|apply Kd.R_alloc|apply Kd.R_drewN|apply Kd.R_drew));exact Kd.R_mono e9.out (fun _ hk=>trivial)),(Ae0 HB)⟩
  obtain⟨bu,av⟩|⟨bu,av⟩:=sp z
  ·obtain⟨fw,fx⟩:=yE bu
   have fy:(aG.length == l.size)=true:=by first|simpa using bu|(simp at bu ⊢;omega)
   clear bu;obtain⟨eI,dY,aJ⟩:=bsi av;(try dsimp only at aJ)
   obtain⟨rfl,aE⟩|⟨rfl,aE⟩:=sb aJ
   ·obtain⟨rfl,rfl⟩:=s2 aE;clear aE D z av aJ;obtain⟨dZ,ej,dv⟩:=Kd.R_slice aC.out;subst dv
    go_wp2_with (first|(go_at_call 77;refine(spec_ConfOk.calls k1 _ _ aG true _ B22x6_ ((Kd.R_reads' aC.out).2.1) dY.out).mono ?_;rintro e w' ⟨rfl,⟨nd,rfl⟩⟩))
    go_ret2
    exact⟨_,B18x17_,(Ar aC),(Ae0 HB)⟩
   obtain⟨iR,cv⟩:∃ y_:List Int,y_=(([]:List Int)):=⟨_,rfl⟩
   (first|with_reducible replace aE:=hq cv aE|rw [←cv] at aE|simp only [←cv] at aE)
   have ed:=am cv;clear cv;obtain⟨rfl,rfl⟩:=s2 aE;clear aE D z av aJ;obtain⟨d0,ek,dw⟩:=Kd.R_slice aC.out;subst dw
   go_wp2_with (first|(go_at_call 77;refine(spec_ConfOk.calls k1 _ _ aG false _ B22x6_ ((Kd.R_reads' aC.out).2.1) dY.out).mono ?_;rintro e w' ⟨rfl,⟨nd,rfl⟩⟩)|((with_reducible refine gate_dst (N:=34) rfl ?_);refine lL (Kd.int .i64) 3 34 ([]:List Int) [] (Reps.none _ _) ?_;intro iw gb bW hb;(first|rw [←ed.out] at bW|(simp only [Int.reduceToNat] at bW;rw [←ed.out] at bW));have fa:=am (Kd.R_lower (Kd.R_new' bW (Kd.R_lt (Ar aC))) (below_size (Ae0 HB)));replace aC:=am (Kd.R_elder' (Ar aC) (Kd.R_base bW) hb);replace HB:=hA HB hb;clear hb bW))
   go_ret2
   exact⟨_,B18x17_,(by (with_reducible repeat (first|apply Kd.R_alloc|apply Kd.R_drewN|apply Kd.R_drew));exact Kd.R_mono fa.out (fun _ hk=>trivial)),(Ae0 HB)⟩
  obtain⟨fw,fx⟩:=nE bu
  have fy:(aG.length == l.size)=false:=by first|simpa using bu|(simp at bu ⊢;omega)
  obtain⟨iS,cw⟩:∃ y_:List Int,y_=(([]:List Int)):=⟨_,rfl⟩
  (first|with_reducible replace av:=hq cw av|rw [←cw] at av|simp only [←cw] at av)
  have ee:=am cw;clear cw;obtain⟨rfl,rfl⟩:=s2 av;clear av D z;obtain⟨gF,gZ,fN⟩:=Kd.R_slice aC.out;subst fN
  go_wp2_with (first|((with_reducible refine gate_dst (N:=34) rfl ?_);refine lL (Kd.int .i64) 3 34 ([]:List Int) [] (Reps.none _ _) ?_;intro ix gg bX hb;(first|rw [←ee.out] at bX|(simp only [Int.reduceToNat] at bX;rw [←ee.out] at bX));have fb:=am (Kd.R_lower (Kd.R_new' bX (Kd.R_lt (Ar aC))) (below_size (Ae0 HB)));replace aC:=am (Kd.R_elder' (Ar aC) (Kd.R_base bX) hb);replace HB:=hA HB hb;clear hb bX))
  go_ret2
  exact⟨_,B18x17_,(by (with_reducible repeat (first|apply Kd.R_alloc|apply Kd.R_drewN|apply Kd.R_drew));exact Kd.R_mono fb.out (fun _ hk=>trivial)),(Ae0 HB)⟩
end
end Go.Proofs.YtofmbomonkbeaaaGreatDoor.QFnSnapsCut
