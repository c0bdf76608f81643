/- Functions that a law reaches, as functions of Lean, and the walks that show that the calls come to their answers. No condition. -/
import Derived.Test.YtofmbomonkbeaaaGreatDoorQFnSnapsCutx0
import Derived.Test.YtofmbomonkbeaaaGreatDoorQFnSnapsCutx6
import Derived.Test.YtofmbomonkbeaaaGreatDoorQFnSnapsCutx7
import Derived.Test.YtofmbomonkbeaaaGreatDoorQFnSnapsCutx8
import Derived.Test.YtofmbomonkbeaaaGreatDoorVFnSnapsCuthort2
import Derived.Test.YtofmbomonkbeaaaGreatDoorVFnSnapsCuthort
import Derived.Test.YtofmbomonkbeaaaGreatDoorVFnSnapsCuthort8
import Derived.Test.YtofmbomonkbeaaaGreatDoorVFnSnapsCuthort3
namespace Go.Proofs.YtofmbomonkbeaaaGreatDoor.QFnSnapsCut
open Go.RowKit Go.Proofs.YtofmbomonkbeaaaGreatDoorW.PrintWords Go.Proofs.YtofmbomonkbeaaaGreatDoorW.PrintLast Go.Proofs.YtofmbomonkbeaaaGreatDoorW.PrintMore Go.Proofs.YtofmbomonkbeaaaGreatDoor.Short
set_option linter.unusedVariables false
set_option linter.unusedSimpArgs false
set_option maxHeartbeats 8000000
set_option maxRecDepth 100000
variable {p:Prop}
theorem D9x0_ (h:p:=by exact⟨bc ao 0,((hbc HB bu).trans bu),((hbc HB bv).trans bv),((hbc HB bw).trans bw),((hbc HB bz).trans bz)⟩):p:=h
theorem D9x1_ (h:p:=by exact⟨B34x11_,B35x0_,(Ae1 HB (IsS106.gf aD)),(Ak0 HK)⟩):p:=h
theorem D9x2_ (h:p:=by exact⟨(blk_cell (blk_alloc ae.out _) 0).trans rfl,(blk_cell (blk_alloc ag.out _) 0).trans rfl,(blk_cell (blk_alloc ag.out _) 1).trans rfl,(blk_cell (blk_alloc ag.out _) 2).trans rfl⟩):p:=h
section
attribute [local go_sem] max2_int min2_int max_two min_two max_three min_three max_four min_four
theorem B32x4_ (h:p:=by have:=World.block_lt_of_cell? _ _ bu;first|rwa [add_block] at this|exact this):p:=h
theorem B32x5_ (h:p:=by have:=World.block_lt_of_cell? _ _ bv;first|rwa [add_block] at this|exact this):p:=h
theorem B32x6_ (h:p:=by have:=World.block_lt_of_cell? _ _ bw;first|rwa [add_block] at this|exact this):p:=h
theorem B32x7_ (h:p:=by have:=World.block_lt_of_cell? _ _ bz;first|rwa [add_block] at this|exact this):p:=h
theorem B32x11_ (h:p:=by repeat (first|exact(Kd.R_reads' az.out).2.2|(with_reducible refine Kd.C_alloc ?_ _)|(with_reducible refine Kd.C_drewN ?_ _)|(with_reducible refine Kd.C_drew ?_))):p:=h
theorem B32x13_ (h:p:=by (with_reducible repeat (first|apply Kd.R_alloc|apply Kd.R_drewN|apply Kd.R_drew));exact Kd.R_mono az.out (fun _ hk=>hk.2)):p:=h
theorem B32x14_ (h:p:=by (with_reducible repeat (first|apply Kd.R_alloc|apply Kd.R_drewN|apply Kd.R_drew));exact Kd.R_mono cd.out (fun _ hk=>hk.2)):p:=h
theorem B32x17_ (h:p:=by simp only [putAll,Act.put,List.setIfInBounds_toArray,List.set_cons_zero,List.set_cons_succ]):p:=h
def spec_DoActs.l0:Nat→List (S65)→Int→List (S59)→Option ((List (S59)) × Int)
 |0,_,_,_=>none
 |k+1,x1,x7,ft=>if x7<(x1.length:Int) then (if 0≤x7 then ((spec_DoAct.f k ft ((rd_T65 x1 x7).f0) ((rd_T65 x1 x7).f1) ((rd_T65 x1 x7).f2) ((rd_T65 x1 x7).f3)).bind fun e1=>(if e1.2=true then (spec_DoActs.l0 k x1 (wrap64 (x7+1)) e1.1) else (none))) else (none)) else (some (ft,(x1.length:Int)))
def spec_DoActs.f (k:Nat) (z:List (S59)) (l1:List (S65)):Option ((List (S59)) × Int):=(some (([]:List (S59)):List (S59))).bind fun dE=>(if dE.length+z.length<3518437208883 then (spec_DoActs.l0 k l1 0 (dE ++ z)) else (none))
def spec_DoActs.T5:Bool × List (List Nat × List Nat):=(true,[([],[]),([],[]),([],[]),([1,2],[1,2]),([3],[3]),([0,4],[0,4]),([5],[5]),([6],[6]),([6],[6]),([],[]),([9,7,5,0,1,2,3,4,5,6,7,9],[7,9]),([8,10,0,1,2,3,4,5,6,7,8,9,10],[8])])
def spec_DoActs.B5:List Nat:=[0,0,0,6,14,31,63,127,127,0,767,2047]
theorem spec_DoActs.tab5:rtab .any (opsOf Tryz.f12 5)=spec_DoActs.T5:=by kernel_rfl
theorem spec_DoActs.bits5:waitsOk spec_DoActs.T5.2 spec_DoActs.B5=true:=by kernel_rfl
theorem spec_DoActs.calls (k:Nat) (av:Option Addr) (ar:Nat) (z:List (S59)) (A1:Option Addr) (c1:Nat) (l1:List (S65)) (r1:List (S59)) (r2:Int) (w:World) (b7:Kd.C k59 w av z.length z) (b5:z.length≤ar) (b8:Kd.C k65 w A1 l1.length l1) (b6:l1.length≤c1) (h:spec_DoActs.f k z l1=some (r1,r2)) :
  Calls Tryz.prog 12 #[.agg #[.slice av z.length ar],.slice A1 l1.length c1] w fun e w'=>∃ a7:Value,e=.returned (.tuple #[.agg #[a7],.int .i64 r2])∧Kd.R k59 59 w' w.heap.size (fun _=>True) a7 r1∧Below w.heap.size w w':=by
 have fj:=Tryz.underlying26
 have jh:=Tryz.underlying65
 have ce:=am b7
 have cD:=am b5
 clear b7 b5
 have cF:=am b8
 have d5:=am b6
 clear b8 b6
 have HB:=am (Below.refl w.heap.size w)
 have J:=h
 clear h
 unfold spec_DoActs.f at J
 obtain⟨dE,dn⟩:∃ y_:List (S59),y_=(([]:List (S59))):=⟨_,rfl⟩
 (first|with_reducible replace J:=hq dn J|rw [←dn] at J|simp only [←dn] at J)
 have eW:=am dn
 clear dn
 obtain⟨fQ,D⟩:=ya J
 obtain⟨fu,dp⟩:∃ y_:List (S59),y_=(dE ++ z):=⟨_,rfl⟩
 (first|with_reducible replace D:=hq dp D|rw [←dp] at D|simp only [←dp] at D)
 have fV:=am dp
 clear dp
 replace D:=am D
 clear J
 go_enter Tryz.func12,Tryz.ntmps12
 go_wp2_with (first|((with_reducible refine gate_dst (N:=2) rfl ?_);refine bx (N:=2) (cs:=#[.slice av z.length ar]) (t:=26) ?_;intro cQ hg w4 hbox hb;have aj:=am hbox;have aI:=gA hg HB;replace HB:=hA HB hb;clear hb hbox hg)|((with_reducible refine gate_dst (N:=4) rfl ?_);refine bx (N:=4) (cs:=#[.slice none 0 0]) (t:=26) ?_;intro cw hg w5 hbox hb;have al:=am hbox;have aT:=gA hg HB;replace HB:=De1 HB aI hb;have eU:=nA hg aj;have eV:=mA hg aj;replace aj:=bA aj hb;clear hb hbox hg)|((with_reducible refine gate_dst (N:=10) rfl ?_);refine lL k59 59 10 ([]:List (S59)) [] (Reps.none _ _) ?_;intro gX w6 dd hb;(first|rw [←eW.out] at dd|(simp only [Int.reduceToNat] at dd;rw [←eW.out] at dd));have dG:=am (Kd.R_lower dd (below_size (Ae2 HB aI aT)));replace aj:=bA aj hb;replace al:=bA al hb;replace HB:=De2 HB aI aT hb;clear hb dd;have iC:=eU.out;have iZ:=eV.out;have jQ:w6.cell? ⟨cQ,0,none⟩=some (.slice av z.length ar):=bc aj 0;have kc:=blk_frozen aj.out 0)|((with_reducible refine gate_builtin (b:=.append) (xs:=#[.tmp 10,.tmp 12]) rfl ?_);at_builtin;refine Kd.R_append_rows k59 (w0:=w) w.heap.size rfl (.tmp 10) (.tmp 12) 24 59 (.agg #[(.string ⟨#[]⟩),(.string ⟨#[]⟩),(.int .i64 0)]) 40 rfl Tryz.underlying24 info59 rfl (by decide) (by omega) gX dE z _ _ _ (fun _=>True) (fun _=>False) rfl rfl ?aO ?aR (fun _ _ h=>h) (fun _ h=>h.elim) ?aF ?aB ?aS ?aL ?_;(case aR=>repeat (first|exact(Kd.C_below ce.out HB.out)|(with_reducible refine Kd.C_alloc ?_ _)|(with_reducible refine Kd.C_drewN ?_ _)|(with_reducible refine Kd.C_drew ?_)));(case aB=>exact(Ae2 HB aI aT));(case aF=>exact(fun _ _=>trivial));(case aO=>(with_reducible repeat (first|apply Kd.R_alloc|apply Kd.R_drewN|apply Kd.R_drew));exact dG.out);(case aS=>exact(below_size (Ae2 HB aI aT)));(case aL=>have:=fQ.out;omega);intro jm fs ho hb hg hat;rw [←fV.out] at ho;replace aj:=bg aj hg (Kd.R_ne dG.out aj.out (by decide));replace al:=bg al hg (Kd.R_ne dG.out al.out (by decide));replace HB:=am hb;have dH:=am ho;clear dG;clear ho hb hg hat;obtain⟨d1,em,ep⟩:=Kd.R_slice dH.out;subst ep)|((with_reducible refine gate_dst (N:=6) rfl ?_);refine bx (N:=6) (cs:=#[.slice none 0 0]) (t:=26) ?_;intro bF hg eJ hbox hb;replace dH:=rA dH hb;have ao:=am hbox;have bm:=gA hg HB;replace HB:=De2 HB aI aT hb;have cG:=nA hg aj;have ea:=mA hg aj;replace aj:=bA aj hb;have cH:=nA hg al;have eb:=mA hg al;replace al:=bA al hb;clear hb hbox hg;have ie:=ea.out;have iF:=cG.out;have ig:=eb.out;have iG:=cH.out;have jB:eJ.cell? ⟨bF,0,none⟩=some (.slice none 0 0):=bc ao 0;have jS:=blk_frozen ao.out 0))
 go_loopg [7] k (fun kq v7 w'=>∃ (l:Int) (aV:List (S59)) (dS:Value),v7=.int .i64 l∧Aside0 (spec_DoActs.l0 kq l1 l aV=some (r1,r2))∧Aside0 (kq≤k)∧Aside0 (Kd.R k59 59 w' w.heap.size (fun _=>True) dS aV)∧Aside0 (w'.heap[cQ]?=some (.cells #[(.slice av z.length ar)] 26 (0,0)))∧Aside0 (w'.heap[cw]?=some (.cells #[(.slice none 0 0)] 26 (0,0)))∧Aside0 (w'.heap[bF]?=some (.cells #[dS] 26 (0,0)))∧Aside0 (Below w.heap.size w w'))
 case atStart=>exact⟨(0),fu,(.slice d1 fu.length em),be_,D,⟨Nat.le_refl _⟩,⟨tfg dH.out ao.out (by decide)⟩,Cp1 aj cG,Cp1 al cH,Cp0 ao,Ce3 HB aI aT bm⟩
 case round=>
  clear D
  try clear c1
  try clear c3
  obtain⟨l,aV,dS,rfl,U,aK,az,aj,al,ao,HB⟩:=hrel
  cases gk with
  |zero=>exact absurd U.out (by simp [spec_DoActs.l0])
  |succ k1=>?_
  replace U:=U.out;simp only [spec_DoActs.l0] at U
  obtain⟨ej,Y⟩|⟨ej,Y⟩:=sd U
  ·obtain⟨e5,aa⟩:=yd Y;obtain⟨⟨dz,gU⟩,eM,Z⟩:=bsi aa;(try dsimp only at Z)
   by_cases bE:gU=true
   rotate_left
   ·replace bE:=Bool.eq_false_iff.mpr bE;subst bE;rw [if_neg (show ¬ (false=true) by decide)] at Z;exact absurd Z (by simp)
   subst bE;rw [if_pos rfl] at Z;replace Z:=am Z;clear U Y aa;obtain⟨bK,bN,gq⟩:=Kd.R_slice az.out;subst gq
   try go_wp2
   replace az:=eA az;replace aj:=dA aj;replace al:=dA al;replace ao:=dA ao;replace HB:=bdr HB
   have ew:0≤(l:Int):=dga
   have eB:l<(l1.length:Int):=dga
   obtain⟨aA,gj,df,dh,di,dj⟩:=at_T65 cF.out l ew eB;have bz:=dj;have bw:=di;have bv:=dh;have bu:=df;cases gj;replace df:=(hbc HB df).trans df;replace dh:=(hbc HB dh).trans dh;replace di:=(hbc HB di).trans di;replace dj:=(hbc HB dj).trans dj;replace ew:=eq_true ew;replace eB:=eq_true eB;refine st_ 12 (fun w'=>w'.cell? ⟨bF,0,none⟩=some (.slice bK aV.length bN)∧w'.cell? (aA.add ((l).toNat * 4))=some (.int .i64 ((rd_T65 l1 l).f0))∧w'.cell? ⟨(aA.add ((l).toNat * 4)).block,(aA.add ((l).toNat * 4)).off+1,none⟩=some (.string ((rd_T65 l1 l).f1))∧w'.cell? ⟨(aA.add ((l).toNat * 4)).block,(aA.add ((l).toNat * 4)).off+2,none⟩=some (.string ((rd_T65 l1 l).f2))∧w'.cell? ⟨(aA.add ((l).toNat * 4)).block,(aA.add ((l).toNat * 4)).off+3,none⟩=some (.string ((rd_T65 l1 l).f3))) [] spec_DoActs.tab5 spec_DoActs.bits5 D9x0_ (fun af M bh=>?_);generalize wr.drew=jx at az aj al ao HB df dh di dj af ⊢;refine pu_ 1 23 M ?_;refine pu_ 2 24 M ?_;refine pu_ 3 25 M ?_;refine ta_ 0 22 M bh af ?_;refine ta_ 4 26 M bh af ?_;refine join_ (σ:=Value × Nat) 2 #[true,true,true,true,true,true,true,true,true,true,false,false] (fun s_=>[(27,.tuple #[.agg #[s_.1],.bool true]),(8,.pointer (some ⟨s_.2,0,none⟩)),(21,.tuple #[.agg #[s_.1],.bool true]),(28,.agg #[s_.1]),(29,.bool true)]) (fun s_ w'=>(w'.cell? ⟨bF,0,none⟩=some (.slice bK aV.length bN)∧w'.cell? (aA.add ((l).toNat * 4))=some (.int .i64 ((rd_T65 l1 l).f0))∧w'.cell? ⟨(aA.add ((l).toNat * 4)).block,(aA.add ((l).toNat * 4)).off+1,none⟩=some (.string ((rd_T65 l1 l).f1))∧w'.cell? ⟨(aA.add ((l).toNat * 4)).block,(aA.add ((l).toNat * 4)).off+2,none⟩=some (.string ((rd_T65 l1 l).f2))∧w'.cell? ⟨(aA.add ((l).toNat * 4)).block,(aA.add ((l).toNat * 4)).off+3,none⟩=some (.string ((rd_T65 l1 l).f3)))∧(Kd.R k59 59 w' w.heap.size (fun k_=>some k_≠(.slice bK aV.length bN:Value).ownBlock) s_.1 dz)∧(Kd.R k59 59 w' w.heap.size (fun k_=>some k_≠(s_.1:Value).ownBlock) (.slice bK aV.length bN) aV)∧(w'.heap[cQ]?=some (.cells #[.slice av z.length ar] 26 (0,0)))∧(w'.heap[cw]?=some (.cells #[.slice none 0 0] 26 (0,0)))∧(w'.heap[bF]?=some (.cells #[.slice bK aV.length bN] 26 (0,0)))∧(w'.heap[s_.2]?=some (.cells #[.slice none 0 0] 26 (0,0)))∧(w.heap.size≤s_.2)∧(w.heap.size≤s_.2)∧(cQ≠s_.2)∧(s_.2≠cQ)∧(cw≠s_.2)∧(s_.2≠cw)∧(bF≠s_.2)∧(s_.2≠bF)∧(Below w.heap.size w w')) ?_ ?_;rotate_left
   ·intro db;refine two_ (i:=5) (j:=9) (Ni:=some 27) (Nj:=some 8) #[true,true,true,true,true,true,false,false,false,false,false,false] #[true,true,true,true,true,false,false,false,false,true,false,false] rfl rfl rfl rfl (two_of M.out gk_) (by decide) (by decide) (fun K hK=>?_) (fun K hK=>?_)
    ·skip
     refine goes_ Tryz.func35 gk_ rfl #[.agg #[.slice bK aV.length bN],.agg #[.int .i64 ((rd_T65 l1 l).f0),.string ((rd_T65 l1 l).f1),.string ((rd_T65 l1 l).f2),.string ((rd_T65 l1 l).f3)]] (by rfl) rfl rfl gm_ ?_;refine(spec_DoAct.calls k1 _ _ aV ((rd_T65 l1 l).f0) ((rd_T65 l1 l).f1) ((rd_T65 l1 l).f2) ((rd_T65 l1 l).f3) dz true _ B32x11_ ((Kd.R_reads' az.out).2.1) eM.out).mono ?_;rintro e g0 ⟨dT,rfl,bi,hb⟩;refine⟨_,rfl, ?_⟩;have cd:=am (Kd.R_lower (Kd.R_new' bi (Kd.R_lt (Ar az))) (below_size (Ae3 HB aI aT bm)));replace az:=am (Kd.R_elder' (Ar az) (Kd.R_base bi) hb);replace aj:=bA aj hb;replace al:=bA al hb;replace ao:=bA ao hb;replace HB:=De3 HB aI aT bm hb;refine hK.out _ _ D9x0_ (fun af=>nm_ ?_);clear hK K;refine pu_ 6 21 M ?_;refine pu_ 7 28 M ?_;refine pu_ 8 29 M ?_;refine on_ 9 (some 8) M (fun K hK=>?_);refine box_step ?hg (N:=8) ?hd (cs:=#[.slice none 0 0]) (t:=26) ?hr ?_;(case hd=>rfl);(case hg=>rfl);(case hr=>exact gs_);intro bq hg g1 hbox hb;replace az:=rA az hb;replace cd:=rA cd hb;have bl:=am hbox;have aC:=gA hg HB;have bL:=gA hg HB;replace HB:=De3 HB aI aT bm hb;have cg:=nA hg aj;have cq:=mA hg aj;replace aj:=bA aj hb;have ch:=nA hg al;have cr:=mA hg al;replace al:=bA al hb;have bZ:=nA hg ao;have ct:=mA hg ao;replace ao:=bA ao hb;clear hb hbox hg;refine hK.out _ _ D9x0_ (fun af=>nm_ ?_);clear hK K;exact norm_ B32x17_ (db (dT,bq) _ ⟨af,B32x14_,B32x13_,(Ab aj),(Ab al),(Ab ao),(Ab bl),aC.out,bL.out,cg.out,cq.out,ch.out,cr.out,bZ.out,ct.out,(Ae4 HB aI aT bm bL)⟩)
    refine box_step ?hg (N:=8) ?hd (cs:=#[.slice none 0 0]) (t:=26) ?hr ?_;(case hd=>rfl);(case hg=>rfl);(case hr=>exact gs_);intro bq hg g0 hbox hb;replace az:=rA az hb;have bl:=am hbox;have aC:=gA hg HB;have bL:=gA hg HB;replace HB:=De3 HB aI aT bm hb;have cg:=nA hg aj;have cq:=mA hg aj;replace aj:=bA aj hb;have ch:=nA hg al;have cr:=mA hg al;replace al:=bA al hb;have bZ:=nA hg ao;have ct:=mA hg ao;replace ao:=bA ao hb;clear hb hbox hg;refine hK.out _ _ D9x0_ (fun af=>nm_ ?_);clear hK K;refine on_ 5 (some 27) M (fun K hK=>?_);refine goes_ Tryz.func35 gk_ rfl #[.agg #[.slice bK aV.length bN],.agg #[.int .i64 ((rd_T65 l1 l).f0),.string ((rd_T65 l1 l).f1),.string ((rd_T65 l1 l).f2),.string ((rd_T65 l1 l).f3)]] (by rfl) rfl rfl gm_ ?_;refine(spec_DoAct.calls k1 _ _ aV ((rd_T65 l1 l).f0) ((rd_T65 l1 l).f1) ((rd_T65 l1 l).f2) ((rd_T65 l1 l).f3) dz true _ B32x11_ ((Kd.R_reads' az.out).2.1) eM.out).mono ?_;rintro e g1 ⟨dT,rfl,bi,hb⟩;refine⟨_,rfl, ?_⟩;have cd:=am (Kd.R_lower (Kd.R_new' bi (Kd.R_lt (Ar az))) (below_size (Ae4 HB aI aT bm bL)));replace az:=am (Kd.R_elder' (Ar az) (Kd.R_base bi) hb);replace aj:=bA aj hb;replace al:=bA al hb;replace ao:=bA ao hb;replace bl:=bA bl hb;replace HB:=De4 HB aI aT bm bL hb;refine hK.out _ _ D9x0_ (fun af=>nm_ ?_);clear hK K;refine pu_ 6 21 M ?_;refine pu_ 7 28 M ?_;refine pu_ 8 29 M ?_;exact norm_ B32x17_ (db (dT,bq) _ ⟨af,B32x14_,B32x13_,(Ab aj),(Ab al),(Ab ao),(Ab bl),aC.out,bL.out,cg.out,cq.out,ch.out,cr.out,bZ.out,ct.out,(Ae4 HB aI aT bm bL)⟩)
   rintro⟨dT,bq⟩ bI ⟨hS_,cS,dO,cU,cV,dP,cW,cX,cY,cZ,da,cT,fb,fc,fd,fe⟩;replace cd:=am cS;replace az:=am dO;replace aj:=am cU;replace al:=am cV;replace ao:=am dP;replace bl:=am cW;replace aC:=am cX;replace bL:=am cY;replace cg:=am cZ;replace cq:=am da;replace ch:=am cT;replace cr:=am fb;replace bZ:=am fc;replace ct:=am fd;replace HB:=am fe;clear cS dO cU cV dP cW cX cY cZ da cT fb fc fd fe
   have af:bI.cell? ⟨bF,0,none⟩=some (.slice bK aV.length bN)∧bI.cell? (aA.add ((l).toNat * 4))=some (.int .i64 ((rd_T65 l1 l).f0))∧bI.cell? ⟨(aA.add ((l).toNat * 4)).block,(aA.add ((l).toNat * 4)).off+1,none⟩=some (.string ((rd_T65 l1 l).f1))∧bI.cell? ⟨(aA.add ((l).toNat * 4)).block,(aA.add ((l).toNat * 4)).off+2,none⟩=some (.string ((rd_T65 l1 l).f2))∧bI.cell? ⟨(aA.add ((l).toNat * 4)).block,(aA.add ((l).toNat * 4)).off+3,none⟩=some (.string ((rd_T65 l1 l).f3)):=hS_
   obtain⟨d2,eo,dN⟩:=Kd.R_slice cd.out
   (first|subst dN|(injection dN with f1_ f2_ f3_;have f4_:=f1_.symm;have f5_:=f3_.symm;clear f1_ f2_ f3_;subst f4_;subst f5_))
   refine norm_ (a':=?_) ?_ ?_;rotate_left
   ·simp only [putAll,Act.put,List.setIfInBounds_toArray,List.set_cons_zero,List.set_cons_succ];rfl
   refine on_ 10 none M (fun K hK=>?_)
   have jd:bI.cell? ⟨bq,0,none⟩=some (.slice none 0 0):=bc bl 0
   have hS:=blk_frozen bl.out 0;obtain⟨i2,i3,i4,h2,h3,h4⟩:=o6_ cg ch bZ cq cr ct;refine skip_ (w1:=?_) (by rfl) rfl ?_ ?_;rotate_left
   ·go_simp;rfl
   refine hK.out _ _ ⟨((cell_far (p:=⟨bq,_,none⟩) bZ.out _).trans (af.1)),((cell_far (p:=⟨bq,_,none⟩) (by first|exact Nat.ne_of_lt (Nat.lt_of_lt_of_le B32x4_ aC.out)|(rw [add_block];exact Nat.ne_of_lt (Nat.lt_of_lt_of_le B32x4_ aC.out))|(show (Addr.add _ _).block≠_;rw [add_block];exact Nat.ne_of_lt (Nat.lt_of_lt_of_le B32x4_ aC.out))|(dsimp only;exact Nat.ne_of_lt (Nat.lt_of_lt_of_le B32x4_ aC.out))) _).trans (af.2.1)),((cell_far (p:=⟨bq,_,none⟩) (by first|exact Nat.ne_of_lt (Nat.lt_of_lt_of_le B32x5_ aC.out)|(rw [add_block];exact Nat.ne_of_lt (Nat.lt_of_lt_of_le B32x5_ aC.out))|(show (Addr.add _ _).block≠_;rw [add_block];exact Nat.ne_of_lt (Nat.lt_of_lt_of_le B32x5_ aC.out))|(dsimp only;exact Nat.ne_of_lt (Nat.lt_of_lt_of_le B32x5_ aC.out))) _).trans (af.2.2.1)),((cell_far (p:=⟨bq,_,none⟩) (by first|exact Nat.ne_of_lt (Nat.lt_of_lt_of_le B32x6_ aC.out)|(rw [add_block];exact Nat.ne_of_lt (Nat.lt_of_lt_of_le B32x6_ aC.out))|(show (Addr.add _ _).block≠_;rw [add_block];exact Nat.ne_of_lt (Nat.lt_of_lt_of_le B32x6_ aC.out))|(dsimp only;exact Nat.ne_of_lt (Nat.lt_of_lt_of_le B32x6_ aC.out))) _).trans (af.2.2.2.1)),((cell_far (p:=⟨bq,_,none⟩) (by first|exact Nat.ne_of_lt (Nat.lt_of_lt_of_le B32x7_ aC.out)|(rw [add_block];exact Nat.ne_of_lt (Nat.lt_of_lt_of_le B32x7_ aC.out))|(show (Addr.add _ _).block≠_;rw [add_block];exact Nat.ne_of_lt (Nat.lt_of_lt_of_le B32x7_ aC.out))|(dsimp only;exact Nat.ne_of_lt (Nat.lt_of_lt_of_le B32x7_ aC.out))) _).trans (af.2.2.2.2))⟩ (fun af=>?_);clear hK K;refine pu_ 11 9 M ?_;refine done_ (done_of M.out gk_) ?_;obtain⟨gB,gI,gC,gJ,gD,gN⟩:=o6_ cq cg cr ch ct bZ
   have jF:bI.cell? ⟨bq,0,none⟩=some (.slice none 0 0):=bc bl 0
   have jW:=blk_frozen bl.out 0;obtain⟨il,iL,gE,gO⟩:=o4_ ea cG eb cH
   have jG:bI.cell? ⟨bF,0,none⟩=some (.slice bK aV.length bN):=bc ao 0
   have jX:=blk_frozen ao.out 0
   try go_wp2
   go_roundg k1
   case measure=>have:=aK.out;omega
   case rel=>exact⟨(wrap64 (l+1)),dz,(.slice d2 dz.length eo),be_,Z,⟨(by have:=aK.out;omega)⟩,⟨tfh cd.out bl.out (by decide) ao.out (by decide)⟩,Cp2 aj cG cg,Cp2 al cH ch,Cp1 ao bZ,Ce4 HB aI aT bm bL⟩
  obtain⟨rfl,rfl⟩:=s2 Y;clear Y U;obtain⟨gF,gP,io,iN⟩:=o4_ ea cG eb cH
  have jH:wr.cell? ⟨bF,0,none⟩=some (dS):=bc ao 0
  have jY:=blk_frozen ao.out 0;obtain⟨fF,gb,gr⟩:=Kd.R_slice az.out;subst gr;obtain⟨ip,iO⟩:=o2_ eV eU
  have jI:wr.cell? ⟨cw,0,none⟩=some (.slice none 0 0):=bc al 0
  have jZ:=blk_frozen al.out 0
  go_wp2
  refine bodyPost_ret (results_ct rfl _ _ cw 26 #[.slice fF aV.length gb] (0,0) _ rfl (Ap0 al) Tryz.underlying26 rfl gk_) rfl ?_
  exact⟨_,(by first|rfl|(simp [errW_none,errW_some] <;> rfl)|(simp [*,errW_none,errW_some] <;> rfl)),(tfg az.out al.out (by decide)),(Ae3 HB aI aT bm)⟩
theorem B33x5_ (h:p:=by (with_reducible repeat (first|apply Kd.R_alloc|apply Kd.R_drewN|apply Kd.R_drew));exact Kd.R_mono (Kd.R_far (p:=⟨ay,2,none⟩) (Kd.R_far (p:=⟨ay,1,none⟩) (Kd.R_far (p:=⟨ay,0,none⟩) (Kd.R_mono aw.out (fun k_ hk=>(⟨hk,hk.2⟩:_∧k_≠ay))) (fun _ hk=>hk.2) (.string ((rd_T59 z l).f0))) (fun _ hk=>hk.2) (.string ((rd_T59 z l).f1))) (fun _ hk=>hk.2) (.int .i64 ((rd_T59 z l).f2))) (fun _ hk=>hk.1.2)):p:=h
theorem B33x16_ (h:p:=by have:=World.block_lt_of_cell? _ _ bG;first|rwa [add_block] at this|exact this):p:=h
theorem B33x17_ (h:p:=by exact(fun k_ hk=>Kd.freshB (g:=ay) (o:=.cells #[.string ((rd_T59 z l).f0),.string ((rd_T59 z l).f1),.int .i64 ((rd_T59 z l).f2)] 59 (0,0)) (Ab ag) k_ hk)):p:=h
theorem B33x21_ (h:p:=by have:=aK.out;have:=dF.out;first|omega|exact Nat.le_refl _):p:=h
theorem B33x22_ (h:p:=by have:=aK.out;have:=dF.out;have:=d6.out;omega):p:=h
theorem B33x23_ (h:p:=by have:=aK.out;first|omega|exact Nat.le_refl _):p:=h
mutual
def spec_LoseDisk.l0:Nat→List Int→Int→List (S59)→List (S59)→Option ((List (S59)) × Bool)
 |0,_,_,_,_=>none
 |k+1,x1,x7,a3,bB=>if x7<(a3.length:Int) then (if 0≤x7 then (if x7<(x1.length:Int) then (spec_LoseDisk.j1 k x1 x7 (rd x1 x7) a3 bB ((rd_T59 a3 x7).f0) ((rd_T59 a3 x7).f1) ((rd_T59 a3 x7).f2)) else (spec_LoseDisk.j1 k x1 x7 0 a3 bB ((rd_T59 a3 x7).f0) ((rd_T59 a3 x7).f1) ((rd_T59 a3 x7).f2))) else (none)) else (some (bB,true))
def spec_LoseDisk.j1:Nat→List Int→Int→Int→List (S59)→List (S59)→ByteArray→ByteArray→Int→Option ((List (S59)) × Bool)
 |0,_,_,_,_,_,_,_,_=>none
 |k+1,x1,x7,x9,a3,bB,dD,bV,cc=>if x9>(bV.size:Int) then (spec_LoseDisk.j2 k x1 x7 (bV.size:Int) a3 bB dD bV cc) else (spec_LoseDisk.j2 k x1 x7 x9 a3 bB dD bV cc)
def spec_LoseDisk.j2:Nat→List Int→Int→Int→List (S59)→List (S59)→ByteArray→ByteArray→Int→Option ((List (S59)) × Bool)
 |0,_,_,_,_,_,_,_,_=>none
 |k+1,x1,x7,x9,a3,bB,dD,bV,cc=>if x9<cc then (if 0≤cc then (if cc≤(bV.size:Int) then (if bB.length<3518437208883 then (spec_LoseDisk.l0 k x1 (wrap64 (x7+1)) a3 (bB ++ [(⟨dD,bV.extract 0 (cc:Int).toNat,cc⟩:S59)])) else (none)) else (none)) else (none)) else (if 0≤x9 then (if x9≤(bV.size:Int) then (if bB.length<3518437208883 then (spec_LoseDisk.l0 k x1 (wrap64 (x7+1)) a3 (bB ++ [(⟨dD,bV.extract 0 (x9:Int).toNat,x9⟩:S59)])) else (none)) else (none)) else (none))
end
def spec_LoseDisk.f (k:Nat) (z:List (S59)) (l1:List Int):Option ((List (S59)) × Bool):=(spec_DiskOk.f k z).bind fun eE=>(if eE=true then (spec_LoseDisk.l0 k l1 0 z ([]:List (S59))) else (none))
def spec_LoseDisk.T15:Bool × List (List Nat × List Nat):=(true,[([],[]),([0],[0]),([],[]),([2],[2]),([],[]),([4],[4]),([],[]),([5,6],[5,6]),([],[]),([3,7,8],[3,7,8]),([9],[9]),([1,10],[1,10]),([0,1,2,3,4,5,6,7,8,9,10,11],[]),([12,11,11,0,1,2,3,4,5,6,7,8,9,10,11],[11,12])])
def spec_LoseDisk.B15:List Nat:=[0,1,0,4,0,16,0,112,0,508,1020,2047,4095,8191]
theorem spec_LoseDisk.tab15:rtab .any (opsOf Tryz.f32 15)=spec_LoseDisk.T15:=by kernel_rfl
theorem spec_LoseDisk.bits15:waitsOk spec_LoseDisk.T15.2 spec_LoseDisk.B15=true:=by kernel_rfl
theorem spec_LoseDisk.calls (k:Nat) (av:Option Addr) (ar:Nat) (z:List (S59)) (A1:Option Addr) (c1:Nat) (l1:List Int) (r1:List (S59)) (r2:Bool) (w:World) (b7:Kd.C k59 w av z.length z) (b5:z.length≤ar) (b8:Kd.C (Kd.int .i64) w A1 l1.length l1) (b6:l1.length≤c1) (h:spec_LoseDisk.f k z l1=some (r1,r2)) :
  Calls Tryz.prog 32 #[.agg #[.slice av z.length ar],.slice A1 l1.length c1] w fun e w'=>∃ a7:Value,e=.returned (.tuple #[.agg #[a7],.bool r2])∧Kd.R k59 59 w' w.heap.size (fun _=>True) a7 r1∧Below w.heap.size w w':=by
 have fj:=Tryz.underlying26
 have jg:=Tryz.underlying59
 have ce:=am b7
 have cD:=am b5
 clear b7 b5
 have cF:=am b8
 have d5:=am b6
 clear b8 b6
 have HB:=am (Below.refl w.heap.size w)
 have J:=h
 clear h
 unfold spec_LoseDisk.f at J
 obtain⟨eE,A3,D⟩:=bsi J
 (try dsimp only at D)
 by_cases c4:eE=true
 rotate_left
 ·replace c4:=Bool.eq_false_iff.mpr c4;subst c4;rw [if_neg (show ¬ (false=true) by decide)] at D;exact absurd D (by simp)
 subst c4
 rw [if_pos rfl] at D
 replace D:=am D
 clear J
 go_enter Tryz.func32,Tryz.ntmps32
 go_wp2_with (first|((with_reducible refine gate_dst (N:=2) rfl ?_);refine bx (N:=2) (cs:=#[.slice av z.length ar]) (t:=26) ?_;intro cx hg w5 hbox hb;have ad:=am hbox;have aU:=gA hg HB;replace HB:=hA HB hb;clear hb hbox hg)|((with_reducible refine gate_dst (N:=4) rfl ?_);refine bx (N:=4) (cs:=#[.slice none 0 0]) (t:=26) ?_;intro cR hg w6 hbox hb;have ak:=am hbox;have aX:=gA hg HB;replace HB:=De1 HB aU hb;have ec:=nA hg ad;have ed:=mA hg ad;replace ad:=bA ad hb;clear hb hbox hg;have iB:=ec.out;have iY:=ed.out;have jP:w6.cell? ⟨cx,0,none⟩=some (.slice av z.length ar):=bc ad 0;have ka:=blk_frozen ad.out 0)|((with_reducible refine gate_callee (f:=22) rfl ?_);refine goesL_ (some 11) rfl rfl Tryz.func22 gk_ rfl #[.agg #[.slice av z.length ar]] rfl gm_ ?_;(with_reducible refine(spec_DiskOk.calls k _ _ z true _ ?z1 ?z2 A3.out).mono ?_);(case z1=>repeat (first|exact(Kd.C_below ce.out HB.out)|(with_reducible refine Kd.C_alloc ?_ _)|(with_reducible refine Kd.C_drewN ?_ _)|(with_reducible refine Kd.C_drew ?_)));(case z2=>exact cD.out);rintro e w9 ⟨rfl,hb⟩;refine⟨_,rfl, ?_⟩;replace ad:=bA ad hb;replace ak:=bA ak hb;replace HB:=De2 HB aU aX hb)|((with_reducible refine gate_dst (N:=6) rfl ?_);refine bx (N:=6) (cs:=#[.slice none 0 0]) (t:=26) ?_;intro bO hg fs hbox hb;have ae:=am hbox;have a8:=gA hg HB;replace HB:=De2 HB aU aX hb;have b0:=nA hg ad;have cI:=mA hg ad;replace ad:=bA ad hb;have cj:=nA hg ak;have dI:=mA hg ak;replace ak:=bA ak hb;clear hb hbox hg;have ib:=cI.out;have iD:=b0.out;have ic:=dI.out;have iE:=cj.out;have jA:fs.cell? ⟨bO,0,none⟩=some (.slice none 0 0):=bc ae 0;have jR:=blk_frozen ae.out 0))
 go_loopg [7] k (fun kq v7 w'=>∃ (l:Int) (bj:List (S59)) (a6:Value),v7=.int .i64 l∧Aside0 (spec_LoseDisk.l0 kq l1 l z bj=some (r1,r2))∧Aside0 (kq≤k)∧Aside0 (Kd.R k59 59 w' w.heap.size (fun _=>True) a6 bj)∧Aside0 (w'.heap[cx]?=some (.cells #[(.slice av z.length ar)] 26 (0,0)))∧Aside0 (w'.heap[cR]?=some (.cells #[(.slice none 0 0)] 26 (0,0)))∧Aside0 (w'.heap[bO]?=some (.cells #[a6] 26 (0,0)))∧Aside0 (Below w.heap.size w w'))
 case atStart=>exact⟨(0),(([]:List (S59))),(.slice none 0 0),be_,D,⟨Nat.le_refl _⟩,⟨gn_⟩,Cp1 ad b0,Cp1 ak cj,Cp0 ae,Ce3 HB aU aX a8⟩
 case round=>
  clear D
  try clear c1
  try clear c4
  obtain⟨l,bj,a6,rfl,U,aK,aw,ad,ak,ae,HB⟩:=hrel
  cases gk with
  |zero=>exact absurd U.out (by simp [spec_LoseDisk.l0])
  |succ k1=>?_
  replace U:=U.out;simp only [spec_LoseDisk.l0] at U
  obtain⟨ei,Y⟩|⟨ei,Y⟩:=sd U
  ·obtain⟨dJ,aa⟩:=yd Y;replace aa:=am aa;clear U Y;obtain⟨ih,iH,ii,iI⟩:=o4_ ec ed b0 cI
   have jC:wr.cell? ⟨cx,0,none⟩=some (.slice av z.length ar):=bc ad 0
   have jT:=blk_frozen ad.out 0
   have dx:0≤(l:Int):=dga
   have dy:l<(z.length:Int):=dga
   obtain⟨e0,gl,dk,dl,dm⟩:=at_T59 ce.out l dx dy;cases gl;replace dk:=(hbc HB dk).trans dk;replace dl:=(hbc HB dl).trans dl;replace dm:=(hbc HB dm).trans dm;replace dx:=eq_true dx;replace dy:=eq_true dy
   go_upto_if 30 with (first|((with_reducible refine gate_dst (N:=8) rfl ?_);refine bx (N:=8) (cs:=#[.string (⟨#[]⟩:ByteArray),.string (⟨#[]⟩:ByteArray),.int .i64 0]) (t:=59) ?_;intro ay hg jw hbox hb;replace aw:=am (Kd.R_below (Kd.R_elderB (Ar aw) ay (Nat.le_of_eq hg.symm)) hb);have ag:=am hbox;have d3:=gA hg HB;have bD:=gA hg HB;replace HB:=De3 HB aU aX a8 hb;have ci:=nA hg ad;have cJ:=mA hg ad;replace ad:=bA ad hb;have ck:=nA hg ak;have cK:=mA hg ak;replace ak:=bA ak hb;have bM:=nA hg ae;have cl:=mA hg ae;replace ae:=bA ae hb;clear hb hbox hg;have gx:=cJ.out;have gG:=ci.out;have gy:=cK.out;have gH:=ck.out;have ij:=cl.out;have iJ:=bM.out;obtain⟨dV,dW,dX,dY,dZ,d0⟩:=cf3 ag))
   (try simp only [Act.put,List.setIfInBounds_toArray,List.set_cons_zero,List.set_cons_succ])
   go_cut [9] (fun v9 wc=>∃ (kq:Nat) (cB:Int),v9=.int .i64 cB∧Aside0 (spec_LoseDisk.j1 kq l1 l cB z bj ((rd_T59 z l).f0) ((rd_T59 z l).f1) ((rd_T59 z l).f2)=some (r1,r2))∧Aside0 (kq≤k1)∧Aside0 (Kd.R k59 59 wc w.heap.size (fun k_=>k_≠ay) a6 bj)∧Hc wc cx #[(.slice (some e0) z.length ar)] 26∧Hc wc cR #[(.slice none 0 0)] 26∧Hc wc bO #[a6] 26∧Hc wc ay #[.string ((rd_T59 z l).f0),.string ((rd_T59 z l).f1),.int .i64 ((rd_T59 z l).f2)] 59∧Hb w wc)
   case first=>
    replace aa:=aa.out
    obtain⟨cN,Z⟩|⟨cN,Z⟩:=sd aa
    ·(first|rw [cN]|(simp only [i64_w,i32_w];rw [cN])|skip)
     replace Z:=am Z;clear aa
     have ex:0≤(l:Int):=dga
     have eC:l<(l1.length:Int):=dga
     obtain⟨ee,gm,bG⟩:=Kd.at_int cF.out l ex eC;cases gm
     have hn846_0:ee.block≠ay:=Nat.ne_of_lt (Nat.lt_of_lt_of_le B33x16_ d3.out)
     have hn846_1:ee.block≠ay:=Nat.ne_of_lt (Nat.lt_of_lt_of_le B33x16_ d3.out)
     have hn846_2:ee.block≠ay:=Nat.ne_of_lt (Nat.lt_of_lt_of_le B33x16_ d3.out)
     replace bG:=(hbc HB bG).trans bG;replace bG:=(cell_far (p:=⟨ay,0,none⟩) (by first|(rw [add_block];exact hn846_0)|(show (Addr.add _ _).block≠_;rw [add_block];exact hn846_0)|exact hn846_0) (.string ((rd_T59 z l).f0))).trans bG;replace bG:=(cell_far (p:=⟨ay,1,none⟩) (by first|(rw [add_block];exact hn846_1)|(show (Addr.add _ _).block≠_;rw [add_block];exact hn846_1)|exact hn846_1) (.string ((rd_T59 z l).f1))).trans bG;replace bG:=(cell_far (p:=⟨ay,2,none⟩) (by first|(rw [add_block];exact hn846_2)|(show (Addr.add _ _).block≠_;rw [add_block];exact hn846_2)|exact hn846_2) (.int .i64 ((rd_T59 z l).f2))).trans bG;clear hn846_0;clear hn846_1;clear hn846_2;replace ex:=eq_true ex;replace eC:=eq_true eC
     go_wp2
     go_meet
     case rel=>exact⟨_,(rd l1 l),be_,Z,⟨B33x23_⟩,⟨B33x5_⟩,Cp1 ad ci,Cp1 ak ck,Cp1 ae bM,Cp0 ag,Ce4 HB aU aX a8 bD⟩
    (first|rw [cN]|(simp only [i64_w,i32_w];rw [cN])|skip)
    replace Z:=am Z;clear aa
    go_wp2
    go_meet
    case rel=>exact⟨_,0,be_,Z,⟨B33x23_⟩,⟨B33x5_⟩,Cp1 ad ci,Cp1 ak ck,Cp1 ae bM,Cp0 ag,Ce4 HB aU aX a8 bD⟩
   clear aa
   try clear c1
   try clear c4
   try clear f3
   try clear ei
   try clear co
   try clear dJ
   try clear dk
   try clear dl
   try clear dm
   try clear dx
   try clear dy
   obtain⟨kq,cB,rfl,ac,dF,aw,ad,ak,ae,ag,HB⟩:=hcut
   cases kq with
   |zero=>exact absurd ac.out (by simp [spec_LoseDisk.j1])
   |succ gQ=>?_
   replace ac:=ac.out;simp only [spec_LoseDisk.j1] at ac;replace ac:=am ac;obtain⟨gB,gI,gC,gJ,gD,gN⟩:=o6_ cJ ci cK ck cl bM;obtain⟨dV,dW,dX,dY,dZ,d0⟩:=cf3 ag
   go_upto_if 39 with (fail)
   go_cut [9] (fun v9 wc=>∃ (kq:Nat) (bC:Int),v9=.int .i64 bC∧Aside0 (spec_LoseDisk.j2 kq l1 l bC z bj ((rd_T59 z l).f0) ((rd_T59 z l).f1) ((rd_T59 z l).f2)=some (r1,r2))∧Aside0 (kq≤gQ)∧Aside0 (Kd.R k59 59 wc w.heap.size (fun k_=>k_≠ay) a6 bj)∧Hc wc cx #[(.slice (some e0) z.length ar)] 26∧Hc wc cR #[(.slice none 0 0)] 26∧Hc wc bO #[a6] 26∧Hc wc ay #[.string ((rd_T59 z l).f0),.string ((rd_T59 z l).f1),.int .i64 ((rd_T59 z l).f2)] 59∧Hb w wc)
   case first=>
    replace ac:=ac.out
    obtain⟨cO,aG⟩|⟨cO,aG⟩:=sp ac
    ·have cP:decide ((((rd_T59 z l).f1).size:Int)<cB)=true:=decide_eq_true cO
     clear cO
     (first|rw [cP]|(simp only [i64_w,i32_w];rw [cP])|skip)
     replace aG:=am aG;clear ac;obtain⟨gE,gO,im,iM,gF,gP⟩:=o6_ cJ ci cK ck cl bM;obtain⟨dV,dW,dX,dY,dZ,d0⟩:=cf3 ag
     go_wp2
     go_meet
     case rel=>exact⟨_,((((rd_T59 z l).f1).size:Int)),be_,aG,⟨B33x21_⟩,Cr aw,Cb ad,Cb ak,Cb ae,Cb ag,Ce4 HB aU aX a8 bD⟩
    have cP:decide ((((rd_T59 z l).f1).size:Int)<cB)=false:=decide_eq_false cO
    clear cO
    (first|rw [cP]|(simp only [i64_w,i32_w];rw [cP])|skip)
    replace aG:=am aG;clear ac
    go_wp2
    go_meet
    case rel=>exact⟨_,cB,be_,aG,⟨B33x21_⟩,Cr aw,Cb ad,Cb ak,Cb ae,Cb ag,Ce4 HB aU aX a8 bD⟩
   clear ac
   try clear c1
   try clear c4
   try clear f3
   try clear ei
   try clear co
   try clear dJ
   try clear dk
   try clear dl
   try clear dm
   try clear dx
   try clear dy
   obtain⟨kq,bC,rfl,aM,d6,aw,ad,ak,ae,ag,HB⟩:=hcut
   cases kq with
   |zero=>exact absurd aM.out (by simp [spec_LoseDisk.j2])
   |succ fk=>?_
   replace aM:=aM.out;simp only [spec_LoseDisk.j2] at aM
   obtain⟨f7,aY⟩|⟨f7,aY⟩:=sd aM
   ·obtain⟨hE,hF,ba⟩:=ye aY;obtain⟨hG,hH,bp⟩:=ye ba;obtain⟨fR,a5⟩:=ya bp;obtain⟨fv,dq⟩:∃ y_:List (S59),y_=(bj ++ [(⟨((rd_T59 z l).f0),((rd_T59 z l).f1).extract 0 (((rd_T59 z l).f2):Int).toNat,((rd_T59 z l).f2)⟩:S59)]):=⟨_,rfl⟩
    (first|with_reducible replace a5:=hq dq a5|rw [←dq] at a5|simp only [←dq] at a5)
    have fW:=am dq;clear dq;replace a5:=am a5;clear aM aY ba bp;obtain⟨iq,iP,ir,iQ,iu,iR⟩:=o6_ cJ ci cK ck cl bM;obtain⟨dV,dW,dX,dY,dZ,d0⟩:=cf3 ag
    try go_wp2
    replace aw:=eA aw;replace ad:=dA ad;replace ak:=dA ak;replace ae:=dA ae;replace ag:=dA ag;replace HB:=bdr HB;refine st_ 14 (fun w'=>w'.cell? ⟨bO,0,none⟩=some (a6)∧w'.cell? ⟨ay,0,none⟩=some (.string ((rd_T59 z l).f0))∧w'.cell? ⟨ay,1,none⟩=some (.string ((rd_T59 z l).f1))∧w'.cell? ⟨ay,2,none⟩=some (.int .i64 ((rd_T59 z l).f2))) [13] spec_LoseDisk.tab15 spec_LoseDisk.bits15 ⟨bc ae 0,bc ag 0,bc ag 1,bc ag 2⟩ (fun af M bh=>?_);generalize wc.drew=jy at aw ad ak ae ag HB af ⊢;refine pu_ 0 49 M ?_;refine pu_ 2 51 M ?_;refine pu_ 4 53 M ?_;refine pu_ 6 55 M ?_;refine pu_ 8 57 M ?_;refine ta_ 1 50 M bh af ?_;refine ta_ 3 52 M bh af ?_;refine ta_ 5 54 M bh af ?_;refine pu_ 7 56 M ?_;refine pu_ 9 58 M ?_;refine on_ 10 (some 59) M (fun K hK=>?_);refine value_ (w1:=?_) (v:=?_) (by rfl) rfl ?_ ?_
    rotate_left 2
    ·go_simp
     constructor
     ·rfl
     rfl
    refine hK.out _ _ D9x2_ (fun af=>nm_ ?_);clear hK K;refine on_ 11 (some 60) M (fun K hK=>?_);refine Kd.R_append_step k59 (w0:=w) w.heap.size (by rfl) (.tmp 50) (.tmp 59) 24 59 (.agg #[(.string ⟨#[]⟩),(.string ⟨#[]⟩),(.int .i64 0)]) 40 rfl Tryz.underlying24 info59 rfl (by decide) (by omega) a6 bj (⟨((rd_T59 z l).f0),((rd_T59 z l).f1).extract 0 (((rd_T59 z l).f2):Int).toNat,((rd_T59 z l).f2)⟩:S59) [.string ((rd_T59 z l).f0),.string (((rd_T59 z l).f1).extract 0 (((rd_T59 z l).f2):Int).toNat),.int .i64 ((rd_T59 z l).f2)] (fun k_=>k_≠ay) (fun _=>False) rfl rfl ?aP (fun _ hk=>hk.elim) ?aF ?aO ?aB ?aS ?aL ?_
    (case aP=>exact k59_mkM _ _ _ (⟨((rd_T59 z l).f0),((rd_T59 z l).f1).extract 0 (((rd_T59 z l).f2):Int).toNat,((rd_T59 z l).f2)⟩:S59))
    (case aB=>exact(Ae4 HB aU aX a8 bD))
    (case aF=>exact B33x17_)
    (case aO=>exact(Ar aw))
    (case aS=>exact(below_size (Ae4 HB aU aX a8 bD)))
    (case aL=>have:=fR.out;omega)
    intro jn g2 ho hb hg hat;rw [←fW.out] at ho;replace ad:=bg ad hg (Kd.R_ne aw.out ad.out (by decide));replace ak:=bg ak hg (Kd.R_ne aw.out ak.out (by decide));replace ae:=bg ae hg (Kd.R_ne aw.out ae.out (by decide));replace ag:=bg ag hg (Kd.R_away aw.out (fun _ hk=>hk));replace HB:=am hb;have eQ:=am ho;clear aw;clear ho hb hg hat;obtain⟨fG,gg,e9⟩:=Kd.R_slice eQ.out
    (first|subst e9|(injection e9 with f1_ f2_ f3_;have f4_:=f1_.symm;have f5_:=f3_.symm;clear f1_ f2_ f3_;subst f4_;subst f5_))
    refine hK.out _ _ ⟨bc ae 0,bc ag 0,bc ag 1,bc ag 2⟩ (fun af=>nm_ ?_);clear hK K;refine pu_ 12 61 M ?_;refine last_ (i:=13) (N:=none) #[true,true,true,true,true,true,true,true,true,true,true,true,true,true] rfl rfl (one_of M.out gk_) (by decide) (fun K hK=>?_)
    have je:g2.cell? ⟨bO,0,none⟩=some (a6):=bc ae 0
    have hT:=blk_frozen ae.out 0;obtain⟨i5,i6,i7,h5,h6,h7⟩:=o6_ b0 cj cl cI dI bM;refine skip_ (w1:=?_) (by rfl) rfl ?_ ?_;rotate_left
    ·go_simp;rfl
    refine hK.out _ _ ?_;clear hK K;refine done_ (done_of M.out gk_) ?_
    try go_wp2
    go_roundg fk
    case measure=>have:=aK.out;have:=dF.out;have:=d6.out;omega
    case rel=>exact⟨(wrap64 (l+1)),fv,(.slice fG fv.length gg),be_,a5,⟨B33x22_⟩,⟨tfg eQ.out ae.out (by decide)⟩,Cp1 ad b0,Cp1 ak cj,Cp0 ae,Ce4 HB aU aX a8 bD⟩
   obtain⟨hJ,hL,bX⟩:=ye aY;obtain⟨hM,hN,bY⟩:=ye bX;obtain⟨fS,cf⟩:=ya bY;obtain⟨fw,dr⟩:∃ y_:List (S59),y_=(bj ++ [(⟨((rd_T59 z l).f0),((rd_T59 z l).f1).extract 0 (bC:Int).toNat,bC⟩:S59)]):=⟨_,rfl⟩
   (first|with_reducible replace cf:=hq dr cf|rw [←dr] at cf|simp only [←dr] at cf)
   have fX:=am dr;clear dr;replace cf:=am cf;clear aM aY bX bY;obtain⟨iv,iS,iw,iT,ix,iU⟩:=o6_ cJ ci cK ck cl bM;obtain⟨dV,dW,dX,dY,dZ,d0⟩:=cf3 ag
   try go_wp2
   replace aw:=eA aw;replace ad:=dA ad;replace ak:=dA ak;replace ae:=dA ae;replace ag:=dA ag;replace HB:=bdr HB;refine st_ 14 (fun w'=>w'.cell? ⟨bO,0,none⟩=some (a6)∧w'.cell? ⟨ay,0,none⟩=some (.string ((rd_T59 z l).f0))∧w'.cell? ⟨ay,1,none⟩=some (.string ((rd_T59 z l).f1))∧w'.cell? ⟨ay,2,none⟩=some (.int .i64 ((rd_T59 z l).f2))) [13] spec_LoseDisk.tab15 spec_LoseDisk.bits15 ⟨bc ae 0,bc ag 0,bc ag 1,bc ag 2⟩ (fun af M bh=>?_);generalize wc.drew=jz at aw ad ak ae ag HB af ⊢;refine pu_ 0 49 M ?_;refine pu_ 2 51 M ?_;refine pu_ 4 53 M ?_;refine pu_ 6 55 M ?_;refine pu_ 8 57 M ?_;refine ta_ 1 50 M bh af ?_;refine ta_ 3 52 M bh af ?_;refine ta_ 5 54 M bh af ?_;refine pu_ 7 56 M ?_;refine pu_ 9 58 M ?_;refine on_ 10 (some 59) M (fun K hK=>?_);refine value_ (w1:=?_) (v:=?_) (by rfl) rfl ?_ ?_
   rotate_left 2
   ·go_simp
    constructor
    ·rfl
    rfl
   refine hK.out _ _ D9x2_ (fun af=>nm_ ?_);clear hK K;refine on_ 11 (some 60) M (fun K hK=>?_);refine Kd.R_append_step k59 (w0:=w) w.heap.size (by rfl) (.tmp 50) (.tmp 59) 24 59 (.agg #[(.string ⟨#[]⟩),(.string ⟨#[]⟩),(.int .i64 0)]) 40 rfl Tryz.underlying24 info59 rfl (by decide) (by omega) a6 bj (⟨((rd_T59 z l).f0),((rd_T59 z l).f1).extract 0 (bC:Int).toNat,bC⟩:S59) [.string ((rd_T59 z l).f0),.string (((rd_T59 z l).f1).extract 0 (bC:Int).toNat),.int .i64 bC] (fun k_=>k_≠ay) (fun _=>False) rfl rfl ?aP (fun _ hk=>hk.elim) ?aF ?aO ?aB ?aS ?aL ?_
   (case aP=>exact k59_mkM _ _ _ (⟨((rd_T59 z l).f0),((rd_T59 z l).f1).extract 0 (bC:Int).toNat,bC⟩:S59))
   (case aB=>exact(Ae4 HB aU aX a8 bD))
   (case aF=>exact B33x17_)
   (case aO=>exact(Ar aw))
   (case aS=>exact(below_size (Ae4 HB aU aX a8 bD)))
   (case aL=>have:=fS.out;omega)
   intro jo g3 ho hb hg hat;rw [←fX.out] at ho;replace ad:=bg ad hg (Kd.R_ne aw.out ad.out (by decide));replace ak:=bg ak hg (Kd.R_ne aw.out ak.out (by decide));replace ae:=bg ae hg (Kd.R_ne aw.out ae.out (by decide));replace ag:=bg ag hg (Kd.R_away aw.out (fun _ hk=>hk));replace HB:=am hb;have eR:=am ho;clear aw;clear ho hb hg hat;obtain⟨fH,gh,fa⟩:=Kd.R_slice eR.out
   (first|subst fa|(injection fa with f1_ f2_ f3_;have f4_:=f1_.symm;have f5_:=f3_.symm;clear f1_ f2_ f3_;subst f4_;subst f5_))
   refine hK.out _ _ ⟨bc ae 0,bc ag 0,bc ag 1,bc ag 2⟩ (fun af=>nm_ ?_);clear hK K;refine pu_ 12 61 M ?_;refine last_ (i:=13) (N:=none) #[true,true,true,true,true,true,true,true,true,true,true,true,true,true] rfl rfl (one_of M.out gk_) (by decide) (fun K hK=>?_)
   have jf:g3.cell? ⟨bO,0,none⟩=some (a6):=bc ae 0
   have hU:=blk_frozen ae.out 0;obtain⟨i9,ja,jb,h8,h9,ia⟩:=o6_ b0 cj cl cI dI bM;refine skip_ (w1:=?_) (by rfl) rfl ?_ ?_;rotate_left
   ·go_simp;rfl
   refine hK.out _ _ ?_;clear hK K;refine done_ (done_of M.out gk_) ?_
   try go_wp2
   go_roundg fk
   case measure=>have:=aK.out;have:=dF.out;have:=d6.out;omega
   case rel=>exact⟨(wrap64 (l+1)),fw,(.slice fH fw.length gh),be_,cf,⟨B33x22_⟩,⟨tfg eR.out ae.out (by decide)⟩,Cp1 ad b0,Cp1 ak cj,Cp0 ae,Ce4 HB aU aX a8 bD⟩
  obtain⟨rfl,rfl⟩:=s2 Y;clear Y U;obtain⟨iy,iV,iz,iW⟩:=o4_ ec ed b0 cI
  have jM:wr.cell? ⟨cx,0,none⟩=some (.slice av z.length ar):=bc ad 0
  have j7:=blk_frozen ad.out 0;obtain⟨iA,iX⟩:=o2_ dI cj
  have jN:wr.cell? ⟨bO,0,none⟩=some (a6):=bc ae 0
  have j8:=blk_frozen ae.out 0;obtain⟨fI,gi,gs⟩:=Kd.R_slice aw.out;subst gs
  have jO:wr.cell? ⟨cR,0,none⟩=some (.slice none 0 0):=bc ak 0
  have j9:=blk_frozen ak.out 0
  go_wp2
  refine bodyPost_ret (results_ct rfl _ _ cR 26 #[.slice fI bj.length gi] (0,0) _ rfl (Ap0 ak) Tryz.underlying26 rfl gk_) rfl ?_
  exact⟨_,(by first|rfl|(simp [errW_none,errW_some] <;> rfl)|(simp [*,errW_none,errW_some] <;> rfl)),(tfg aw.out ak.out (by decide)),(Ae3 HB aU aX a8)⟩
theorem B34x5_ (h:p:=by first|rfl|(simp [errW_none,errW_some] <;> rfl)|(simp only [←cz];first|rfl|(simp [errW_none,errW_some] <;> rfl))|(simp [*,errW_none,errW_some] <;> rfl)):p:=h
theorem B34x6_ (h:p:=by (try simp only [List.map_toArray,List.map_cons,List.map_nil]);first|done|(simp only [cz];rfl)|rfl|(simp only [List.length_drop,List.length_take];rfl)):p:=h
theorem B34x11_ (h:p:=by first|rfl|(simp [errW_none,errW_some] <;> rfl)|(simp [*,errW_none,errW_some] <;> rfl)):p:=h
def spec_CutActs.f (k:Nat) (z:List (S59)) (l1:List (S65)) (a2:Int) (l3:List Int):Option ((List (S59)) × Bool):=(spec_l01In.f a2 0 (l1.length:Int)).bind fun eF=>(if eF=true then (if 0≤a2 then (if a2≤(l1.length:Int) then ((spec_DoActs.f k z (l1.take (a2:Int).toNat)).bind fun e2=>(if e2.2<a2 then (none) else ((spec_LoseDisk.f k e2.1 l3).bind fun e3=>(some (e3.1,e3.2))))) else (none)) else (none)) else (none))
def spec_CutActs.T3:Bool × List (List Nat × List Nat):=(true,[([],[]),([],[]),([],[]),([1,2],[1,2]),([0,3],[0,3]),([4],[4]),([5],[5]),([5],[5]),([],[]),([8,6,4,0,1,2,3,4,5,6,8],[6,8]),([7,9,0,1,2,3,4,5,6,7,8,9],[7])])
def spec_CutActs.B3:List Nat:=[0,0,0,6,15,31,63,63,0,383,1023]
theorem spec_CutActs.tab3:rtab .any (opsOf Tryz.f9 3)=spec_CutActs.T3:=by kernel_rfl
theorem spec_CutActs.bits3:waitsOk spec_CutActs.T3.2 spec_CutActs.B3=true:=by kernel_rfl
theorem spec_CutActs.calls (k:Nat) (av:Option Addr) (ar:Nat) (z:List (S59)) (A1:Option Addr) (c1:Nat) (l1:List (S65)) (a2:Int) (A3:Option Addr) (c3:Nat) (l3:List Int) (r1:List (S59)) (r2:Bool) (w:World) (b7:Kd.C k59 w av z.length z) (b5:z.length≤ar) (b8:Kd.C k65 w A1 l1.length l1) (b6:l1.length≤c1) (fi:Kd.C (Kd.int .i64) w A3 l3.length l3) (fg:l3.length≤c3) (h:spec_CutActs.f k z l1 a2 l3=some (r1,r2)) :
  Calls Tryz.prog 9 #[.agg #[.slice av z.length ar],.slice A1 l1.length c1,.int .i64 a2,.slice A3 l3.length c3] w fun e w'=>∃ a7:Value,e=.returned (.tuple #[.agg #[a7],.bool r2])∧Kd.R k59 59 w' w.heap.size (fun _=>True) a7 r1∧Below w.heap.size w w':=by
 have fj:=Tryz.underlying26
 have ce:=am b7
 have cD:=am b5
 clear b7 b5
 have cF:=am b8
 have d5:=am b6
 clear b8 b6
 have fP:=am fi
 have fJ:=am fg
 clear fi fg
 have HB:=am (Below.refl w.heap.size w)
 have J:=h
 clear h
 unfold spec_CutActs.f at J
 obtain⟨eF,A5,D⟩:=bsi J
 (try dsimp only at D)
 by_cases c6:eF=true
 rotate_left
 ·replace c6:=Bool.eq_false_iff.mpr c6;subst c6;rw [if_neg (show ¬ (false=true) by decide)] at D;exact absurd D (by simp)
 subst c6
 rw [if_pos rfl] at D
 obtain⟨f8,f9,U⟩:=ye D
 obtain⟨ek,el,Y⟩:=ye U
 obtain⟨cC,ds⟩:∃ y_:List (S65),y_=(l1.take (a2:Int).toNat):=⟨_,rfl⟩
 (first|with_reducible replace Y:=hq ds Y|rw [←ds] at Y|simp only [←ds] at Y)
 have eX:=am ds
 clear ds
 obtain⟨⟨cp,dB⟩,A9,aa⟩:=bsi Y
 (try dsimp only at aa)
 obtain⟨eh,Z⟩|⟨eh,Z⟩:=sd aa
 ·exact absurd Z (by simp)
 ·obtain⟨⟨fo,gV⟩,fD,ac⟩:=bsi Z;(try dsimp only at ac);obtain⟨rfl,rfl⟩:=s2 ac;clear ac J D U Y aa Z;go_enter Tryz.func9,Tryz.ntmps9
  try go_wp2_with (first|((with_reducible refine gate_dst (N:=4) rfl ?_);refine bx (N:=4) (cs:=#[.slice av z.length ar]) (t:=26) ?_;intro b2 hg eJ hbox hb;have ap:=am hbox;have a4:=gA hg HB;replace HB:=hA HB hb;clear hb hbox hg)|((with_reducible refine gate_dst (N:=8) rfl ?_);refine bx (N:=8) (cs:=#[.slice none 0 0]) (t:=26) ?_;intro b3 hg bH hbox hb;have au:=am hbox;have a9:=gA hg HB;replace HB:=De1 HB a4 hb;have fT:=nA hg ap;have fU:=mA hg ap;replace ap:=bA ap hb;clear hb hbox hg)|((with_reducible refine gate_callee (f:=31) rfl ?_);refine goesL_ (some 15) rfl rfl Tryz.func31 gk_ rfl #[.int .i64 a2,.int .i64 0,.int .i64 (l1.length:Int)] rfl gm_ ?_;refine(spec_l01In.calls a2 0 (l1.length:Int) true _ A5.out).mono ?_;rintro e w' ⟨rfl,⟨nd,rfl⟩⟩;refine⟨_,rfl, ?_⟩;(try(rw [drewN_self bH];generalize hq_:World.drewN bH _=bH;have fl:Hc bH b2 #[.slice av z.length ar] 26:=⟨(by rw [←hq_];exact(Ab ap))⟩;have fm:Hc bH b3 #[.slice none 0 0] 26:=⟨(by rw [←hq_];exact(Ab au))⟩;have fn:Hb w bH:=⟨(by rw [←hq_];exact(Ae2 HB a4 a9))⟩;clear ap au HB hq_;have ap:=fl;have au:=fm;have HB:=fn;clear fl fm fn));have hcy853_0:bH.cell? ⟨b2,0,none⟩=some (.slice av z.length ar):=bc ap 0;have hcy854_0:bH.cell? ⟨b3,0,none⟩=some (.slice none 0 0):=bc au 0))
  replace ap:=dA ap;replace au:=dA au;replace HB:=bdr HB
  have ez:(a2:Int)≤((l1.length:Int):Int):=dga
  obtain⟨i015,hi015,_,hsz15,_⟩:=info_parts info65
  have hroom15:l1.length≤c1:=d5.out
  have hC15:Kd.C k65 _ A1 l1.length l1:=cF.out
  have hcut15:=cut_to (P:=Tryz.prog) 34 65 .i64 Tryz.underlying34 hi015 A1 l1.length c1 a2 (dga) ez hroom15;have et:=Kd.C_take (m:=(a2:Int).toNat) hC15 (by omega)
  have ev:cC.length=(a2:Int).toNat:=(by rw [eX.out,List.length_take];omega)
  rw [←eX.out] at et;rw [←ev] at hcut15;have d8:=am et;have eO:=am (show cC.length≤c1 from (by omega));clear et hC15 hroom15 hi015 hsz15;have KY15:=am ev;clear ev;replace ez:=eq_true ez;refine st_ 11 (fun w'=>w'.cell? ⟨b2,0,none⟩=some (.slice av z.length ar)) [] spec_CutActs.tab3 spec_CutActs.bits3 (bc ap 0) (fun af M bh=>?_);generalize bH.drew=jv at ap au HB d8 af ⊢;refine pu_ 1 20 M ?_;refine pu_ 2 21 M ?_;refine pu_ 3 22 M ?_;refine take_ (i:=0) (N:=some 19) (v:=?_) (a':=?_) #[true,true,true,true,false,false,false,false,false,false,false] rfl rfl (take_ofW M.out bh.out gk_) (fun _ _ _ h=>h) (Or.inl ⟨(by rfl), ?_⟩) af ?_ ?_;rotate_left
  ·intro w' s0;go_simp;with_reducible rfl
  rotate_left
  ·simp only [Act.put,List.setIfInBounds_toArray,List.set_cons_zero,List.set_cons_succ,i64_w,i32_w];rfl
  refine join_ (σ:=Value × Nat) 2 #[true,true,true,true,true,true,true,true,true,false,false] (fun s_=>[(23,.tuple #[.agg #[s_.1],.int .i64 dB]),(10,.pointer (some ⟨s_.2,0,none⟩)),(18,.tuple #[.agg #[s_.1],.int .i64 dB]),(24,.agg #[s_.1]),(25,.int .i64 dB)]) (fun s_ w'=>(w'.cell? ⟨b2,0,none⟩=some (.slice av z.length ar))∧(Kd.R k59 59 w' w.heap.size (fun _=>True) s_.1 cp)∧(w'.heap[b2]?=some (.cells #[.slice av z.length ar] 26 (0,0)))∧(w'.heap[b3]?=some (.cells #[.slice none 0 0] 26 (0,0)))∧(w'.heap[s_.2]?=some (.cells #[.slice none 0 0] 26 (0,0)))∧(w.heap.size≤s_.2)∧(w.heap.size≤s_.2)∧(b2≠s_.2)∧(s_.2≠b2)∧(b3≠s_.2)∧(s_.2≠b3)∧(Below w.heap.size w w')) ?_ ?_;rotate_left
  ·intro db;refine two_ (i:=4) (j:=8) (Ni:=some 23) (Nj:=some 10) #[true,true,true,true,true,false,false,false,false,false,false] #[true,true,true,true,false,false,false,false,true,false,false] rfl rfl rfl rfl (two_of M.out gk_) (by decide) (by decide) (fun K hK=>?_) (fun K hK=>?_)
   ·skip
    refine goes_ Tryz.func12 gk_ rfl #[.agg #[.slice av z.length ar],.slice A1 cC.length c1] (by rfl) rfl rfl gm_ ?_;refine(spec_DoActs.calls k _ _ z _ _ cC cp dB _ (tc (Kd.C_below ce.out HB.out)) cD.out (tc (Kd.C_below d8.out HB.out)) eO.out A9.out).mono ?_;rintro e gY ⟨dU,rfl,bi,hb⟩;refine⟨_,rfl, ?_⟩;have be:=am (Kd.R_lower bi (below_size (Ae2 HB a4 a9)));replace ap:=bA ap hb;replace au:=bA au hb;replace HB:=De2 HB a4 a9 hb;refine hK.out _ _ (bc ap 0) (fun af=>nm_ ?_);clear hK K;refine pu_ 5 18 M ?_;refine pu_ 6 24 M ?_;refine pu_ 7 25 M ?_;refine on_ 8 (some 10) M (fun K hK=>?_);refine box_step ?hg (N:=10) ?hd (cs:=#[.slice none 0 0]) (t:=26) ?hr ?_;(case hd=>rfl);(case hg=>rfl);(case hr=>exact gs_);intro b4 hg gZ hbox hb;replace be:=rA be hb;have aW:=am hbox;have d4:=gA hg HB;have bd:=gA hg HB;replace HB:=De2 HB a4 a9 hb;have cm:=nA hg ap;have cu:=mA hg ap;replace ap:=bA ap hb;have cn:=nA hg au;have cv:=mA hg au;replace au:=bA au hb;clear hb hbox hg;refine hK.out _ _ (bc ap 0) (fun af=>nm_ ?_);clear hK K;exact norm_ B32x17_ (db (dU,b4) _ ⟨af,(Ar be),(Ab ap),(Ab au),(Ab aW),d4.out,bd.out,cm.out,cu.out,cn.out,cv.out,(Ae3 HB a4 a9 bd)⟩)
   ·skip
    refine box_step ?hg (N:=10) ?hd (cs:=#[.slice none 0 0]) (t:=26) ?hr ?_;(case hd=>rfl);(case hg=>rfl);(case hr=>exact gs_);intro b4 hg gY hbox hb;have aW:=am hbox;have d4:=gA hg HB;have bd:=gA hg HB;replace HB:=De2 HB a4 a9 hb;have cm:=nA hg ap;have cu:=mA hg ap;replace ap:=bA ap hb;have cn:=nA hg au;have cv:=mA hg au;replace au:=bA au hb;clear hb hbox hg;refine hK.out _ _ (bc ap 0) (fun af=>nm_ ?_);clear hK K;refine on_ 4 (some 23) M (fun K hK=>?_);refine goes_ Tryz.func12 gk_ rfl #[.agg #[.slice av z.length ar],.slice A1 cC.length c1] (by rfl) rfl rfl gm_ ?_;refine(spec_DoActs.calls k _ _ z _ _ cC cp dB _ (tc (Kd.C_below ce.out HB.out)) cD.out (tc (Kd.C_below d8.out HB.out)) eO.out A9.out).mono ?_;rintro e gZ ⟨dU,rfl,bi,hb⟩;refine⟨_,rfl, ?_⟩;have be:=am (Kd.R_lower bi (below_size (Ae3 HB a4 a9 bd)));replace ap:=bA ap hb;replace au:=bA au hb;replace aW:=bA aW hb;replace HB:=De3 HB a4 a9 bd hb;refine hK.out _ _ (bc ap 0) (fun af=>nm_ ?_);clear hK K;refine pu_ 5 18 M ?_;refine pu_ 6 24 M ?_;refine pu_ 7 25 M ?_;exact norm_ B32x17_ (db (dU,b4) _ ⟨af,(Ar be),(Ab ap),(Ab au),(Ab aW),d4.out,bd.out,cm.out,cu.out,cn.out,cv.out,(Ae3 HB a4 a9 bd)⟩)
  rintro⟨dU,b4⟩ eK ⟨hS_,cS,dO,cU,cV,dP,cW,cX,cY,cZ,da,cT⟩;replace be:=am cS;replace au:=am cU;replace aW:=am cV;replace bd:=am cW;replace cm:=am cX;replace cu:=am cY;replace cn:=am cZ;replace cv:=am da;replace HB:=am cT;clear cS dO cU cV dP cW cX cY cZ da cT
  have af:eK.cell? ⟨b2,0,none⟩=some (.slice av z.length ar):=hS_
  obtain⟨eN,en,e8⟩:=Kd.R_slice be.out
  (first|subst e8|(injection e8 with f1_ f2_ f3_;have f4_:=f1_.symm;have f5_:=f3_.symm;clear f1_ f2_ f3_;subst f4_;subst f5_))
  refine norm_ (a':=?_) ?_ ?_;rotate_left
  ·simp only [putAll,Act.put,List.setIfInBounds_toArray,List.set_cons_zero,List.set_cons_succ];rfl
  refine on_ 9 none M (fun K hK=>?_)
  have jc:eK.cell? ⟨b4,0,none⟩=some (.slice none 0 0):=bc aW 0
  have hR:=blk_frozen aW.out 0;obtain⟨i0,i1,h0,h1⟩:=o4_ cm cn cu cv;refine skip_ (w1:=?_) (by rfl) rfl ?_ ?_;rotate_left
  ·go_simp;rfl
  refine hK.out _ _ (((cell_far (p:=⟨b4,_,none⟩) cm.out _).trans (af))) (fun af=>?_);clear hK K;refine pu_ 10 11 M ?_;refine done_ (done_of M.out gk_) ?_;obtain⟨gx,gG,gy,gH⟩:=o4_ cu cm cv cn
  have jD:eK.cell? ⟨b4,0,none⟩=some (.slice none 0 0):=bc aW 0
  have jU:=blk_frozen aW.out 0
  try go_wp2_with (first|((with_reducible refine gate_callee (f:=32) rfl ?_);refine goesL_ (some 32) rfl rfl Tryz.func32 gk_ rfl #[.agg #[.slice eN cp.length en],.slice A3 l3.length c3] rfl gm_ ?_;(with_reducible refine(spec_LoseDisk.calls k _ _ cp _ _ l3 fo gV _ ?z1 ?z2 ?z3 ?z4 fD.out).mono ?_);(case z1=>refine(Kd.R_reads' (e:=59) (base:=w.heap.size) (ok:=fun k_=>True) (n:=cp.length) (c:=en) ?_).2.2;exact(tfg be.out aW.out (by decide)));(case z2=>exact(Kd.R_reads' be.out).2.1);(case z3=>exact Kd.C_below fP.out (Ae3 HB a4 a9 bd));(case z4=>exact fJ.out);rintro e bI ⟨jp,rfl,bi,hb⟩;refine⟨_,rfl, ?_⟩;have eS:=am (Kd.R_lower (Kd.R_new' bi (Kd.R_lt (tfg be.out aW.out (by decide)))) (below_size (Ae3 HB a4 a9 bd)));replace be:=am (Kd.R_elder' (tfg be.out aW.out (by decide)) (Kd.R_base bi) hb);replace au:=am (blk_below (g:=b3) (o:=.cells #[.slice none 0 0] 26 (0,0)) (Ap1 au cn) hb);replace aW:=am (blk_below (g:=b4) (o:=.cells #[.slice eN cp.length en] 26 (0,0)) (Ap0 aW) hb);replace HB:=De3 HB a4 a9 bd hb;obtain⟨d2,eo,dN⟩:=Kd.R_slice eS.out;subst dN;have ik:=fU.out;have iK:=fT.out;have jE:bI.cell? ⟨b3,0,none⟩=some (.slice none 0 0):=bc au 0;have jV:=blk_frozen au.out 0))
  refine bodyPost_ret (results_ct rfl _ _ b3 26 #[.slice d2 fo.length eo] (0,0) _ rfl (Ap0 au) Tryz.underlying26 rfl gk_) rfl ?_;exact⟨_,B34x11_,(tfg eS.out au.out (by decide)),(Ae3 HB a4 a9 bd)⟩

def laws_lefts.l0:Nat→List Int→List Int→Int→Option (List Int)
 |0,_,_,_=>none
 |k+1,x0,x3,x4=>if x4<6 then (if 0≤x4 then (if x4<(x0.length:Int) then (if x3.length<17592186044416 then (laws_lefts.l0 k x0 (x3 ++ [Int.tmod (rd x0 x4) 300]) (wrap64 (x4+1))) else (none)) else (none)) else (none)) else (some x3)
def laws_lefts.f (k:Nat) (l0:List Int):Option (List Int):=laws_lefts.l0 k l0 (([]:List Int)) 0
theorem laws_lefts.calls (k:Nat) (A0:Option Addr) (c0:Nat) (l0:List Int) (r:List Int) (w:World) (fh:Kd.C (Kd.int .i64) w A0 l0.length l0) (ff:l0.length≤c0) (h:laws_lefts.f k l0=some r) :
  Calls Tryz.prog 10 #[.slice A0 l0.length c0] w fun e w'=>∃ a7:Value,e=.returned (a7)∧Kd.R (Kd.int .i64) 3 w' w.heap.size (fun _=>True) a7 r∧Below w.heap.size w w':=by
 have fO:=am fh
 have hx:=am ff
 clear fh ff
 have HB:=am (Below.refl w.heap.size w)
 have J:=h
 clear h
 unfold laws_lefts.f at J
 obtain⟨g5,dt⟩:∃ y_:List Int,y_=(([]:List Int)):=⟨_,rfl⟩
 (first|with_reducible replace J:=hq dt J|rw [←dt] at J|simp only [←dt] at J)
 have eY:=am dt
 clear dt
 replace J:=am J
 go_enter Tryz.func10,Tryz.ntmps10
 go_wp2_with (first|((with_reducible refine gate_dst (N:=5) rfl ?_);refine lL (Kd.int .i64) 3 5 ([]:List Int) [] (Reps.none _ _) ?_;intro jq w2 br hb;(first|rw [←eY.out] at br|(simp only [Int.reduceToNat] at br;rw [←eY.out] at br));have fK:=am (Kd.R_lower br (below_size (Ae0 HB)));replace HB:=hA HB hb;clear hb br))
 go_loopg [3,4] k (fun kq v3 v4 w'=>∃ (dC:List Int) (aE:Int),v4=.int .i64 aE∧Aside0 (laws_lefts.l0 kq l0 dC aE=some r)∧Aside0 (kq≤k)∧Aside0 (Kd.R (Kd.int .i64) 3 w' w.heap.size (fun _=>True) v3 dC)∧Aside0 (Below w.heap.size w w'))
 case atStart=>exact⟨(g5),0,be_,J,⟨Nat.le_refl _⟩,Cr fK,Ce0 HB⟩
 case round=>
  clear J;obtain⟨dC,aE,rfl,D,aK,d7,HB⟩:=hrel
  cases gk with
  |zero=>exact absurd D.out (by simp [laws_lefts.l0])
  |succ k1=>?_
  replace D:=D.out;simp only [laws_lefts.l0] at D
  obtain⟨dL,U⟩|⟨dL,U⟩:=sd D
  ·obtain⟨dM,Y⟩:=yd U;obtain⟨b1,aa⟩:=yd Y;obtain⟨d9,Z⟩:=ya aa;obtain⟨g6,du⟩:∃ y_:List Int,y_=(dC ++ [Int.tmod (rd l0 aE) 300]):=⟨_,rfl⟩
   (first|with_reducible replace Z:=hq du Z|rw [←du] at Z|simp only [←du] at Z)
   have fY:=am du;clear du;replace Z:=am Z;clear D U Y aa
   have ey:0≤(aE:Int):=dga
   have eD:aE<(l0.length:Int):=dga
   obtain⟨hz,gn,eu⟩:=Kd.at_int fO.out aE ey eD;cases gn;replace eu:=(hbc HB eu).trans eu;replace ey:=eq_true ey;replace eD:=eq_true eD
   go_wp2_with (first|((with_reducible refine gate_builtin (b:=.append) (xs:=#[.tmp 10,.tmp 16]) rfl ?_);at_builtin;refine Kd.R_append (Kd.int .i64) (w0:=w) w.heap.size rfl (.tmp 10) (.tmp 16) 27 3 (.int .i64 0) 8 rfl Tryz.underlying27 info3 rfl (by decide) (by omega) u3 dC (Int.tmod (rd l0 aE) 300) [.int .i64 (Int.tmod (rd l0 aE) 300)] (fun _=>True) (fun _=>False) rfl rfl ?aP (fun _ hk=>hk.elim) ?aF ?aO ?aB ?aS ?aL ?_;(case aP=>exact rfl);(case aB=>exact(Ae0 HB));(case aF=>exact(fun _ _=>trivial));(case aO=>exact(Ar d7));(case aS=>exact(below_size (Ae0 HB)));(case aL=>have:=d9.out;omega);intro jr w8 ho hb hg hat;rw [←fY.out] at ho;replace HB:=am hb;have fL:=am ho;clear d7;clear ho hb hg hat))
   go_roundg k1
   case measure=>have:=aK.out;omega
   case rel=>exact⟨(g6),(wrap64 (aE+1)),be_,Z,⟨(by have:=aK.out;omega)⟩,Cr fL,Ce0 HB⟩
  ·obtain rfl:=Option.some.inj U;clear U D
   go_wp2
   go_ret;exact⟨_,B34x11_,(Ar d7),(Ae0 HB)⟩

def impl_Unsealed.f (k:Nat) (B:ByteArray):Option (ByteArray × Bool):=if (wrap64 ((B.size:Int) - 4))<0 then (some ((⟨#[]⟩:ByteArray),false)) else (if 0≤(wrap64 ((B.size:Int) - 4)) then (if (wrap64 ((B.size:Int) - 4))≤(B.size:Int) then ((impl_Sealed.f k (B.extract 0 ((wrap64 ((B.size:Int) - 4)):Int).toNat)).bind fun e4=>(if e4.2=true then (if e4.1.toList=B.toList then (some (B.extract 0 ((wrap64 ((B.size:Int) - 4)):Int).toNat,true)) else (some ((⟨#[]⟩:ByteArray),false))) else (some ((⟨#[]⟩:ByteArray),false)))) else (none)) else (none))
theorem impl_Unsealed.calls (k:Nat) (B:ByteArray) (r1:ByteArray) (r2:Bool) (w:World) (h:impl_Unsealed.f k B=some (r1,r2)) :
  Calls Tryz.prog 64 #[.string B] w fun e w'=>e=.returned (.tuple #[.string r1,.bool r2])∧Below w.heap.size w w':=by
 have HB:=am (Below.refl w.heap.size w)
 have J:=h
 clear h
 unfold impl_Unsealed.f at J
 obtain⟨e6,D⟩|⟨e6,D⟩:=sd J
 ·obtain⟨rfl,rfl⟩:=s2 D;clear D J;go_enter Tryz.func64,Tryz.ntmps64
  go_wp2
  go_ret2
  exact⟨B34x11_,(Ae0 HB)⟩
 obtain⟨bQ,cz⟩:∃ j_:Int,(wrap64 ((B.size:Int) - 4))=j_:=⟨_,rfl⟩
 (first|rw [cz] at D|simp only [cz] at D)
 (try rw [cz] at e6)
 have hY:(IntKind.i64.wrap ((B.size:Int) - 4))=bQ:=(i64_w _).trans cz
 obtain⟨dL,hO,U⟩:=ye D
 obtain⟨dM,hP,Y⟩:=ye U
 obtain⟨⟨eG,jk⟩,A6,aa⟩:=bsi Y
 (try dsimp only at aa)
 obtain⟨rfl,Z⟩|⟨rfl,Z⟩:=sb aa
 ·obtain⟨c8,ac⟩|⟨c8,ac⟩:=sp Z
  ·obtain⟨ek,el⟩:=yE c8;clear c8;have e7:=eq_true (dga:0≤(bQ));have eh:=eq_true (dga:(bQ)≤(B.size:Int));obtain⟨rfl,rfl⟩:=s2 ac;clear ac J D U Y aa Z;go_enter Tryz.func64,Tryz.ntmps64
   go_wp2_with (first|((with_reducible refine gate_callee (f:=57) rfl ?_);refine goesL_ (some 16) rfl rfl Tryz.func57 gk_ rfl #[.string (B.extract 0 ((bQ):Int).toNat)] rfl B34x6_ ?_;refine(impl_Sealed.calls k (B.extract 0 ((bQ):Int).toNat) eG true _ A6.out).mono ?_;rintro e ju ⟨rfl,hb⟩;refine⟨_,rfl, ?_⟩;replace HB:=hA HB hb))
   go_ret2
   exact⟨B34x5_,(Ae0 HB)⟩
  obtain⟨ek,el⟩:=nE c8;obtain⟨rfl,rfl⟩:=s2 ac;clear ac J D U Y aa Z;go_enter Tryz.func64,Tryz.ntmps64
  go_wp2_with (first|((with_reducible refine gate_callee (f:=57) rfl ?_);refine goesL_ (some 16) rfl rfl Tryz.func57 gk_ rfl #[.string (B.extract 0 ((bQ):Int).toNat)] rfl B34x6_ ?_;refine(impl_Sealed.calls k (B.extract 0 ((bQ):Int).toNat) eG true _ A6.out).mono ?_;rintro e eJ ⟨rfl,hb⟩;refine⟨_,rfl, ?_⟩;replace HB:=hA HB hb))
  go_ret2
  exact⟨B34x5_,(Ae0 HB)⟩
 obtain⟨rfl,rfl⟩:=s2 Z
 clear Z J D U Y aa
 go_enter Tryz.func64,Tryz.ntmps64
 go_wp2_with (first|((with_reducible refine gate_callee (f:=57) rfl ?_);refine goesL_ (some 16) rfl rfl Tryz.func57 gk_ rfl #[.string (B.extract 0 ((bQ):Int).toNat)] rfl B34x6_ ?_;refine(impl_Sealed.calls k (B.extract 0 ((bQ):Int).toNat) eG false _ A6.out).mono ?_;rintro e bH ⟨rfl,hb⟩;refine⟨_,rfl, ?_⟩;replace HB:=hA HB hb))
 go_ret2
 exact⟨B34x5_,(Ae0 HB)⟩
theorem B35x0_ (h:p:=by repeat (first|(with_reducible first|exact aD.out|apply IsS106.alloc|apply IsS106.drewN|apply IsS106.drew|apply IsS106.set_0|apply IsS106.set_1|apply IsS106.set_2)|exact aD.out)):p:=h
theorem B35x8_ (h:p:=by first|rfl|(simp;done)|(simp only [←dR,←dQ,←cy] <;> (first|rfl|simp))|(simp [*];done)):p:=h
theorem B35x10_ (h:p:=by repeat (first|exact(Kd.R_reads' bW.out).2.2|(with_reducible refine Kd.C_alloc ?_ _)|(with_reducible refine Kd.C_drewN ?_ _)|(with_reducible refine Kd.C_drew ?_))):p:=h
mutual
def impl_ReadVar.l0:Nat→ByteArray→Int→Int→Int→Option (Int × Int × Bool)
 |0,_,_,_,_=>none
 |k+1,x0,x1,x7,x8=>if x8<5 then (impl_ReadVar.j1 k x0 x1 x7 x8 (decide ((wrap64 (x1+x8))<(x0.size:Int)))) else (impl_ReadVar.j1 k x0 x1 x7 x8 false)
def impl_ReadVar.j1:Nat→ByteArray→Int→Int→Int→Bool→Option (Int × Int × Bool)
 |0,_,_,_,_,_=>none
 |k+1,x0,x1,x7,x8,g4=>if g4=true then (if 0≤(wrap64 (x1+x8)) then (if (wrap64 (x1+x8))<(x0.size:Int) then (if 0≤(wrap64 (7 * x8)) then (if (wrap64 (bt x0 (wrap64 (x1+x8))))>127 then (impl_ReadVar.l0 k x0 x1 (wrap64 (x7+(shl .i64 (Int.tmod (wrap64 (bt x0 (wrap64 (x1+x8)))) 128) (wrap64 (7 * x8))))) (wrap64 (x8+1))) else (if x8>0 then (if (wrap64 (bt x0 (wrap64 (x1+x8))))=0 then (some (0,0,false)) else (if (wrap64 (x7+(shl .i64 (Int.tmod (wrap64 (bt x0 (wrap64 (x1+x8)))) 128) (wrap64 (7 * x8)))))>1000000000 then (some (0,0,false)) else (some (wrap64 (x7+(shl .i64 (Int.tmod (wrap64 (bt x0 (wrap64 (x1+x8)))) 128) (wrap64 (7 * x8)))),wrap64 ((wrap64 (x1+x8))+1),true)))) else (if (wrap64 (x7+(shl .i64 (Int.tmod (wrap64 (bt x0 (wrap64 (x1+x8)))) 128) (wrap64 (7 * x8)))))>1000000000 then (some (0,0,false)) else (some (wrap64 (x7+(shl .i64 (Int.tmod (wrap64 (bt x0 (wrap64 (x1+x8)))) 128) (wrap64 (7 * x8)))),wrap64 ((wrap64 (x1+x8))+1),true))))) else (none)) else (none)) else (none)) else (some (0,0,false))
end
def impl_ReadVar.f (k:Nat) (B:ByteArray) (a1:Int):Option (Int × Int × Bool):=(impl_within.f a1 0 (B.size:Int)).bind fun fp=>(if fp=true then (impl_ReadVar.l0 k B a1 0 0) else (some (0,0,false)))
theorem impl_ReadVar.calls (k:Nat) (B:ByteArray) (a1:Int) (r1:Int) (r2:Int) (r3:Bool) (w:World) (h:impl_ReadVar.f k B a1=some (r1,r2,r3)) :
  Calls Tryz.prog 92 #[.string B,.int .i64 a1] w fun e w'=>e=.returned (.tuple #[.int .i64 r1,.int .i64 r2,.bool r3])∧Drawn0 w w':=by
 have J:=h
 clear h
 unfold impl_ReadVar.f at J
 obtain⟨fp,A3,D⟩:=bsi J
 (try dsimp only at D)
 obtain⟨rfl,U⟩|⟨rfl,U⟩:=sb D
 ·replace U:=am U;clear J D;go_enter Tryz.func92,Tryz.ntmps92
  go_wp2_with (first|((with_reducible refine gate_callee (f:=60) rfl ?_);refine goesL_ (some 13) rfl rfl Tryz.func60 gk_ rfl #[.int .i64 a1,.int .i64 0,.int .i64 (B.size:Int)] rfl gm_ ?_;refine(impl_within.calls a1 0 (B.size:Int) true _ A3.out).mono ?_;rintro e w' ⟨rfl,⟨nd,rfl⟩⟩;refine⟨_,rfl, ?_⟩))
  go_loopg [7,8] k (fun kq v7 v8 w'=>∃ (l:Int) (bk:Int),v7=.int .i64 l∧v8=.int .i64 bk∧Aside0 (impl_ReadVar.l0 kq B a1 l bk=some (r1,r2,r3))∧Aside0 (kq≤k)∧Drawn0 w w')
  case atStart=>exact⟨(0),0,be_,be_,U,⟨Nat.le_refl _⟩,gd_⟩
  case round=>
   clear U
   try clear c4
   obtain⟨l,bk,rfl,rfl,Y,aK,⟨m1,rfl⟩⟩:=hrel
   cases gk with
   |zero=>exact absurd Y.out (by simp [impl_ReadVar.l0])
   |succ k1=>?_
   replace Y:=Y.out;simp only [impl_ReadVar.l0] at Y;replace Y:=am Y
   go_upto_region 5 with (fail)
   go_cut [24] (fun gW wc=>∃ (kq:Nat) (eL:Bool),gW=.bool eL∧Aside0 (impl_ReadVar.j1 kq B a1 l bk eL=some (r1,r2,r3))∧Aside0 (kq≤k1)∧Drawn0 w wc)
   case first=>
    replace Y:=Y.out
    obtain⟨b1,aa⟩|⟨b1,aa⟩:=sd Y
    ·(first|rw [b1]|(simp only [i64_w,i32_w];rw [b1])|skip)
     replace aa:=am aa;clear Y
     go_wp2
     go_meet
     case rel=>exact⟨_,(decide ((wrap64 (a1+bk))<(B.size:Int))),be_,aa,⟨B33x23_⟩,gd_⟩
    ·(first|rw [b1]|(simp only [i64_w,i32_w];rw [b1])|skip)
     replace aa:=am aa;clear Y
     go_wp2
     go_meet
     case rel=>exact⟨_,false,be_,aa,⟨B33x23_⟩,gd_⟩
   case rest=>
    clear Y
    try clear c4
    obtain⟨kq,eL,rfl,Z,eP,⟨jj,rfl⟩⟩:=hcut
    cases kq with
    |zero=>exact absurd Z.out (by simp [impl_ReadVar.j1])
    |succ gR=>?_
    replace Z:=Z.out;simp only [impl_ReadVar.j1] at Z
    obtain⟨rfl,ac⟩|⟨rfl,ac⟩:=sb Z
    ·obtain⟨ax,dR⟩:∃ j_:Int,(wrap64 (a1+bk))=j_:=⟨_,rfl⟩
     (first|rw [dR] at ac|simp only [dR] at ac)
     have hZ:(IntKind.i64.wrap (a1+bk))=ax:=(i64_w _).trans dR
     obtain⟨e7,aG⟩:=yd ac;obtain⟨eh,aM⟩:=yd aG;obtain⟨b9,dQ⟩:∃ j_:Int,(wrap64 (7 * bk))=j_:=⟨_,rfl⟩
     (first|rw [dQ] at aM|simp only [dQ] at aM)
     have hV:(IntKind.i64.wrap (7 * bk))=b9:=(i64_w _).trans dQ
     obtain⟨hC,hD,aY⟩:=ye aM;obtain⟨bP,cy⟩:∃ j_:Int,(shl .i64 (Int.tmod (wrap64 (bt B (ax))) 128) (b9))=j_:=⟨_,rfl⟩
     (first|rw [cy] at aY|simp only [cy] at aY)
     have gv:(IntKind.i64.wrap ((Int.tmod (wrap64 (bt B (ax))) 128) * 2 ^ min (b9).toNat 64))=bP:=cy
     have gw:(b9)≤64→(IntKind.i64.wrap ((Int.tmod (wrap64 (bt B (ax))) 128) * 2 ^ (b9).toNat))=bP:=shl_small cy
     have hX:(wrap64 ((Int.tmod (wrap64 (bt B (ax))) 128) * 2 ^ min (b9).toNat 64))=bP:=(i64_w _).symm.trans gv
     have hW:(b9)≤64→(wrap64 ((Int.tmod (wrap64 (bt B (ax))) 128) * 2 ^ (b9).toNat))=bP:=fun h_=>(i64_w _).symm.trans (gw h_)
     obtain⟨co,ba⟩|⟨co,ba⟩:=sp aY
     ·have dJ:decide (127<(wrap64 (bt B (ax))))=true:=decide_eq_true co
      clear co;replace ba:=am ba;clear Z ac aG aM aY
      have aN:0≤((ax):Int):=dga
      have aQ:(ax)<(B.size:Int):=dga
      have de:=bt_at B (ax);replace aN:=eq_true aN;replace aQ:=eq_true aQ
      go_wp2
      go_roundg gR
      case measure=>have:=aK.out;have:=eP.out;omega
      case rel=>exact⟨(wrap64 (l+(bP))),(wrap64 (bk+1)),(by first|rfl|(simp;done)|(simp only [←cy] <;> (first|rfl|simp))|(simp [*];done)),be_,ba,⟨(by have:=aK.out;have:=eP.out;omega)⟩,gd_⟩
     ·have dJ:decide (127<(wrap64 (bt B (ax))))=false:=decide_eq_false co
      clear co
      obtain⟨cL,bp⟩|⟨cL,bp⟩:=sp ba
      ·have ej:decide (0<bk)=true:=decide_eq_true cL
       clear cL
       obtain⟨dK,a5⟩|⟨dK,a5⟩:=sp bp
       ·obtain⟨e5,f4⟩:=yE dK;clear dK;obtain⟨rfl,rfl,rfl⟩:=s3 a5;clear a5 Z ac aG aM aY ba bp
        have aN:0≤((ax):Int):=dga
        have aQ:(ax)<(B.size:Int):=dga
        have de:=bt_at B (ax);replace aN:=eq_true aN;replace aQ:=eq_true aQ
        go_wp2
        go_ret3
        exact⟨B35x8_,gd_⟩
       ·obtain⟨e5,f4⟩:=nE dK
        obtain⟨cM,bX⟩|⟨cM,bX⟩:=sp a5
        ·have f5:decide (1000000000<(wrap64 (l+(bP))))=true:=decide_eq_true cM
         clear cM;obtain⟨rfl,rfl,rfl⟩:=s3 bX;clear bX Z ac aG aM aY ba bp a5
         have aN:0≤((ax):Int):=dga
         have aQ:(ax)<(B.size:Int):=dga
         have de:=bt_at B (ax);replace aN:=eq_true aN;replace aQ:=eq_true aQ
         go_wp2
         go_ret3
         exact⟨B35x8_,gd_⟩
        ·have f5:decide (1000000000<(wrap64 (l+(bP))))=false:=decide_eq_false cM
         clear cM;obtain⟨rfl,rfl,rfl⟩:=s3 bX;clear bX Z ac aG aM aY ba bp a5
         have aN:0≤((ax):Int):=dga
         have aQ:(ax)<(B.size:Int):=dga
         have de:=bt_at B (ax);replace aN:=eq_true aN;replace aQ:=eq_true aQ
         go_wp2
         go_ret3
         exact⟨B35x8_,gd_⟩
      ·have ej:decide (0<bk)=false:=decide_eq_false cL
       clear cL
       obtain⟨bE,bY⟩|⟨bE,bY⟩:=sp bp
       ·have f6:decide (1000000000<(wrap64 (l+(bP))))=true:=decide_eq_true bE
        clear bE;obtain⟨rfl,rfl,rfl⟩:=s3 bY;clear bY Z ac aG aM aY ba bp
        have aN:0≤((ax):Int):=dga
        have aQ:(ax)<(B.size:Int):=dga
        have de:=bt_at B (ax);replace aN:=eq_true aN;replace aQ:=eq_true aQ
        go_wp2
        go_ret3
        exact⟨B35x8_,gd_⟩
       ·have f6:decide (1000000000<(wrap64 (l+(bP))))=false:=decide_eq_false bE
        clear bE;obtain⟨rfl,rfl,rfl⟩:=s3 bY;clear bY Z ac aG aM aY ba bp
        have aN:0≤((ax):Int):=dga
        have aQ:(ax)<(B.size:Int):=dga
        have de:=bt_at B (ax);replace aN:=eq_true aN;replace aQ:=eq_true aQ
        go_wp2
        go_ret3
        exact⟨B35x8_,gd_⟩
    ·obtain⟨rfl,rfl,rfl⟩:=s3 ac;clear ac Z
     go_wp2
     go_ret3
     exact⟨gr_,gd_⟩
 ·obtain⟨rfl,rfl,rfl⟩:=s3 U;clear U J D;go_enter Tryz.func92,Tryz.ntmps92
  go_wp2_with (first|((with_reducible refine gate_callee (f:=60) rfl ?_);refine goesL_ (some 13) rfl rfl Tryz.func60 gk_ rfl #[.int .i64 a1,.int .i64 0,.int .i64 (B.size:Int)] rfl gm_ ?_;refine(impl_within.calls a1 0 (B.size:Int) false _ A3.out).mono ?_;rintro e w' ⟨rfl,⟨nd,rfl⟩⟩;refine⟨_,rfl, ?_⟩))
  go_ret3
  exact⟨gr_,gd_⟩

/-- A state of type 106 at block g of W; what its slices lead to came in by w0. -/
def IsS106 (w0 W:World) (g:Nat) (f0:ByteArray) (f1:Int) (f2:Bool):Prop:=W.heap[g]?=some (.cells #[.string f0,.int .i64 f1,.bool f2] 106 (0,0))∧w0.heap.size≤g
theorem IsS106.grown {w0 W:World} {g:Nat} {f0:ByteArray} {f1:Int} {f2:Bool} {W1:World} {row:Option Nat} (h:IsS106 w0 W g f0 f1 f2) (hw:W.grownBy W1 row) (hne:some g≠row):IsS106 w0 W1 g f0 f1 f2:=by
 obtain⟨hb,hg⟩:=h
 exact⟨blk_grown hb hw hne,hg⟩
theorem IsS106.own_neN {w0 W:World} {g:Nat} {f0:ByteArray} {f1:Int} {f2:Bool} {α:Type} {d:Kd α} {e:Nat} {base:Nat} {ok:Nat→Prop} {v:Value} {xs:List α} (h:IsS106 w0 W g f0 f1 f2) (ho:Kd.N d e W base ok v xs) (ht:e≠106):some g≠v.ownBlock:=by
 obtain⟨hb,hg⟩:=h
 exact Kd.N_ne ho hb ht
theorem IsS106.fresh {w0 W:World} {g:Nat} {f0:ByteArray} {f1:Int} {f2:Bool} (h:IsS106 w0 W g f0 f1 f2):∀ k,W.heap.size≤k→k≠g:=by
 obtain⟨hb,hg⟩:=h
 exact Kd.freshB hb
theorem IsS106.kept {w0 W:World} {g:Nat} {f0:ByteArray} {f1:Int} {f2:Bool} {W1:World} {S:Nat→Prop} (h:IsS106 w0 W g f0 f1 f2) (hk:Kept W W1 S) (hne:¬ S g):IsS106 w0 W1 g f0 f1 f2:=by
 obtain⟨hb,hg⟩:=h
 exact⟨blk_kept hb hk hne,hg⟩
theorem IsS106.below {w0 W:World} {g:Nat} {f0:ByteArray} {f1:Int} {f2:Bool} {W1:World} (h:IsS106 w0 W g f0 f1 f2) (hw:Below W.heap.size W W1):IsS106 w0 W1 g f0 f1 f2:=h.grown (grown_of_below hw none) (by simp)
theorem IsS106.alloc {w0 W:World} {g:Nat} {f0:ByteArray} {f1:Int} {f2:Bool} (h:IsS106 w0 W g f0 f1 f2) (o:Obj):IsS106 w0 (W.alloc o) g f0 f1 f2:=h.below (below_alloc (Below.refl _ _) o)
theorem IsS106.drewN {w0 W:World} {g:Nat} {f0:ByteArray} {f1:Int} {f2:Bool} (h:IsS106 w0 W g f0 f1 f2) (m:Nat):IsS106 w0 (W.drewN m) g f0 f1 f2:=h
theorem IsS106.drew {w0 W:World} {g:Nat} {f0:ByteArray} {f1:Int} {f2:Bool} (h:IsS106 w0 W g f0 f1 f2):IsS106 w0 W.drew g f0 f1 f2:=h
theorem IsS106.at_ {w0 W:World} {g:Nat} {f0:ByteArray} {f1:Int} {f2:Bool} {w':World} {m:Nat} (hq:W.drewN m=w') (h:IsS106 w0 W g f0 f1 f2):IsS106 w0 w' g f0 f1 f2:=by subst hq;exact IsS106.drewN h m
theorem IsS106.apart {w0 W:World} {g:Nat} {f0:ByteArray} {f1:Int} {f2:Bool} {α:Type} {d:Kd α} {e:Nat} {base:Nat} {ok:Nat→Prop} {v:Value} {xs:List α} (h:IsS106 w0 W g f0 f1 f2) (ho:d.R e W base ok v xs) (ht:∀ q,q∈e :: d.E→q≠106):d.R e W base (fun k=>ok k∧k≠g) v xs:=by
 obtain⟨hb,hg⟩:=h
 exact Kd.R_types ho hb ht
theorem IsS106.own_ne {w0 W:World} {g:Nat} {f0:ByteArray} {f1:Int} {f2:Bool} {α:Type} {d:Kd α} {e:Nat} {base:Nat} {ok:Nat→Prop} {v:Value} {xs:List α} (h:IsS106 w0 W g f0 f1 f2) (ho:d.R e W base ok v xs) (ht:e≠106):some g≠v.ownBlock:=by
 obtain⟨hb,hg⟩:=h
 exact Kd.R_ne ho hb ht
theorem IsS106.apartQ {w0 W:World} {g:Nat} {f0:ByteArray} {f1:Int} {f2:Bool} {α:Type} {d:Kd α} {e:Nat} {base:Nat} {ok:Nat→Prop} {v:Value} {xs:List α} (h:IsS106 w0 W g f0 f1 f2) (ho:d.Q e W base ok v xs) (ht:∀ q,q∈e :: d.E→q≠106):d.Q e W base (fun k=>ok k∧k≠g) v xs:=by
 obtain⟨hb,hg⟩:=h
 exact Kd.Q_types ho hb ht
theorem IsS106.own_neQ {w0 W:World} {g:Nat} {f0:ByteArray} {f1:Int} {f2:Bool} {α:Type} {d:Kd α} {e:Nat} {base:Nat} {ok:Nat→Prop} {v:Value} {xs:List α} (h:IsS106 w0 W g f0 f1 f2) (ho:d.Q e W base ok v xs) (ht:e≠106):some g≠v.ownBlock:=by
 obtain⟨hb,hg⟩:=h
 exact Kd.Q_ne ho hb ht
theorem IsS106.apartS {w0 W:World} {g:Nat} {f0:ByteArray} {f1:Int} {f2:Bool} {α:Type} {d:Kd α} {e:Nat} {base:Nat} {ok:Nat→Prop} {v:Value} {xs:List α} (h:IsS106 w0 W g f0 f1 f2) (ho:d.S e W base ok v xs) (ht:∀ q,q∈e :: d.E→q≠106):d.S e W base (fun k=>ok k∧k≠g) v xs:=by
 obtain⟨hb,hg⟩:=h
 exact Kd.S_types ho hb ht
theorem IsS106.own_neS {w0 W:World} {g:Nat} {f0:ByteArray} {f1:Int} {f2:Bool} {α:Type} {d:Kd α} {e:Nat} {base:Nat} {ok:Nat→Prop} {v:Value} {xs:List α} (h:IsS106 w0 W g f0 f1 f2) (ho:d.S e W base ok v xs) (ht:e≠106):some g≠v.ownBlock:=by
 obtain⟨hb,hg⟩:=h
 exact Kd.S_ne ho hb ht
theorem IsS106.lt {w0 W:World} {g:Nat} {f0:ByteArray} {f1:Int} {f2:Bool} (h:IsS106 w0 W g f0 f1 f2):g<W.heap.size:=by
 obtain⟨hb,hg⟩:=h
 exact blk_lt hb
theorem IsS106.ge {w0 W:World} {g:Nat} {f0:ByteArray} {f1:Int} {f2:Bool} (h:IsS106 w0 W g f0 f1 f2):w0.heap.size≤g:=by
 obtain⟨hb,hg⟩:=h
 exact hg
theorem IsS106.gf {w0 W:World} {g:Nat} {f0:ByteArray} {f1:Int} {f2:Bool} (h:Aside0 (IsS106 w0 W g f0 f1 f2)):Aside0 (w0.heap.size≤g):=⟨h.out.ge⟩
theorem IsS106.ne_blk {w0 W:World} {g:Nat} {f0:ByteArray} {f1:Int} {f2:Bool} {a:Nat} {cs:Array Value} {t:TypeId} {fr:Nat × Nat} (h:IsS106 w0 W g f0 f1 f2) (hb2:W.heap[a]?=some (.cells cs t fr)) (ht:t≠106):g≠a:=by
 obtain⟨hb,hg⟩:=h
 rintro rfl
 rw [hb] at hb2
 injection hb2 with hb2
 injection hb2 with _ ht2
 exact ht ht2.symm
theorem IsS106.far {w0 W:World} {g:Nat} {f0:ByteArray} {f1:Int} {f2:Bool} {p:Addr} (h:IsS106 w0 W g f0 f1 f2) (hne:g≠p.block) (u:Value):IsS106 w0 (W.setCell p u) g f0 f1 f2:=by
 obtain⟨hb,hg⟩:=h
 exact⟨blk_far hb hne u,hg⟩
theorem cellS106_0 {W:World} {g:Nat} {f0:ByteArray} {f1:Int} {f2:Bool} (h:W.heap[g]?=some (.cells #[.string f0,.int .i64 f1,.bool f2] 106 (0,0))):W.cell? ⟨g,0,none⟩=some (.string f0):=(blk_cell h 0).trans rfl
theorem IsS106.set_0 {w0 W:World} {g:Nat} {f0:ByteArray} {f1:Int} {f2:Bool} (h:IsS106 w0 W g f0 f1 f2) (x:ByteArray):IsS106 w0 (W.setCell ⟨g,0,none⟩ (.string x)) g x f1 f2:=by
 obtain⟨hb,hg⟩:=h
 exact⟨(by simpa using blk_set hb 0 (.string x)),hg⟩
theorem cellS106_1 {W:World} {g:Nat} {f0:ByteArray} {f1:Int} {f2:Bool} (h:W.heap[g]?=some (.cells #[.string f0,.int .i64 f1,.bool f2] 106 (0,0))):W.cell? ⟨g,1,none⟩=some (.int .i64 f1):=(blk_cell h 1).trans rfl
theorem IsS106.set_1 {w0 W:World} {g:Nat} {f0:ByteArray} {f1:Int} {f2:Bool} (h:IsS106 w0 W g f0 f1 f2) (x:Int):IsS106 w0 (W.setCell ⟨g,1,none⟩ (.int .i64 x)) g f0 x f2:=by
 obtain⟨hb,hg⟩:=h
 exact⟨(by simpa using blk_set hb 1 (.int .i64 x)),hg⟩
theorem cellS106_2 {W:World} {g:Nat} {f0:ByteArray} {f1:Int} {f2:Bool} (h:W.heap[g]?=some (.cells #[.string f0,.int .i64 f1,.bool f2] 106 (0,0))):W.cell? ⟨g,2,none⟩=some (.bool f2):=(blk_cell h 2).trans rfl
theorem IsS106.set_2 {w0 W:World} {g:Nat} {f0:ByteArray} {f1:Int} {f2:Bool} (h:IsS106 w0 W g f0 f1 f2) (x:Bool):IsS106 w0 (W.setCell ⟨g,2,none⟩ (.bool x)) g f0 f1 x:=by
 obtain⟨hb,hg⟩:=h
 exact⟨(by simpa using blk_set hb 2 (.bool x)),hg⟩
theorem IsS106.new (w0 W:World) (f0:ByteArray) (f1:Int) (f2:Bool) (hB:Below w0.heap.size w0 W):IsS106 w0 (W.alloc (.cells #[.string f0,.int .i64 f1,.bool f2] 106)) W.heap.size f0 f1 f2:=⟨(by simpa using heap_alloc_new W _),hB.size⟩

def impl_scan_number.f (k:Nat) (ah:ByteArray) (ai:Int) (aH:Bool):Option (Int × ByteArray × Int × Bool):=(impl_ReadVar.f k ah ai).bind fun ef=>(if aH=true then (some (0,ah,ai,true)) else (if ef.2.2=true then (some (ef.1,ah,ef.2.1,aH)) else (some (0,ah,ai,true))))
theorem impl_scan_number.calls (k:Nat) (g:Nat) (ah:ByteArray) (ai:Int) (aH:Bool) (r1:Int) (r2:ByteArray) (r3:Int) (r4:Bool) (w0 w:World) (hI:IsS106 w0 w g ah ai aH) (hB:Below w0.heap.size w0 w) (h:impl_scan_number.f k ah ai aH=some (r1,r2,r3,r4)) :
  Calls Tryz.prog 65 #[.pointer (some ⟨g,0,none⟩)] w fun e w'=>e=.returned (.int .i64 r1)∧IsS106 w0 w' g r2 r3 r4∧Below w0.heap.size w0 w'∧KeepBut w w' g none:=by
 have aD:=am hI
 have HK:=am (KeepBut.refl w g none)
 have HL:=am hB.size
 clear hI
 have eT:=am hB.size
 have HB:=am hB
 clear hB
 have J:=h
 clear h
 unfold impl_scan_number.f at J
 obtain⟨⟨bR,bS,eH⟩,A2,D⟩:=bsi J
 (try dsimp only at D)
 obtain⟨rfl,U⟩|⟨rfl,U⟩:=sb D
 ·obtain⟨rfl,rfl,rfl,rfl⟩:=s4 U;clear U J D;obtain⟨aJ,dc⟩:=aD.out;have fx:=cellS106_0 aJ;have fy:=cellS106_1 aJ;have fz:=cellS106_2 aJ;obtain⟨fA,fB,fC⟩:=fr3 aJ;clear aJ dc;go_enter Tryz.func65,Tryz.ntmps65
  go_wp2_with (first|(go_at_call 92;refine(impl_ReadVar.calls k ah ai bR bS eH _ A2.out).mono ?_;rintro e w' ⟨rfl,⟨nd,rfl⟩⟩;(try first|exact⟨rfl,_,World.drewN_drewN _ _ _⟩|exact⟨rfl,_,Eq.trans (World.drewN_drewN _ _ _) (congrArg (World.drewN _) (Nat.add_assoc _ _ _))⟩)))
  repeat (go_quiet (first|(go_at_call 92;(with_reducible refine(impl_ReadVar.calls k ah ai bR bS eH _ A2.out).mono ?_);rintro e w' ⟨rfl,⟨nd,rfl⟩⟩;(try first|exact⟨rfl,_,World.drewN_drewN _ _ _⟩|exact⟨rfl,_,Eq.trans (World.drewN_drewN _ _ _) (congrArg (World.drewN _) (Nat.add_assoc _ _ _))⟩)));try go_wp2_with (first|(go_at_call 92;(with_reducible refine(impl_ReadVar.calls k ah ai bR bS eH _ A2.out).mono ?_);rintro e w' ⟨rfl,⟨nd,rfl⟩⟩;(try first|exact⟨rfl,_,World.drewN_drewN _ _ _⟩|exact⟨rfl,_,Eq.trans (World.drewN_drewN _ _ _) (congrArg (World.drewN _) (Nat.add_assoc _ _ _))⟩))))
  go_ret;exact D9x1_
 ·obtain⟨rfl,Y⟩|⟨rfl,Y⟩:=sb U
  ·obtain⟨rfl,rfl,rfl,rfl⟩:=s4 Y;clear Y J D U;obtain⟨bn,eq⟩:=aD.out;have g9:=cellS106_0 bn;have ha:=cellS106_1 bn;have he:=cellS106_2 bn;obtain⟨hl,hm,hn⟩:=fr3 bn;clear bn eq;go_enter Tryz.func65,Tryz.ntmps65
   go_wp2_with (first|(go_at_call 92;refine(impl_ReadVar.calls k ah ai bR bS true _ A2.out).mono ?_;rintro e w' ⟨rfl,⟨nd,rfl⟩⟩;(try first|exact⟨rfl,_,World.drewN_drewN _ _ _⟩|exact⟨rfl,_,Eq.trans (World.drewN_drewN _ _ _) (congrArg (World.drewN _) (Nat.add_assoc _ _ _))⟩)))
   repeat (go_quiet (first|(go_at_call 92;(with_reducible refine(impl_ReadVar.calls k ah ai bR bS true _ A2.out).mono ?_);rintro e w' ⟨rfl,⟨nd,rfl⟩⟩;(try first|exact⟨rfl,_,World.drewN_drewN _ _ _⟩|exact⟨rfl,_,Eq.trans (World.drewN_drewN _ _ _) (congrArg (World.drewN _) (Nat.add_assoc _ _ _))⟩)));try go_wp2_with (first|(go_at_call 92;(with_reducible refine(impl_ReadVar.calls k ah ai bR bS true _ A2.out).mono ?_);rintro e w' ⟨rfl,⟨nd,rfl⟩⟩;(try first|exact⟨rfl,_,World.drewN_drewN _ _ _⟩|exact⟨rfl,_,Eq.trans (World.drewN_drewN _ _ _) (congrArg (World.drewN _) (Nat.add_assoc _ _ _))⟩))))
   go_ret;exact D9x1_
  ·obtain⟨rfl,rfl,rfl,rfl⟩:=s4 Y;clear Y J D U;obtain⟨bo,er⟩:=aD.out;have hf:=cellS106_0 bo;have hh:=cellS106_1 bo;have hj:=cellS106_2 bo;obtain⟨hs,hu,hv⟩:=fr3 bo;clear bo er;go_enter Tryz.func65,Tryz.ntmps65
   go_wp2_with (first|(go_at_call 92;refine(impl_ReadVar.calls k ah ai bR bS false _ A2.out).mono ?_;rintro e w' ⟨rfl,⟨nd,rfl⟩⟩;(try first|exact⟨rfl,_,World.drewN_drewN _ _ _⟩|exact⟨rfl,_,Eq.trans (World.drewN_drewN _ _ _) (congrArg (World.drewN _) (Nat.add_assoc _ _ _))⟩)))
   repeat (go_quiet (first|(go_at_call 92;(with_reducible refine(impl_ReadVar.calls k ah ai bR bS false _ A2.out).mono ?_);rintro e w' ⟨rfl,⟨nd,rfl⟩⟩;(try first|exact⟨rfl,_,World.drewN_drewN _ _ _⟩|exact⟨rfl,_,Eq.trans (World.drewN_drewN _ _ _) (congrArg (World.drewN _) (Nat.add_assoc _ _ _))⟩)));try go_wp2_with (first|(go_at_call 92;(with_reducible refine(impl_ReadVar.calls k ah ai bR bS false _ A2.out).mono ?_);rintro e w' ⟨rfl,⟨nd,rfl⟩⟩;(try first|exact⟨rfl,_,World.drewN_drewN _ _ _⟩|exact⟨rfl,_,Eq.trans (World.drewN_drewN _ _ _) (congrArg (World.drewN _) (Nat.add_assoc _ _ _))⟩))))
   go_ret;exact D9x1_

def impl_ReadShort.f (k:Nat) (B:ByteArray) (a1:Int):Option (ByteArray × Int × Bool):=(impl_ReadVar.f k B a1).bind fun aZ=>(if aZ.2.2=true then (if aZ.1>20000 then (some ((⟨#[]⟩:ByteArray),0,false)) else (if aZ.1>(wrap64 ((B.size:Int) - aZ.2.1)) then (some ((⟨#[]⟩:ByteArray),0,false)) else (if 0≤aZ.2.1 then (if aZ.2.1≤(wrap64 (aZ.2.1+aZ.1)) then (if (wrap64 (aZ.2.1+aZ.1))≤(B.size:Int) then (some (B.extract (aZ.2.1:Int).toNat ((wrap64 (aZ.2.1+aZ.1)):Int).toNat,wrap64 (aZ.2.1+aZ.1),true)) else (none)) else (none)) else (none)))) else (some ((⟨#[]⟩:ByteArray),0,false)))
theorem impl_ReadShort.calls (k:Nat) (B:ByteArray) (a1:Int) (r1:ByteArray) (r2:Int) (r3:Bool) (w:World) (h:impl_ReadShort.f k B a1=some (r1,r2,r3)) :
  Calls Tryz.prog 93 #[.string B,.int .i64 a1] w fun e w'=>e=.returned (.tuple #[.string r1,.int .i64 r2,.bool r3])∧Drawn0 w w':=by
 have J:=h
 clear h
 unfold impl_ReadShort.f at J
 obtain⟨⟨ca,cA,jl⟩,A3,D⟩:=bsi J
 (try dsimp only at D)
 obtain⟨rfl,U⟩|⟨rfl,U⟩:=sb D
 ·obtain⟨c5,Y⟩|⟨c5,Y⟩:=sp U
  ·have dM:decide (20000<ca)=true:=decide_eq_true c5
   clear c5;obtain⟨rfl,rfl,rfl⟩:=s3 Y;clear Y J D U;go_enter Tryz.func93,Tryz.ntmps93
   go_wp2_with (first|((with_reducible refine gate_callee (f:=92) rfl ?_);refine goesL_ (some 13) rfl rfl Tryz.func92 gk_ rfl #[.string B,.int .i64 a1] rfl gm_ ?_;refine(impl_ReadVar.calls k B a1 ca cA true _ A3.out).mono ?_;rintro e w' ⟨rfl,⟨nd,rfl⟩⟩;refine⟨_,rfl, ?_⟩))
   go_ret3
   exact⟨gr_,gd_⟩
  ·have dM:decide (20000<ca)=false:=decide_eq_false c5
   clear c5
   obtain⟨c6,aa⟩|⟨c6,aa⟩:=sp Y
   ·have b1:decide ((wrap64 ((B.size:Int) - cA))<ca)=true:=decide_eq_true c6
    clear c6;obtain⟨rfl,rfl,rfl⟩:=s3 aa;clear aa J D U Y;go_enter Tryz.func93,Tryz.ntmps93
    go_wp2_with (first|((with_reducible refine gate_callee (f:=92) rfl ?_);refine goesL_ (some 13) rfl rfl Tryz.func92 gk_ rfl #[.string B,.int .i64 a1] rfl gm_ ?_;refine(impl_ReadVar.calls k B a1 ca cA true _ A3.out).mono ?_;rintro e w' ⟨rfl,⟨nd,rfl⟩⟩;refine⟨_,rfl, ?_⟩))
    go_ret3
    exact⟨gr_,gd_⟩
   ·have b1:decide ((wrap64 ((B.size:Int) - cA))<ca)=false:=decide_eq_false c6
    clear c6;obtain⟨f8,f9,Z⟩:=ye aa;obtain⟨c8,ac⟩:=yn Z;have ek:=eq_true c8;have el:=decide_eq_true c8;obtain⟨c9,aG⟩:=yn ac;have e7:=eq_true c9;have hQ:=decide_eq_true c9;obtain⟨rfl,rfl,rfl⟩:=s3 aG;clear aG J D U Y aa Z ac;go_enter Tryz.func93,Tryz.ntmps93
    go_wp2_with (first|((with_reducible refine gate_callee (f:=92) rfl ?_);refine goesL_ (some 13) rfl rfl Tryz.func92 gk_ rfl #[.string B,.int .i64 a1] rfl gm_ ?_;refine(impl_ReadVar.calls k B a1 ca cA true _ A3.out).mono ?_;rintro e w' ⟨rfl,⟨nd,rfl⟩⟩;refine⟨_,rfl, ?_⟩))
    go_ret3
    exact⟨gr_,gd_⟩
 ·obtain⟨rfl,rfl,rfl⟩:=s3 U;clear U J D;go_enter Tryz.func93,Tryz.ntmps93
  go_wp2_with (first|((with_reducible refine gate_callee (f:=92) rfl ?_);refine goesL_ (some 13) rfl rfl Tryz.func92 gk_ rfl #[.string B,.int .i64 a1] rfl gm_ ?_;refine(impl_ReadVar.calls k B a1 ca cA false _ A3.out).mono ?_;rintro e w' ⟨rfl,⟨nd,rfl⟩⟩;refine⟨_,rfl, ?_⟩))
  go_ret3
  exact⟨gr_,gd_⟩

def impl_scan_short.f (k:Nat) (ah:ByteArray) (ai:Int) (aH:Bool):Option (ByteArray × ByteArray × Int × Bool):=(impl_ReadShort.f k ah ai).bind fun eg=>(if aH=true then (some ((⟨#[]⟩:ByteArray),ah,ai,true)) else (if eg.2.2=true then (some (eg.1,ah,eg.2.1,aH)) else (some ((⟨#[]⟩:ByteArray),ah,ai,true))))
theorem impl_scan_short.calls (k:Nat) (g:Nat) (ah:ByteArray) (ai:Int) (aH:Bool) (r1:ByteArray) (r2:ByteArray) (r3:Int) (r4:Bool) (w0 w:World) (hI:IsS106 w0 w g ah ai aH) (hB:Below w0.heap.size w0 w) (h:impl_scan_short.f k ah ai aH=some (r1,r2,r3,r4)) :
  Calls Tryz.prog 66 #[.pointer (some ⟨g,0,none⟩)] w fun e w'=>e=.returned (.string r1)∧IsS106 w0 w' g r2 r3 r4∧Below w0.heap.size w0 w'∧KeepBut w w' g none:=by
 have aD:=am hI
 have HK:=am (KeepBut.refl w g none)
 have HL:=am hB.size
 clear hI
 have eT:=am hB.size
 have HB:=am hB
 clear hB
 have J:=h
 clear h
 unfold impl_scan_short.f at J
 obtain⟨⟨bT,bU,eI⟩,A2,D⟩:=bsi J
 (try dsimp only at D)
 obtain⟨rfl,U⟩|⟨rfl,U⟩:=sb D
 ·obtain⟨rfl,rfl,rfl,rfl⟩:=s4 U;clear U J D;obtain⟨aJ,dc⟩:=aD.out;have fx:=cellS106_0 aJ;have fy:=cellS106_1 aJ;have fz:=cellS106_2 aJ;obtain⟨fA,fB,fC⟩:=fr3 aJ;clear aJ dc;go_enter Tryz.func66,Tryz.ntmps66
  go_wp2_with (first|(go_at_call 93;refine(impl_ReadShort.calls k ah ai bT bU eI _ A2.out).mono ?_;rintro e w' ⟨rfl,⟨nd,rfl⟩⟩;(try first|exact⟨rfl,_,World.drewN_drewN _ _ _⟩|exact⟨rfl,_,Eq.trans (World.drewN_drewN _ _ _) (congrArg (World.drewN _) (Nat.add_assoc _ _ _))⟩)))
  repeat (go_quiet (first|(go_at_call 93;(with_reducible refine(impl_ReadShort.calls k ah ai bT bU eI _ A2.out).mono ?_);rintro e w' ⟨rfl,⟨nd,rfl⟩⟩;(try first|exact⟨rfl,_,World.drewN_drewN _ _ _⟩|exact⟨rfl,_,Eq.trans (World.drewN_drewN _ _ _) (congrArg (World.drewN _) (Nat.add_assoc _ _ _))⟩)));try go_wp2_with (first|(go_at_call 93;(with_reducible refine(impl_ReadShort.calls k ah ai bT bU eI _ A2.out).mono ?_);rintro e w' ⟨rfl,⟨nd,rfl⟩⟩;(try first|exact⟨rfl,_,World.drewN_drewN _ _ _⟩|exact⟨rfl,_,Eq.trans (World.drewN_drewN _ _ _) (congrArg (World.drewN _) (Nat.add_assoc _ _ _))⟩))))
  go_ret;exact D9x1_
 ·obtain⟨rfl,Y⟩|⟨rfl,Y⟩:=sb U
  ·obtain⟨rfl,rfl,rfl,rfl⟩:=s4 Y;clear Y J D U;obtain⟨bn,eq⟩:=aD.out;have g9:=cellS106_0 bn;have ha:=cellS106_1 bn;have he:=cellS106_2 bn;obtain⟨hl,hm,hn⟩:=fr3 bn;clear bn eq;go_enter Tryz.func66,Tryz.ntmps66
   go_wp2_with (first|(go_at_call 93;refine(impl_ReadShort.calls k ah ai bT bU true _ A2.out).mono ?_;rintro e w' ⟨rfl,⟨nd,rfl⟩⟩;(try first|exact⟨rfl,_,World.drewN_drewN _ _ _⟩|exact⟨rfl,_,Eq.trans (World.drewN_drewN _ _ _) (congrArg (World.drewN _) (Nat.add_assoc _ _ _))⟩)))
   repeat (go_quiet (first|(go_at_call 93;(with_reducible refine(impl_ReadShort.calls k ah ai bT bU true _ A2.out).mono ?_);rintro e w' ⟨rfl,⟨nd,rfl⟩⟩;(try first|exact⟨rfl,_,World.drewN_drewN _ _ _⟩|exact⟨rfl,_,Eq.trans (World.drewN_drewN _ _ _) (congrArg (World.drewN _) (Nat.add_assoc _ _ _))⟩)));try go_wp2_with (first|(go_at_call 93;(with_reducible refine(impl_ReadShort.calls k ah ai bT bU true _ A2.out).mono ?_);rintro e w' ⟨rfl,⟨nd,rfl⟩⟩;(try first|exact⟨rfl,_,World.drewN_drewN _ _ _⟩|exact⟨rfl,_,Eq.trans (World.drewN_drewN _ _ _) (congrArg (World.drewN _) (Nat.add_assoc _ _ _))⟩))))
   go_ret;exact D9x1_
  ·obtain⟨rfl,rfl,rfl,rfl⟩:=s4 Y;clear Y J D U;obtain⟨bo,er⟩:=aD.out;have hf:=cellS106_0 bo;have hh:=cellS106_1 bo;have hj:=cellS106_2 bo;obtain⟨hs,hu,hv⟩:=fr3 bo;clear bo er;go_enter Tryz.func66,Tryz.ntmps66
   go_wp2_with (first|(go_at_call 93;refine(impl_ReadShort.calls k ah ai bT bU false _ A2.out).mono ?_;rintro e w' ⟨rfl,⟨nd,rfl⟩⟩;(try first|exact⟨rfl,_,World.drewN_drewN _ _ _⟩|exact⟨rfl,_,Eq.trans (World.drewN_drewN _ _ _) (congrArg (World.drewN _) (Nat.add_assoc _ _ _))⟩)))
   repeat (go_quiet (first|(go_at_call 93;(with_reducible refine(impl_ReadShort.calls k ah ai bT bU false _ A2.out).mono ?_);rintro e w' ⟨rfl,⟨nd,rfl⟩⟩;(try first|exact⟨rfl,_,World.drewN_drewN _ _ _⟩|exact⟨rfl,_,Eq.trans (World.drewN_drewN _ _ _) (congrArg (World.drewN _) (Nat.add_assoc _ _ _))⟩)));try go_wp2_with (first|(go_at_call 93;(with_reducible refine(impl_ReadShort.calls k ah ai bT bU false _ A2.out).mono ?_);rintro e w' ⟨rfl,⟨nd,rfl⟩⟩;(try first|exact⟨rfl,_,World.drewN_drewN _ _ _⟩|exact⟨rfl,_,Eq.trans (World.drewN_drewN _ _ _) (congrArg (World.drewN _) (Nat.add_assoc _ _ _))⟩))))
   go_ret;exact D9x1_

def impl_ReadConf.l0:Nat→ByteArray→List Int→Int→Option (List Int × Bool)
 |0,_,_,_=>none
 |k+1,x0,x4,x5=>if x5<(x0.size:Int) then (if 0≤x5 then (if x4.length<17592186044416 then (impl_ReadConf.l0 k x0 (x4 ++ [wrap64 (bt x0 x5)]) (wrap64 (x5+1))) else (none)) else (none)) else ((impl_ConfOk.f k x4).bind fun fq=>(if fq=true then (some (x4,true)) else (some (([]:List Int),false))))
def impl_ReadConf.f (k:Nat) (B:ByteArray):Option (List Int × Bool):=impl_ReadConf.l0 k B (([]:List Int)) 0
theorem impl_ReadConf.calls (k:Nat) (B:ByteArray) (r1:List Int) (r2:Bool) (w:World) (h:impl_ReadConf.f k B=some (r1,r2)) :
  Calls Tryz.prog 67 #[.string B] w fun e w'=>∃ a7:Value,e=.returned (.tuple #[a7,.bool r2])∧Kd.R (Kd.int .i64) 3 w' w.heap.size (fun _=>True) a7 r1∧Below w.heap.size w w':=by
 have HB:=am (Below.refl w.heap.size w)
 have J:=h
 clear h
 unfold impl_ReadConf.f at J
 obtain⟨g7,dv⟩:∃ y_:List Int,y_=(([]:List Int)):=⟨_,rfl⟩
 (first|with_reducible replace J:=hq dv J|rw [←dv] at J|simp only [←dv] at J)
 have eZ:=am dv
 clear dv
 replace J:=am J
 go_enter Tryz.func67,Tryz.ntmps67
 go_wp2_with (first|((with_reducible refine gate_dst (N:=6) rfl ?_);refine Kd.R_lit (Kd.int .i64) _ 3 ?hg (N:=6) ?hd (xs:=([]:List Int)) (inner:=[]) (ok:=fun _=>True) (okp:=fun _=>True) ?hr ?hp (fun _ hk=>hk) trivial (Below.refl _ _) (Nat.le_refl _) (by simp) ?_;(case hd=>rfl);(case hg=>rfl);(case hr=>first|(go_simp;done)|(go_simp;rfl));(case hp=>exact(Reps.none _ _));intro js w2 br hb hg_ hnew_;clear hg_ hnew_;(first|rw [←eZ.out] at br|(simp only [Int.reduceToNat] at br;rw [←eZ.out] at br));have fM:=am (Kd.R_lower br (below_size (Ae0 HB)));replace HB:=hA HB hb;clear hb br))
 go_loopg [4,5] k (fun kq v4 v5 w'=>∃ (aE:List Int) (bJ:Int),v5=.int .i64 bJ∧Aside0 (impl_ReadConf.l0 kq B aE bJ=some (r1,r2))∧Aside0 (kq≤k)∧Aside0 (Kd.R (Kd.int .i64) 3 w' w.heap.size (fun _=>True) v4 aE)∧Aside0 (Below w.heap.size w w'))
 case atStart=>exact⟨(g7),0,be_,J,⟨Nat.le_refl _⟩,Cr fM,Ce0 HB⟩
 case round=>
  clear J;obtain⟨aE,bJ,rfl,D,aK,bW,HB⟩:=hrel
  cases gk with
  |zero=>exact absurd D.out (by simp [impl_ReadConf.l0])
  |succ k1=>?_
  replace D:=D.out;simp only [impl_ReadConf.l0] at D
  obtain⟨dL,U⟩|⟨dL,U⟩:=sd D
  ·obtain⟨dM,Y⟩:=yd U;obtain⟨d9,aa⟩:=ya Y;obtain⟨g8,dw⟩:∃ y_:List Int,y_=(aE ++ [wrap64 (bt B bJ)]):=⟨_,rfl⟩
   (first|with_reducible replace aa:=hq dw aa|rw [←dw] at aa|simp only [←dw] at aa)
   have fZ:=am dw;clear dw;replace aa:=am aa;clear D U Y
   have p6:0≤(bJ:Int):=dga
   have q6:bJ<(B.size:Int):=dga
   have ji:=bt_at B bJ;replace p6:=eq_true p6;replace q6:=eq_true q6
   go_wp2_with (first|((with_reducible refine gate_builtin (b:=.append) (xs:=#[.tmp 13,.tmp 18]) rfl ?_);at_builtin;refine Kd.R_append (Kd.int .i64) (w0:=w) w.heap.size rfl (.tmp 13) (.tmp 18) 27 3 (.int .i64 0) 8 rfl Tryz.underlying27 info3 rfl (by decide) (by omega) u4 aE (wrap64 (bt B bJ)) [.int .i64 (wrap64 (bt B bJ))] (fun _=>True) (fun _=>False) rfl rfl ?aP (fun _ hk=>hk.elim) ?aF ?aO ?aB ?aS ?aL ?_;(case aP=>exact rfl);(case aB=>exact(Ae0 HB));(case aF=>exact(fun _ _=>trivial));(case aO=>exact(Ar bW));(case aS=>exact(below_size (Ae0 HB)));(case aL=>have:=d9.out;omega);intro jt w8 ho hb hg hat;rw [←fZ.out] at ho;replace HB:=am hb;have fN:=am ho;clear bW;clear ho hb hg hat))
   go_roundg k1
   case measure=>have:=aK.out;omega
   case rel=>exact⟨(g8),(wrap64 (bJ+1)),be_,aa,⟨(by have:=aK.out;omega)⟩,Cr fN,Ce0 HB⟩
  ·obtain⟨fq,A9,Z⟩:=bsi U;(try dsimp only at Z)
   obtain⟨rfl,ac⟩|⟨rfl,ac⟩:=sb Z
   ·obtain⟨rfl,rfl⟩:=s2 ac;clear ac D U Z;obtain⟨d1,em,ep⟩:=Kd.R_slice bW.out;subst ep
    go_wp2_with (first|((with_reducible refine gate_callee (f:=83) rfl ?_);refine goesL_ (some 21) rfl rfl Tryz.func83 gk_ rfl #[.slice d1 aE.length em] rfl gm_ ?_;refine(impl_ConfOk.calls k1 _ _ aE true _ B35x10_ ((Kd.R_reads' bW.out).2.1) A9.out).mono ?_;rintro e w' ⟨rfl,⟨nd,rfl⟩⟩;refine⟨_,rfl, ?_⟩))
    go_ret2
    exact⟨_,B34x11_,(Ar bW),(Ae0 HB)⟩
   ·obtain⟨rfl,rfl⟩:=s2 ac;clear ac D U Z;obtain⟨fE,ga,gp⟩:=Kd.R_slice bW.out;subst gp
    go_wp2_with (first|((with_reducible refine gate_callee (f:=83) rfl ?_);refine goesL_ (some 21) rfl rfl Tryz.func83 gk_ rfl #[.slice fE aE.length ga] rfl gm_ ?_;refine(impl_ConfOk.calls k1 _ _ aE false _ B35x10_ ((Kd.R_reads' bW.out).2.1) A9.out).mono ?_;rintro e w' ⟨rfl,⟨nd,rfl⟩⟩;refine⟨_,rfl, ?_⟩))
    go_ret2
    exact⟨_,B34x11_,gn_,(Ae0 HB)⟩

def impl_scan_done.f (ah:ByteArray) (ai:Int) (aH:Bool):Option (Bool × ByteArray × Int × Bool):=if aH=true then (some (false,ah,ai,aH)) else (some ((ai == (ah.size:Int)),ah,ai,aH))
theorem impl_scan_done.calls (g:Nat) (ah:ByteArray) (ai:Int) (aH:Bool) (r1:Bool) (r2:ByteArray) (r3:Int) (r4:Bool) (w0 w:World) (hI:IsS106 w0 w g ah ai aH) (hB:Below w0.heap.size w0 w) (h:impl_scan_done.f ah ai aH=some (r1,r2,r3,r4)) :
  Calls Tryz.prog 68 #[.pointer (some ⟨g,0,none⟩)] w fun e w'=>e=.returned (.bool r1)∧IsS106 w0 w' g r2 r3 r4∧Below w0.heap.size w0 w'∧KeepBut w w' g none:=by
 have aD:=am hI
 have HK:=am (KeepBut.refl w g none)
 have HL:=am hB.size
 clear hI
 have eT:=am hB.size
 have HB:=am hB
 clear hB
 have J:=h
 clear h
 unfold impl_scan_done.f at J
 obtain⟨rfl,D⟩|⟨rfl,D⟩:=sb J
 ·obtain⟨rfl,rfl,rfl,rfl⟩:=s4 D;clear D J;obtain⟨cE,gu⟩:=aD.out;have jJ:=cellS106_0 cE;have jK:=cellS106_1 cE;have jL:=cellS106_2 cE;obtain⟨j4,j5,j6⟩:=fr3 cE;clear cE gu;go_enter Tryz.func68,Tryz.ntmps68
  go_wp2
  repeat (go_quiet (fail);try go_wp2)
  go_ret;exact D9x1_
 obtain⟨rfl,rfl,rfl,rfl⟩:=s4 D
 clear D J
 obtain⟨aJ,dc⟩:=aD.out
 have fx:=cellS106_0 aJ
 have fy:=cellS106_1 aJ
 have fz:=cellS106_2 aJ
 obtain⟨fA,fB,fC⟩:=fr3 aJ
 clear aJ dc
 go_enter Tryz.func68,Tryz.ntmps68
 go_wp2
 repeat (go_quiet (fail);try go_wp2)
 go_ret
 exact D9x1_
end
end Go.Proofs.YtofmbomonkbeaaaGreatDoor.QFnSnapsCut
