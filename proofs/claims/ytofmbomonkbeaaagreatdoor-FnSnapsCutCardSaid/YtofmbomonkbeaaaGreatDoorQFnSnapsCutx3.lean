/- Functions that a law reaches, as functions of Lean, and the walks that show that the calls come to their answers. No condition. -/
import Derived.Test.YtofmbomonkbeaaaGreatDoorQFnSnapsCutx0
import Derived.Test.YtofmbomonkbeaaaGreatDoorQFnSnapsCutx1
import Derived.Test.YtofmbomonkbeaaaGreatDoorQFnSnapsCutx2
import Derived.Test.YtofmbomonkbeaaaGreatDoorVFnSnapsCuthort3
import Derived.Test.YtofmbomonkbeaaaGreatDoorVFnSnapsCuthort2
import Derived.Test.YtofmbomonkbeaaaGreatDoorVFnSnapsCuthort
import Derived.Test.YtofmbomonkbeaaaGreatDoorVFnSnapsCuthort8
namespace Go.Proofs.YtofmbomonkbeaaaGreatDoor.QFnSnapsCut
open Go.RowKit Go.Proofs.YtofmbomonkbeaaaGreatDoorW.PrintWords Go.Proofs.YtofmbomonkbeaaaGreatDoorW.PrintLast Go.Proofs.YtofmbomonkbeaaaGreatDoorW.PrintMore Go.Proofs.YtofmbomonkbeaaaGreatDoor.Short
set_option linter.unusedVariables false
set_option linter.unusedSimpArgs false
set_option maxHeartbeats 8000000
set_option maxRecDepth 100000
variable {p:Prop}
theorem D3x0_ (h:p:=by exact⟨B10x9_,B10x1_,Kd.R_keep HOW.out (Ak2 HK ao ar) (fun _ h_=>h_),(Ae3 HB (IsS52.gf B) aK aH),(Ak2 HK ao ar)⟩):p:=h
theorem D3x1_ (h:p:=by exact⟨(blk_cell B.out.1 0).trans rfl,(blk_cell B.out.1 1).trans rfl,bc l 0,bc l 1,bc l 2,bc l 3,bc l 4,bc l 5⟩):p:=h
theorem D3x2_ (h:p:=by exact⟨⟨B10x1_⟩,Ck2 HK ao ar,Ce3 HB (IsS52.gf B) aK aH⟩):p:=h
theorem D3x3_ (h:p:=by exact⟨Cb z,Cb D,Cb q,Ce3 HB ah aj al⟩):p:=h
theorem D3x4_ (h:p:=by exact⟨bc z 0,bc z 1,bc D 0,bc D 1,bc D 2,bc D 3,bc D 4,bc D 5,((hbc HB dq).trans dq),((hbc HB dr).trans dr),((hbc HB dt).trans dt)⟩):p:=h
section
attribute [local go_sem] max2_int min2_int max_two min_two max_three min_three max_four min_four
theorem B10x1_ (h:p:=by repeat (first|(with_reducible first|exact B.out|apply IsS52.alloc|apply IsS52.drewN|apply IsS52.drew|apply IsS52.set_1|refine IsS52.far ?_ co.out _|refine IsS52.far ?_ bo.out _)|exact B.out)):p:=h
theorem B10x3_ (h:p:=by first|(rw [add_block];exact Kd.foot_ne aI.out (by omega) (by decide))|(show (Addr.add _ _).block≠_;rw [add_block];exact Kd.foot_ne aI.out (by omega) (by decide))|exact Kd.foot_ne aI.out (by omega) (by decide)|(dsimp only;exact Kd.foot_ne aI.out (by omega) (by decide))):p:=h
theorem B10x9_ (h:p:=by first|rfl|(simp [errW_none,errW_some] <;> rfl)|(simp [*,errW_none,errW_some] <;> rfl)):p:=h
theorem B10x11_ (h:p:=by first|exact Kd.R_lower (Kd.R_mono (IsS52.apart (show IsS52 w0 _ g (.slice aC aE.length ap) fx from B10x1_) (Ar cY) (by decide)) (fun _ h_=>h_.2)) HL.out|exact Kd.R_mono (IsS52.apart (show IsS52 w0 _ g (.slice aC aE.length ap) fx from B10x1_) (Ar cY) (by decide)) (fun _ h_=>h_.2)):p:=h
theorem B10x13_ (h:p:=by repeat (first|(with_reducible first|exact B.out|apply IsS52.alloc|apply IsS52.drewN|apply IsS52.drew|apply IsS52.set_1|refine IsS52.far ?_ co.out _)|exact B.out)):p:=h
theorem B10x19_ (h:p:=by simp only [putAll,Act.put,List.setIfInBounds_toArray,List.set_cons_zero,List.set_cons_succ]):p:=h
theorem B10x20_ (h:p:=by exact Kd.R_keep HOW.out (Ak2 HK ao ar) (fun _ h_=>h_)):p:=h
mutual
def spec_l15Do.j1:Nat→Int→List (S76)→List (S79)→Int→Int→Int→ByteArray→ByteArray→Int→Option (ByteArray × (List (S79)))
 |0,_,_,_,_,_,_,_,_,_=>none
 |k+1,x1,em,b8,fz,fA,fB,dD,en,fC=>(spec_l15Put.f k em b8 dD en x1).bind fun e4=>(if e4.1=true then ((spec_Decimal.f k x1).bind fun dB=>(if 4+dB.size≤9223372036854775807 then (some ((⟨#[112,117,116,32]⟩:ByteArray) ++ dB,e4.2)) else (none))) else (some ((⟨#[102,117,108,108]⟩:ByteArray),e4.2)))
def spec_l15Do.l0:Nat→List (S79)→Int→List (S76)→List (S79)→Int→Int→Int→ByteArray→ByteArray→Int→Option (ByteArray × (List (S79)))
 |0,_,_,_,_,_,_,_,_,_,_=>none
 |k+1,x9,ct,em,b8,fz,fA,fB,dD,en,fC=>if ct<(b8.length:Int) then (if 0≤ct then (if ((rd_T79 b8 ct).f0).toList=dD.toList then (spec_l15Do.l0 k x9 (wrap64 (ct+1)) em b8 fz fA fB dD en fC) else (if x9.length<3518437208883 then (spec_l15Do.l0 k (x9 ++ [(⟨(rd_T79 b8 ct).f0,(rd_T79 b8 ct).f1,(rd_T79 b8 ct).f2⟩:S79)]) (wrap64 (ct+1)) em b8 fz fA fB dD en fC) else (none))) else (none)) else (some ((⟨#[100,114,111,112]⟩:ByteArray),x9))
end
def spec_l15Do.f (k:Nat) (aE:List (S76)) (Y:List (S79)) (a1:Int) (ak:Int) (aw:Int) (ae:Int) (ad:ByteArray) (ai:ByteArray) (au:Int):Option (ByteArray × (List (S79))):=(spec_ItemOf.f k aE Y ad).bind fun cr=>(if ak=3 then (if cr.2.2.2=true then ((spec_Decimal.f k cr.2.2.1).bind fun bR=>(if 3+bR.size≤9223372036854775807 then (if ((⟨#[105,115,32]⟩:ByteArray) ++ bR).size+1≤9223372036854775807 then (if (((⟨#[105,115,32]⟩:ByteArray) ++ bR) ++ (⟨#[32]⟩:ByteArray)).size+cr.2.1.size≤9223372036854775807 then (some ((((⟨#[105,115,32]⟩:ByteArray) ++ bR) ++ (⟨#[32]⟩:ByteArray)) ++ cr.2.1,Y)) else (none)) else (none)) else (none))) else (some ((⟨#[110,111]⟩:ByteArray),Y))) else (if ak=4 then (if cr.2.2.2=true then (spec_l15Do.l0 k (([]:List (S79))) 0 aE Y ak aw ae ad ai au) else (some ((⟨#[110,111]⟩:ByteArray),Y))) else (if ak=5 then (if cr.2.2.2=true then (if cr.2.2.1=au then (spec_l15Do.j1 k a1 aE Y ak aw ae ad ai au) else ((spec_Decimal.f k cr.2.2.1).bind fun dz=>(if 4+dz.size≤9223372036854775807 then (some ((⟨#[110,111,116,32]⟩:ByteArray) ++ dz,Y)) else (none)))) else (some ((⟨#[110,111]⟩:ByteArray),Y))) else (spec_l15Do.j1 k a1 aE Y ak aw ae ad ai au))))
def spec_l15Do.T1:Bool × List (List Nat × List Nat):=(true,[([],[]),([0],[0]),([1],[1]),([],[]),([3],[3]),([2,4],[2,4]),([5],[5]),([6],[6]),([6],[6]),([],[]),([9,7,5,0,1,2,3,4,5,6,7,9],[7,9]),([8,10,0,1,2,3,4,5,6,7,8,9,10],[8])])
def spec_l15Do.B1:List Nat:=[0,1,3,0,8,31,63,127,127,0,767,2047]
theorem spec_l15Do.tab1:rtab .any (opsOf Tryz.f75 1)=spec_l15Do.T1:=by kernel_rfl
theorem spec_l15Do.bits1:waitsOk spec_l15Do.T1.2 spec_l15Do.B1=true:=by kernel_rfl
def spec_l15Do.T6:Bool × List (List Nat × List Nat):=(true,[([],[]),([0],[0]),([1],[1]),([2],[2]),([3],[3]),([],[]),([5],[5]),([4,6],[4,6]),([7,2,0,1,2,3,4,5,6,7],[7])])
def spec_l15Do.B6:List Nat:=[0,1,3,7,15,0,32,127,255]
theorem spec_l15Do.tab6:rtab .any (opsOf Tryz.f75 6)=spec_l15Do.T6:=by kernel_rfl
theorem spec_l15Do.bits6:waitsOk spec_l15Do.T6.2 spec_l15Do.B6=true:=by kernel_rfl
def spec_l15Do.T14:Bool × List (List Nat × List Nat):=(true,[([],[]),([0],[0]),([1],[1]),([2],[2]),([],[]),([3,4],[3,4]),([5],[5]),([6],[6]),([],[]),([8],[8]),([7,9],[7,9])])
def spec_l15Do.B14:List Nat:=[0,1,3,7,0,31,63,127,0,256,1023]
theorem spec_l15Do.tab14:rtab .any (opsOf Tryz.f75 14)=spec_l15Do.T14:=by kernel_rfl
theorem spec_l15Do.bits14:waitsOk spec_l15Do.T14.2 spec_l15Do.B14=true:=by kernel_rfl
theorem spec_l15Do.calls (k:Nat) (g:Nat) (aC:Option Addr) (ap:Nat) (aE:List (S76)) (aA:Option Addr) (ay:Nat) (Y:List (S79)) (a1:Int) (ak:Int) (aw:Int) (ae:Int) (ad:ByteArray) (ai:ByteArray) (au:Int) (r1:ByteArray) (r2:List (S79)) (w0 w:World) (hI:IsS52 w0 w g (.slice aC aE.length ap) (.slice aA Y.length ay)) (hB:Below w0.heap.size w0 w) (dn:∀ W_,KeepBut w W_ g none→Kd.C k76 W_ aC aE.length aE) (dk:aE.length≤ap) (dp:∀ W_,KeepBut w W_ g none→Kd.C k79 W_ aA Y.length Y) (dl:Y.length≤ay) (gF:Kd.R k79 79 w w0.heap.size (fun k_=>k_≠g) (.slice aA Y.length ay) Y) (h:spec_l15Do.f k aE Y a1 ak aw ae ad ai au=some (r1,r2)) :
  Calls Tryz.prog 75 #[.pointer (some ⟨g,0,none⟩),.int .i64 a1,.agg #[.int .i64 ak,.int .i64 aw,.int .i64 ae,.string ad,.string ai,.int .i64 au]] w fun e w'=>∃ gO:Value,e=.returned (.string r1)∧IsS52 w0 w' g (.slice aC aE.length ap) gO∧Kd.R k79 79 w' w0.heap.size (fun k_=>k_≠g) gO r2∧Below w0.heap.size w0 w'∧KeepBut w w' g none:=by
 have iJ:=Tryz.underlying84
 have iI:=Tryz.underlying52
 have mP:=Tryz.underlying79
 have a2:=am dn
 have be:=am dk
 clear dn dk
 have aI:=am dp
 have bh:=am dl
 clear dp dl
 have HOW:=am gF
 clear gF
 have B:=am hI
 have HK:=am (KeepBut.refl w g none)
 have HL:=am hB.size
 clear hI
 have eW:=am hB.size
 have HB:=am hB
 clear hB
 have bi:=h
 clear h
 unfold spec_l15Do.f at bi
 obtain⟨⟨bm,a4,a0,dy⟩,A4,aR⟩:=bsi bi
 (try dsimp only at aR)
 replace aR:=am aR
 clear bi
 go_enter Tryz.func75,Tryz.ntmps75
 try go_wp2_with (first|((with_reducible refine gate_dst (N:=5) rfl ?_);refine bx (N:=5) (cs:=#[.int .i64 ak,.int .i64 aw,.int .i64 ae,.string ad,.string ai,.int .i64 au]) (t:=84) ?_;intro az hg w6 hbox hb;replace HB:=De1 HB (IsS52.gf B) hb;have l:=am hbox;have ao:=gK hg HK;have aK:=am (Nat.le_trans eW.out (bs hg (keep_size HK.out)):w0.heap.size≤az);replace HK:=Ek0 HK hb;have co:=am (nl hg (IsS52.lt B.out));have cI:=am (ng hg (IsS52.lt B.out));replace B:=am (IsS52.below (by repeat (first|(with_reducible first|exact B.out|apply IsS52.alloc|apply IsS52.drewN|apply IsS52.drew|apply IsS52.set_1)|exact B.out)) hb);clear hb hbox hg))
 replace l:=dA l
 replace B:=am (IsS52.drew B.out)
 replace HK:=kdr HK
 replace HB:=bdr HB
 refine st_ 12 (fun w'=>w'.cell? ⟨g,0,none⟩=some (.slice aC aE.length ap)∧w'.cell? ⟨g,1,none⟩=some (.slice aA Y.length ay)∧w'.cell? ⟨az,0,none⟩=some (.int .i64 ak)∧w'.cell? ⟨az,1,none⟩=some (.int .i64 aw)∧w'.cell? ⟨az,2,none⟩=some (.int .i64 ae)∧w'.cell? ⟨az,3,none⟩=some (.string ad)∧w'.cell? ⟨az,4,none⟩=some (.string ai)∧w'.cell? ⟨az,5,none⟩=some (.int .i64 au)) [] spec_l15Do.tab1 spec_l15Do.bits1 D3x1_ (fun Z U aU=>?_)
 generalize w6.drew=w7 at l B HK HB Z ⊢
 refine pu_ 0 12 U ?_
 refine pu_ 1 13 U ?_
 refine pu_ 3 15 U ?_
 refine ta_ 2 14 U aU Z ?_
 refine ta_ 4 16 U aU Z ?_
 refine join_ (σ:=Nat) 2 #[true,true,true,true,true,true,true,true,true,true,false,false] (fun s_=>[(17,.tuple #[.agg #[.string bm,.string a4,.int .i64 a0],.bool dy]),(7,.pointer (some ⟨s_,0,none⟩)),(11,.tuple #[.agg #[.string bm,.string a4,.int .i64 a0],.bool dy]),(18,.agg #[.string bm,.string a4,.int .i64 a0]),(19,.bool dy)]) (fun s_ w'=>(w'.cell? ⟨g,0,none⟩=some (.slice aC aE.length ap)∧w'.cell? ⟨g,1,none⟩=some (.slice aA Y.length ay)∧w'.cell? ⟨az,0,none⟩=some (.int .i64 ak)∧w'.cell? ⟨az,1,none⟩=some (.int .i64 aw)∧w'.cell? ⟨az,2,none⟩=some (.int .i64 ae)∧w'.cell? ⟨az,3,none⟩=some (.string ad)∧w'.cell? ⟨az,4,none⟩=some (.string ai)∧w'.cell? ⟨az,5,none⟩=some (.int .i64 au))∧(w'.heap[az]?=some (.cells #[.int .i64 ak,.int .i64 aw,.int .i64 ae,.string ad,.string ai,.int .i64 au] 84 (0,0)))∧(w'.heap[s_]?=some (.cells #[.string (⟨#[]⟩:ByteArray),.string (⟨#[]⟩:ByteArray),.int .i64 0] 79 (0,0)))∧(w.heap.size≤s_)∧(w0.heap.size≤s_)∧(g≠s_)∧(s_≠g)∧(az≠s_)∧(s_≠az)∧(IsS52 w0 w' g (.slice aC aE.length ap) (.slice aA Y.length ay))∧(KeepBut w w' g none)∧(Below w0.heap.size w0 w')) ?_ ?_
 rotate_left
 ·intro gu;refine two_ (i:=5) (j:=9) (Ni:=some 17) (Nj:=some 7) #[true,true,true,true,true,true,false,false,false,false,false,false] #[true,true,true,true,true,false,false,false,false,true,false,false] rfl rfl rfl rfl (two_of U.out gk_) (by decide) (by decide) (fun K hK=>?_) (fun K hK=>?_)
  ·skip
   refine goes_ Tryz.func94 gk_ rfl #[.agg #[.slice aC aE.length ap,.slice aA Y.length ay],.string ad] (by rfl) rfl rfl gm_ ?_;refine(spec_ItemOf.calls k _ _ aE _ _ Y ad bm a4 a0 dy _ (Kd.C_foot_now a2.out (Ak1 HK ao)) be.out (Kd.C_foot_now aI.out (Ak1 HK ao)) bh.out A4.out).mono ?_;rintro e w8 ⟨rfl,hb⟩;refine⟨_,rfl, ?_⟩;replace l:=bA l hb;replace HK:=Ek1 HK ao hb;replace HB:=De2 HB (IsS52.gf B) aK hb;replace B:=am (IsS52.below B10x13_ hb);refine hK.out _ _ D3x1_ (fun Z=>nm_ ?_);clear hK K;refine pu_ 6 11 U ?_;refine pu_ 7 18 U ?_;refine pu_ 8 19 U ?_;refine on_ 9 (some 7) U (fun K hK=>?_);refine box_step ?hg (N:=7) ?hd (cs:=#[.string (⟨#[]⟩:ByteArray),.string (⟨#[]⟩:ByteArray),.int .i64 0]) (t:=79) ?hr ?_;(case hd=>rfl);(case hg=>rfl);(case hr=>exact gs_);intro aa hg w9 hbox hb;replace HB:=De2 HB (IsS52.gf B) aK hb;have ag:=am hbox;have ar:=gK hg HK;have aH:=am (Nat.le_trans eW.out (bs hg (keep_size HK.out)):w0.heap.size≤aa);replace HK:=Ek1 HK ao hb;have aD:=nA hg l;have bG:=mA hg l;replace l:=bA l hb;have bo:=am (nl hg (IsS52.lt B.out));have cJ:=am (ng hg (IsS52.lt B.out));replace B:=am (IsS52.below B10x13_ hb);clear hb hbox hg;refine hK.out _ _ D3x1_ (fun Z=>nm_ ?_);clear hK K;exact norm_ B10x19_ (gu (aa) _ ⟨Z,(Ab l),(Ab ag),ar.out,aH.out,bo.out,cJ.out,aD.out,bG.out,B10x1_,(Ak2 HK ao ar),(Ae3 HB (IsS52.gf B) aK aH)⟩)
  refine box_step ?hg (N:=7) ?hd (cs:=#[.string (⟨#[]⟩:ByteArray),.string (⟨#[]⟩:ByteArray),.int .i64 0]) (t:=79) ?hr ?_;(case hd=>rfl);(case hg=>rfl);(case hr=>exact gs_);intro aa hg w8 hbox hb;replace HB:=De2 HB (IsS52.gf B) aK hb;have ag:=am hbox;have ar:=gK hg HK;have aH:=am (Nat.le_trans eW.out (bs hg (keep_size HK.out)):w0.heap.size≤aa);replace HK:=Ek1 HK ao hb;have aD:=nA hg l;have bG:=mA hg l;replace l:=bA l hb;have bo:=am (nl hg (IsS52.lt B.out));have cJ:=am (ng hg (IsS52.lt B.out));replace B:=am (IsS52.below B10x13_ hb);clear hb hbox hg;refine hK.out _ _ D3x1_ (fun Z=>nm_ ?_);clear hK K;refine on_ 5 (some 17) U (fun K hK=>?_);refine goes_ Tryz.func94 gk_ rfl #[.agg #[.slice aC aE.length ap,.slice aA Y.length ay],.string ad] (by rfl) rfl rfl gm_ ?_;refine(spec_ItemOf.calls k _ _ aE _ _ Y ad bm a4 a0 dy _ (Kd.C_foot_now a2.out (Ak2 HK ao ar)) be.out (Kd.C_foot_now aI.out (Ak2 HK ao ar)) bh.out A4.out).mono ?_;rintro e w9 ⟨rfl,hb⟩;refine⟨_,rfl, ?_⟩;replace l:=bA l hb;replace ag:=bA ag hb;replace HK:=Ek2 HK ao ar hb;replace HB:=De3 HB (IsS52.gf B) aK aH hb;replace B:=am (IsS52.below B10x1_ hb);refine hK.out _ _ D3x1_ (fun Z=>nm_ ?_);clear hK K;refine pu_ 6 11 U ?_;refine pu_ 7 18 U ?_;refine pu_ 8 19 U ?_;exact norm_ B10x19_ (gu (aa) _ ⟨Z,(Ab l),(Ab ag),ar.out,aH.out,bo.out,cJ.out,aD.out,bG.out,B10x1_,(Ak2 HK ao ar),(Ae3 HB (IsS52.gf B) aK aH)⟩)
 rintro aa br ⟨hS_,gg,gi,gj,gl,gm,gn,gp,gq,gr,gs,gh⟩
 replace l:=am gg
 replace ag:=am gi
 replace ar:=am gj
 replace aH:=am gl
 replace bo:=am gm
 replace cJ:=am gn
 replace aD:=am gp
 replace bG:=am gq
 replace B:=am gr
 replace HK:=am gs
 replace HB:=am gh
 clear gg gi gj gl gm gn gp gq gr gs gh
 have Z:br.cell? ⟨g,0,none⟩=some (.slice aC aE.length ap)∧br.cell? ⟨g,1,none⟩=some (.slice aA Y.length ay)∧br.cell? ⟨az,0,none⟩=some (.int .i64 ak)∧br.cell? ⟨az,1,none⟩=some (.int .i64 aw)∧br.cell? ⟨az,2,none⟩=some (.int .i64 ae)∧br.cell? ⟨az,3,none⟩=some (.string ad)∧br.cell? ⟨az,4,none⟩=some (.string ai)∧br.cell? ⟨az,5,none⟩=some (.int .i64 au):=hS_
 refine norm_ (a':=?_) ?_ ?_
 rotate_left
 ·simp only [putAll,Act.put,List.setIfInBounds_toArray,List.set_cons_zero,List.set_cons_succ];rfl
 refine on_ 10 none U (fun K hK=>?_)
 have mJ:br.cell? ⟨aa,0,none⟩=some (.string (⟨#[]⟩:ByteArray)):=bc ag 0
 have jL:=blk_frozen ag.out 0
 obtain⟨mz,jQ⟩:=o2_ aD bG
 have mK:br.cell? ⟨aa,1,none⟩=some (.string (⟨#[]⟩:ByteArray)):=bc ag 1
 have jM:=blk_frozen ag.out 1
 obtain⟨mH,jX⟩:=o2_ aD bG
 have mN:br.cell? ⟨aa,2,none⟩=some (.int .i64 0):=bc ag 2
 have jP:=blk_frozen ag.out 2
 obtain⟨mI,jY⟩:=o2_ aD bG
 refine skip_ (w1:=?_) (by rfl) rfl ?_ ?_
 rotate_left
 ·go_simp;rfl
 refine hK.out _ _ ⟨((cell_far (p:=⟨aa,_,none⟩) bo.out _).trans (((cell_far (p:=⟨aa,_,none⟩) bo.out _).trans (((cell_far (p:=⟨aa,_,none⟩) bo.out _).trans (Z.1)))))),((cell_far (p:=⟨aa,_,none⟩) bo.out _).trans (((cell_far (p:=⟨aa,_,none⟩) bo.out _).trans (((cell_far (p:=⟨aa,_,none⟩) bo.out _).trans (Z.2.1)))))),((cell_far (p:=⟨aa,_,none⟩) aD.out _).trans (((cell_far (p:=⟨aa,_,none⟩) aD.out _).trans (((cell_far (p:=⟨aa,_,none⟩) aD.out _).trans (Z.2.2.1)))))),((cell_far (p:=⟨aa,_,none⟩) aD.out _).trans (((cell_far (p:=⟨aa,_,none⟩) aD.out _).trans (((cell_far (p:=⟨aa,_,none⟩) aD.out _).trans (Z.2.2.2.1)))))),((cell_far (p:=⟨aa,_,none⟩) aD.out _).trans (((cell_far (p:=⟨aa,_,none⟩) aD.out _).trans (((cell_far (p:=⟨aa,_,none⟩) aD.out _).trans (Z.2.2.2.2.1)))))),((cell_far (p:=⟨aa,_,none⟩) aD.out _).trans (((cell_far (p:=⟨aa,_,none⟩) aD.out _).trans (((cell_far (p:=⟨aa,_,none⟩) aD.out _).trans (Z.2.2.2.2.2.1)))))),((cell_far (p:=⟨aa,_,none⟩) aD.out _).trans (((cell_far (p:=⟨aa,_,none⟩) aD.out _).trans (((cell_far (p:=⟨aa,_,none⟩) aD.out _).trans (Z.2.2.2.2.2.2.1)))))),((cell_far (p:=⟨aa,_,none⟩) aD.out _).trans (((cell_far (p:=⟨aa,_,none⟩) aD.out _).trans (((cell_far (p:=⟨aa,_,none⟩) aD.out _).trans (Z.2.2.2.2.2.2.2))))))⟩ (fun Z=>?_)
 clear hK K
 refine pu_ 11 8 U ?_
 refine done_ (done_of U.out gk_) ?_
 obtain⟨ix,iB,kn,lC⟩:=o4_ aD bG cI co
 obtain⟨eo,ep,eq,er,et,eu,ey,ez,eB,eC,eD,eE⟩:=cf6 l
 go_upto_block 0 with (fail)
 go_cut [] (fun wc=>∃ (kq:Nat),Aside0 (spec_l15Do.j1 kq a1 aE Y ak aw ae ad ai au=some (r1,r2))∧Aside0 (kq≤k)∧Hc wc az #[.int .i64 ak,.int .i64 aw,.int .i64 ae,.string ad,.string ai,.int .i64 au] 84∧Hc wc aa #[.string bm,.string a4,.int .i64 a0] 79∧Aside0 (IsS52 w0 wc g (.slice aC aE.length ap) (.slice aA Y.length ay))∧Hk w wc g∧Hb w0 wc)
 case first=>
  replace aR:=aR.out
  obtain⟨dd,aW⟩|⟨dd,aW⟩:=sp aR
  ·obtain⟨cN,f3⟩:=yE dd;clear dd
   (first|rw [cN]|(simp only [i64_w,i32_w];rw [cN])|skip)
   obtain⟨rfl,bJ⟩|⟨rfl,bJ⟩:=sb aW
   ·obtain⟨bR,gZ,bK⟩:=bsi bJ;(try dsimp only at bK);obtain⟨e7,b6⟩:=yn bK;have jh:=eq_true e7;have ji:=decide_eq_true e7
    try have hD:(9223372036854775807<3+bR.size)=False:=eq_false (Nat.not_lt.2 e7)
    try(have hE:=hD;simp only [ByteArray.size_append] at hE)
    obtain⟨dT,cx⟩:=yn b6;have jj:=eq_true dT;have jk:=decide_eq_true dT
    try have hF:(9223372036854775807<((⟨#[105,115,32]⟩:ByteArray) ++ bR).size+1)=False:=eq_false (Nat.not_lt.2 dT)
    try have jl:(9223372036854775807<3+bR.size+1)=False:=eq_false (by have z0_:(⟨#[105,115,32]⟩:ByteArray).size=3:=rfl;have h_:=dT;simp only [ByteArray.size_append,ByteArray.size_extract,decide_eq_true_eq,decide_eq_false_iff_not] at *;omega)
    try(have hG:=hF;simp only [ByteArray.size_append] at hG)
    obtain⟨dU,bL⟩:=yn cx;have jm:=eq_true dU;have jn:=decide_eq_true dU
    try have hH:(9223372036854775807<(((⟨#[105,115,32]⟩:ByteArray) ++ bR) ++ (⟨#[32]⟩:ByteArray)).size+a4.size)=False:=eq_false (Nat.not_lt.2 dU)
    try have jo:(9223372036854775807<3+bR.size+1+a4.size)=False:=eq_false (by have z0_:(⟨#[105,115,32]⟩:ByteArray).size=3:=rfl;have z1_:(⟨#[32]⟩:ByteArray).size=1:=rfl;have h_:=dU;simp only [ByteArray.size_append,ByteArray.size_extract,decide_eq_true_eq,decide_eq_false_iff_not] at *;omega)
    try(have hJ:=hH;simp only [ByteArray.size_append] at hJ)
    obtain⟨rfl,rfl⟩:=s2 bL;clear bL aR aW bJ bK b6 cx
    try go_wp2
    generalize hw:(((br.setCell ⟨aa,0,none⟩ (.string bm)).setCell ⟨aa,1,none⟩ (.string a4)).setCell ⟨aa,2,none⟩ (.int .i64 a0))=cS;replace hw:=hw.symm
    replace l:Hc cS az #[.int .i64 ak,.int .i64 aw,.int .i64 ae,.string ad,.string ai,.int .i64 au] 84:=⟨wAp1 l aD⟩
    replace ag:Hc cS aa #[.string bm,.string a4,.int .i64 a0] 79:=⟨wAp0 ag⟩
    replace HK:Hk w cS g:=⟨wAk2 HK ao ar⟩
    replace HB:Hb w0 cS:=⟨wAe3 HB (IsS52.gf B) aK aH⟩
    replace B:Aside0 (IsS52 w0 cS g (.slice aC aE.length ap) (.slice aA Y.length ay)):=⟨(by rw [hw];exact B10x1_)⟩
    clear hw;replace l:=dA l;replace ag:=dA ag;replace B:=am (IsS52.drew B.out);replace HK:=kdr HK;replace HB:=bdr HB;refine st_ 9 (fun w'=>w'.cell? ⟨aa,0,none⟩=some (.string bm)∧w'.cell? ⟨aa,1,none⟩=some (.string a4)∧w'.cell? ⟨aa,2,none⟩=some (.int .i64 a0)) [] spec_l15Do.tab6 spec_l15Do.bits6 ⟨bc ag 0,bc ag 1,bc ag 2⟩ (fun Z U aU=>?_);generalize cS.drew=iW at l ag B HK HB Z ⊢;refine pu_ 0 26 U ?_;refine pu_ 5 31 U ?_;refine ta_ 1 27 U aU Z ?_;refine ta_ 6 32 U aU Z ?_;refine on_ 2 (some 28) U (fun K hK=>?_);refine goes_ Tryz.func46 gk_ rfl #[.int .i64 a0] (by rfl) rfl rfl gm_ ?_;refine(spec_Decimal.calls k a0 bR _ gZ.out).mono ?_;rintro e ns ⟨rfl,hb⟩;refine⟨_,rfl, ?_⟩;replace ag:=bA ag hb;replace HK:=Ek2 HK ao ar hb;replace HB:=De3 HB (IsS52.gf B) aK aH hb;replace B:=am (IsS52.below B10x1_ hb);refine hK.out _ _ ⟨bc ag 0,bc ag 1,bc ag 2⟩ (fun Z=>nm_ ?_);clear hK K;refine pu_ 3 29 U ?_;refine pu_ 4 30 U ?_;refine pu_ 7 33 U ?_;refine pu_ 8 6 U ?_;refine done_ (done_of U.out gk_) ?_
    try go_wp2
    go_ret;exact⟨_,D3x0_⟩
   obtain⟨rfl,rfl⟩:=s2 bJ;clear bJ aR aW
   go_wp2
   go_ret;exact⟨_,D3x0_⟩
  obtain⟨cN,f3⟩:=nE dd
  (first|rw [cN]|(simp only [i64_w,i32_w];rw [cN])|skip)
  obtain⟨de,a7⟩|⟨de,a7⟩:=sp aW
  ·obtain⟨f4,f5⟩:=yE de;clear de
   obtain⟨rfl,aY⟩|⟨rfl,aY⟩:=sb a7
   ·obtain⟨i2,du⟩:∃ y_:List (S79),y_=(([]:List (S79))):=⟨_,rfl⟩
    (first|with_reducible replace aY:=hq du aY|rw [←du] at aY|simp only [←du] at aY)
    have fY:=am du;clear du;replace aY:=am aY;clear aR aW a7
    go_wp2_with (first|((with_reducible refine gate_dst (N:=38) rfl ?_);refine lL k79 79 38 ([]:List (S79)) [] (Reps.none _ _) ?_;intro m0 iX dm hb;(first|rw [←fY.out] at dm|(simp only [Int.reduceToNat] at dm;rw [←fY.out] at dm));have g5:=am (Kd.R_lower (Kd.R_newB dm (g:=aa) (o:=.cells #[.string bm,.string a4,.int .i64 a0] 79 (0,0)) (Ap0 ag)) (keep_size (w:=w) (g:=g) (row:=none) (Ak2 HK ao ar)));replace l:=am (blk_below (g:=az) (o:=.cells #[.int .i64 ak,.int .i64 aw,.int .i64 ae,.string ad,.string ai,.int .i64 au] 84 (0,0)) (Ap1 l aD) hb);replace ag:=am (blk_below (g:=aa) (o:=.cells #[.string bm,.string a4,.int .i64 a0] 79 (0,0)) (Ap0 ag) hb);replace HK:=Ek2 HK ao ar hb;replace HB:=De3 HB (IsS52.gf B) aK aH hb;replace B:=am (IsS52.below (show IsS52 w0 (((br.setCell ⟨aa,0,none⟩ (.string bm)).setCell ⟨aa,1,none⟩ (.string a4)).setCell ⟨aa,2,none⟩ (.int .i64 a0)) g (.slice aC aE.length ap) (.slice aA Y.length ay) from B10x1_) hb);clear hb dm))
    go_loopg [9,10] k (fun kq v9 iR w'=>∃ (b3:List (S79)) (ac:Int),iR=.int .i64 ac∧Aside0 (spec_l15Do.l0 kq b3 ac aE Y ak aw ae ad ai au=some (r1,r2))∧Aside0 (kq≤k)∧Aside0 (Kd.R k79 79 w' w.heap.size (fun k_=>k_≠aa) v9 b3)∧Aside0 (w'.heap[az]?=some (.cells #[.int .i64 ak,.int .i64 aw,.int .i64 ae,.string ad,.string ai,.int .i64 au] 84 (0,0)))∧Aside0 (w'.heap[aa]?=some (.cells #[.string bm,.string a4,.int .i64 a0] 79 (0,0)))∧Aside0 (IsS52 w0 w' g (.slice aC aE.length ap) (.slice aA Y.length ay))∧Aside0 (KeepBut w w' g none)∧Aside0 (Below w0.heap.size w0 w'))
    case atStart=>exact⟨(i2),0,be_,aY,⟨Nat.le_refl _⟩,⟨(by (with_reducible repeat (first|apply Kd.R_alloc|apply Kd.R_drewN|apply Kd.R_drew));exact Kd.R_mono g5.out (fun _ hk=>hk.2))⟩,Cb l,Cb ag,D3x2_⟩
    case round=>
     clear aY
     try clear dd
     try clear cN
     try clear f3
     try clear de
     try clear f4
     try clear f5
     try clear jp
     obtain⟨b3,ac,rfl,bD,dP,a5,l,ag,B,HK,HB⟩:=hrel
     cases gk with
     |zero=>exact absurd bD.out (by simp [spec_l15Do.l0])
     |succ k1=>?_
     replace bD:=bD.out;simp only [spec_l15Do.l0] at bD
     obtain⟨hL,a6⟩|⟨hL,a6⟩:=sd bD
     ·obtain⟨jq,bI⟩:=yd a6
      obtain⟨dV,bW⟩|⟨dV,bW⟩:=sp bI
      ·obtain⟨hM,hN⟩:=yE dV;clear dV;replace bW:=am bW;clear bD a6 bI;obtain⟨dL,io⟩:=B.out;have nK:=cellS52_0 dL;have nL:=cellS52_1 dL;have nU:=blk_frozen dL 1;clear dL io
       try go_wp2
       replace a5:=eA a5;replace l:=dA l;replace ag:=dA ag;replace B:=am (IsS52.drew B.out);replace HK:=kdr HK;replace HB:=bdr HB
       have cC:0≤(ac:Int):=dga
       have cE:ac<(Y.length:Int):=dga
       obtain⟨aN,fl,cz,cA,cB⟩:=at_T79 (Kd.C_foot_now aI.out HK.out) ac cC cE;have iM:=cB;have iL:=cA;have iK:=cz;cases fl;have iH:=(show (⟨(aN.add ((ac).toNat * 3)).block,(aN.add ((ac).toNat * 3)).off+2,none⟩:Addr).block≠g from B10x3_);have iw:=(Kd.foot_lt aI.out (by omega) (by decide));have iG:=(show (⟨(aN.add ((ac).toNat * 3)).block,(aN.add ((ac).toNat * 3)).off+1,none⟩:Addr).block≠g from B10x3_);have iv:=(Kd.foot_lt aI.out (by omega) (by decide));have iF:=(show ((aN.add ((ac).toNat * 3)):Addr).block≠g from B10x3_);have iu:=(Kd.foot_lt aI.out (by omega) (by decide));replace cC:=eq_true cC;replace cE:=eq_true cE;refine st_ 11 (fun w'=>w'.cell? ⟨g,0,none⟩=some (.slice aC aE.length ap)∧w'.cell? ⟨g,1,none⟩=some (.slice (some aN) Y.length ay)∧w'.cell? ⟨az,0,none⟩=some (.int .i64 ak)∧w'.cell? ⟨az,1,none⟩=some (.int .i64 aw)∧w'.cell? ⟨az,2,none⟩=some (.int .i64 ae)∧w'.cell? ⟨az,3,none⟩=some (.string ad)∧w'.cell? ⟨az,4,none⟩=some (.string ai)∧w'.cell? ⟨az,5,none⟩=some (.int .i64 au)∧w'.cell? (aN.add ((ac).toNat * 3))=some (.string ((rd_T79 Y ac).f0))∧w'.cell? ⟨(aN.add ((ac).toNat * 3)).block,(aN.add ((ac).toNat * 3)).off+1,none⟩=some (.string ((rd_T79 Y ac).f1))∧w'.cell? ⟨(aN.add ((ac).toNat * 3)).block,(aN.add ((ac).toNat * 3)).off+2,none⟩=some (.int .i64 ((rd_T79 Y ac).f2))) [] spec_l15Do.tab14 spec_l15Do.bits14 ⟨(blk_cell B.out.1 0).trans rfl,(blk_cell B.out.1 1).trans rfl,bc l 0,bc l 1,bc l 2,bc l 3,bc l 4,bc l 5,cz,cA,cB⟩ (fun Z U aU=>?_);generalize wr.drew=nu at a5 l ag B HK HB cz cA cB Z ⊢;refine pu_ 0 48 U ?_;refine pu_ 1 49 U ?_;refine pu_ 2 50 U ?_;refine pu_ 4 52 U ?_;refine pu_ 8 56 U ?_;refine ta_ 3 51 U aU Z ?_;refine pu_ 5 53 U ?_;refine pu_ 6 54 U ?_;refine ta_ 7 55 U aU Z ?_;refine ta_ 9 57 U aU Z ?_;refine pu_ 10 58 U ?_;refine done_ (done_of U.out gk_) ?_
       try go_wp2
       go_roundg k1
       case measure=>have:=dP.out;omega
       case rel=>exact⟨(b3),(wrap64 (ac+1)),be_,bW,⟨(by have:=dP.out;omega)⟩,Cr a5,Cb l,Cb ag,D3x2_⟩
      obtain⟨hM,hN⟩:=nE dV;obtain⟨g7,bj⟩:=ya bW;obtain⟨i3,dv⟩:∃ y_:List (S79),y_=(b3 ++ [(⟨(rd_T79 Y ac).f0,(rd_T79 Y ac).f1,(rd_T79 Y ac).f2⟩:S79)]):=⟨_,rfl⟩
      (first|with_reducible replace bj:=hq dv bj|rw [←dv] at bj|simp only [←dv] at bj)
      have hs:=am dv;clear dv;replace bj:=am bj;clear bD a6 bI bW;obtain⟨dM,ip⟩:=B.out;have nM:=cellS52_0 dM;have nN:=cellS52_1 dM;have nV:=blk_frozen dM 1;clear dM ip
      try go_wp2
      replace a5:=eA a5;replace l:=dA l;replace ag:=dA ag;replace B:=am (IsS52.drew B.out);replace HK:=kdr HK;replace HB:=bdr HB
      have cC:0≤(ac:Int):=dga
      have cE:ac<(Y.length:Int):=dga
      obtain⟨aN,fl,cz,cA,cB⟩:=at_T79 (Kd.C_foot_now aI.out HK.out) ac cC cE;have iM:=cB;have iL:=cA;have iK:=cz;cases fl;have iH:=(show (⟨(aN.add ((ac).toNat * 3)).block,(aN.add ((ac).toNat * 3)).off+2,none⟩:Addr).block≠g from B10x3_);have iw:=(Kd.foot_lt aI.out (by omega) (by decide));have iG:=(show (⟨(aN.add ((ac).toNat * 3)).block,(aN.add ((ac).toNat * 3)).off+1,none⟩:Addr).block≠g from B10x3_);have iv:=(Kd.foot_lt aI.out (by omega) (by decide));have iF:=(show ((aN.add ((ac).toNat * 3)):Addr).block≠g from B10x3_);have iu:=(Kd.foot_lt aI.out (by omega) (by decide));replace cC:=eq_true cC;replace cE:=eq_true cE;refine st_ 11 (fun w'=>w'.cell? ⟨g,0,none⟩=some (.slice aC aE.length ap)∧w'.cell? ⟨g,1,none⟩=some (.slice (some aN) Y.length ay)∧w'.cell? ⟨az,0,none⟩=some (.int .i64 ak)∧w'.cell? ⟨az,1,none⟩=some (.int .i64 aw)∧w'.cell? ⟨az,2,none⟩=some (.int .i64 ae)∧w'.cell? ⟨az,3,none⟩=some (.string ad)∧w'.cell? ⟨az,4,none⟩=some (.string ai)∧w'.cell? ⟨az,5,none⟩=some (.int .i64 au)∧w'.cell? (aN.add ((ac).toNat * 3))=some (.string ((rd_T79 Y ac).f0))∧w'.cell? ⟨(aN.add ((ac).toNat * 3)).block,(aN.add ((ac).toNat * 3)).off+1,none⟩=some (.string ((rd_T79 Y ac).f1))∧w'.cell? ⟨(aN.add ((ac).toNat * 3)).block,(aN.add ((ac).toNat * 3)).off+2,none⟩=some (.int .i64 ((rd_T79 Y ac).f2))) [] spec_l15Do.tab14 spec_l15Do.bits14 ⟨(blk_cell B.out.1 0).trans rfl,(blk_cell B.out.1 1).trans rfl,bc l 0,bc l 1,bc l 2,bc l 3,bc l 4,bc l 5,cz,cA,cB⟩ (fun Z U aU=>?_);generalize wr.drew=nv at a5 l ag B HK HB cz cA cB Z ⊢;refine pu_ 0 48 U ?_;refine pu_ 1 49 U ?_;refine pu_ 2 50 U ?_;refine pu_ 4 52 U ?_;refine pu_ 8 56 U ?_;refine ta_ 3 51 U aU Z ?_;refine pu_ 5 53 U ?_;refine pu_ 6 54 U ?_;refine ta_ 7 55 U aU Z ?_;refine ta_ 9 57 U aU Z ?_;refine pu_ 10 58 U ?_;refine done_ (done_of U.out gk_) ?_;obtain⟨dN,iq⟩:=B.out;have nO:=cellS52_0 dN;have nP:=cellS52_1 dN;have nW:=blk_frozen dN 1;clear dN iq
      have ft:0≤(ac:Int):=dga
      have fw:ac<(Y.length:Int):=dga
      obtain⟨hv,h2,mW,mX,mY⟩:=at_T79 (Kd.C_foot_now aI.out HK.out) ac ft fw;obtain rfl:aN=hv:=(by injection h2);replace ft:=eq_true ft;replace fw:=eq_true fw
      try go_wp2_with (first|((with_reducible refine gate_builtin (b:=.append) (xs:=#[.tmp 59,.tmp 67]) rfl ?_);at_builtin;refine Kd.R_append k79 w.heap.size rfl (.tmp 59) (.tmp 67) 50 79 (.agg #[(.string ⟨#[]⟩),(.string ⟨#[]⟩),(.int .i64 0)]) 40 rfl Tryz.underlying50 info79 rfl (by decide) (by omega) u9 b3 (⟨(rd_T79 Y ac).f0,(rd_T79 Y ac).f1,(rd_T79 Y ac).f2⟩:S79) [.string ((rd_T79 Y ac).f0),.string ((rd_T79 Y ac).f1),.int .i64 ((rd_T79 Y ac).f2)] (fun k_=>k_≠aa) (fun _=>False) rfl rfl ?aP (fun _ hk=>hk.elim) ?aF ?aO (Below.refl _ _) ?aS ?aL ?_;(case aP=>exact k79_mkM _ _ _ (⟨(rd_T79 Y ac).f0,(rd_T79 Y ac).f1,(rd_T79 Y ac).f2⟩:S79));(case aF=>exact(fun k_ hk=>Kd.freshB (g:=aa) (o:=.cells #[.string bm,.string a4,.int .i64 a0] 79 (0,0)) (Ab ag) k_ hk));(case aO=>exact(Ar a5));(case aS=>exact(keep_size (w:=w) (g:=g) (row:=none) (Ak2 HK ao ar)));(case aL=>have:=g7.out;omega);intro m1 nw ho hb hg hat;rw [←hs.out] at ho;replace l:=bg l hg (Kd.R_ne a5.out l.out (by decide));replace ag:=bg ag hg (Kd.R_away a5.out (fun _ hk=>hk));replace HB:=am (below_weaken (Ae3 HB (IsS52.gf B) aK aH) HL.out hb);replace B:=am (IsS52.grown (by repeat (first|(with_reducible first|exact B.out|apply IsS52.alloc|apply IsS52.drewN|apply IsS52.drew|apply IsS52.set_1|apply IsS52.far (p:=⟨az,_,none⟩) (hne:=co.out)|apply IsS52.far (p:=⟨aa,_,none⟩) (hne:=bo.out))|exact B.out)) hg (IsS52.own_ne B.out a5.out (by decide)));replace HK:=am (KeepBut.trans (Ak2 HK ao ar) (KeepBut.of_grown hg g) (Kd.R_base2 a5.out));have g6:=am ho;clear a5;clear ho hb hg hat))
      go_roundg k1
      case measure=>have:=dP.out;omega
      case rel=>exact⟨(i3),(wrap64 (ac+1)),be_,bj,⟨(by have:=dP.out;omega)⟩,Cr g6,Cb l,Cb ag,D3x2_⟩
     obtain⟨rfl,rfl⟩:=s2 a6;clear a6 bD;obtain⟨dO,ir⟩:=B.out;have nQ:=cellS52_0 dO;have nR:=cellS52_1 dO;have nX:=blk_frozen dO 1;clear dO ir;obtain⟨dK,d1,ib⟩:=Kd.R_slice a5.out;subst ib
     go_wp2
     go_ret
     exact⟨_,B10x9_,B10x1_,(by first|exact Kd.R_lower (Kd.R_mono (IsS52.apart (show IsS52 w0 _ g (.slice aC aE.length ap) (.slice dK b3.length d1) from B10x1_) (tr (Kd.R_mono (Kd.R_far (p:=⟨g,1,none⟩) (IsS52.apart B.out a5.out (by decide)) (fun _ hk=>hk.2) (.slice dK b3.length d1)) (fun _ h_=>h_.1))) (by decide)) (fun _ h_=>h_.2)) HL.out|exact Kd.R_mono (IsS52.apart (show IsS52 w0 _ g (.slice aC aE.length ap) (.slice dK b3.length d1) from B10x1_) (tr (Kd.R_mono (Kd.R_far (p:=⟨g,1,none⟩) (IsS52.apart B.out a5.out (by decide)) (fun _ hk=>hk.2) (.slice dK b3.length d1)) (fun _ h_=>h_.1))) (by decide)) (fun _ h_=>h_.2)),(Ae3 HB (IsS52.gf B) aK aH),(Ak2 HK ao ar)⟩
   obtain⟨rfl,rfl⟩:=s2 aY;clear aY aR aW a7
   go_wp2
   go_ret;exact⟨_,D3x0_⟩
  obtain⟨f4,f5⟩:=nE de
  obtain⟨dW,bn⟩|⟨dW,bn⟩:=sp a7
  ·obtain⟨hP,hQ⟩:=yE dW;clear dW
   obtain⟨rfl,bX⟩|⟨rfl,bX⟩:=sb bn
   ·obtain⟨dX,b4⟩|⟨dX,b4⟩:=sp bX
    ·obtain⟨hR,hS⟩:=yE dX;clear dX;replace b4:=am b4;clear aR aW a7 bn bX;obtain⟨kK,lZ,kL,l2⟩:=o4_ bG aD cJ bo;obtain⟨i5,i6,i7,i9,ja,jb⟩:=cf3 ag;obtain⟨iy,iC⟩:=o2_ cI co;obtain⟨eo,ep,eq,er,et,eu,ey,ez,eB,eC,eD,eE⟩:=cf6 l
     go_wp2
     go_meet
     case rel=>exact⟨_,b4,⟨gl_⟩,Cp1 l aD,Cp0 ag,D3x2_⟩
    obtain⟨hR,hS⟩:=nE dX;obtain⟨dz,g1,bE⟩:=bsi b4;(try dsimp only at bE);obtain⟨fa,bY⟩:=yn bE;have jr:=eq_true fa;have js:=decide_eq_true fa
    try have hT:(9223372036854775807<4+dz.size)=False:=eq_false (Nat.not_lt.2 fa)
    try(have hU:=hT;simp only [ByteArray.size_append] at hU)
    obtain⟨rfl,rfl⟩:=s2 bY;clear bY aR aW a7 bn bX b4 bE;obtain⟨kO,l5,iz,iD⟩:=o4_ bG aD cJ bo;obtain⟨i5,i6,i7,i9,ja,jb⟩:=cf3 ag;obtain⟨kQ,l7⟩:=o2_ cI co;obtain⟨eo,ep,eq,er,et,eu,ey,ez,eB,eC,eD,eE⟩:=cf6 l
    go_wp2_with (first|((with_reducible refine gate_callee (f:=46) rfl ?_);refine goesL_ (some 84) rfl rfl Tryz.func46 gk_ rfl #[.int .i64 a0] rfl gm_ ?_;refine(spec_Decimal.calls k a0 dz _ g1.out).mono ?_;rintro e nz ⟨rfl,hb⟩;refine⟨_,rfl, ?_⟩;replace HK:=Ek2 HK ao ar hb;replace HB:=De3 HB (IsS52.gf B) aK aH hb;replace B:=am (IsS52.below (show IsS52 w0 (((br.setCell ⟨aa,0,none⟩ (.string bm)).setCell ⟨aa,1,none⟩ (.string a4)).setCell ⟨aa,2,none⟩ (.int .i64 a0)) g (.slice aC aE.length ap) (.slice aA Y.length ay) from B10x1_) hb)))
    go_ret;exact⟨_,D3x0_⟩
   obtain⟨rfl,rfl⟩:=s2 bX;clear bX aR aW a7 bn
   go_wp2
   go_ret;exact⟨_,D3x0_⟩
  obtain⟨hP,hQ⟩:=nE dW;replace bn:=am bn;clear aR aW a7
  go_wp2
  go_meet
  case rel=>exact⟨_,bn,⟨gl_⟩,Cp1 l aD,Cp0 ag,D3x2_⟩
 clear aR
 obtain⟨kq,a3,jd,l,ag,B,HK,HB⟩:=hcut
 cases kq with
 |zero=>exact absurd a3.out (by simp [spec_l15Do.j1])
 |succ fq=>?_
 replace a3:=a3.out
 simp only [spec_l15Do.j1] at a3
 obtain⟨⟨mZ,gG⟩,fJ,bF⟩:=bsi a3
 (try dsimp only at bF)
 obtain⟨rfl,b5⟩|⟨rfl,b5⟩:=sb bF
 ·obtain⟨dB,g2,bZ⟩:=bsi b5;(try dsimp only at bZ);obtain⟨fb,cH⟩:=yn bZ;have jv:=eq_true fb;have jw:=decide_eq_true fb
  try have hX:(9223372036854775807<4+dB.size)=False:=eq_false (Nat.not_lt.2 fb)
  try(have hY:=hX;simp only [ByteArray.size_append] at hY)
  obtain⟨rfl,rfl⟩:=s2 cH;clear cH a3 bF b5 bZ;obtain⟨kT,ma,iA,iE⟩:=o4_ aD bG cI co;obtain⟨eo,ep,eq,er,et,eu,ey,ez,eB,eC,eD,eE⟩:=cf6 l
  go_wp2_with (first|((with_reducible refine gate_callee (f:=95) rfl ?_);refine goesL_ (some 93) rfl rfl Tryz.func95 gk_ rfl #[.pointer (some ⟨g,0,none⟩),.agg #[.string ad,.string ai,.int .i64 a1]] rfl gm_ ?_;refine(spec_l15Put.calls fq g aC ap aE aA ay Y ad ai a1 true gG w0 _ B10x1_ (Ae3 HB (IsS52.gf B) aK aH) (Kd.C_foot_step a2.out (Ak2 HK ao ar)) be.out (Kd.C_foot_step aI.out (Ak2 HK ao ar)) bh.out B10x20_ fJ.out).mono ?_;rintro e nC ⟨fx,rfl,hi,hl,hb,hk⟩;refine⟨_,rfl, ?_⟩;replace l:=kA hk l cI;have cY:=am hl;replace HK:=Dk2 HK ao ar hk;replace HB:=am hb;replace B:=am hi)|((with_reducible refine gate_callee (f:=46) rfl ?_);refine goesL_ (some 96) rfl rfl Tryz.func46 gk_ rfl #[.int .i64 a1] rfl gm_ ?_;refine(spec_Decimal.calls fq a1 dB _ g2.out).mono ?_;rintro e iY ⟨rfl,hb⟩;refine⟨_,rfl, ?_⟩;replace cY:=rA cY hb;replace l:=bA l hb;replace HK:=Ek2 HK ao ar hb;replace HB:=De3 HB (IsS52.gf B) aK aH hb;replace B:=am (IsS52.below B10x1_ hb)))
  go_ret;exact⟨_,B10x9_,B10x1_,B10x11_,(Ae3 HB (IsS52.gf B) aK aH),(Ak2 HK ao ar)⟩
 obtain⟨rfl,rfl⟩:=s2 b5
 clear b5 a3 bF
 obtain⟨kV,mc,kW,md⟩:=o4_ aD bG cI co
 obtain⟨eo,ep,eq,er,et,eu,ey,ez,eB,eC,eD,eE⟩:=cf6 l
 go_wp2_with (first|((with_reducible refine gate_callee (f:=95) rfl ?_);refine goesL_ (some 93) rfl rfl Tryz.func95 gk_ rfl #[.pointer (some ⟨g,0,none⟩),.agg #[.string ad,.string ai,.int .i64 a1]] rfl gm_ ?_;refine(spec_l15Put.calls fq g aC ap aE aA ay Y ad ai a1 false gG w0 _ B10x1_ (Ae3 HB (IsS52.gf B) aK aH) (Kd.C_foot_step a2.out (Ak2 HK ao ar)) be.out (Kd.C_foot_step aI.out (Ak2 HK ao ar)) bh.out B10x20_ fJ.out).mono ?_;rintro e nD ⟨fx,rfl,hi,hl,hb,hk⟩;refine⟨_,rfl, ?_⟩;have cY:=am hl;replace HK:=Dk2 HK ao ar hk;replace HB:=am hb;replace B:=am hi))
 go_ret
 exact⟨_,B10x9_,B10x1_,B10x11_,(Ae3 HB (IsS52.gf B) aK aH),(Ak2 HK ao ar)⟩
theorem B11x28_ (h:p:=by exact⟨(Ap0 aX),eT.out⟩):p:=h
theorem B11x29_ (h:p:=by have:=cW.out;have:=cX.out;first|omega|exact Nat.le_refl _):p:=h
mutual
def spec_Perform.j0:Nat→Int→Bool→List (S76)→List (S79)→Int→Int→Int→ByteArray→ByteArray→Int→Option ((List (S76)) × (List (S79)) × ByteArray × Bool)
 |0,_,_,_,_,_,_,_,_,_,_=>none
 |k+1,x1,i0,aQ,bz,b9,ca,bB,cu,cv,cw=>if i0=true then (some (([]:List (S76)),([]:List (S79)),(⟨#[]⟩:ByteArray),false)) else (if b9=1 then ((spec_l15Open.f k aQ bz x1).bind fun e5=>(some (e5.1,e5.2.1,e5.2.2,true))) else (spec_Perform.l0 k x1 (-1) 0 aQ bz b9 ca bB cu cv cw))
def spec_Perform.l0:Nat→Int→Int→Int→List (S76)→List (S79)→Int→Int→Int→ByteArray→ByteArray→Int→Option ((List (S76)) × (List (S79)) × ByteArray × Bool)
 |0,_,_,_,_,_,_,_,_,_,_,_=>none
 |k+1,x1,aT,cT,aQ,bz,b9,ca,bB,cu,cv,cw=>if cT<(aQ.length:Int) then (if 0≤cT then (if ((rd_T76 aQ cT).f0)=ca then (spec_Perform.l0 k x1 cT (wrap64 (cT+1)) aQ bz b9 ca bB cu cv cw) else (spec_Perform.l0 k x1 aT (wrap64 (cT+1)) aQ bz b9 ca bB cu cv cw)) else (none)) else (if aT<0 then ((spec_l15Copy.f aQ bz).bind fun fZ=>(some (fZ.1,fZ.2,(⟨#[110,111,110,101]⟩:ByteArray),true))) else (if 0≤aT then (if aT<(aQ.length:Int) then (if bB=0 then (spec_Perform.j2 k x1 aT true aQ bz b9 ca bB cu cv cw ((rd_T76 aQ aT).f0) ((rd_T76 aQ aT).f1) ((rd_T76 aQ aT).f2)) else (spec_Perform.j2 k x1 aT (decide (bB<((rd_T76 aQ aT).f1))) aQ bz b9 ca bB cu cv cw ((rd_T76 aQ aT).f0) ((rd_T76 aQ aT).f1) ((rd_T76 aQ aT).f2))) else (none)) else (none)))
def spec_Perform.j2:Nat→Int→Int→Bool→List (S76)→List (S79)→Int→Int→Int→ByteArray→ByteArray→Int→Int→Int→ByteArray→Option ((List (S76)) × (List (S79)) × ByteArray × Bool)
 |0,_,_,_,_,_,_,_,_,_,_,_,_,_,_=>none
 |k+1,x1,aT,i1,aQ,bz,b9,ca,bB,cu,cv,cw,nH,gQ,iZ=>if i1=true then ((spec_l15Copy.f aQ bz).bind fun f0=>(some (f0.1,f0.2,(⟨#[111,108,100]⟩:ByteArray),true))) else (if bB=gQ then ((spec_l15Copy.f aQ bz).bind fun f1=>(some (f1.1,f1.2,iZ,true))) else (if bB>(wrap64 (gQ+1)) then ((spec_l15Copy.f aQ bz).bind fun f2=>(some (f2.1,f2.2,(⟨#[103,97,112]⟩:ByteArray),true))) else ((spec_l15Copy.f aQ bz).bind fun cM=>((spec_l15Do.f k cM.1 cM.2 x1 b9 ca bB cu cv cw).bind fun e6=>(if 0≤aT then (if aT<(cM.1.length:Int) then ((some (cM.1.set (aT:Int).toNat (⟨(rd_T76 cM.1 aT).f0,bB,(rd_T76 cM.1 aT).f2⟩:S76):List (S76))).bind fun bd=>(some ((bd.set (aT:Int).toNat (⟨(rd_T76 bd aT).f0,(rd_T76 bd aT).f1,e6.1⟩:S76)),e6.2,e6.1,true))) else (none)) else (none))))))
end
def spec_Perform.f (k:Nat) (M:List (S76)) (av:List (S79)) (a1:Int) (ak:Int) (aw:Int) (ae:Int) (ad:ByteArray) (ai:ByteArray) (au:Int):Option ((List (S76)) × (List (S79)) × ByteArray × Bool):=(spec_KeepOk.f k M av).bind fun gH=>(if gH=true then ((spec_l01In.f a1 1 1000000).bind fun gI=>(if gI=true then (if a1>400000 then (spec_Perform.j0 k a1 true M av ak aw ae ad ai au) else ((spec_CommandOk.f k ak aw ae ad ai au).bind fun ec=>(spec_Perform.j0 k a1 (!ec) M av ak aw ae ad ai au))) else (spec_Perform.j0 k a1 true M av ak aw ae ad ai au))) else (spec_Perform.j0 k a1 true M av ak aw ae ad ai au))
def spec_Perform.T10:Bool × List (List Nat × List Nat):=(true,[([],[]),([0],[0]),([],[]),([1,2],[1,2]),([3],[3]),([4],[4]),([],[]),([6],[6]),([5,7],[5,7])])
def spec_Perform.B10:List Nat:=[0,1,0,7,15,31,0,64,255]
theorem spec_Perform.tab10:rtab .any (opsOf Tryz.f39 10)=spec_Perform.T10:=by kernel_rfl
theorem spec_Perform.bits10:waitsOk spec_Perform.T10.2 spec_Perform.B10=true:=by kernel_rfl
theorem spec_Perform.calls (k:Nat) (aC:Option Addr) (ap:Nat) (M:List (S76)) (aA:Option Addr) (ay:Nat) (av:List (S79)) (a1:Int) (ak:Int) (aw:Int) (ae:Int) (ad:ByteArray) (ai:ByteArray) (au:Int) (r1:List (S76)) (r2:List (S79)) (r3:ByteArray) (r4:Bool) (w:World) (dn:Kd.C k76 w aC M.length M) (dk:M.length≤ap) (dp:Kd.C k79 w aA av.length av) (dl:av.length≤ay) (h:spec_Perform.f k M av a1 ak aw ae ad ai au=some (r1,r2,r3,r4)) :
  Calls Tryz.prog 39 #[.agg #[.slice aC M.length ap,.slice aA av.length ay],.int .i64 a1,.agg #[.int .i64 ak,.int .i64 aw,.int .i64 ae,.string ad,.string ai,.int .i64 au]] w fun e w'=>∃ gJ gN:Value,e=.returned (.tuple #[.agg #[gJ,gN],.string r3,.bool r4])∧Kd.R k76 76 w' w.heap.size (fun _=>True) gJ r1∧Kd.R k79 79 w' w.heap.size (fun _=>True) gN r2∧Below w.heap.size w w':=by
 have iI:=Tryz.underlying52
 have iJ:=Tryz.underlying84
 have mO:=Tryz.underlying76
 have a2:=am dn
 have be:=am dk
 clear dn dk
 have aI:=am dp
 have bh:=am dl
 clear dp dl
 have HB:=am (Below.refl w.heap.size w)
 have bi:=h
 clear h
 unfold spec_Perform.f at bi
 replace bi:=am bi
 go_enter Tryz.func39,Tryz.ntmps39
 go_upto_region 1 with (first|((with_reducible refine gate_dst (N:=3) rfl ?_);refine bx (N:=3) (cs:=#[.slice aC M.length ap,.slice aA av.length ay]) (t:=52) ?_;intro b2 hg w5 hbox hb;have z:=am hbox;have ah:=gA hg HB;replace HB:=hA HB hb;clear hb hbox hg)|((with_reducible refine gate_dst (N:=5) rfl ?_);refine bx (N:=5) (cs:=#[.int .i64 ak,.int .i64 aw,.int .i64 ae,.string ad,.string ai,.int .i64 au]) (t:=84) ?_;intro ba hg w6 hbox hb;have D:=am hbox;have aj:=gA hg HB;replace HB:=De1 HB ah hb;have a8:=nA hg z;have a9:=mA hg z;replace z:=bA z hb;clear hb hbox hg)|((with_reducible refine gate_dst (N:=6) rfl ?_);refine bx (N:=6) (cs:=#[.slice none 0 0,.slice none 0 0]) (t:=52) ?_;intro af hg w7 hbox hb;have q:=am hbox;have al:=gA hg HB;replace HB:=De2 HB ah aj hb;have aZ:=nA hg z;have bk:=mA hg z;replace z:=bA z hb;have bu:=nA hg D;have bv:=mA hg D;replace D:=bA D hb;clear hb hbox hg))
 (try simp only [Act.put,List.setIfInBounds_toArray,List.set_cons_zero,List.set_cons_succ])
 go_cut [32] (fun iU wc=>∃ (kq:Nat) (fD:Bool),iU=.bool fD∧Aside0 (spec_Perform.j0 kq a1 fD M av ak aw ae ad ai au=some (r1,r2,r3,r4))∧Aside0 (kq≤k)∧Hc wc b2 #[(.slice aC M.length ap),(.slice aA av.length ay)] 52∧Hc wc ba #[.int .i64 ak,.int .i64 aw,.int .i64 ae,.string ad,.string ai,.int .i64 au] 84∧Hc wc af #[(.slice none 0 0),(.slice none 0 0)] 52∧Hb w wc)
 case first=>
  replace bi:=bi.out;obtain⟨gH,A8,aR⟩:=bsi bi;(try dsimp only at aR)
  obtain⟨rfl,aW⟩|⟨rfl,aW⟩:=sb aR
  ·obtain⟨gI,eI,bJ⟩:=bsi aW;(try dsimp only at bJ)
   obtain⟨rfl,bK⟩|⟨rfl,bK⟩:=sb bJ
   ·obtain⟨da,b6⟩|⟨da,b6⟩:=sp bK
    ·have dc:decide (400000<a1)=true:=decide_eq_true da
     clear da
     (first|rw [dc]|(simp only [i64_w,i32_w];rw [dc])|skip)
     replace b6:=am b6;clear bi aR aW bJ bK;obtain⟨kf,lu,ix,iB⟩:=o4_ a8 a9 aZ bk;obtain⟨bS,bT,bU,bV⟩:=cf2 z
     go_wp2_with (first|((with_reducible refine gate_callee (f:=36) rfl ?_);refine goesL_ (some 17) rfl rfl Tryz.func36 gk_ rfl #[.agg #[.slice aC M.length ap,.slice aA av.length ay]] rfl gm_ ?_;refine(spec_KeepOk.calls k _ _ M _ _ av true _ (tc (Kd.C_below a2.out HB.out)) be.out (tc (Kd.C_below aI.out HB.out)) bh.out A8.out).mono ?_;rintro e np ⟨rfl,hb⟩;refine⟨_,rfl, ?_⟩;replace z:=bA z hb;replace D:=bA D hb;replace q:=bA q hb;replace HB:=De3 HB ah aj al hb)|(go_at_call 31;refine(spec_l01In.calls a1 1 1000000 true _ eI.out).mono ?_;rintro e w' ⟨rfl,⟨nd,rfl⟩⟩))
     go_meet
     case rel=>exact⟨_,true,be_,b6,⟨gl_⟩,D3x3_⟩
    have dc:decide (400000<a1)=false:=decide_eq_false da
    clear da
    (first|rw [dc]|(simp only [i64_w,i32_w];rw [dc])|skip)
    obtain⟨ec,gY,cx⟩:=bsi b6;(try dsimp only at cx);replace cx:=am cx;clear bi aR aW bJ bK b6;obtain⟨kx,lM,ky,lN⟩:=o4_ a8 a9 aZ bk;obtain⟨bS,bT,bU,bV⟩:=cf2 z
    go_wp2_with (first|((with_reducible refine gate_callee (f:=36) rfl ?_);refine goesL_ (some 17) rfl rfl Tryz.func36 gk_ rfl #[.agg #[.slice aC M.length ap,.slice aA av.length ay]] rfl gm_ ?_;refine(spec_KeepOk.calls k _ _ M _ _ av true _ (tc (Kd.C_below a2.out HB.out)) be.out (tc (Kd.C_below aI.out HB.out)) bh.out A8.out).mono ?_;rintro e nr ⟨rfl,hb⟩;refine⟨_,rfl, ?_⟩;replace z:=bA z hb;replace D:=bA D hb;replace q:=bA q hb;replace HB:=De3 HB ah aj al hb)|(go_at_call 31;refine(spec_l01In.calls a1 1 1000000 true _ eI.out).mono ?_;rintro e w' ⟨rfl,⟨nd,rfl⟩⟩;have kz:=bu.out;have lO:=bv.out;obtain⟨cc,cd,ce,cf,cg,ch,ci,cj,ck,cl,cm,cn⟩:=cf6 D)|(go_at_call 72;refine(spec_CommandOk.calls k ak aw ae ad ai au ec _ gY.out).mono ?_;rintro e iW ⟨rfl,hb⟩;replace z:=bA z hb;replace D:=bA D hb;replace q:=bA q hb;replace HB:=De3 HB ah aj al hb))
    go_meet
    case rel=>exact⟨_,(!ec),be_,cx,⟨gl_⟩,D3x3_⟩
   replace bK:=am bK;clear bi aR aW bJ;obtain⟨kB,lP,kC,lQ⟩:=o4_ a8 a9 aZ bk;obtain⟨bS,bT,bU,bV⟩:=cf2 z
   go_wp2_with (first|((with_reducible refine gate_callee (f:=36) rfl ?_);refine goesL_ (some 17) rfl rfl Tryz.func36 gk_ rfl #[.agg #[.slice aC M.length ap,.slice aA av.length ay]] rfl gm_ ?_;refine(spec_KeepOk.calls k _ _ M _ _ av true _ (tc (Kd.C_below a2.out HB.out)) be.out (tc (Kd.C_below aI.out HB.out)) bh.out A8.out).mono ?_;rintro e iX ⟨rfl,hb⟩;refine⟨_,rfl, ?_⟩;replace z:=bA z hb;replace D:=bA D hb;replace q:=bA q hb;replace HB:=De3 HB ah aj al hb)|(go_at_call 31;refine(spec_l01In.calls a1 1 1000000 false _ eI.out).mono ?_;rintro e w' ⟨rfl,⟨nd,rfl⟩⟩))
   go_meet
   case rel=>exact⟨_,true,be_,bK,⟨gl_⟩,D3x3_⟩
  replace aW:=am aW;clear bi aR;obtain⟨kD,lR,kE,lT⟩:=o4_ a8 a9 aZ bk;obtain⟨bS,bT,bU,bV⟩:=cf2 z
  go_wp2_with (first|((with_reducible refine gate_callee (f:=36) rfl ?_);refine goesL_ (some 17) rfl rfl Tryz.func36 gk_ rfl #[.agg #[.slice aC M.length ap,.slice aA av.length ay]] rfl gm_ ?_;refine(spec_KeepOk.calls k _ _ M _ _ av false _ (tc (Kd.C_below a2.out HB.out)) be.out (tc (Kd.C_below aI.out HB.out)) bh.out A8.out).mono ?_;rintro e nt ⟨rfl,hb⟩;refine⟨_,rfl, ?_⟩;replace z:=bA z hb;replace D:=bA D hb;replace q:=bA q hb;replace HB:=De3 HB ah aj al hb))
  go_meet
  case rel=>exact⟨_,true,be_,aW,⟨gl_⟩,D3x3_⟩
 clear bi
 obtain⟨kq,fD,rfl,bL,cW,z,D,q,HB⟩:=hcut
 cases kq with
 |zero=>exact absurd bL.out (by simp [spec_Perform.j0])
 |succ fp=>?_
 replace bL:=bL.out
 simp only [spec_Perform.j0] at bL
 obtain⟨rfl,a7⟩|⟨rfl,a7⟩:=sb bL
 ·obtain⟨rfl,rfl,rfl,rfl⟩:=s4 a7;clear a7 bL;obtain⟨kF,lU,kG,lV⟩:=o4_ bk aZ bv bu;obtain⟨dE,dF,dG,dH⟩:=cf2 q
  go_wp2
  refine bodyPost_ret (results_ctt rfl _ _ af 52 #[.slice none 0 0,.slice none 0 0] (0,0) _ rfl (Ap0 q) Tryz.underlying52 rfl gk_) rfl ?_;exact⟨_,_,B10x9_,gn_,gn_,(Ae3 HB ah aj al)⟩
 obtain⟨cO,aY⟩|⟨cO,aY⟩:=sp a7
 ·obtain⟨e8,e9⟩:=yE cO;clear cO;obtain⟨⟨cP,cQ,iQ⟩,g0,bD⟩:=bsi aY;(try dsimp only at bD);obtain⟨rfl,rfl,rfl,rfl⟩:=s4 bD;clear bD bL a7 aY;obtain⟨kH,lW,kI,lX⟩:=o4_ a9 a8 bu bv;obtain⟨cc,cd,ce,cf,cg,ch,ci,cj,ck,cl,cm,cn⟩:=cf6 D;obtain⟨kJ,lY⟩:=o2_ aZ bk;obtain⟨bS,bT,bU,bV⟩:=cf2 z
  go_wp2_with (first|((with_reducible refine gate_callee (f:=73) rfl ?_);refine goesL_ (some 40) rfl rfl Tryz.func73 gk_ rfl #[.agg #[.slice aC M.length ap,.slice aA av.length ay],.int .i64 a1] rfl gm_ ?_;refine(spec_l15Open.calls fp _ _ M _ _ av a1 cP cQ iQ _ (tc (Kd.C_below a2.out HB.out)) be.out (tc (Kd.C_below aI.out HB.out)) bh.out g0.out).mono ?_;rintro e nx ⟨m2,m3,rfl,bM,bN,hb⟩;refine⟨_,rfl, ?_⟩;have dQ:=am (Kd.R_lower bM (below_size (Ae3 HB ah aj al)));have dR:=am (Kd.R_lower bN (below_size (Ae3 HB ah aj al)));replace z:=bA z hb;replace D:=bA D hb;replace q:=bA q hb;replace HB:=De3 HB ah aj al hb)|((with_reducible refine gate_dst (N:=9) rfl ?_);refine bx (N:=9) (cs:=#[.slice none 0 0,.slice none 0 0]) (t:=52) ?_;intro d2 hg ny hbox hb;replace dQ:=rA dQ hb;replace dR:=rA dR hb;have eS:=am hbox;have g4:=gA hg HB;replace HB:=De3 HB ah aj al hb;have g8:=nA hg z;have ha:=mA hg z;replace z:=bA z hb;have g9:=nA hg D;have he:=mA hg D;replace D:=bA D hb;have fX:=nA hg q;have hf:=mA hg q;replace q:=bA q hb;clear hb hbox hg;obtain⟨cU,dh,ic⟩:=Kd.R_slice dQ.out;subst ic;have kM:=ha.out;have l3:=g8.out;have iy:=he.out;have iC:=g9.out;have kN:=hf.out;have l4:=fX.out;obtain⟨nI,nJ,nS,nT⟩:=cf2 eS;obtain⟨cV,di,ie⟩:=Kd.R_slice dR.out;subst ie;obtain⟨dE,dF,dG,dH⟩:=cf2 q))
  refine bodyPost_ret (results_ctt rfl _ _ af 52 #[.slice cU cP.length dh,.slice cV cQ.length di] (0,0) _ rfl (Ap1 q fX) Tryz.underlying52 rfl gk_) rfl ?_;exact⟨_,_,B10x9_,(by (with_reducible repeat (first|apply Kd.R_alloc|apply Kd.R_drewN|apply Kd.R_drew));exact Kd.R_mono (Kd.R_far (p:=⟨af,1,none⟩) (Kd.R_far (p:=⟨af,0,none⟩) (Kd.R_far (p:=⟨d2,1,none⟩) (Kd.R_far (p:=⟨d2,0,none⟩) (Kd.R_types (Kd.R_types dQ.out eS.out (by decide)) q.out (by decide)) (fun _ hk=>hk.1.2) (.slice cU cP.length dh)) (fun _ hk=>hk.1.2) (.slice cV cQ.length di)) (fun _ hk=>hk.2) (.slice cU cP.length dh)) (fun _ hk=>hk.2) (.slice cV cQ.length di)) (fun _ hk=>trivial)),(by (with_reducible repeat (first|apply Kd.R_alloc|apply Kd.R_drewN|apply Kd.R_drew));exact Kd.R_mono (Kd.R_far (p:=⟨af,1,none⟩) (Kd.R_far (p:=⟨af,0,none⟩) (Kd.R_far (p:=⟨d2,1,none⟩) (Kd.R_far (p:=⟨d2,0,none⟩) (Kd.R_types (Kd.R_types dR.out eS.out (by decide)) q.out (by decide)) (fun _ hk=>hk.1.2) (.slice cU cP.length dh)) (fun _ hk=>hk.1.2) (.slice cV cQ.length di)) (fun _ hk=>hk.2) (.slice cU cP.length dh)) (fun _ hk=>hk.2) (.slice cV cQ.length di)) (fun _ hk=>trivial)),(Ae4 HB ah aj al g4)⟩
 obtain⟨e8,e9⟩:=nE cO
 replace aY:=am aY
 clear bL a7
 obtain⟨iz,iD,kP,l6⟩:=o4_ a9 a8 bu bv
 obtain⟨cc,cd,ce,cf,cg,ch,ci,cj,ck,cl,cm,cn⟩:=cf6 D
 go_wp2
 go_loopg [11,12] fp (fun kq iS iT w'=>∃ (J:Int) (aJ:Int),iS=.int .i64 J∧iT=.int .i64 aJ∧Aside0 (spec_Perform.l0 kq a1 J aJ M av ak aw ae ad ai au=some (r1,r2,r3,r4))∧Aside0 (kq≤fp)∧Aside0 (w'.heap[b2]?=some (.cells #[(.slice aC M.length ap),(.slice aA av.length ay)] 52 (0,0)))∧Aside0 (w'.heap[ba]?=some (.cells #[.int .i64 ak,.int .i64 aw,.int .i64 ae,.string ad,.string ai,.int .i64 au] 84 (0,0)))∧Aside0 (w'.heap[af]?=some (.cells #[(.slice none 0 0),(.slice none 0 0)] 52 (0,0)))∧Aside0 (Below w.heap.size w w'))
 case atStart=>exact⟨((-1)),0,be_,be_,aY,⟨Nat.le_refl _⟩,D3x3_⟩
 case round=>
  clear aY
  try clear hO
  try clear cO
  try clear e8
  try clear e9
  obtain⟨J,aJ,rfl,rfl,a6,cX,z,D,q,HB⟩:=hrel
  cases gk with
  |zero=>exact absurd a6.out (by simp [spec_Perform.l0])
  |succ k2=>?_
  replace a6:=a6.out;simp only [spec_Perform.l0] at a6
  obtain⟨f6,bI⟩|⟨f6,bI⟩:=sd a6
  ·obtain⟨ju,bW⟩:=yd bI
   obtain⟨dY,bj⟩|⟨dY,bj⟩:=sp bW
   ·obtain⟨hV,hW⟩:=yE dY;clear dY;replace bj:=am bj;clear a6 bI bW;obtain⟨kR,l8,kS,l9⟩:=o4_ a8 a9 aZ bk;obtain⟨bS,bT,bU,bV⟩:=cf2 z
    try go_wp2
    replace z:=dA z;replace D:=dA D;replace q:=dA q;replace HB:=bdr HB
    have cD:0≤(aJ:Int):=dga
    have cF:aJ<(M.length:Int):=dga
    obtain⟨bw,fm,bO,bP,bQ⟩:=at_T76 a2.out aJ cD cF;have dt:=bQ;have dr:=bP;have dq:=bO;cases fm;replace bO:=(hbc HB bO).trans bO;replace bP:=(hbc HB bP).trans bP;replace bQ:=(hbc HB bQ).trans bQ;replace cD:=eq_true cD;replace cF:=eq_true cF;refine st_ 9 (fun w'=>w'.cell? ⟨b2,0,none⟩=some (.slice (some bw) M.length ap)∧w'.cell? ⟨b2,1,none⟩=some (.slice aA av.length ay)∧w'.cell? ⟨ba,0,none⟩=some (.int .i64 ak)∧w'.cell? ⟨ba,1,none⟩=some (.int .i64 aw)∧w'.cell? ⟨ba,2,none⟩=some (.int .i64 ae)∧w'.cell? ⟨ba,3,none⟩=some (.string ad)∧w'.cell? ⟨ba,4,none⟩=some (.string ai)∧w'.cell? ⟨ba,5,none⟩=some (.int .i64 au)∧w'.cell? (bw.add ((aJ).toNat * 3))=some (.int .i64 ((rd_T76 M aJ).f0))∧w'.cell? ⟨(bw.add ((aJ).toNat * 3)).block,(bw.add ((aJ).toNat * 3)).off+1,none⟩=some (.int .i64 ((rd_T76 M aJ).f1))∧w'.cell? ⟨(bw.add ((aJ).toNat * 3)).block,(bw.add ((aJ).toNat * 3)).off+2,none⟩=some (.string ((rd_T76 M aJ).f2))) [] spec_Perform.tab10 spec_Perform.bits10 D3x4_ (fun Z U aU=>?_);generalize wr.drew=nB at z D q HB bO bP bQ Z ⊢;refine pu_ 0 52 U ?_;refine pu_ 2 54 U ?_;refine pu_ 6 58 U ?_;refine ta_ 1 53 U aU Z ?_;refine pu_ 3 55 U ?_;refine pu_ 4 56 U ?_;refine ta_ 5 57 U aU Z ?_;refine ta_ 7 59 U aU Z ?_;refine pu_ 8 60 U ?_;refine done_ (done_of U.out gk_) ?_
    try go_wp2
    go_roundg k2
    case measure=>have:=cW.out;have:=cX.out;omega
    case rel=>exact⟨(aJ),(wrap64 (aJ+1)),be_,be_,bj,⟨(by have:=cW.out;have:=cX.out;omega)⟩,D3x3_⟩
   obtain⟨hV,hW⟩:=nE dY;replace bj:=am bj;clear a6 bI bW;obtain⟨iA,iE,kU,mb⟩:=o4_ a8 a9 aZ bk;obtain⟨bS,bT,bU,bV⟩:=cf2 z
   try go_wp2
   replace z:=dA z;replace D:=dA D;replace q:=dA q;replace HB:=bdr HB
   have cD:0≤(aJ:Int):=dga
   have cF:aJ<(M.length:Int):=dga
   obtain⟨bw,fm,bO,bP,bQ⟩:=at_T76 a2.out aJ cD cF;have dt:=bQ;have dr:=bP;have dq:=bO;cases fm;replace bO:=(hbc HB bO).trans bO;replace bP:=(hbc HB bP).trans bP;replace bQ:=(hbc HB bQ).trans bQ;replace cD:=eq_true cD;replace cF:=eq_true cF;refine st_ 9 (fun w'=>w'.cell? ⟨b2,0,none⟩=some (.slice (some bw) M.length ap)∧w'.cell? ⟨b2,1,none⟩=some (.slice aA av.length ay)∧w'.cell? ⟨ba,0,none⟩=some (.int .i64 ak)∧w'.cell? ⟨ba,1,none⟩=some (.int .i64 aw)∧w'.cell? ⟨ba,2,none⟩=some (.int .i64 ae)∧w'.cell? ⟨ba,3,none⟩=some (.string ad)∧w'.cell? ⟨ba,4,none⟩=some (.string ai)∧w'.cell? ⟨ba,5,none⟩=some (.int .i64 au)∧w'.cell? (bw.add ((aJ).toNat * 3))=some (.int .i64 ((rd_T76 M aJ).f0))∧w'.cell? ⟨(bw.add ((aJ).toNat * 3)).block,(bw.add ((aJ).toNat * 3)).off+1,none⟩=some (.int .i64 ((rd_T76 M aJ).f1))∧w'.cell? ⟨(bw.add ((aJ).toNat * 3)).block,(bw.add ((aJ).toNat * 3)).off+2,none⟩=some (.string ((rd_T76 M aJ).f2))) [] spec_Perform.tab10 spec_Perform.bits10 D3x4_ (fun Z U aU=>?_);generalize wr.drew=iY at z D q HB bO bP bQ Z ⊢;refine pu_ 0 52 U ?_;refine pu_ 2 54 U ?_;refine pu_ 6 58 U ?_;refine ta_ 1 53 U aU Z ?_;refine pu_ 3 55 U ?_;refine pu_ 4 56 U ?_;refine ta_ 5 57 U aU Z ?_;refine ta_ 7 59 U aU Z ?_;refine pu_ 8 60 U ?_;refine done_ (done_of U.out gk_) ?_
   try go_wp2
   go_roundg k2
   case measure=>have:=cW.out;have:=cX.out;omega
   case rel=>exact⟨(J),(wrap64 (aJ+1)),be_,be_,bj,⟨(by have:=cW.out;have:=cX.out;omega)⟩,D3x3_⟩
  obtain⟨f7,bn⟩|⟨f7,bn⟩:=sd bI
  ·obtain⟨⟨ed,ee⟩,g3,bX⟩:=bsi bn;(try dsimp only at bX);obtain⟨rfl,rfl,rfl,rfl⟩:=s4 bX;clear bX a6 bI bn;obtain⟨kX,me,kY,mf⟩:=o4_ a8 a9 aZ bk;obtain⟨bS,bT,bU,bV⟩:=cf2 z
   go_wp2_with (first|((with_reducible refine gate_callee (f:=74) rfl ?_);refine goesL_ (some 65) rfl rfl Tryz.func74 gk_ rfl #[.agg #[.slice aC M.length ap,.slice aA av.length ay]] rfl gm_ ?_;refine(spec_l15Copy.calls _ _ M _ _ av ed ee _ (tc (Kd.C_below a2.out HB.out)) be.out (tc (Kd.C_below aI.out HB.out)) bh.out g3.out).mono ?_;rintro e nF ⟨m4,m5,rfl,bM,bN,hb⟩;refine⟨_,rfl, ?_⟩;have fM:=am (Kd.R_lower bM (below_size (Ae3 HB ah aj al)));have fN:=am (Kd.R_lower bN (below_size (Ae3 HB ah aj al)));replace z:=bA z hb;replace D:=bA D hb;replace q:=bA q hb;replace HB:=De3 HB ah aj al hb;obtain⟨eQ,fj,ig⟩:=Kd.R_slice fM.out;subst ig;have kZ:=bv.out;have mg:=bu.out;obtain⟨dE,dF,dG,dH⟩:=cf2 q;obtain⟨eR,fk,ih⟩:=Kd.R_slice fN.out;subst ih))
   refine bodyPost_ret (results_ctt rfl _ _ af 52 #[.slice eQ ed.length fj,.slice eR ee.length fk] (0,0) _ rfl (Ap0 q) Tryz.underlying52 rfl gk_) rfl ?_;exact⟨_,_,B10x9_,(by (with_reducible repeat (first|apply Kd.R_alloc|apply Kd.R_drewN|apply Kd.R_drew));exact Kd.R_mono (Kd.R_far (p:=⟨af,1,none⟩) (Kd.R_far (p:=⟨af,0,none⟩) (Kd.R_types fM.out q.out (by decide)) (fun _ hk=>hk.2) (.slice eQ ed.length fj)) (fun _ hk=>hk.2) (.slice eR ee.length fk)) (fun _ hk=>trivial)),(by (with_reducible repeat (first|apply Kd.R_alloc|apply Kd.R_drewN|apply Kd.R_drew));exact Kd.R_mono (Kd.R_far (p:=⟨af,1,none⟩) (Kd.R_far (p:=⟨af,0,none⟩) (Kd.R_types fN.out q.out (by decide)) (fun _ hk=>hk.2) (.slice eQ ed.length fj)) (fun _ hk=>hk.2) (.slice eR ee.length fk)) (fun _ hk=>trivial)),(Ae3 HB ah aj al)⟩
  obtain⟨hZ,b4⟩:=yd bn;obtain⟨h0,bE⟩:=yd b4;replace bE:=am bE;clear a6 bI bn b4;obtain⟨k0,mh,k3,mi⟩:=o4_ a8 a9 aZ bk;obtain⟨bS,bT,bU,bV⟩:=cf2 z
  have ea:0≤(J:Int):=dga
  have eb:J<(M.length:Int):=dga
  obtain⟨cy,h3,d7,d8,d9⟩:=at_T76 a2.out J ea eb;cases h3;replace d7:=(hbc HB d7).trans d7;replace d8:=(hbc HB d8).trans d8;replace d9:=(hbc HB d9).trans d9;replace ea:=eq_true ea;replace eb:=eq_true eb
  go_upto_region 15 with (first|((with_reducible refine gate_dst (N:=13) rfl ?_);refine bx (N:=13) (cs:=#[.int .i64 0,.int .i64 0,.string (⟨#[]⟩:ByteArray)]) (t:=76) ?_;intro bq hg nG hbox hb;have ax:=am hbox;have aV:=gA hg HB;replace HB:=De3 HB ah aj al hb;have cp:=nA hg z;have cK:=mA hg z;replace z:=bA z hb;have cq:=nA hg D;have cL:=mA hg D;replace D:=bA D hb;have b1:=nA hg q;have bp:=mA hg q;replace q:=bA q hb;clear hb hbox hg;have k4:=cK.out;have mj:=cp.out;have k5:=cL.out;have ml:=cq.out;have k6:=bp.out;have mm:=b1.out;obtain⟨ev,ew,ex,eF,eG,eH⟩:=cf3 ax))
  (try simp only [Act.put,List.setIfInBounds_toArray,List.set_cons_zero,List.set_cons_succ])
  go_cut [80] (fun iV wc=>∃ (kq:Nat) (fE:Bool),iV=.bool fE∧Aside0 (spec_Perform.j2 kq a1 J fE M av ak aw ae ad ai au ((rd_T76 M J).f0) ((rd_T76 M J).f1) ((rd_T76 M J).f2)=some (r1,r2,r3,r4))∧Aside0 (kq≤k2)∧Hc wc b2 #[(.slice (some cy) M.length ap),(.slice aA av.length ay)] 52∧Hc wc ba #[.int .i64 ak,.int .i64 aw,.int .i64 ae,.string ad,.string ai,.int .i64 au] 84∧Hc wc af #[(.slice none 0 0),(.slice none 0 0)] 52∧Hc wc bq #[.int .i64 ((rd_T76 M J).f0),.int .i64 ((rd_T76 M J).f1),.string ((rd_T76 M J).f2)] 76∧Hb w wc)
  case first=>
   replace bE:=bE.out
   obtain⟨dZ,bY⟩|⟨dZ,bY⟩:=sp bE
   ·obtain⟨df,h1⟩:=yE dZ;clear dZ
    (first|rw [df]|(simp only [i64_w,i32_w];rw [df])|skip)
    replace bY:=am bY;clear bE;obtain⟨k7,mo,k8,mp,k9,mq⟩:=o6_ a9 a8 bu bv cq cL;obtain⟨cc,cd,ce,cf,cg,ch,ci,cj,ck,cl,cm,cn⟩:=cf6 D
    go_wp2
    go_meet
    case rel=>exact⟨_,true,be_,bY,⟨B11x29_⟩,Cp1 z cp,Cp1 D cq,Cp1 q b1,Cp0 ax,Ce4 HB ah aj al aV⟩
   obtain⟨df,h1⟩:=nE dZ
   (first|rw [df]|(simp only [i64_w,i32_w];rw [df])|skip)
   replace bY:=am bY;clear bE;obtain⟨lb,mr,lc,ms,ld,mt⟩:=o6_ a9 a8 bu bv cq cL;obtain⟨cc,cd,ce,cf,cg,ch,ci,cj,ck,cl,cm,cn⟩:=cf6 D;obtain⟨lf,mw,lg,my⟩:=o4_ cK cp bp b1;obtain⟨ev,ew,ex,eF,eG,eH⟩:=cf3 ax
   go_wp2
   go_meet
   case rel=>exact⟨_,(decide (ae<((rd_T76 M J).f1))),be_,bY,⟨B11x29_⟩,Cp1 z cp,Cp1 D cq,Cp1 q b1,Cp0 ax,Ce4 HB ah aj al aV⟩
  clear bE
  try clear hO
  try clear cO
  try clear e8
  try clear e9
  try clear jt
  try clear f6
  try clear jx
  try clear f7
  try clear jy
  try clear hZ
  try clear jz
  try clear h0
  try clear d7
  try clear d8
  try clear d9
  try clear ea
  try clear eb
  obtain⟨kq,fE,rfl,a3,je,z,D,q,ax,HB⟩:=hcut
  cases kq with
  |zero=>exact absurd a3.out (by simp [spec_Perform.j2])
  |succ iP=>?_
  replace a3:=a3.out;simp only [spec_Perform.j2] at a3
  obtain⟨rfl,bF⟩|⟨rfl,bF⟩:=sb a3
  ·obtain⟨⟨ef,eg⟩,gR,b5⟩:=bsi bF;(try dsimp only at b5);obtain⟨rfl,rfl,rfl,rfl⟩:=s4 b5;clear b5 a3 bF;obtain⟨jZ,lh,j4,li,j5,lj⟩:=o6_ a8 a9 aZ bk cp cK;obtain⟨bS,bT,bU,bV⟩:=cf2 z
   go_wp2_with (first|((with_reducible refine gate_callee (f:=74) rfl ?_);refine goesL_ (some 82) rfl rfl Tryz.func74 gk_ rfl #[.agg #[.slice (some cy) M.length ap,.slice aA av.length ay]] rfl gm_ ?_;refine(spec_l15Copy.calls _ _ M _ _ av ef eg _ (tc (Kd.C_below a2.out HB.out)) be.out (tc (Kd.C_below aI.out HB.out)) bh.out gR.out).mono ?_;rintro e ni ⟨m6,m7,rfl,bM,bN,hb⟩;refine⟨_,rfl, ?_⟩;have fO:=am (Kd.R_lower (Kd.R_newB bM (g:=bq) (o:=.cells #[.int .i64 ((rd_T76 M J).f0),.int .i64 ((rd_T76 M J).f1),.string ((rd_T76 M J).f2)] 76 (0,0)) (Ab ax)) (below_size (Ae4 HB ah aj al aV)));have fP:=am (Kd.R_lower bN (below_size (Ae4 HB ah aj al aV)));replace z:=bA z hb;replace D:=bA D hb;replace q:=bA q hb;replace ax:=bA ax hb;replace HB:=De4 HB ah aj al aV hb;obtain⟨eJ,fc,h4⟩:=Kd.R_slice fO.out;subst h4;have j6:=bv.out;have lk:=bu.out;have j7:=b1.out;have ll:=bp.out;obtain⟨dE,dF,dG,dH⟩:=cf2 q;obtain⟨eK,fd,h5⟩:=Kd.R_slice fP.out;subst h5))
   refine bodyPost_ret (results_ctt rfl _ _ af 52 #[.slice eJ ef.length fc,.slice eK eg.length fd] (0,0) _ rfl (Ap0 q) Tryz.underlying52 rfl gk_) rfl ?_;exact⟨_,_,B10x9_,(by (with_reducible repeat (first|apply Kd.R_alloc|apply Kd.R_drewN|apply Kd.R_drew));exact Kd.R_mono (Kd.R_far (p:=⟨af,1,none⟩) (Kd.R_far (p:=⟨af,0,none⟩) (Kd.R_types fO.out q.out (by decide)) (fun _ hk=>hk.2) (.slice eJ ef.length fc)) (fun _ hk=>hk.2) (.slice eK eg.length fd)) (fun _ hk=>trivial)),(by (with_reducible repeat (first|apply Kd.R_alloc|apply Kd.R_drewN|apply Kd.R_drew));exact Kd.R_mono (Kd.R_far (p:=⟨af,1,none⟩) (Kd.R_far (p:=⟨af,0,none⟩) (Kd.R_types fP.out q.out (by decide)) (fun _ hk=>hk.2) (.slice eJ ef.length fc)) (fun _ hk=>hk.2) (.slice eK eg.length fd)) (fun _ hk=>trivial)),(Ae4 HB ah aj al aV)⟩
  obtain⟨dS,bZ⟩|⟨dS,bZ⟩:=sp bF
  ·obtain⟨hx,hz⟩:=yE dS;clear dS;obtain⟨⟨eh,ei⟩,gU,cH⟩:=bsi bZ;(try dsimp only at cH);obtain⟨rfl,rfl,rfl,rfl⟩:=s4 cH;clear cH a3 bF bZ;obtain⟨j8,lm,j9,ln,ka,lp⟩:=o6_ a9 a8 bu bv cq cL;obtain⟨cc,cd,ce,cf,cg,ch,ci,cj,ck,cl,cm,cn⟩:=cf6 D;obtain⟨kc,lq,kd,lr⟩:=o4_ cK cp bp b1;obtain⟨ev,ew,ex,eF,eG,eH⟩:=cf3 ax
   try go_wp2
   replace z:=dA z;replace D:=dA D;replace q:=dA q;replace ax:=dA ax;replace HB:=bdr HB;refine start_ (n:=7) (S:=fun w'=>w'.cell? ⟨b2,0,none⟩=some (.slice (some cy) M.length ap)∧w'.cell? ⟨b2,1,none⟩=some (.slice aA av.length ay)∧w'.cell? ⟨bq,0,none⟩=some (.int .i64 ((rd_T76 M J).f0))∧w'.cell? ⟨bq,1,none⟩=some (.int .i64 ((rd_T76 M J).f1))∧w'.cell? ⟨bq,2,none⟩=some (.string ((rd_T76 M J).f2))) (ds:=[]) #[false,false,false,false,false,false,false] gk_ rfl rfl ⟨bc z 0,bc z 1,bc ax 0,bc ax 1,bc ax 2⟩ (fun Z=>?_);generalize wc.drew=nj at z D q ax HB Z ⊢;refine pure_ (i:=2) (N:=some 90) (v:=?_) (a':=?_) #[false,false,true,false,false,false,false] rfl rfl gk_ (fun _ _ _ h=>h) (Or.inl ⟨(by rfl), ?_⟩) ?_ ?_;rotate_left
   ·intro w';go_simp;with_reducible rfl
   rotate_left
   ·simp only [Act.put,List.setIfInBounds_toArray,List.set_cons_zero,List.set_cons_succ,i64_w,i32_w];rfl
   refine take_ (i:=0) (N:=some 88) (v:=?_) (a':=?_) #[true,false,true,false,false,false,false] rfl rfl gk_ (fun _ _ _ h=>h) (Or.inl ⟨(by rfl), ?_⟩) Z ?_ ?_;rotate_left
   ·rintro w' ⟨s0,s1,s2,s3,s4⟩;go_simp;with_reducible rfl
   rotate_left
   ·simp only [Act.put,List.setIfInBounds_toArray,List.set_cons_zero,List.set_cons_succ,i64_w,i32_w];rfl
   refine take_ (i:=3) (N:=some 91) (v:=?_) (a':=?_) #[true,false,true,true,false,false,false] rfl rfl gk_ (fun _ _ _ h=>h) (Or.inl ⟨(by rfl), ?_⟩) Z ?_ ?_;rotate_left
   ·rintro w' ⟨s0,s1,s2,s3,s4⟩;go_simp;with_reducible rfl
   rotate_left
   ·simp only [Act.put,List.setIfInBounds_toArray,List.set_cons_zero,List.set_cons_succ,i64_w,i32_w];rfl
   refine one_ (i:=1) (N:=some 89) #[true,true,true,true,false,false,false] rfl rfl gk_ (by decide) (fun K hK=>?_);refine goes_ Tryz.func74 gk_ rfl #[.agg #[.slice (some cy) M.length ap,.slice aA av.length ay]] (by rfl) rfl rfl gm_ ?_;refine(spec_l15Copy.calls _ _ M _ _ av eh ei _ (tc (Kd.C_below a2.out HB.out)) be.out (tc (Kd.C_below aI.out HB.out)) bh.out gU.out).mono ?_;rintro e gP ⟨m8,m9,rfl,bM,bN,hb⟩;refine⟨_,rfl, ?_⟩;have fQ:=am (Kd.R_lower (Kd.R_newB bM (g:=bq) (o:=.cells #[.int .i64 ((rd_T76 M J).f0),.int .i64 ((rd_T76 M J).f1),.string ((rd_T76 M J).f2)] 76 (0,0)) (Ab ax)) (below_size (Ae4 HB ah aj al aV)));have fR:=am (Kd.R_lower bN (below_size (Ae4 HB ah aj al aV)));replace z:=bA z hb;replace D:=bA D hb;replace q:=bA q hb;replace ax:=bA ax hb;replace HB:=De4 HB ah aj al aV hb;obtain⟨eL,fe,f8⟩:=Kd.R_slice fQ.out
   (first|subst f8|(injection f8 with f1_ f2_ f3_;have f4_:=f1_.symm;have f5_:=f3_.symm;clear f1_ f2_ f3_;subst f4_;subst f5_))
   obtain⟨eM,ff,f9⟩:=Kd.R_slice fR.out
   (first|subst f9|(injection f9 with f1_ f2_ f3_;have f4_:=f1_.symm;have f5_:=f3_.symm;clear f1_ f2_ f3_;subst f4_;subst f5_))
   refine hK.out _ _ ⟨bc z 0,bc z 1,bc ax 0,bc ax 1,bc ax 2⟩ (fun Z=>nm_ ?_);clear hK K;refine one_ (i:=4) (N:=none) #[true,true,true,true,true,false,false] rfl rfl gk_ (by decide) (fun K hK=>?_)
   have mL:gP.cell? ⟨af,0,none⟩=some (.slice none 0 0):=bc q 0
   have jN:=blk_frozen q.out 0;obtain⟨mB,mC,mD,jR,jS,jT⟩:=o6_ aZ bu bp bk bv b1
   have mM:gP.cell? ⟨af,1,none⟩=some (.slice none 0 0):=bc q 1
   have jO:=blk_frozen q.out 1;obtain⟨mE,mF,mG,jU,jV,jW⟩:=o6_ aZ bu bp bk bv b1;refine skip_ (w1:=?_) (by rfl) rfl ?_ ?_;rotate_left
   ·go_simp;rfl
   refine hK.out _ _ ⟨((cell_far (p:=⟨af,_,none⟩) aZ.out _).trans (((cell_far (p:=⟨af,_,none⟩) aZ.out _).trans (Z.1)))),((cell_far (p:=⟨af,_,none⟩) aZ.out _).trans (((cell_far (p:=⟨af,_,none⟩) aZ.out _).trans (Z.2.1)))),((cell_far (p:=⟨af,_,none⟩) bp.out _).trans (((cell_far (p:=⟨af,_,none⟩) bp.out _).trans (Z.2.2.1)))),((cell_far (p:=⟨af,_,none⟩) bp.out _).trans (((cell_far (p:=⟨af,_,none⟩) bp.out _).trans (Z.2.2.2.1)))),((cell_far (p:=⟨af,_,none⟩) bp.out _).trans (((cell_far (p:=⟨af,_,none⟩) bp.out _).trans (Z.2.2.2.2))))⟩ (fun Z=>?_);clear hK K;refine pure_ (i:=5) (N:=some 7) (v:=?_) (a':=?_) #[true,true,true,true,true,true,false] rfl rfl gk_ (fun _ _ _ h=>h) (Or.inl ⟨(by rfl), ?_⟩) ?_ ?_;rotate_left
   ·intro w';go_simp;with_reducible rfl
   rotate_left
   ·simp only [Act.put,List.setIfInBounds_toArray,List.set_cons_zero,List.set_cons_succ,i64_w,i32_w];rfl
   refine pure_ (i:=6) (N:=some 8) (v:=?_) (a':=?_) #[true,true,true,true,true,true,true] rfl rfl gk_ (fun _ _ _ h=>h) (Or.inl ⟨(by rfl), ?_⟩) ?_ ?_;rotate_left
   ·intro w';go_simp;with_reducible rfl
   rotate_left
   ·simp only [Act.put,List.setIfInBounds_toArray,List.set_cons_zero,List.set_cons_succ,i64_w,i32_w];rfl
   refine done_ gk_ ?_
   try go_wp2
   refine bodyPost_ret (results_ctt rfl _ _ af 52 #[.slice eL eh.length fe,.slice eM ei.length ff] (0,0) _ rfl (Ap0 q) Tryz.underlying52 rfl gk_) rfl ?_;exact⟨_,_,B10x9_,(by (with_reducible repeat (first|apply Kd.R_alloc|apply Kd.R_drewN|apply Kd.R_drew));exact Kd.R_mono (Kd.R_far (p:=⟨af,1,none⟩) (Kd.R_far (p:=⟨af,0,none⟩) (Kd.R_types fQ.out q.out (by decide)) (fun _ hk=>hk.2) (.slice eL eh.length fe)) (fun _ hk=>hk.2) (.slice eM ei.length ff)) (fun _ hk=>trivial)),(by (with_reducible repeat (first|apply Kd.R_alloc|apply Kd.R_drewN|apply Kd.R_drew));exact Kd.R_mono (Kd.R_far (p:=⟨af,1,none⟩) (Kd.R_far (p:=⟨af,0,none⟩) (Kd.R_types fR.out q.out (by decide)) (fun _ hk=>hk.2) (.slice eL eh.length fe)) (fun _ hk=>hk.2) (.slice eM ei.length ff)) (fun _ hk=>trivial)),(Ae4 HB ah aj al aV)⟩
  obtain⟨hx,hz⟩:=nE dS
  obtain⟨db,cZ⟩|⟨db,cZ⟩:=sp bZ
  ·have hC:decide ((wrap64 (((rd_T76 M J).f1)+1))<ae)=true:=decide_eq_true db
   clear db;obtain⟨⟨ej,ek⟩,gV,eX⟩:=bsi cZ;(try dsimp only at eX);obtain⟨rfl,rfl,rfl,rfl⟩:=s4 eX;clear eX a3 bF bZ cZ;obtain⟨ke,ls,kg,lv,kh,lw⟩:=o6_ a9 a8 bu bv cq cL;obtain⟨cc,cd,ce,cf,cg,ch,ci,cj,ck,cl,cm,cn⟩:=cf6 D;obtain⟨ki,lx,kj,ly⟩:=o4_ cK cp bp b1;obtain⟨ev,ew,ex,eF,eG,eH⟩:=cf3 ax;obtain⟨kk,lz⟩:=o2_ aZ bk;obtain⟨bS,bT,bU,bV⟩:=cf2 z
   go_wp2_with (first|((with_reducible refine gate_callee (f:=74) rfl ?_);refine goesL_ (some 99) rfl rfl Tryz.func74 gk_ rfl #[.agg #[.slice (some cy) M.length ap,.slice aA av.length ay]] rfl gm_ ?_;refine(spec_l15Copy.calls _ _ M _ _ av ej ek _ (tc (Kd.C_below a2.out HB.out)) be.out (tc (Kd.C_below aI.out HB.out)) bh.out gV.out).mono ?_;rintro e nk ⟨na,nb,rfl,bM,bN,hb⟩;refine⟨_,rfl, ?_⟩;have fS:=am (Kd.R_lower (Kd.R_newB bM (g:=bq) (o:=.cells #[.int .i64 ((rd_T76 M J).f0),.int .i64 ((rd_T76 M J).f1),.string ((rd_T76 M J).f2)] 76 (0,0)) (Ab ax)) (below_size (Ae4 HB ah aj al aV)));have fT:=am (Kd.R_lower bN (below_size (Ae4 HB ah aj al aV)));replace z:=bA z hb;replace D:=bA D hb;replace q:=bA q hb;replace ax:=bA ax hb;replace HB:=De4 HB ah aj al aV hb;obtain⟨eN,fg,h6⟩:=Kd.R_slice fS.out;subst h6;obtain⟨dE,dF,dG,dH⟩:=cf2 q;obtain⟨eO,fh,h7⟩:=Kd.R_slice fT.out;subst h7))
   refine bodyPost_ret (results_ctt rfl _ _ af 52 #[.slice eN ej.length fg,.slice eO ek.length fh] (0,0) _ rfl (Ap0 q) Tryz.underlying52 rfl gk_) rfl ?_;exact⟨_,_,B10x9_,(by (with_reducible repeat (first|apply Kd.R_alloc|apply Kd.R_drewN|apply Kd.R_drew));exact Kd.R_mono (Kd.R_far (p:=⟨af,1,none⟩) (Kd.R_far (p:=⟨af,0,none⟩) (Kd.R_types fS.out q.out (by decide)) (fun _ hk=>hk.2) (.slice eN ej.length fg)) (fun _ hk=>hk.2) (.slice eO ek.length fh)) (fun _ hk=>trivial)),(by (with_reducible repeat (first|apply Kd.R_alloc|apply Kd.R_drewN|apply Kd.R_drew));exact Kd.R_mono (Kd.R_far (p:=⟨af,1,none⟩) (Kd.R_far (p:=⟨af,0,none⟩) (Kd.R_types fT.out q.out (by decide)) (fun _ hk=>hk.2) (.slice eN ej.length fg)) (fun _ hk=>hk.2) (.slice eO ek.length fh)) (fun _ hk=>trivial)),(Ae4 HB ah aj al aV)⟩
  have hC:decide ((wrap64 (((rd_T76 M J).f1)+1))<ae)=false:=decide_eq_false db
  clear db;obtain⟨⟨aG,dC⟩,gW,eY⟩:=bsi cZ;(try dsimp only at eY);obtain⟨⟨cR,el⟩,gX,eZ⟩:=bsi eY;(try dsimp only at eZ);obtain⟨jf,fW⟩:=yd eZ;obtain⟨jg,b0⟩:=yd fW;obtain⟨bd,dw⟩:∃ y_:List (S76),y_=(aG.set (J:Int).toNat (⟨(rd_T76 aG J).f0,ae,(rd_T76 aG J).f2⟩:S76)):=⟨_,rfl⟩
  (first|with_reducible replace b0:=hq dw b0|rw [←dw] at b0|simp only [←dw] at b0)
  have ht:=am dw;clear dw;obtain⟨i4,dx⟩:∃ y_:List (S76),y_=(bd.set (J:Int).toNat (⟨(rd_T76 bd J).f0,(rd_T76 bd J).f1,cR⟩:S76)):=⟨_,rfl⟩
  (first|with_reducible replace b0:=hq dx b0|rw [←dx] at b0|simp only [←dx] at b0)
  have hu:=am dx;clear dx;obtain⟨rfl,rfl,rfl,rfl⟩:=s4 b0;clear b0 a3 bF bZ cZ eY eZ fW;obtain⟨kl,lA,km,lB,ko,lD⟩:=o6_ a9 a8 bu bv cq cL;obtain⟨cc,cd,ce,cf,cg,ch,ci,cj,ck,cl,cm,cn⟩:=cf6 D;obtain⟨kp,lE,kr,lF⟩:=o4_ cK cp bp b1;obtain⟨ev,ew,ex,eF,eG,eH⟩:=cf3 ax;obtain⟨ks,lG⟩:=o2_ aZ bk;obtain⟨bS,bT,bU,bV⟩:=cf2 z
  go_wp2_with (first|((with_reducible refine gate_callee (f:=74) rfl ?_);refine goesL_ (some 101) rfl rfl Tryz.func74 gk_ rfl #[.agg #[.slice (some cy) M.length ap,.slice aA av.length ay]] rfl gm_ ?_;refine(spec_l15Copy.calls _ _ M _ _ av aG dC _ (tc (Kd.C_below a2.out HB.out)) be.out (tc (Kd.C_below aI.out HB.out)) bh.out gW.out).mono ?_;rintro e nm ⟨nc,nf,rfl,bM,bN,hb⟩;refine⟨_,rfl, ?_⟩;have aB:=am (Kd.R_lower (Kd.R_newB bM (g:=bq) (o:=.cells #[.int .i64 ((rd_T76 M J).f0),.int .i64 ((rd_T76 M J).f1),.string ((rd_T76 M J).f2)] 76 (0,0)) (Ab ax)) (below_size (Ae4 HB ah aj al aV)));have bC:=am (Kd.R_lower bN (below_size (Ae4 HB ah aj al aV)));replace z:=bA z hb;replace D:=bA D hb;replace q:=bA q hb;replace ax:=bA ax hb;replace HB:=De4 HB ah aj al aV hb)|((with_reducible refine gate_dst (N:=14) rfl ?_);refine bx (N:=14) (cs:=#[.slice none 0 0,.slice none 0 0]) (t:=52) ?_;intro dj hg nn hbox hb;replace aB:=rA aB hb;replace bC:=rA bC hb;have aX:=am hbox;have eT:=gA hg HB;replace HB:=De4 HB ah aj al aV hb;have e0:=nA hg z;have hh:=mA hg z;replace z:=bA z hb;have e1:=nA hg D;have hj:=mA hg D;replace D:=bA D hb;have e2:=nA hg q;have hm:=mA hg q;replace q:=bA q hb;have e3:=nA hg ax;have hp:=mA hg ax;replace ax:=bA ax hb;clear hb hbox hg;obtain⟨dI,bl,h8⟩:=Kd.R_slice aB.out;subst h8;have kt:=hh.out;have lH:=e0.out;have ku:=hj.out;have lI:=e1.out;have kv:=hm.out;have lJ:=e2.out;have kw:=hp.out;have lK:=e3.out;obtain⟨fF,fG,fH,fI⟩:=cf2 aX;obtain⟨dJ,d0,h9⟩:=Kd.R_slice bC.out;subst h9;obtain⟨cc,cd,ce,cf,cg,ch,ci,cj,ck,cl,cm,cn⟩:=cf6 D)|((with_reducible refine gate_callee (f:=75) rfl ?_);refine goesL_ (some 104) rfl rfl Tryz.func75 gk_ rfl #[.pointer (some ⟨dj,0,none⟩),.int .i64 a1,.agg #[.int .i64 ak,.int .i64 aw,.int .i64 ae,.string ad,.string ai,.int .i64 au]] rfl gm_ ?_;refine(spec_l15Do.calls iP dj dI bl aG dJ d0 dC a1 ak aw ae ad ai au cR el w _ B11x28_ (Ae5 HB ah aj al aV eT) (Kd.C_foot_own (IsS52.apart (show IsS52 w _ dj (.slice dI aG.length bl) (.slice dJ dC.length d0) from B11x28_) (tfr aB.out aX.out (by decide)) (by decide)) (fun _ h_=>h_.2)) ((Kd.R_reads' aB.out).2.1) (Kd.C_foot_own (IsS52.apart (show IsS52 w _ dj (.slice dI aG.length bl) (.slice dJ dC.length d0) from B11x28_) (tfr bC.out aX.out (by decide)) (by decide)) (fun _ h_=>h_.2)) ((Kd.R_reads' bC.out).2.1) (Kd.R_mono (IsS52.apart (show IsS52 w _ dj (.slice dI aG.length bl) (.slice dJ dC.length d0) from B11x28_) (tfr bC.out aX.out (by decide)) (by decide)) (fun _ h_=>h_.2)) gX.out).mono ?_;rintro e b7 ⟨nh,rfl,hi,hl,hb,hk⟩;refine⟨_,rfl, ?_⟩;replace z:=am (KeepBut.blk hk (g':=b2) (o:=.cells #[.slice (some cy) M.length ap,.slice aA av.length ay] 52 (0,0)) (Ap1 z e0) e0.out (by simp));replace D:=am (KeepBut.blk hk (g':=ba) (o:=.cells #[.int .i64 ak,.int .i64 aw,.int .i64 ae,.string ad,.string ai,.int .i64 au] 84 (0,0)) (Ap1 D e1) e1.out (by simp));replace q:=am (KeepBut.blk hk (g':=af) (o:=.cells #[.slice none 0 0,.slice none 0 0] 52 (0,0)) (Ap1 q e2) e2.out (by simp));replace ax:=am (KeepBut.blk hk (g':=bq) (o:=.cells #[.int .i64 ((rd_T76 M J).f0),.int .i64 ((rd_T76 M J).f1),.string ((rd_T76 M J).f2)] 76 (0,0)) (Ap1 ax e3) e3.out (by simp));replace aB:=am (Kd.R_mono (Kd.R_keep (Kd.R_types (tfr aB.out aX.out (by decide)) (Ap0 aX) (by decide)) hk (fun _ h=>h.2)) (fun _ h=>h.1));replace bC:=am (Kd.R_mono (Kd.R_keep (Kd.R_types (tfr bC.out aX.out (by decide)) (Ap0 aX) (by decide)) hk (fun _ h=>h.2)) (fun _ h=>h.1));have cG:=am hl;replace HB:=am hb;replace aX:=am (hi.1);obtain⟨fF,fG,fH,fI⟩:=cf2 aX;obtain⟨cc,cd,ce,cf,cg,ch,ci,cj,ck,cl,cm,cn⟩:=cf6 D;have fr:0≤(J:Int):=dga;have fu:(J:Int)<((aG.length:Int):Int):=dga;obtain⟨aM,jE,ga,gb,ii,cl146,fL⟩:=Kd.R_form aB.out (by omega);(first|cases ga|(injection ga with ea_ en_ ec_;(first|subst ea_|(injection ea_ with ea_;subst ea_));subst ec_;clear en_));have fK:=am gb;have jc:=am fL;clear gb ii fL;obtain⟨jA,ij,gv,d3,d5⟩:=Kd.R_elem aB.out z76 (J:Int) fr fu;obtain rfl:=k76_openM gv;have mQ:b7.cell? ⟨aM,(J:Int).toNat * 3,none⟩=some (.int .i64 ((rd_T76 aG J).f0)):=d3 0 _ rfl;have mR:b7.cell? ⟨aM,(J:Int).toNat * 3+1,none⟩=some (.int .i64 ((rd_T76 aG J).f1)):=d3 1 _ rfl;have mS:b7.cell? ⟨aM,(J:Int).toNat * 3+2,none⟩=some (.string ((rd_T76 aG J).f2)):=d3 2 _ rfl;have jF:b7.frozen? ⟨aM,(J:Int).toNat * 3,none⟩=false:=d5 0;have jG:b7.frozen? ⟨aM,(J:Int).toNat * 3+1,none⟩=false:=d5 1;have jH:b7.frozen? ⟨aM,(J:Int).toNat * 3+2,none⟩=false:=d5 2;clear ij d3 d5 gv;replace fr:=eq_true fr;replace fu:=eq_true fu;have n_:=am (Kd.R_mono (ok':=(fun k_=>k_≠bq)) aB.out (fun k_ hk=>hk.2));clear aB;have aB:=n_;clear n_;have fU:=am (show Kd.R k76 76 b7 w.heap.size (fun k_=>k_≠bq) (.slice (some ⟨aM,0,none⟩) aG.length bl) aG from (Ar aB));obtain⟨jC,gB,gx,fn,gD⟩:=Kd.R_elem fU.out z76 (J:Int) (dga) (by have h_:(J:Int)<((aG.length:Int):Int):=dga;first|exact h_|(have e_:=(Kd.R_reads' aB.out).1;omega)|simpa using h_);obtain rfl:=k76_openM gx;have eU:=Kd.R_seg fU.out (J:Int) (dga) (by have h_:(J:Int)<((aG.length:Int):Int):=dga;first|exact h_|(have e_:=(Kd.R_reads' aB.out).1;omega)|simpa using h_) (seg:=[.int .i64 ae]) (j:=1) gB fn (show 2≤3 from (by decide)) (x':=(⟨(rd_T76 aG J).f0,ae,(rd_T76 aG J).f2⟩:S76)) (k76_mkM _ _ _ (⟨(rd_T76 aG J).f0,ae,(rd_T76 aG J).f2⟩:S76) ) (fun _ hk=>hk);have iN:=fn 1 _ rfl;(try simp only [show (k76).sz=3 from rfl,Nat.mul_one,Nat.add_zero] at iN);have il:=gD 1;(try simp only [show (k76).sz=3 from rfl,Nat.mul_one,Nat.add_zero] at il);clear gB fn gD gx)|((with_reducible refine gate_store (t:=3) (p:=111) rfl ?_);refine store_event (t:=3) (p:=111) (v:=?vo_w171) (w1:=(b7.setCell ⟨aM,(J:Int).toNat * 3+1,none⟩ (.int .i64 ae))) ?hg ?ho ?hn ?hr ?_;(case ho=>rfl);(case hg=>rfl);(case hn=>rfl);(case hr=>exact gs_);intro bH hw;have hg:b7.grownBy bH (some aM):=(by rw [hw];exact eU.2);have hp_:Kd.R k76 76 bH w.heap.size (fun k_=>k_≠bq) (.slice (some ⟨aM,0,none⟩) aG.length bl) bd:=(by rw [hw,ht.out];exact eU.1);clear eU;replace z:=bg z hg (Kd.R_ne aB.out z.out (by decide));replace D:=bg D hg (Kd.R_ne aB.out D.out (by decide));replace q:=bg q hg (Kd.R_ne aB.out q.out (by decide));replace ax:=bg ax hg (Kd.R_away aB.out (fun _ hk=>hk));replace bC:=am (Kd.R_over' (v:=(.slice (some ⟨aM,0,none⟩) aG.length bl)) (Ar bC) (Kd.R_typed aB.out) (by decide) hg);replace aX:=bg aX hg (Kd.R_ne aB.out aX.out (by decide));replace cG:=am (Kd.R_over' (v:=(.slice (some ⟨aM,0,none⟩) aG.length bl)) (Ar cG) (Kd.R_typed aB.out) (by decide) hg);replace aB:=am hp_;replace HB:=am (by rw [hw];exact below_set (HB.out) fK.out:Below w.heap.size w bH);clear hg hw hp_;obtain⟨fF,fG,fH,fI⟩:=cf2 aX;have fs:0≤(J:Int):=dga;have fv:(J:Int)<((aG.length:Int):Int):=dga;obtain⟨jB,ik,gw,d4,d6⟩:=Kd.R_elem aB.out z76 (J:Int) fs fv;obtain rfl:=k76_openM gw;have mT:bH.cell? ⟨aM,(J:Int).toNat * 3,none⟩=some (.int .i64 ((rd_T76 bd J).f0)):=d4 0 _ rfl;have mU:bH.cell? ⟨aM,(J:Int).toNat * 3+1,none⟩=some (.int .i64 ((rd_T76 bd J).f1)):=d4 1 _ rfl;have mV:bH.cell? ⟨aM,(J:Int).toNat * 3+2,none⟩=some (.string ((rd_T76 bd J).f2)):=d4 2 _ rfl;have jI:bH.frozen? ⟨aM,(J:Int).toNat * 3,none⟩=false:=d6 0;have jJ:bH.frozen? ⟨aM,(J:Int).toNat * 3+1,none⟩=false:=d6 1;have jK:bH.frozen? ⟨aM,(J:Int).toNat * 3+2,none⟩=false:=d6 2;clear ik d4 d6 gw;replace fs:=eq_true fs;replace fv:=eq_true fv;have fV:=am (show Kd.R k76 76 bH w.heap.size (fun k_=>k_≠bq) (.slice (some ⟨aM,0,none⟩) aG.length bl) bd from (Ar aB));obtain⟨jD,gC,gy,fo,gE⟩:=Kd.R_elem fV.out z76 (J:Int) (dga) (by have h_:(J:Int)<((aG.length:Int):Int):=dga;first|exact h_|(have e_:=(Kd.R_reads' aB.out).1;omega)|simpa using h_);obtain rfl:=k76_openM gy;have eV:=Kd.R_seg fV.out (J:Int) (dga) (by have h_:(J:Int)<((aG.length:Int):Int):=dga;first|exact h_|(have e_:=(Kd.R_reads' aB.out).1;omega)|simpa using h_) (seg:=[.string cR]) (j:=2) gC fo (show 3≤3 from (by decide)) (x':=(⟨(rd_T76 bd J).f0,(rd_T76 bd J).f1,cR⟩:S76)) (k76_mkM _ _ _ (⟨(rd_T76 bd J).f0,(rd_T76 bd J).f1,cR⟩:S76) ) (fun _ hk=>hk);have iO:=fo 2 _ rfl;(try simp only [show (k76).sz=3 from rfl,Nat.mul_one,Nat.add_zero] at iO);have im:=gE 2;(try simp only [show (k76).sz=3 from rfl,Nat.mul_one,Nat.add_zero] at im);clear gC fo gE gy)|((with_reducible refine gate_store (t:=9) (p:=117) rfl ?_);refine store_event (t:=9) (p:=117) (v:=?vo_w174) (w1:=(bH.setCell ⟨aM,(J:Int).toNat * 3+2,none⟩ (.string cR))) ?hg ?ho ?hn ?hr ?_;(case ho=>rfl);(case hg=>rfl);(case hn=>rfl);(case hr=>exact gs_);intro fy hw;have hg:bH.grownBy fy (some aM):=(by rw [hw];exact eV.2);have hp_:Kd.R k76 76 fy w.heap.size (fun k_=>k_≠bq) (.slice (some ⟨aM,0,none⟩) aG.length bl) i4:=(by rw [hw,hu.out];exact eV.1);clear eV;replace z:=bg z hg (Kd.R_ne aB.out z.out (by decide));replace D:=bg D hg (Kd.R_ne aB.out D.out (by decide));replace q:=bg q hg (Kd.R_ne aB.out q.out (by decide));replace ax:=bg ax hg (Kd.R_away aB.out (fun _ hk=>hk));replace bC:=am (Kd.R_over' (v:=(.slice (some ⟨aM,0,none⟩) aG.length bl)) (Ar bC) (Kd.R_typed aB.out) (by decide) hg);replace aX:=bg aX hg (Kd.R_ne aB.out aX.out (by decide));replace cG:=am (Kd.R_over' (v:=(.slice (some ⟨aM,0,none⟩) aG.length bl)) (Ar cG) (Kd.R_typed aB.out) (by decide) hg);replace aB:=am hp_;replace HB:=am (by rw [hw];exact below_set (HB.out) fK.out:Below w.heap.size w fy);clear hg hw hp_;obtain⟨fF,fG,fH,fI⟩:=cf2 aX;obtain⟨dE,dF,dG,dH⟩:=cf2 q;obtain⟨eP,fi,ia⟩:=Kd.R_slice cG.out;subst ia))
  refine bodyPost_ret (results_ctt rfl _ _ af 52 #[.slice (some ⟨aM,0,none⟩) aG.length bl,.slice eP el.length fi] (0,0) _ rfl (Ap0 q) Tryz.underlying52 rfl gk_) rfl ?_;exact⟨_,_,B10x9_,(by (with_reducible repeat (first|apply Kd.R_alloc|apply Kd.R_drewN|apply Kd.R_drew));exact Kd.R_mono (Kd.R_far (p:=⟨af,1,none⟩) (Kd.R_far (p:=⟨af,0,none⟩) (Kd.R_types aB.out q.out (by decide)) (fun _ hk=>hk.2) (.slice (some ⟨aM,0,none⟩) aG.length bl)) (fun _ hk=>hk.2) (.slice eP el.length fi)) (fun _ hk=>trivial)),(by (with_reducible repeat (first|apply Kd.R_alloc|apply Kd.R_drewN|apply Kd.R_drew));exact Kd.R_mono (Kd.R_far (p:=⟨af,1,none⟩) (Kd.R_far (p:=⟨af,0,none⟩) (Kd.R_types cG.out q.out (by decide)) (fun _ hk=>hk.2) (.slice (some ⟨aM,0,none⟩) aG.length bl)) (fun _ hk=>hk.2) (.slice eP el.length fi)) (fun _ hk=>trivial)),(Ae5 HB ah aj al aV eT)⟩
end
end Go.Proofs.YtofmbomonkbeaaaGreatDoor.QFnSnapsCut
