/- Functions that a law reaches, as functions of Lean, and the walks that show that the calls come to their answers. No condition. -/
import Derived.Test.YtofmbomonkbeaaaGreatDoorQFnSnapsCutx0
import Derived.Test.YtofmbomonkbeaaaGreatDoorQFnSnapsCutx2
import Derived.Test.YtofmbomonkbeaaaGreatDoorQFnSnapsCutx3
import Derived.Test.YtofmbomonkbeaaaGreatDoorQFnSnapsCutx4
import Derived.Test.YtofmbomonkbeaaaGreatDoorVFnSnapsCuthort3
import Derived.Test.YtofmbomonkbeaaaGreatDoorVFnSnapsCuthort2
import Derived.Test.YtofmbomonkbeaaaGreatDoorVFnSnapsCuthort
import Derived.Test.YtofmbomonkbeaaaGreatDoorVFnSnapsCuthort8
namespace Go.Proofs.YtofmbomonkbeaaaGreatDoor.QFnSnapsCut
open Go.RowKit Go.Proofs.YtofmbomonkbeaaaGreatDoorW.PrintWords Go.Proofs.YtofmbomonkbeaaaGreatDoorW.PrintLast Go.Proofs.YtofmbomonkbeaaaGreatDoorW.PrintMore Go.Proofs.YtofmbomonkbeaaaGreatDoor.Short
set_option linter.unusedVariables false
set_option linter.unusedSimpArgs false
set_option maxHeartbeats 8000000
set_option maxRecDepth 100000
variable {p:Prop}
theorem D5x0_ (h:p:=by exact⟨B14x1_,(Ak3 HK ac aj ar),(Ae4 HB (IsS73.gf q) au aw ay)⟩):p:=h
theorem D5x1_ (h:p:=by exact⟨bc l 0,bc l 1⟩):p:=h
theorem D5x2_ (h:p:=by exact⟨bc ai 0,bc ai 1,bc ai 2,bc ai 3⟩):p:=h
section
attribute [local go_sem] max2_int min2_int max_two min_two max_three min_three max_four min_four
theorem B14x0_ (h:p:=by repeat (first|(with_reducible first|exact q.out|apply IsS73.alloc|apply IsS73.drewN|apply IsS73.drew|apply IsS73.set_1|apply IsS73.set_2|refine IsS73.far ?_ dk.out _|refine IsS73.far ?_ ck.out _)|exact q.out)):p:=h
theorem B14x1_ (h:p:=by repeat (first|(with_reducible first|exact q.out|apply IsS73.alloc|apply IsS73.drewN|apply IsS73.drew|apply IsS73.set_1|apply IsS73.set_2|refine IsS73.far ?_ dk.out _|refine IsS73.far ?_ ck.out _|refine IsS73.far ?_ bl.out _)|exact q.out)):p:=h
theorem B14x10_ (h:p:=by repeat (first|exact(Kd.R_reads' D.out).2.2|(with_reducible refine Kd.C_alloc ?_ _)|(with_reducible refine Kd.C_drewN ?_ _)|(with_reducible refine Kd.C_drew ?_))):p:=h
theorem B14x11_ (h:p:=by repeat (first|exact(Kd.R_reads' J.out).2.2|(with_reducible refine Kd.C_alloc ?_ _)|(with_reducible refine Kd.C_drewN ?_ _)|(with_reducible refine Kd.C_drew ?_))):p:=h
theorem B14x12_ (h:p:=by (with_reducible repeat (first|apply Kd.R_alloc|apply Kd.R_drewN|apply Kd.R_drew));exact Kd.R_mono D.out (fun _ hk=>hk.2)):p:=h
theorem B14x13_ (h:p:=by (with_reducible repeat (first|apply Kd.R_alloc|apply Kd.R_drewN|apply Kd.R_drew));exact Kd.R_mono J.out (fun _ hk=>hk.2)):p:=h
theorem B14x14_ (h:p:=by (with_reducible repeat (first|apply Kd.R_alloc|apply Kd.R_drewN|apply Kd.R_drew));exact Kd.R_mono bj.out (fun _ hk=>hk.2)):p:=h
theorem B14x15_ (h:p:=by (with_reducible repeat (first|apply Kd.R_alloc|apply Kd.R_drewN|apply Kd.R_drew));exact Kd.R_mono bk.out (fun _ hk=>hk.2)):p:=h
theorem B14x19_ (h:p:=by simp only [putAll,Act.put,List.setIfInBounds_toArray,List.set_cons_zero,List.set_cons_succ]):p:=h
theorem B14x20_ (h:p:=by repeat (first|(with_reducible first|exact q.out|apply IsS73.alloc|apply IsS73.drewN|apply IsS73.drew|apply IsS73.set_1|apply IsS73.set_2|refine IsS73.far ?_ dk.out _)|exact q.out)):p:=h
theorem B14x27_ (h:p:=by exact Kd.C_foot_own (IsS73.apart (show IsS73 w0 _ g af aT aU from B14x0_) (Ar D) (by decide)) (fun _ h_=>h_.2)):p:=h
theorem B14x28_ (h:p:=by exact Kd.C_foot_own (IsS73.apart (show IsS73 w0 _ g af aT aU from B14x0_) (Ar J) (by decide)) (fun _ h_=>h_.2)):p:=h
theorem B14x29_ (h:p:=by exact Kd.C_foot_own (IsS73.apart (show IsS73 w0 _ g af aT aU from B14x1_) (Ar D) (by decide)) (fun _ h_=>h_.2)):p:=h
theorem B14x30_ (h:p:=by exact Kd.C_foot_own (IsS73.apart (show IsS73 w0 _ g af aT aU from B14x1_) (Ar J) (by decide)) (fun _ h_=>h_.2)):p:=h
def spec_l15Keep.l0:Nat→Int→Int→List Int→Int→Int→List (S76)→List (S79)→Option ((List (S76)) × (List (S79)) × Int × Int)
 |0,_,_,_,_,_,_,_=>none
 |k+1,x1,x8,b7,dc,dd,du,dv=>(spec_l01Below.f b7 dc dd x1).bind fun cm=>(if x8<cm.1 then ((spec_l15Command.f k b7 cm.2.1 cm.2.2 du dv).bind fun bS=>((spec_Perform.f k du dv (wrap64 (x8+2)) bS.1 bS.2.1 bS.2.2.1 bS.2.2.2.1 bS.2.2.2.2.1 bS.2.2.2.2.2.1).bind fun dD=>(if dD.2.2.2=true then (spec_l15Keep.l0 k x1 (wrap64 (x8+1)) b7 bS.2.2.2.2.2.2.1 bS.2.2.2.2.2.2.2 dD.1 dD.2.1) else (spec_l15Keep.l0 k x1 (wrap64 (x8+1)) b7 bS.2.2.2.2.2.2.1 bS.2.2.2.2.2.2.2 du dv)))) else (some (du,dv,cm.2.1,cm.2.2)))
def spec_l15Keep.f (k:Nat) (af:List Int) (bN:Int) (bO:Int) (a1:Int):Option ((List (S76)) × (List (S79)) × Int × Int):=(spec_KeepNew.f).bind fun eg=>((spec_Perform.f k eg.1 eg.2 1 1 0 0 (⟨#[]⟩:ByteArray) (⟨#[]⟩:ByteArray) 0).bind fun eh=>(spec_l15Keep.l0 k a1 0 af bN bO eh.1 eh.2.1))
def spec_l15Keep.T5:Bool × List (List Nat × List Nat):=(true,[([],[]),([],[]),([1],[1]),([],[]),([],[]),([3,4],[3,4]),([0,2,5,5],[0,2,5]),([6],[6]),([7],[7]),([7],[7]),([7],[7]),([],[]),([11,8,6,0,1,2,3,4,5,6,7,8,11],[8,11]),([9,12,0,1,2,3,4,5,6,7,8,9,11,12],[9]),([10,13,0,1,2,3,4,5,6,7,8,9,10,11,12,13],[10])])
def spec_l15Keep.B5:List Nat:=[0,0,2,0,0,24,63,127,255,255,255,0,2559,7167,16383]
theorem spec_l15Keep.tab5:rtab .any (opsOf Tryz.f17 5)=spec_l15Keep.T5:=by kernel_rfl
theorem spec_l15Keep.bits5:waitsOk spec_l15Keep.T5.2 spec_l15Keep.B5=true:=by kernel_rfl
theorem spec_l15Keep.calls (k:Nat) (g:Nat) (af:List Int) (bN:Int) (bO:Int) (a1:Int) (r1:List (S76)) (r2:List (S79)) (r3:Int) (r4:Int) (w0 w:World) (hI:IsS73 w0 w g af bN bO) (hB:Below w0.heap.size w0 w) (h:spec_l15Keep.f k af bN bO a1=some (r1,r2,r3,r4)) :
  Calls Tryz.prog 17 #[.pointer (some ⟨g,0,none⟩),.int .i64 a1] w fun e w'=>∃ da ey:Value,e=.returned (.agg #[da,ey])∧Kd.R k76 76 w' w.heap.size (fun _=>True) da r1∧Kd.R k79 79 w' w.heap.size (fun _=>True) ey r2∧IsS73 w0 w' g af r3 r4∧Below w0.heap.size w0 w'∧KeepBut w w' g none:=by
 have ht:=Tryz.underlying52
 have hu:=Tryz.underlying84
 have q:=am hI
 have HK:=am (KeepBut.refl w g none)
 have HL:=am hB.size
 clear hI
 have bW:=am hB.size
 have HB:=am hB
 clear hB
 have Z:=h
 clear h
 unfold spec_l15Keep.f at Z
 obtain⟨⟨dP,dQ⟩,A3,M⟩:=bsi Z
 (try dsimp only at M)
 obtain⟨⟨dR,dS,fI,fJ⟩,A4,Y⟩:=bsi M
 (try dsimp only at Y)
 replace Y:=am Y
 clear Z M
 go_enter Tryz.func17,Tryz.ntmps17
 go_wp2_with (first|((with_reducible refine gate_dst (N:=4) rfl ?_);refine bx (N:=4) (cs:=#[.slice none 0 0,.slice none 0 0]) (t:=52) ?_;intro bY hg w5 hbox hb;replace HB:=De1 HB (IsS73.gf q) hb;have z:=am hbox;have ac:=gK hg HK;have au:=am (Nat.le_trans bW.out (bs hg (keep_size HK.out)):w0.heap.size≤bY);replace HK:=Ek0 HK hb;have dk:=am (nl hg (IsS73.lt q.out));have b2:=am (ng hg (IsS73.lt q.out));replace q:=am (IsS73.below (by repeat (first|(with_reducible first|exact q.out|apply IsS73.alloc|apply IsS73.drewN|apply IsS73.drew|apply IsS73.set_1|apply IsS73.set_2)|exact q.out)) hb);clear hb hbox hg)|((with_reducible refine gate_callee (f:=40) rfl ?_);refine goesL_ (some 13) rfl rfl Tryz.func40 gk_ rfl #[] rfl gm_ ?_;refine(spec_KeepNew.calls  dP dQ _ A3.out).mono ?_;rintro e w6 ⟨hx,hz,rfl,aH,aI,hb⟩;refine⟨_,rfl, ?_⟩;have b0:=am (Kd.R_lower aH (keep_size (w:=w) (g:=g) (row:=none) (Ak1 HK ac)));have b1:=am (Kd.R_lower aI (keep_size (w:=w) (g:=g) (row:=none) (Ak1 HK ac)));replace z:=bA z hb;replace HK:=Ek1 HK ac hb;replace HB:=De2 HB (IsS73.gf q) au hb;replace q:=am (IsS73.below B14x20_ hb);obtain⟨eQ,fu,fF⟩:=Kd.R_slice b0.out;subst fF;obtain⟨eR,fv,fG⟩:=Kd.R_slice b1.out;subst fG)|((with_reducible refine gate_callee (f:=39) rfl ?_);refine goesL_ (some 15) rfl rfl Tryz.func39 gk_ rfl #[.agg #[.slice eQ dP.length fu,.slice eR dQ.length fv],.int .i64 1,.agg #[.int .i64 1,.int .i64 0,.int .i64 0,.string (⟨#[]⟩:ByteArray),.string (⟨#[]⟩:ByteArray),.int .i64 0]] rfl gm_ ?_;(with_reducible refine(spec_Perform.calls k _ _ dP _ _ dQ 1 1 0 0 (⟨#[]⟩:ByteArray) (⟨#[]⟩:ByteArray) 0 dR dS fI fJ _ ?z1 ?z2 ?z3 ?z4 A4.out).mono ?_);(case z1=>repeat (first|exact(Kd.R_reads' b0.out).2.2|(with_reducible refine Kd.C_alloc ?_ _)|(with_reducible refine Kd.C_drewN ?_ _)|(with_reducible refine Kd.C_drew ?_)));(case z2=>exact(Kd.R_reads' b0.out).2.1);(case z3=>repeat (first|exact(Kd.R_reads' b1.out).2.2|(with_reducible refine Kd.C_alloc ?_ _)|(with_reducible refine Kd.C_drewN ?_ _)|(with_reducible refine Kd.C_drew ?_)));(case z4=>exact(Kd.R_reads' b1.out).2.1);rintro e w9 ⟨hC,hD,rfl,aH,aI,hb⟩;refine⟨_,rfl, ?_⟩;have di:=am (Kd.R_lower (Kd.R_new' aH (Kd.R_lt (Ar b0))) (keep_size (w:=w) (g:=g) (row:=none) (Ak1 HK ac)));replace b0:=am (Kd.R_elder' (Ar b0) (Kd.R_base aH) hb);have dj:=am (Kd.R_lower (Kd.R_new' aI (Kd.R_lt (Ar b1))) (keep_size (w:=w) (g:=g) (row:=none) (Ak1 HK ac)));replace b1:=am (Kd.R_elder' (Ar b1) (Kd.R_base aI) hb);replace z:=bA z hb;replace HK:=Ek1 HK ac hb;replace HB:=De2 HB (IsS73.gf q) au hb;replace q:=am (IsS73.below B14x20_ hb))|((with_reducible refine gate_dst (N:=5) rfl ?_);refine bx (N:=5) (cs:=#[.slice none 0 0,.slice none 0 0]) (t:=52) ?_;intro aM hg fO hbox hb;replace b0:=rA b0 hb;replace b1:=rA b1 hb;replace di:=rA di hb;replace dj:=rA dj hb;replace HB:=De2 HB (IsS73.gf q) au hb;have l:=am hbox;have aj:=gK hg HK;have aw:=am (Nat.le_trans bW.out (bs hg (keep_size HK.out)):w0.heap.size≤aM);replace HK:=Ek1 HK ac hb;have cl:=nA hg z;have dC:=mA hg z;replace z:=bA z hb;have ck:=am (nl hg (IsS73.lt q.out));have bR:=am (ng hg (IsS73.lt q.out));replace q:=am (IsS73.below B14x20_ hb);clear hb hbox hg;obtain⟨eK,fo,fx⟩:=Kd.R_slice di.out;subst fx;have gH:=dC.out;have gW:=cl.out;have gI:=bR.out;have gX:=ck.out;obtain⟨eD,eE,eF,eG⟩:=cf2 l;obtain⟨ea,el,dJ⟩:=Kd.R_slice dj.out;subst dJ))
 go_loopg [8] k (fun kq v8 w'=>∃ (ba:Int) (aN:Int) (aQ:Int) (ak:List (S76)) (al:List (S79)) (dW:Value) (dX:Value),v8=.int .i64 ba∧Aside0 (spec_l15Keep.l0 kq a1 ba af aN aQ ak al=some (r1,r2,r3,r4))∧Aside0 (kq≤k)∧Aside0 (Kd.R k76 76 w' w.heap.size (fun _=>True) dW ak)∧Aside0 (Kd.R k79 79 w' w.heap.size (fun _=>True) dX al)∧Aside0 (w'.heap[bY]?=some (.cells #[(.slice none 0 0),(.slice none 0 0)] 52 (0,0)))∧Aside0 (w'.heap[aM]?=some (.cells #[dW,dX] 52 (0,0)))∧Aside0 (IsS73 w0 w' g af aN aQ)∧Aside0 (KeepBut w w' g none)∧Aside0 (Below w0.heap.size w0 w'))
 case atStart=>exact⟨(0),bN,bO,dR,dS,(.slice eK dR.length fo),(.slice ea dS.length el),be_,Y,⟨Nat.le_refl _⟩,⟨tfg di.out l.out (by decide)⟩,⟨tfg dj.out l.out (by decide)⟩,Cp1 z cl,Cp0 l,⟨B14x0_⟩,Ck2 HK ac aj,Ce3 HB (IsS73.gf q) au aw⟩
 case round=>
  clear Y;obtain⟨ba,aN,aQ,ak,al,dW,dX,rfl,ad,aV,D,J,z,l,q,HK,HB⟩:=hrel
  cases gk with
  |zero=>exact absurd ad.out (by simp [spec_l15Keep.l0])
  |succ k1=>?_
  replace ad:=ad.out;simp only [spec_l15Keep.l0] at ad;obtain⟨⟨dT,aT,aU⟩,ch,ag⟩:=bsi ad;(try dsimp only at ag)
  obtain⟨e8,ap⟩|⟨e8,ap⟩:=sd ag
  ·obtain⟨⟨aY,aZ,a3,a4,a5,a6,b5,b6⟩,df,ah⟩:=bsi ap;(try dsimp only at ah);obtain⟨⟨bT,bU,bF,hv⟩,bZ,az⟩:=bsi ah;(try dsimp only at az)
   obtain⟨rfl,a7⟩|⟨rfl,a7⟩:=sb az
   ·replace a7:=am a7;clear ad ag ap ah az
    try go_wp2_with (first|((with_reducible refine gate_callee (f:=15) rfl ?_);refine goesL_ (some 22) rfl rfl Tryz.func15 gk_ rfl #[.pointer (some ⟨g,0,none⟩),.int .i64 a1] rfl gm_ ?_;refine(spec_l01Below.calls g af aN aQ a1 dT aT aU w0 _ B14x0_ (Ae3 HB (IsS73.gf q) au aw) ch.out).mono ?_;rintro e fP ⟨rfl,hi,hb,hk⟩;refine⟨_,rfl, ?_⟩;replace D:=am (Kd.R_mono (Kd.R_keep (IsS73.apart (show IsS73 w0 _ g af aN aQ from B14x0_) (Ar D) (by decide)) hk (fun _ h=>h.2)) (fun _ h=>h.1));replace J:=am (Kd.R_mono (Kd.R_keep (IsS73.apart (show IsS73 w0 _ g af aN aQ from B14x0_) (Ar J) (by decide)) hk (fun _ h=>h.2)) (fun _ h=>h.1));replace z:=kA hk z b2;replace l:=kA hk l bR;replace HK:=Dk2 HK ac aj hk;replace HB:=am hb;replace q:=am hi;obtain⟨bG,bK,fz⟩:=Kd.R_slice D.out;subst fz;obtain⟨bH,bL,fA⟩:=Kd.R_slice J.out;subst fA))
    replace D:=eA D;replace J:=eA J;replace z:=dA z;replace l:=dA l;replace q:=am (IsS73.drew q.out);replace HK:=kdr HK;replace HB:=bdr HB;refine st_ 15 (fun w'=>w'.cell? ⟨aM,0,none⟩=some (.slice bG ak.length bK)∧w'.cell? ⟨aM,1,none⟩=some (.slice bH al.length bL)) [] spec_l15Keep.tab5 spec_l15Keep.bits5 D5x1_ (fun ae B bX=>?_);generalize fP.drew=fQ at D J z l q HK HB ae ⊢;refine pu_ 1 28 B ?_;refine pu_ 2 29 B ?_;refine pu_ 3 30 B ?_;refine ta_ 0 27 B bX ae ?_;refine ta_ 4 31 B bX ae ?_;refine join_ (σ:=Value × Value × Nat) 3 #[true,true,true,true,true,true,true,true,true,true,true,true,false,false,false] (fun s_=>[(32,.agg #[.int .i64 aY,.int .i64 aZ,.int .i64 a3,.string a4,.string a5,.int .i64 a6]),(33,.tuple #[.agg #[s_.1,s_.2.1],.string bF,.bool true]),(9,.pointer (some ⟨s_.2.2,0,none⟩)),(26,.tuple #[.agg #[s_.1,s_.2.1],.string bF,.bool true]),(34,.agg #[s_.1,s_.2.1]),(35,.string bF),(36,.bool true)]) (fun s_ w'=>(w'.cell? ⟨aM,0,none⟩=some (.slice bG ak.length bK)∧w'.cell? ⟨aM,1,none⟩=some (.slice bH al.length bL))∧(Kd.R k76 76 w' w.heap.size (fun k_=>some k_≠(.slice bG ak.length bK:Value).ownBlock) s_.1 bT)∧(Kd.R k79 79 w' w.heap.size (fun k_=>some k_≠(.slice bH al.length bL:Value).ownBlock) s_.2.1 bU)∧(Kd.R k76 76 w' w.heap.size (fun k_=>some k_≠(s_.1:Value).ownBlock) (.slice bG ak.length bK) ak)∧(Kd.R k79 79 w' w.heap.size (fun k_=>some k_≠(s_.2.1:Value).ownBlock) (.slice bH al.length bL) al)∧(w'.heap[bY]?=some (.cells #[.slice none 0 0,.slice none 0 0] 52 (0,0)))∧(w'.heap[aM]?=some (.cells #[.slice bG ak.length bK,.slice bH al.length bL] 52 (0,0)))∧(w'.heap[s_.2.2]?=some (.cells #[.slice none 0 0,.slice none 0 0] 52 (0,0)))∧(w.heap.size≤s_.2.2)∧(w0.heap.size≤s_.2.2)∧(g≠s_.2.2)∧(s_.2.2≠g)∧(bY≠s_.2.2)∧(s_.2.2≠bY)∧(aM≠s_.2.2)∧(s_.2.2≠aM)∧(IsS73 w0 w' g af b5 b6)∧(KeepBut w w' g none)∧(Below w0.heap.size w0 w')) ?_ ?_;rotate_left
    ·intro ca;refine two_ (i:=5) (j:=11) (Ni:=some 32) (Nj:=some 9) #[true,true,true,true,true,true,false,false,false,false,false,false,false,false,false] #[true,true,true,true,true,false,false,false,false,false,false,true,false,false,false] rfl rfl rfl rfl (two_of B.out gk_) (by decide) (by decide) (fun K hK=>?_) (fun K hK=>?_)
     ·skip
      refine goes_ Tryz.func41 gk_ rfl #[.pointer (some ⟨g,0,none⟩),.agg #[.slice bG ak.length bK,.slice bH al.length bL]] (by rfl) rfl rfl gm_ ?_;refine(spec_l15Command.calls k1 g af aT aU _ _ ak _ _ al aY aZ a3 a4 a5 a6 b5 b6 w0 _ B14x0_ (Ae3 HB (IsS73.gf q) au aw) B14x27_ ((Kd.R_reads' D.out).2.1) B14x28_ ((Kd.R_reads' J.out).2.1) df.out).mono ?_;rintro e ez ⟨rfl,hi,hb,hk⟩;refine⟨_,rfl, ?_⟩;replace D:=am (Kd.R_mono (Kd.R_keep (IsS73.apart (show IsS73 w0 _ g af aT aU from B14x0_) (Ar D) (by decide)) hk (fun _ h=>h.2)) (fun _ h=>h.1));replace J:=am (Kd.R_mono (Kd.R_keep (IsS73.apart (show IsS73 w0 _ g af aT aU from B14x0_) (Ar J) (by decide)) hk (fun _ h=>h.2)) (fun _ h=>h.1));replace z:=kA hk z b2;replace l:=kA hk l bR;replace HK:=Dk2 HK ac aj hk;replace HB:=am hb;replace q:=am hi;refine hK.out _ _ D5x1_ (fun ae=>nm_ ?_);clear hK K;refine two_ (i:=6) (j:=11) (Ni:=some 33) (Nj:=some 9) #[true,true,true,true,true,true,true,false,false,false,false,false,false,false,false] #[true,true,true,true,true,true,false,false,false,false,false,true,false,false,false] rfl rfl rfl rfl (two_of B.out gk_) (by decide) (by decide) (fun K hK=>?_) (fun K hK=>?_)
      ·skip
       refine goes_ Tryz.func39 gk_ rfl #[.agg #[.slice bG ak.length bK,.slice bH al.length bL],.int .i64 (wrap64 (ba+2)),.agg #[.int .i64 aY,.int .i64 aZ,.int .i64 a3,.string a4,.string a5,.int .i64 a6]] (by rfl) rfl rfl gm_ ?_;refine(spec_Perform.calls k1 _ _ ak _ _ al (wrap64 (ba+2)) aY aZ a3 a4 a5 a6 bT bU bF true _ B14x10_ ((Kd.R_reads' D.out).2.1) B14x11_ ((Kd.R_reads' J.out).2.1) bZ.out).mono ?_;rintro e dY ⟨bw,bz,rfl,aH,aI,hb⟩;refine⟨_,rfl, ?_⟩;have bj:=am (Kd.R_lower (Kd.R_new' aH (Kd.R_lt (Ar D))) (keep_size (w:=w) (g:=g) (row:=none) (Ak2 HK ac aj)));replace D:=am (Kd.R_elder' (Ar D) (Kd.R_base aH) hb);have bk:=am (Kd.R_lower (Kd.R_new' aI (Kd.R_lt (Ar J))) (keep_size (w:=w) (g:=g) (row:=none) (Ak2 HK ac aj)));replace J:=am (Kd.R_elder' (Ar J) (Kd.R_base aI) hb);replace z:=bA z hb;replace l:=bA l hb;replace HK:=Ek2 HK ac aj hb;replace HB:=De3 HB (IsS73.gf q) au aw hb;replace q:=am (IsS73.below B14x0_ hb);refine hK.out _ _ D5x1_ (fun ae=>nm_ ?_);clear hK K;refine pu_ 7 26 B ?_;refine pu_ 8 34 B ?_;refine pu_ 9 35 B ?_;refine pu_ 10 36 B ?_;refine on_ 11 (some 9) B (fun K hK=>?_);refine box_step ?hg (N:=9) ?hd (cs:=#[.slice none 0 0,.slice none 0 0]) (t:=52) ?hr ?_;(case hd=>rfl);(case hg=>rfl);(case hr=>exact gs_);intro av hg dZ hbox hb;replace D:=rA D hb;replace J:=rA J hb;replace bj:=rA bj hb;replace bk:=rA bk hb;replace HB:=De3 HB (IsS73.gf q) au aw hb;have ao:=am hbox;have ar:=gK hg HK;have ay:=am (Nat.le_trans bW.out (bs hg (keep_size HK.out)):w0.heap.size≤av);replace HK:=Ek2 HK ac aj hb;have aK:=nA hg z;have aW:=mA hg z;replace z:=bA z hb;have ax:=nA hg l;have aX:=mA hg l;replace l:=bA l hb;have bl:=am (nl hg (IsS73.lt q.out));have bm:=am (ng hg (IsS73.lt q.out));replace q:=am (IsS73.below B14x0_ hb);clear hb hbox hg;refine hK.out _ _ D5x1_ (fun ae=>nm_ ?_);clear hK K;exact norm_ B14x19_ (ca (bw,bz,av) _ ⟨ae,B14x14_,B14x15_,B14x12_,B14x13_,(Ab z),(Ab l),(Ab ao),ar.out,ay.out,bl.out,bm.out,aK.out,aW.out,ax.out,aX.out,D5x0_⟩)
      refine box_step ?hg (N:=9) ?hd (cs:=#[.slice none 0 0,.slice none 0 0]) (t:=52) ?hr ?_;(case hd=>rfl);(case hg=>rfl);(case hr=>exact gs_);intro av hg dY hbox hb;replace D:=rA D hb;replace J:=rA J hb;replace HB:=De3 HB (IsS73.gf q) au aw hb;have ao:=am hbox;have ar:=gK hg HK;have ay:=am (Nat.le_trans bW.out (bs hg (keep_size HK.out)):w0.heap.size≤av);replace HK:=Ek2 HK ac aj hb;have aK:=nA hg z;have aW:=mA hg z;replace z:=bA z hb;have ax:=nA hg l;have aX:=mA hg l;replace l:=bA l hb;have bl:=am (nl hg (IsS73.lt q.out));have bm:=am (ng hg (IsS73.lt q.out));replace q:=am (IsS73.below B14x0_ hb);clear hb hbox hg;refine hK.out _ _ D5x1_ (fun ae=>nm_ ?_);clear hK K;refine on_ 6 (some 33) B (fun K hK=>?_);refine goes_ Tryz.func39 gk_ rfl #[.agg #[.slice bG ak.length bK,.slice bH al.length bL],.int .i64 (wrap64 (ba+2)),.agg #[.int .i64 aY,.int .i64 aZ,.int .i64 a3,.string a4,.string a5,.int .i64 a6]] (by rfl) rfl rfl gm_ ?_;refine(spec_Perform.calls k1 _ _ ak _ _ al (wrap64 (ba+2)) aY aZ a3 a4 a5 a6 bT bU bF true _ B14x10_ ((Kd.R_reads' D.out).2.1) B14x11_ ((Kd.R_reads' J.out).2.1) bZ.out).mono ?_;rintro e dZ ⟨bw,bz,rfl,aH,aI,hb⟩;refine⟨_,rfl, ?_⟩;have bj:=am (Kd.R_lower (Kd.R_new' aH (Kd.R_lt (Ar D))) (keep_size (w:=w) (g:=g) (row:=none) (Ak3 HK ac aj ar)));replace D:=am (Kd.R_elder' (Ar D) (Kd.R_base aH) hb);have bk:=am (Kd.R_lower (Kd.R_new' aI (Kd.R_lt (Ar J))) (keep_size (w:=w) (g:=g) (row:=none) (Ak3 HK ac aj ar)));replace J:=am (Kd.R_elder' (Ar J) (Kd.R_base aI) hb);replace z:=bA z hb;replace l:=bA l hb;replace ao:=bA ao hb;replace HK:=Ek3 HK ac aj ar hb;replace HB:=De4 HB (IsS73.gf q) au aw ay hb;replace q:=am (IsS73.below B14x1_ hb);refine hK.out _ _ D5x1_ (fun ae=>nm_ ?_);clear hK K;refine pu_ 7 26 B ?_;refine pu_ 8 34 B ?_;refine pu_ 9 35 B ?_;refine pu_ 10 36 B ?_;exact norm_ B14x19_ (ca (bw,bz,av) _ ⟨ae,B14x14_,B14x15_,B14x12_,B14x13_,(Ab z),(Ab l),(Ab ao),ar.out,ay.out,bl.out,bm.out,aK.out,aW.out,ax.out,aX.out,D5x0_⟩)
     refine box_step ?hg (N:=9) ?hd (cs:=#[.slice none 0 0,.slice none 0 0]) (t:=52) ?hr ?_;(case hd=>rfl);(case hg=>rfl);(case hr=>exact gs_);intro av hg ez hbox hb;replace D:=rA D hb;replace J:=rA J hb;replace HB:=De3 HB (IsS73.gf q) au aw hb;have ao:=am hbox;have ar:=gK hg HK;have ay:=am (Nat.le_trans bW.out (bs hg (keep_size HK.out)):w0.heap.size≤av);replace HK:=Ek2 HK ac aj hb;have aK:=nA hg z;have aW:=mA hg z;replace z:=bA z hb;have ax:=nA hg l;have aX:=mA hg l;replace l:=bA l hb;have bl:=am (nl hg (IsS73.lt q.out));have bm:=am (ng hg (IsS73.lt q.out));replace q:=am (IsS73.below B14x0_ hb);clear hb hbox hg;refine hK.out _ _ D5x1_ (fun ae=>nm_ ?_);clear hK K;refine on_ 5 (some 32) B (fun K hK=>?_);refine goes_ Tryz.func41 gk_ rfl #[.pointer (some ⟨g,0,none⟩),.agg #[.slice bG ak.length bK,.slice bH al.length bL]] (by rfl) rfl rfl gm_ ?_;refine(spec_l15Command.calls k1 g af aT aU _ _ ak _ _ al aY aZ a3 a4 a5 a6 b5 b6 w0 _ B14x1_ (Ae4 HB (IsS73.gf q) au aw ay) B14x29_ ((Kd.R_reads' D.out).2.1) B14x30_ ((Kd.R_reads' J.out).2.1) df.out).mono ?_;rintro e dY ⟨rfl,hi,hb,hk⟩;refine⟨_,rfl, ?_⟩;replace D:=am (Kd.R_mono (Kd.R_keep (IsS73.apart (show IsS73 w0 _ g af aT aU from B14x1_) (Ar D) (by decide)) hk (fun _ h=>h.2)) (fun _ h=>h.1));replace J:=am (Kd.R_mono (Kd.R_keep (IsS73.apart (show IsS73 w0 _ g af aT aU from B14x1_) (Ar J) (by decide)) hk (fun _ h=>h.2)) (fun _ h=>h.1));replace z:=kA hk z b2;replace l:=kA hk l bR;replace ao:=kA hk ao bm;replace HK:=Dk3 HK ac aj ar hk;replace HB:=am hb;replace q:=am hi;refine hK.out _ _ D5x1_ (fun ae=>nm_ ?_);clear hK K;refine on_ 6 (some 33) B (fun K hK=>?_);refine goes_ Tryz.func39 gk_ rfl #[.agg #[.slice bG ak.length bK,.slice bH al.length bL],.int .i64 (wrap64 (ba+2)),.agg #[.int .i64 aY,.int .i64 aZ,.int .i64 a3,.string a4,.string a5,.int .i64 a6]] (by rfl) rfl rfl gm_ ?_;refine(spec_Perform.calls k1 _ _ ak _ _ al (wrap64 (ba+2)) aY aZ a3 a4 a5 a6 bT bU bF true _ B14x10_ ((Kd.R_reads' D.out).2.1) B14x11_ ((Kd.R_reads' J.out).2.1) bZ.out).mono ?_;rintro e dZ ⟨bw,bz,rfl,aH,aI,hb⟩;refine⟨_,rfl, ?_⟩;have bj:=am (Kd.R_lower (Kd.R_new' aH (Kd.R_lt (Ar D))) (keep_size (w:=w) (g:=g) (row:=none) (Ak3 HK ac aj ar)));replace D:=am (Kd.R_elder' (Ar D) (Kd.R_base aH) hb);have bk:=am (Kd.R_lower (Kd.R_new' aI (Kd.R_lt (Ar J))) (keep_size (w:=w) (g:=g) (row:=none) (Ak3 HK ac aj ar)));replace J:=am (Kd.R_elder' (Ar J) (Kd.R_base aI) hb);replace z:=bA z hb;replace l:=bA l hb;replace ao:=bA ao hb;replace HK:=Ek3 HK ac aj ar hb;replace HB:=De4 HB (IsS73.gf q) au aw ay hb;replace q:=am (IsS73.below B14x1_ hb);refine hK.out _ _ D5x1_ (fun ae=>nm_ ?_);clear hK K;refine pu_ 7 26 B ?_;refine pu_ 8 34 B ?_;refine pu_ 9 35 B ?_;refine pu_ 10 36 B ?_;exact norm_ B14x19_ (ca (bw,bz,av) _ ⟨ae,B14x14_,B14x15_,B14x12_,B14x13_,(Ab z),(Ab l),(Ab ao),ar.out,ay.out,bl.out,bm.out,aK.out,aW.out,ax.out,aX.out,D5x0_⟩)
    rintro⟨bw,bz,av⟩ db ⟨hS_,cv,cD,cE,cF,cG,cH,cI,cJ,cK,cL,dn,cw,cx,cy,cz,cA,cB,cC⟩;replace bj:=am cv;replace bk:=am cD;replace D:=am cE;replace J:=am cF;replace z:=am cG;replace l:=am cH;replace ao:=am cI;replace ar:=am cJ;replace ay:=am cK;replace bl:=am cL;replace bm:=am dn;replace aK:=am cw;replace aW:=am cx;replace ax:=am cy;replace aX:=am cz;replace q:=am cA;replace HK:=am cB;replace HB:=am cC;clear cv cD cE cF cG cH cI cJ cK cL dn cw cx cy cz cA cB cC
    have ae:db.cell? ⟨aM,0,none⟩=some (.slice bG ak.length bK)∧db.cell? ⟨aM,1,none⟩=some (.slice bH al.length bL):=hS_
    obtain⟨eM,fq,em⟩:=Kd.R_slice bj.out
    (first|subst em|(injection em with f1_ f2_ f3_;have f4_:=f1_.symm;have f5_:=f3_.symm;clear f1_ f2_ f3_;subst f4_;subst f5_))
    obtain⟨eN,fr,en⟩:=Kd.R_slice bk.out
    (first|subst en|(injection en with f1_ f2_ f3_;have f4_:=f1_.symm;have f5_:=f3_.symm;clear f1_ f2_ f3_;subst f4_;subst f5_))
    refine norm_ (a':=?_) ?_ ?_;rotate_left
    ·simp only [putAll,Act.put,List.setIfInBounds_toArray,List.set_cons_zero,List.set_cons_succ];rfl
    refine on_ 12 none B (fun K hK=>?_)
    have hj:db.cell? ⟨av,0,none⟩=some (.slice none 0 0):=bc ao 0
    have gr:=blk_frozen ao.out 0;obtain⟨g6,g7,gx,gy⟩:=o4_ aK ax aW aX
    have hm:db.cell? ⟨av,1,none⟩=some (.slice none 0 0):=bc ao 1
    have gs:=blk_frozen ao.out 1;obtain⟨g8,g9,gB,gC⟩:=o4_ aK ax aW aX;refine skip_ (w1:=?_) (by rfl) rfl ?_ ?_;rotate_left
    ·go_simp;rfl
    refine hK.out _ _ ⟨((cell_far (p:=⟨av,_,none⟩) ax.out _).trans (((cell_far (p:=⟨av,_,none⟩) ax.out _).trans (ae.1)))),((cell_far (p:=⟨av,_,none⟩) ax.out _).trans (((cell_far (p:=⟨av,_,none⟩) ax.out _).trans (ae.2))))⟩ (fun ae=>?_);clear hK K;refine pu_ 13 10 B ?_;refine pu_ 14 11 B ?_;refine done_ (done_of B.out gk_) ?_;obtain⟨gJ,gY,gN,gZ,gO,g0⟩:=o6_ aW aK aX ax bm bl;obtain⟨hV,hW,hZ,h0⟩:=cf2 ao;obtain⟨gP,g1,gQ,g2⟩:=o4_ dC cl bR ck;obtain⟨eD,eE,eF,eG⟩:=cf2 l
    try go_wp2
    go_roundg k1
    case measure=>have:=aV.out;omega
    case rel=>exact⟨(wrap64 (ba+1)),b5,b6,bT,bU,(.slice eM bT.length fq),(.slice eN bU.length fr),be_,a7,⟨(by have:=aV.out;omega)⟩,⟨tfh bj.out ao.out (by decide) l.out (by decide)⟩,⟨tfh bk.out ao.out (by decide) l.out (by decide)⟩,Cp2 z cl aK,Cp1 l ax,⟨B14x1_⟩,Ck3 HK ac aj ar,Ce4 HB (IsS73.gf q) au aw ay⟩
   replace a7:=am a7;clear ad ag ap ah az
   try go_wp2_with (first|((with_reducible refine gate_callee (f:=15) rfl ?_);refine goesL_ (some 22) rfl rfl Tryz.func15 gk_ rfl #[.pointer (some ⟨g,0,none⟩),.int .i64 a1] rfl gm_ ?_;refine(spec_l01Below.calls g af aN aQ a1 dT aT aU w0 _ B14x0_ (Ae3 HB (IsS73.gf q) au aw) ch.out).mono ?_;rintro e fR ⟨rfl,hi,hb,hk⟩;refine⟨_,rfl, ?_⟩;replace D:=am (Kd.R_mono (Kd.R_keep (IsS73.apart (show IsS73 w0 _ g af aN aQ from B14x0_) (Ar D) (by decide)) hk (fun _ h=>h.2)) (fun _ h=>h.1));replace J:=am (Kd.R_mono (Kd.R_keep (IsS73.apart (show IsS73 w0 _ g af aN aQ from B14x0_) (Ar J) (by decide)) hk (fun _ h=>h.2)) (fun _ h=>h.1));replace z:=kA hk z b2;replace l:=kA hk l bR;replace HK:=Dk2 HK ac aj hk;replace HB:=am hb;replace q:=am hi;obtain⟨bB,bD,fB⟩:=Kd.R_slice D.out;subst fB;obtain⟨bC,bE,fC⟩:=Kd.R_slice J.out;subst fC))
   replace D:=eA D;replace J:=eA J;replace z:=dA z;replace l:=dA l;replace q:=am (IsS73.drew q.out);replace HK:=kdr HK;replace HB:=bdr HB;refine st_ 15 (fun w'=>w'.cell? ⟨aM,0,none⟩=some (.slice bB ak.length bD)∧w'.cell? ⟨aM,1,none⟩=some (.slice bC al.length bE)) [] spec_l15Keep.tab5 spec_l15Keep.bits5 D5x1_ (fun ae B bX=>?_);generalize fR.drew=hO at D J z l q HK HB ae ⊢;refine pu_ 1 28 B ?_;refine pu_ 2 29 B ?_;refine pu_ 3 30 B ?_;refine ta_ 0 27 B bX ae ?_;refine ta_ 4 31 B bX ae ?_;refine join_ (σ:=Value × Value × Nat) 3 #[true,true,true,true,true,true,true,true,true,true,true,true,false,false,false] (fun s_=>[(32,.agg #[.int .i64 aY,.int .i64 aZ,.int .i64 a3,.string a4,.string a5,.int .i64 a6]),(33,.tuple #[.agg #[s_.1,s_.2.1],.string bF,.bool false]),(9,.pointer (some ⟨s_.2.2,0,none⟩)),(26,.tuple #[.agg #[s_.1,s_.2.1],.string bF,.bool false]),(34,.agg #[s_.1,s_.2.1]),(35,.string bF),(36,.bool false)]) (fun s_ w'=>(w'.cell? ⟨aM,0,none⟩=some (.slice bB ak.length bD)∧w'.cell? ⟨aM,1,none⟩=some (.slice bC al.length bE))∧(Kd.R k76 76 w' w.heap.size (fun k_=>some k_≠(.slice bB ak.length bD:Value).ownBlock) s_.1 bT)∧(Kd.R k79 79 w' w.heap.size (fun k_=>some k_≠(.slice bC al.length bE:Value).ownBlock) s_.2.1 bU)∧(Kd.R k76 76 w' w.heap.size (fun k_=>some k_≠(s_.1:Value).ownBlock) (.slice bB ak.length bD) ak)∧(Kd.R k79 79 w' w.heap.size (fun k_=>some k_≠(s_.2.1:Value).ownBlock) (.slice bC al.length bE) al)∧(w'.heap[bY]?=some (.cells #[.slice none 0 0,.slice none 0 0] 52 (0,0)))∧(w'.heap[aM]?=some (.cells #[.slice bB ak.length bD,.slice bC al.length bE] 52 (0,0)))∧(w'.heap[s_.2.2]?=some (.cells #[.slice none 0 0,.slice none 0 0] 52 (0,0)))∧(w.heap.size≤s_.2.2)∧(w0.heap.size≤s_.2.2)∧(g≠s_.2.2)∧(s_.2.2≠g)∧(bY≠s_.2.2)∧(s_.2.2≠bY)∧(aM≠s_.2.2)∧(s_.2.2≠aM)∧(IsS73 w0 w' g af b5 b6)∧(KeepBut w w' g none)∧(Below w0.heap.size w0 w')) ?_ ?_;rotate_left
   ·intro ca;refine two_ (i:=5) (j:=11) (Ni:=some 32) (Nj:=some 9) #[true,true,true,true,true,true,false,false,false,false,false,false,false,false,false] #[true,true,true,true,true,false,false,false,false,false,false,true,false,false,false] rfl rfl rfl rfl (two_of B.out gk_) (by decide) (by decide) (fun K hK=>?_) (fun K hK=>?_)
    ·skip
     refine goes_ Tryz.func41 gk_ rfl #[.pointer (some ⟨g,0,none⟩),.agg #[.slice bB ak.length bD,.slice bC al.length bE]] (by rfl) rfl rfl gm_ ?_;refine(spec_l15Command.calls k1 g af aT aU _ _ ak _ _ al aY aZ a3 a4 a5 a6 b5 b6 w0 _ B14x0_ (Ae3 HB (IsS73.gf q) au aw) B14x27_ ((Kd.R_reads' D.out).2.1) B14x28_ ((Kd.R_reads' J.out).2.1) df.out).mono ?_;rintro e fS ⟨rfl,hi,hb,hk⟩;refine⟨_,rfl, ?_⟩;replace D:=am (Kd.R_mono (Kd.R_keep (IsS73.apart (show IsS73 w0 _ g af aT aU from B14x0_) (Ar D) (by decide)) hk (fun _ h=>h.2)) (fun _ h=>h.1));replace J:=am (Kd.R_mono (Kd.R_keep (IsS73.apart (show IsS73 w0 _ g af aT aU from B14x0_) (Ar J) (by decide)) hk (fun _ h=>h.2)) (fun _ h=>h.1));replace z:=kA hk z b2;replace l:=kA hk l bR;replace HK:=Dk2 HK ac aj hk;replace HB:=am hb;replace q:=am hi;refine hK.out _ _ D5x1_ (fun ae=>nm_ ?_);clear hK K;refine two_ (i:=6) (j:=11) (Ni:=some 33) (Nj:=some 9) #[true,true,true,true,true,true,true,false,false,false,false,false,false,false,false] #[true,true,true,true,true,true,false,false,false,false,false,true,false,false,false] rfl rfl rfl rfl (two_of B.out gk_) (by decide) (by decide) (fun K hK=>?_) (fun K hK=>?_)
     ·skip
      refine goes_ Tryz.func39 gk_ rfl #[.agg #[.slice bB ak.length bD,.slice bC al.length bE],.int .i64 (wrap64 (ba+2)),.agg #[.int .i64 aY,.int .i64 aZ,.int .i64 a3,.string a4,.string a5,.int .i64 a6]] (by rfl) rfl rfl gm_ ?_;refine(spec_Perform.calls k1 _ _ ak _ _ al (wrap64 (ba+2)) aY aZ a3 a4 a5 a6 bT bU bF false _ B14x10_ ((Kd.R_reads' D.out).2.1) B14x11_ ((Kd.R_reads' J.out).2.1) bZ.out).mono ?_;rintro e eB ⟨bw,bz,rfl,aH,aI,hb⟩;refine⟨_,rfl, ?_⟩;have bj:=am (Kd.R_lower (Kd.R_new' aH (Kd.R_lt (Ar D))) (keep_size (w:=w) (g:=g) (row:=none) (Ak2 HK ac aj)));replace D:=am (Kd.R_elder' (Ar D) (Kd.R_base aH) hb);have bk:=am (Kd.R_lower (Kd.R_new' aI (Kd.R_lt (Ar J))) (keep_size (w:=w) (g:=g) (row:=none) (Ak2 HK ac aj)));replace J:=am (Kd.R_elder' (Ar J) (Kd.R_base aI) hb);replace z:=bA z hb;replace l:=bA l hb;replace HK:=Ek2 HK ac aj hb;replace HB:=De3 HB (IsS73.gf q) au aw hb;replace q:=am (IsS73.below B14x0_ hb);refine hK.out _ _ D5x1_ (fun ae=>nm_ ?_);clear hK K;refine pu_ 7 26 B ?_;refine pu_ 8 34 B ?_;refine pu_ 9 35 B ?_;refine pu_ 10 36 B ?_;refine on_ 11 (some 9) B (fun K hK=>?_);refine box_step ?hg (N:=9) ?hd (cs:=#[.slice none 0 0,.slice none 0 0]) (t:=52) ?hr ?_;(case hd=>rfl);(case hg=>rfl);(case hr=>exact gs_);intro av hg eC hbox hb;replace D:=rA D hb;replace J:=rA J hb;replace bj:=rA bj hb;replace bk:=rA bk hb;replace HB:=De3 HB (IsS73.gf q) au aw hb;have ao:=am hbox;have ar:=gK hg HK;have ay:=am (Nat.le_trans bW.out (bs hg (keep_size HK.out)):w0.heap.size≤av);replace HK:=Ek2 HK ac aj hb;have aK:=nA hg z;have aW:=mA hg z;replace z:=bA z hb;have ax:=nA hg l;have aX:=mA hg l;replace l:=bA l hb;have bl:=am (nl hg (IsS73.lt q.out));have bm:=am (ng hg (IsS73.lt q.out));replace q:=am (IsS73.below B14x0_ hb);clear hb hbox hg;refine hK.out _ _ D5x1_ (fun ae=>nm_ ?_);clear hK K;exact norm_ B14x19_ (ca (bw,bz,av) _ ⟨ae,B14x14_,B14x15_,B14x12_,B14x13_,(Ab z),(Ab l),(Ab ao),ar.out,ay.out,bl.out,bm.out,aK.out,aW.out,ax.out,aX.out,D5x0_⟩)
     refine box_step ?hg (N:=9) ?hd (cs:=#[.slice none 0 0,.slice none 0 0]) (t:=52) ?hr ?_;(case hd=>rfl);(case hg=>rfl);(case hr=>exact gs_);intro av hg eB hbox hb;replace D:=rA D hb;replace J:=rA J hb;replace HB:=De3 HB (IsS73.gf q) au aw hb;have ao:=am hbox;have ar:=gK hg HK;have ay:=am (Nat.le_trans bW.out (bs hg (keep_size HK.out)):w0.heap.size≤av);replace HK:=Ek2 HK ac aj hb;have aK:=nA hg z;have aW:=mA hg z;replace z:=bA z hb;have ax:=nA hg l;have aX:=mA hg l;replace l:=bA l hb;have bl:=am (nl hg (IsS73.lt q.out));have bm:=am (ng hg (IsS73.lt q.out));replace q:=am (IsS73.below B14x0_ hb);clear hb hbox hg;refine hK.out _ _ D5x1_ (fun ae=>nm_ ?_);clear hK K;refine on_ 6 (some 33) B (fun K hK=>?_);refine goes_ Tryz.func39 gk_ rfl #[.agg #[.slice bB ak.length bD,.slice bC al.length bE],.int .i64 (wrap64 (ba+2)),.agg #[.int .i64 aY,.int .i64 aZ,.int .i64 a3,.string a4,.string a5,.int .i64 a6]] (by rfl) rfl rfl gm_ ?_;refine(spec_Perform.calls k1 _ _ ak _ _ al (wrap64 (ba+2)) aY aZ a3 a4 a5 a6 bT bU bF false _ B14x10_ ((Kd.R_reads' D.out).2.1) B14x11_ ((Kd.R_reads' J.out).2.1) bZ.out).mono ?_;rintro e eC ⟨bw,bz,rfl,aH,aI,hb⟩;refine⟨_,rfl, ?_⟩;have bj:=am (Kd.R_lower (Kd.R_new' aH (Kd.R_lt (Ar D))) (keep_size (w:=w) (g:=g) (row:=none) (Ak3 HK ac aj ar)));replace D:=am (Kd.R_elder' (Ar D) (Kd.R_base aH) hb);have bk:=am (Kd.R_lower (Kd.R_new' aI (Kd.R_lt (Ar J))) (keep_size (w:=w) (g:=g) (row:=none) (Ak3 HK ac aj ar)));replace J:=am (Kd.R_elder' (Ar J) (Kd.R_base aI) hb);replace z:=bA z hb;replace l:=bA l hb;replace ao:=bA ao hb;replace HK:=Ek3 HK ac aj ar hb;replace HB:=De4 HB (IsS73.gf q) au aw ay hb;replace q:=am (IsS73.below B14x1_ hb);refine hK.out _ _ D5x1_ (fun ae=>nm_ ?_);clear hK K;refine pu_ 7 26 B ?_;refine pu_ 8 34 B ?_;refine pu_ 9 35 B ?_;refine pu_ 10 36 B ?_;exact norm_ B14x19_ (ca (bw,bz,av) _ ⟨ae,B14x14_,B14x15_,B14x12_,B14x13_,(Ab z),(Ab l),(Ab ao),ar.out,ay.out,bl.out,bm.out,aK.out,aW.out,ax.out,aX.out,D5x0_⟩)
    refine box_step ?hg (N:=9) ?hd (cs:=#[.slice none 0 0,.slice none 0 0]) (t:=52) ?hr ?_;(case hd=>rfl);(case hg=>rfl);(case hr=>exact gs_);intro av hg fS hbox hb;replace D:=rA D hb;replace J:=rA J hb;replace HB:=De3 HB (IsS73.gf q) au aw hb;have ao:=am hbox;have ar:=gK hg HK;have ay:=am (Nat.le_trans bW.out (bs hg (keep_size HK.out)):w0.heap.size≤av);replace HK:=Ek2 HK ac aj hb;have aK:=nA hg z;have aW:=mA hg z;replace z:=bA z hb;have ax:=nA hg l;have aX:=mA hg l;replace l:=bA l hb;have bl:=am (nl hg (IsS73.lt q.out));have bm:=am (ng hg (IsS73.lt q.out));replace q:=am (IsS73.below B14x0_ hb);clear hb hbox hg;refine hK.out _ _ D5x1_ (fun ae=>nm_ ?_);clear hK K;refine on_ 5 (some 32) B (fun K hK=>?_);refine goes_ Tryz.func41 gk_ rfl #[.pointer (some ⟨g,0,none⟩),.agg #[.slice bB ak.length bD,.slice bC al.length bE]] (by rfl) rfl rfl gm_ ?_;refine(spec_l15Command.calls k1 g af aT aU _ _ ak _ _ al aY aZ a3 a4 a5 a6 b5 b6 w0 _ B14x1_ (Ae4 HB (IsS73.gf q) au aw ay) B14x29_ ((Kd.R_reads' D.out).2.1) B14x30_ ((Kd.R_reads' J.out).2.1) df.out).mono ?_;rintro e eB ⟨rfl,hi,hb,hk⟩;refine⟨_,rfl, ?_⟩;replace D:=am (Kd.R_mono (Kd.R_keep (IsS73.apart (show IsS73 w0 _ g af aT aU from B14x1_) (Ar D) (by decide)) hk (fun _ h=>h.2)) (fun _ h=>h.1));replace J:=am (Kd.R_mono (Kd.R_keep (IsS73.apart (show IsS73 w0 _ g af aT aU from B14x1_) (Ar J) (by decide)) hk (fun _ h=>h.2)) (fun _ h=>h.1));replace z:=kA hk z b2;replace l:=kA hk l bR;replace ao:=kA hk ao bm;replace HK:=Dk3 HK ac aj ar hk;replace HB:=am hb;replace q:=am hi;refine hK.out _ _ D5x1_ (fun ae=>nm_ ?_);clear hK K;refine on_ 6 (some 33) B (fun K hK=>?_);refine goes_ Tryz.func39 gk_ rfl #[.agg #[.slice bB ak.length bD,.slice bC al.length bE],.int .i64 (wrap64 (ba+2)),.agg #[.int .i64 aY,.int .i64 aZ,.int .i64 a3,.string a4,.string a5,.int .i64 a6]] (by rfl) rfl rfl gm_ ?_;refine(spec_Perform.calls k1 _ _ ak _ _ al (wrap64 (ba+2)) aY aZ a3 a4 a5 a6 bT bU bF false _ B14x10_ ((Kd.R_reads' D.out).2.1) B14x11_ ((Kd.R_reads' J.out).2.1) bZ.out).mono ?_;rintro e eC ⟨bw,bz,rfl,aH,aI,hb⟩;refine⟨_,rfl, ?_⟩;have bj:=am (Kd.R_lower (Kd.R_new' aH (Kd.R_lt (Ar D))) (keep_size (w:=w) (g:=g) (row:=none) (Ak3 HK ac aj ar)));replace D:=am (Kd.R_elder' (Ar D) (Kd.R_base aH) hb);have bk:=am (Kd.R_lower (Kd.R_new' aI (Kd.R_lt (Ar J))) (keep_size (w:=w) (g:=g) (row:=none) (Ak3 HK ac aj ar)));replace J:=am (Kd.R_elder' (Ar J) (Kd.R_base aI) hb);replace z:=bA z hb;replace l:=bA l hb;replace ao:=bA ao hb;replace HK:=Ek3 HK ac aj ar hb;replace HB:=De4 HB (IsS73.gf q) au aw ay hb;replace q:=am (IsS73.below B14x1_ hb);refine hK.out _ _ D5x1_ (fun ae=>nm_ ?_);clear hK K;refine pu_ 7 26 B ?_;refine pu_ 8 34 B ?_;refine pu_ 9 35 B ?_;refine pu_ 10 36 B ?_;exact norm_ B14x19_ (ca (bw,bz,av) _ ⟨ae,B14x14_,B14x15_,B14x12_,B14x13_,(Ab z),(Ab l),(Ab ao),ar.out,ay.out,bl.out,bm.out,aK.out,aW.out,ax.out,aX.out,D5x0_⟩)
   rintro⟨bw,bz,av⟩ ds ⟨hS_,cv,cD,cE,cF,cG,cH,cI,cJ,cK,cL,dn,cw,cx,cy,cz,cA,cB,cC⟩;replace bj:=am cv;replace bk:=am cD;replace D:=am cE;replace J:=am cF;replace z:=am cG;replace l:=am cH;replace ao:=am cI;replace ar:=am cJ;replace ay:=am cK;replace bl:=am cL;replace aK:=am cw;replace aW:=am cx;replace ax:=am cy;replace aX:=am cz;replace q:=am cA;replace HK:=am cB;replace HB:=am cC;clear cv cD cE cF cG cH cI cJ cK cL dn cw cx cy cz cA cB cC
   have ae:ds.cell? ⟨aM,0,none⟩=some (.slice bB ak.length bD)∧ds.cell? ⟨aM,1,none⟩=some (.slice bC al.length bE):=hS_
   obtain⟨f1,gm,eo⟩:=Kd.R_slice bj.out
   (first|subst eo|(injection eo with f1_ f2_ f3_;have f4_:=f1_.symm;have f5_:=f3_.symm;clear f1_ f2_ f3_;subst f4_;subst f5_))
   obtain⟨f2,gn,ep⟩:=Kd.R_slice bk.out
   (first|subst ep|(injection ep with f1_ f2_ f3_;have f4_:=f1_.symm;have f5_:=f3_.symm;clear f1_ f2_ f3_;subst f4_;subst f5_))
   refine norm_ (a':=?_) ?_ ?_;rotate_left
   ·simp only [putAll,Act.put,List.setIfInBounds_toArray,List.set_cons_zero,List.set_cons_succ];rfl
   refine on_ 12 none B (fun K hK=>?_)
   have hn:ds.cell? ⟨av,0,none⟩=some (.slice none 0 0):=bc ao 0
   have gu:=blk_frozen ao.out 0;obtain⟨ha,he,gD,gE⟩:=o4_ aK ax aW aX
   have hp:ds.cell? ⟨av,1,none⟩=some (.slice none 0 0):=bc ao 1
   have gv:=blk_frozen ao.out 1;obtain⟨hf,hh,gF,gG⟩:=o4_ aK ax aW aX;refine skip_ (w1:=?_) (by rfl) rfl ?_ ?_;rotate_left
   ·go_simp;rfl
   refine hK.out _ _ ⟨((cell_far (p:=⟨av,_,none⟩) ax.out _).trans (((cell_far (p:=⟨av,_,none⟩) ax.out _).trans (ae.1)))),((cell_far (p:=⟨av,_,none⟩) ax.out _).trans (((cell_far (p:=⟨av,_,none⟩) ax.out _).trans (ae.2))))⟩ (fun ae=>?_);clear hK K;refine pu_ 13 10 B ?_;refine pu_ 14 11 B ?_;refine done_ (done_of B.out gk_) ?_
   try go_wp2
   go_roundg k1
   case measure=>have:=aV.out;omega
   case rel=>exact⟨(wrap64 (ba+1)),b5,b6,ak,al,(.slice bB ak.length bD),(.slice bC al.length bE),be_,a7,⟨(by have:=aV.out;omega)⟩,⟨tfg D.out ao.out (by decide)⟩,⟨tfg J.out ao.out (by decide)⟩,Cp1 z aK,Cp1 l ax,⟨B14x1_⟩,Ck3 HK ac aj ar,Ce4 HB (IsS73.gf q) au aw ay⟩
  obtain⟨rfl,rfl,rfl,rfl⟩:=s4 ap;clear ap ad ag
  go_wp2_with (first|((with_reducible refine gate_callee (f:=15) rfl ?_);refine goesL_ (some 22) rfl rfl Tryz.func15 gk_ rfl #[.pointer (some ⟨g,0,none⟩),.int .i64 a1] rfl gm_ ?_;refine(spec_l01Below.calls g af aN aQ a1 dT aT aU w0 _ B14x0_ (Ae3 HB (IsS73.gf q) au aw) ch.out).mono ?_;rintro e hP ⟨rfl,hi,hb,hk⟩;refine⟨_,rfl, ?_⟩;replace D:=am (Kd.R_mono (Kd.R_keep (IsS73.apart (show IsS73 w0 _ g af aN aQ from B14x0_) (Ar D) (by decide)) hk (fun _ h=>h.2)) (fun _ h=>h.1));replace J:=am (Kd.R_mono (Kd.R_keep (IsS73.apart (show IsS73 w0 _ g af aN aQ from B14x0_) (Ar J) (by decide)) hk (fun _ h=>h.2)) (fun _ h=>h.1));replace z:=kA hk z b2;replace l:=kA hk l bR;replace HK:=Dk2 HK ac aj hk;replace HB:=am hb;replace q:=am hi;have gR:=dC.out;have g3:=cl.out;have gU:=bR.out;have g4:=ck.out;obtain⟨eD,eE,eF,eG⟩:=cf2 l;obtain⟨eO,fs,fD⟩:=Kd.R_slice D.out;subst fD;have gV:=b2.out;have g5:=dk.out;obtain⟨hT,hU,hX,hY⟩:=cf2 z;obtain⟨eP,ft,fE⟩:=Kd.R_slice J.out;subst fE))
  refine bodyPost_ret (results_cell_row rfl _ _ bY 52 #[.slice eO ak.length fs,.slice eP al.length ft] (0,0) _ rfl (Ap0 z) Tryz.underlying52 rfl gk_) rfl ?_
  exact⟨_,_,(by first|rfl|(simp [errW_none,errW_some] <;> rfl)|(simp [*,errW_none,errW_some] <;> rfl)),(tfg D.out z.out (by decide)),(tfg J.out z.out (by decide)),B14x0_,(Ae3 HB (IsS73.gf q) au aw),(Ak2 HK ac aj)⟩
theorem B15x1_ (h:p:=by repeat (first|(with_reducible first|exact q.out|apply IsS73.alloc|apply IsS73.drewN|apply IsS73.drew|apply IsS73.set_1|apply IsS73.set_2)|exact q.out)):p:=h
theorem B15x7_ (h:p:=by first|rfl|(simp [errW_none,errW_some] <;> rfl)|(simp [*,errW_none,errW_some] <;> rfl)):p:=h
theorem B15x12_ (h:p:=by have:=aV.out;omega):p:=h
theorem B15x14_ (h:p:=by have:=aV.out;have:=dh.out;omega):p:=h
theorem B15x15_ (h:p:=by injection ce):p:=h
theorem B15x16_ (h:p:=by injection cf):p:=h
theorem B15x17_ (h:p:=by exact(keep_size (w:=w) (g:=g) (row:=none) (Ak0 HK))):p:=h
def spec_l05Conf.l0:Nat→List Int→Int→List Int→Int→Int→Option (List Int × Int × Int)
 |0,_,_,_,_,_=>none
 |k+1,x3,x4,b7,dc,dd=>if x4≤4 then ((spec_l01Once.f b7 dc dd 2).bind fun cn=>(if cn.1=true then (if x3.length<17592186044416 then (spec_l05Conf.l0 k (x3 ++ [x4]) (wrap64 (x4+1)) b7 cn.2.1 cn.2.2) else (none)) else (spec_l05Conf.l0 k x3 (wrap64 (x4+1)) b7 cn.2.1 cn.2.2))) else (if (x3.length:Int)=0 then (if x3.length<17592186044416 then (some ((x3 ++ [1]),dc,dd)) else (none)) else (some (x3,dc,dd)))
def spec_l05Conf.f (k:Nat) (af:List Int) (bN:Int) (bO:Int):Option (List Int × Int × Int):=spec_l05Conf.l0 k (([]:List Int)) 1 af bN bO
theorem spec_l05Conf.calls (k:Nat) (g:Nat) (af:List Int) (bN:Int) (bO:Int) (r1:List Int) (r2:Int) (r3:Int) (w0 w:World) (hI:IsS73 w0 w g af bN bO) (hB:Below w0.heap.size w0 w) (h:spec_l05Conf.f k af bN bO=some (r1,r2,r3)) :
  Calls Tryz.prog 18 #[.pointer (some ⟨g,0,none⟩)] w fun e w'=>∃ da:Value,e=.returned (da)∧Kd.R (Kd.int .i64) 3 w' w.heap.size (fun _=>True) da r1∧IsS73 w0 w' g af r2 r3∧Below w0.heap.size w0 w'∧KeepBut w w' g none:=by
 have q:=am hI
 have HK:=am (KeepBut.refl w g none)
 have HL:=am hB.size
 clear hI
 have bW:=am hB.size
 have HB:=am hB
 clear hB
 have Z:=h
 clear h
 unfold spec_l05Conf.f at Z
 obtain⟨fX,cQ⟩:∃ y_:List Int,y_=(([]:List Int)):=⟨_,rfl⟩
 (first|with_reducible replace Z:=hq cQ Z|rw [←cQ] at Z|simp only [←cQ] at Z)
 have ed:=am cQ
 clear cQ
 replace Z:=am Z
 go_enter Tryz.func18,Tryz.ntmps18
 go_wp2_with (first|((with_reducible refine gate_dst (N:=5) rfl ?_);refine lL (Kd.int .i64) 3 5 ([]:List Int) [] (Reps.none _ _) ?_;intro hE w2 bM hb;(first|rw [←ed.out] at bM|(simp only [Int.reduceToNat] at bM;rw [←ed.out] at bM));have eT:=am (Kd.R_lower bM (keep_size (w:=w) (g:=g) (row:=none) (Ak0 HK)));replace HK:=Ek0 HK hb;replace HB:=De1 HB (IsS73.gf q) hb;replace q:=am (IsS73.below B15x1_ hb);clear hb bM))
 go_loopg [3,4] k (fun kq v3 v4 w'=>∃ (bV:List Int) (bu:Int) (aN:Int) (aQ:Int),v4=.int .i64 bu∧Aside0 (spec_l05Conf.l0 kq bV bu af aN aQ=some (r1,r2,r3))∧Aside0 (kq≤k)∧Aside0 (Kd.R (Kd.int .i64) 3 w' w.heap.size (fun _=>True) v3 bV)∧Aside0 (IsS73 w0 w' g af aN aQ)∧Aside0 (KeepBut w w' g none)∧Aside0 (Below w0.heap.size w0 w'))
 case atStart=>exact⟨(fX),1,bN,bO,be_,Z,⟨Nat.le_refl _⟩,Cr eT,⟨B15x1_⟩,Ck0 HK,Ce1 HB (IsS73.gf q)⟩
 case round=>
  clear Z;obtain⟨bV,bu,aN,aQ,rfl,M,aV,bd,q,HK,HB⟩:=hrel
  cases gk with
  |zero=>exact absurd M.out (by simp [spec_l05Conf.l0])
  |succ k1=>?_
  replace M:=M.out;simp only [spec_l05Conf.l0] at M
  obtain⟨ct,Y⟩|⟨ct,Y⟩:=sd M
  ·obtain⟨⟨hw,dp,dq⟩,A5,ad⟩:=bsi Y;(try dsimp only at ad)
   obtain⟨rfl,ag⟩|⟨rfl,ag⟩:=sb ad
   ·obtain⟨e1,ap⟩:=ya ag;obtain⟨fY,cR⟩:∃ y_:List Int,y_=(bV ++ [bu]):=⟨_,rfl⟩
    (first|with_reducible replace ap:=hq cR ap|rw [←cR] at ap|simp only [←cR] at ap)
    have e3:=am cR;clear cR;replace ap:=am ap;clear M Y ad ag
    go_wp2_with (first|((with_reducible refine gate_callee (f:=42) rfl ?_);refine goesL_ (some 11) rfl rfl Tryz.func42 gk_ rfl #[.pointer (some ⟨g,0,none⟩),.int .i64 2] rfl gm_ ?_;refine(spec_l01Once.calls g af aN aQ 2 true dp dq w0 _ B15x1_ (Ae1 HB (IsS73.gf q)) A5.out).mono ?_;rintro e w8 ⟨rfl,hi,hb,hk⟩;refine⟨_,rfl, ?_⟩;replace bd:=am (Kd.R_mono (Kd.R_keep (IsS73.apart (show IsS73 w0 _ g af aN aQ from B15x1_) (Ar bd) (by decide)) hk (fun _ h=>h.2)) (fun _ h=>h.1));replace HK:=Dk0 HK hk;replace HB:=am hb;replace q:=am hi)|((with_reducible refine gate_builtin (b:=.append) (xs:=#[.tmp 12,.tmp 14]) rfl ?_);at_builtin;refine Kd.R_append (Kd.int .i64) w.heap.size rfl (.tmp 12) (.tmp 14) 27 3 (.int .i64 0) 8 rfl Tryz.underlying27 info3 rfl (by decide) (by omega) u3 bV bu [.int .i64 bu] (fun _=>True) (fun _=>False) rfl rfl ?aP (fun _ hk=>hk.elim) ?aF ?aO (Below.refl _ _) ?aS ?aL ?_;(case aP=>exact rfl);(case aF=>exact(fun _ _=>trivial));(case aO=>exact(Ar bd));(case aS=>exact B15x17_);(case aL=>have:=e1.out;omega);intro hF w9 ho hb hg hat;rw [←e3.out] at ho;replace HB:=am (below_weaken (Ae1 HB (IsS73.gf q)) HL.out hb);replace q:=am (IsS73.grown B15x1_ hg (IsS73.own_ne q.out bd.out (by decide)));replace HK:=am (KeepBut.trans (Ak0 HK) (KeepBut.of_grown hg g) (Kd.R_base2 bd.out));have eU:=am ho;clear bd;clear ho hb hg hat))
    go_roundg k1
    case measure=>have:=aV.out;omega
    case rel=>exact⟨(fY),(wrap64 (bu+1)),dp,dq,be_,ap,⟨B15x12_⟩,Cr eU,⟨B15x1_⟩,Ck0 HK,Ce1 HB (IsS73.gf q)⟩
   ·replace ag:=am ag;clear M Y ad
    go_wp2_with (first|((with_reducible refine gate_callee (f:=42) rfl ?_);refine goesL_ (some 11) rfl rfl Tryz.func42 gk_ rfl #[.pointer (some ⟨g,0,none⟩),.int .i64 2] rfl gm_ ?_;refine(spec_l01Once.calls g af aN aQ 2 false dp dq w0 _ B15x1_ (Ae1 HB (IsS73.gf q)) A5.out).mono ?_;rintro e fO ⟨rfl,hi,hb,hk⟩;refine⟨_,rfl, ?_⟩;replace bd:=am (Kd.R_mono (Kd.R_keep (IsS73.apart (show IsS73 w0 _ g af aN aQ from B15x1_) (Ar bd) (by decide)) hk (fun _ h=>h.2)) (fun _ h=>h.1));replace HK:=Dk0 HK hk;replace HB:=am hb;replace q:=am hi))
    go_roundg k1
    case measure=>have:=aV.out;omega
    case rel=>exact⟨(bV),(wrap64 (bu+1)),dp,dq,be_,ag,⟨B15x12_⟩,Cr bd,⟨B15x1_⟩,Ck0 HK,Ce1 HB (IsS73.gf q)⟩
  ·obtain⟨cp,ah⟩|⟨cp,ah⟩:=sp Y
   ·obtain⟨ej,e6⟩:=yE cp;clear cp;obtain⟨e0,az⟩:=ya ah;obtain⟨hR,cS⟩:∃ y_:List Int,y_=(bV ++ [1]):=⟨_,rfl⟩
    (first|with_reducible replace az:=hq cS az|rw [←cS] at az|simp only [←cS] at az)
    have e4:=am cS;clear cS;obtain⟨rfl,rfl,rfl⟩:=s3 az;clear az M Y ah;obtain⟨eL,fp,fy⟩:=Kd.R_slice bd.out;subst fy
    go_wp2_with (first|((with_reducible refine gate_builtin (b:=.append) (xs:=#[.tmp 19,.tmp 20]) rfl ?_);at_builtin;refine Kd.R_append (Kd.int .i64) w.heap.size rfl (.tmp 19) (.tmp 20) 27 3 (.int .i64 0) 8 rfl Tryz.underlying27 info3 rfl (by decide) (by omega) (.slice eL bV.length fp) bV 1 [.int .i64 1] (fun _=>True) (fun _=>False) rfl rfl ?aP (fun _ hk=>hk.elim) ?aF ?aO (Below.refl _ _) ?aS ?aL ?_;(case aP=>exact rfl);(case aF=>exact(fun _ _=>trivial));(case aO=>exact(Ar bd));(case aS=>exact B15x17_);(case aL=>have:=e0.out;omega);intro hG hM ho hb hg hat;rw [←e4.out] at ho;replace HB:=am (below_weaken (Ae1 HB (IsS73.gf q)) HL.out hb);replace q:=am (IsS73.grown B15x1_ hg (IsS73.own_ne q.out bd.out (by decide)));replace HK:=am (KeepBut.trans (Ak0 HK) (KeepBut.of_grown hg g) (Kd.R_base2 bd.out));have eV:=am ho;clear bd;clear ho hb hg hat))
    go_ret;exact⟨_,B15x7_,(Ar eV),B15x1_,(Ae1 HB (IsS73.gf q)),(Ak0 HK)⟩
   ·obtain⟨ej,e6⟩:=nE cp
    have f6:¬ (bV=[]):=fun h_=>cp (by rw [h_];rfl)
    obtain⟨rfl,rfl,rfl⟩:=s3 ah;clear ah M Y;obtain⟨ea,el,dJ⟩:=Kd.R_slice bd.out;subst dJ
    go_wp2
    go_ret;exact⟨_,B15x7_,(Ar bd),B15x1_,(Ae1 HB (IsS73.gf q)),(Ak0 HK)⟩

def spec_l05Rise.l0:Nat→List Int→Int→Int→Int→Option (Bool)
 |0,_,_,_,_=>none
 |k+1,x0,x1,x2,x7=>if x7<(x0.length:Int) then (if 0≤x7 then ((spec_l01In.f (rd x0 x7) x1 x2).bind fun et=>(if et=true then (if x7>0 then (if 0≤(wrap64 (x7 - 1)) then (if (wrap64 (x7 - 1))<(x0.length:Int) then (if (rd x0 (wrap64 (x7 - 1)))≥(rd x0 x7) then (some false) else (spec_l05Rise.l0 k x0 x1 x2 (wrap64 (x7+1)))) else (none)) else (none)) else (spec_l05Rise.l0 k x0 x1 x2 (wrap64 (x7+1)))) else (some false))) else (none)) else (some true)
def spec_l05Rise.f (k:Nat) (l0:List Int) (a1:Int) (a2:Int):Option (Bool):=spec_l05Rise.l0 k l0 a1 a2 0
theorem spec_l05Rise.calls (k:Nat) (A0:Option Addr) (c0:Nat) (l0:List Int) (a1:Int) (a2:Int) (r:Bool) (w:World) (b4:Kd.C (Kd.int .i64) w A0 l0.length l0) (b3:l0.length≤c0) (h:spec_l05Rise.f k l0 a1 a2=some r) :
  Calls Tryz.prog 98 #[.slice A0 l0.length c0,.int .i64 a1,.int .i64 a2] w fun e w'=>e=.returned (.bool r)∧Drawn0 w w':=by
 have aG:=am b4
 have ci:=am b3
 clear b4 b3
 have Z:=h
 clear h
 unfold spec_l05Rise.f at Z
 replace Z:=am Z
 go_enter Tryz.func98,Tryz.ntmps98
 go_wp2
 repeat (go_quiet (fail);try go_wp2)
 go_loopg [7] k (fun kq v7 w'=>∃ (aa:Int),v7=.int .i64 aa∧Aside0 (spec_l05Rise.l0 kq l0 a1 a2 aa=some r)∧Aside0 (kq≤k)∧Drawn0 w w')
 case atStart=>exact⟨(0),be_,Z,⟨Nat.le_refl _⟩,gd_⟩
 case round=>
  clear Z;obtain⟨aa,rfl,M,aV,⟨m1,rfl⟩⟩:=hrel
  cases gk with
  |zero=>exact absurd M.out (by simp [spec_l05Rise.l0])
  |succ k1=>?_
  replace M:=M.out;simp only [spec_l05Rise.l0] at M
  obtain⟨ct,Y⟩|⟨ct,Y⟩:=sd M
  ·obtain⟨fj,ad⟩:=yd Y;obtain⟨et,A6,ag⟩:=bsi ad;(try dsimp only at ag)
   obtain⟨rfl,ap⟩|⟨rfl,ap⟩:=sb ag
   ·obtain⟨c8,ah⟩|⟨c8,ah⟩:=sp ap
    ·have fn:decide (0<aa)=true:=decide_eq_true c8
     clear c8;obtain⟨aJ,cM⟩:∃ j_:Int,(wrap64 (aa - 1))=j_:=⟨_,rfl⟩
     (first|rw [cM] at ah|simp only [cM] at ah)
     (try rw [cM] at A6)
     have gw:(IntKind.i64.wrap (aa - 1))=aJ:=(i64_w _).trans cM
     obtain⟨f5,az⟩:=yd ah;obtain⟨ej,a7⟩:=yd az
     obtain⟨cq,bQ⟩|⟨cq,bQ⟩:=sp a7
     ·have e7:decide ((rd l0 aa)≤(rd l0 (aJ)))=true:=decide_eq_true cq
      clear cq;obtain rfl:=Option.some.inj bQ;clear bQ M Y ad ag ap ah az a7
      have bp:0≤(aa:Int):=dga
      have bq:aa<(l0.length:Int):=dga
      obtain⟨bo,b9,dL⟩:=Kd.at_int aG.out aa bp bq;cases b9;replace bp:=eq_true bp;replace bq:=eq_true bq
      go_wp2_with (first|(go_at_call 31;refine(spec_l01In.calls (rd l0 aa) a1 a2 true _ A6.out).mono ?_;rintro e w' ⟨rfl,⟨nd,rfl⟩⟩;(try first|exact⟨rfl,_,World.drewN_drewN _ _ _⟩|exact⟨rfl,_,Eq.trans (World.drewN_drewN _ _ _) (congrArg (World.drewN _) (Nat.add_assoc _ _ _))⟩);have aA:0≤((aJ):Int):=dga;have aD:(aJ)<(l0.length:Int):=dga;obtain⟨bI,ce,cO⟩:=Kd.at_int aG.out (aJ) aA aD;obtain rfl:bo=bI:=B15x15_;replace aA:=eq_true aA;replace aD:=eq_true aD;have aC:0≤(aa:Int):=dga;have aE:aa<(l0.length:Int):=dga;obtain⟨bJ,cf,cP⟩:=Kd.at_int aG.out aa aC aE;obtain rfl:bo=bJ:=B15x16_;replace aC:=eq_true aC;replace aE:=eq_true aE))
      repeat (go_quiet (first|(go_at_call 31;(with_reducible refine(spec_l01In.calls (rd l0 aa) a1 a2 true _ A6.out).mono ?_);rintro e w' ⟨rfl,⟨nd,rfl⟩⟩;(try first|exact⟨rfl,_,World.drewN_drewN _ _ _⟩|exact⟨rfl,_,Eq.trans (World.drewN_drewN _ _ _) (congrArg (World.drewN _) (Nat.add_assoc _ _ _))⟩);have aA:0≤((aJ):Int):=dga;have aD:(aJ)<(l0.length:Int):=dga;obtain⟨bI,ce,cO⟩:=Kd.at_int aG.out (aJ) aA aD;obtain rfl:bo=bI:=B15x15_;replace aA:=eq_true aA;replace aD:=eq_true aD;have aC:0≤(aa:Int):=dga;have aE:aa<(l0.length:Int):=dga;obtain⟨bJ,cf,cP⟩:=Kd.at_int aG.out aa aC aE;obtain rfl:bo=bJ:=B15x16_;replace aC:=eq_true aC;replace aE:=eq_true aE));try go_wp2_with (first|(go_at_call 31;(with_reducible refine(spec_l01In.calls (rd l0 aa) a1 a2 true _ A6.out).mono ?_);rintro e w' ⟨rfl,⟨nd,rfl⟩⟩;(try first|exact⟨rfl,_,World.drewN_drewN _ _ _⟩|exact⟨rfl,_,Eq.trans (World.drewN_drewN _ _ _) (congrArg (World.drewN _) (Nat.add_assoc _ _ _))⟩);have aA:0≤((aJ):Int):=dga;have aD:(aJ)<(l0.length:Int):=dga;obtain⟨bI,ce,cO⟩:=Kd.at_int aG.out (aJ) aA aD;obtain rfl:bo=bI:=B15x15_;replace aA:=eq_true aA;replace aD:=eq_true aD;have aC:0≤(aa:Int):=dga;have aE:aa<(l0.length:Int):=dga;obtain⟨bJ,cf,cP⟩:=Kd.at_int aG.out aa aC aE;obtain rfl:bo=bJ:=B15x16_;replace aC:=eq_true aC;replace aE:=eq_true aE)))
      go_ret
      exact⟨(by first|rfl|(simp;done)|(simp only [←cM] <;> (first|rfl|simp))|(simp [*];done)),gd_⟩
     ·have e7:decide ((rd l0 aa)≤(rd l0 (aJ)))=false:=decide_eq_false cq
      clear cq;replace bQ:=am bQ;clear M Y ad ag ap ah az a7
      have bp:0≤(aa:Int):=dga
      have bq:aa<(l0.length:Int):=dga
      obtain⟨bo,b9,dL⟩:=Kd.at_int aG.out aa bp bq;cases b9;replace bp:=eq_true bp;replace bq:=eq_true bq
      go_wp2_with (first|(go_at_call 31;refine(spec_l01In.calls (rd l0 aa) a1 a2 true _ A6.out).mono ?_;rintro e w' ⟨rfl,⟨nd,rfl⟩⟩;(try first|exact⟨rfl,_,World.drewN_drewN _ _ _⟩|exact⟨rfl,_,Eq.trans (World.drewN_drewN _ _ _) (congrArg (World.drewN _) (Nat.add_assoc _ _ _))⟩);have aA:0≤((aJ):Int):=dga;have aD:(aJ)<(l0.length:Int):=dga;obtain⟨bI,ce,cO⟩:=Kd.at_int aG.out (aJ) aA aD;obtain rfl:bo=bI:=B15x15_;replace aA:=eq_true aA;replace aD:=eq_true aD;have aC:0≤(aa:Int):=dga;have aE:aa<(l0.length:Int):=dga;obtain⟨bJ,cf,cP⟩:=Kd.at_int aG.out aa aC aE;obtain rfl:bo=bJ:=B15x16_;replace aC:=eq_true aC;replace aE:=eq_true aE))
      repeat (go_quiet (first|(go_at_call 31;(with_reducible refine(spec_l01In.calls (rd l0 aa) a1 a2 true _ A6.out).mono ?_);rintro e w' ⟨rfl,⟨nd,rfl⟩⟩;(try first|exact⟨rfl,_,World.drewN_drewN _ _ _⟩|exact⟨rfl,_,Eq.trans (World.drewN_drewN _ _ _) (congrArg (World.drewN _) (Nat.add_assoc _ _ _))⟩);have aA:0≤((aJ):Int):=dga;have aD:(aJ)<(l0.length:Int):=dga;obtain⟨bI,ce,cO⟩:=Kd.at_int aG.out (aJ) aA aD;obtain rfl:bo=bI:=B15x15_;replace aA:=eq_true aA;replace aD:=eq_true aD;have aC:0≤(aa:Int):=dga;have aE:aa<(l0.length:Int):=dga;obtain⟨bJ,cf,cP⟩:=Kd.at_int aG.out aa aC aE;obtain rfl:bo=bJ:=B15x16_;replace aC:=eq_true aC;replace aE:=eq_true aE));try go_wp2_with (first|(go_at_call 31;(with_reducible refine(spec_l01In.calls (rd l0 aa) a1 a2 true _ A6.out).mono ?_);rintro e w' ⟨rfl,⟨nd,rfl⟩⟩;(try first|exact⟨rfl,_,World.drewN_drewN _ _ _⟩|exact⟨rfl,_,Eq.trans (World.drewN_drewN _ _ _) (congrArg (World.drewN _) (Nat.add_assoc _ _ _))⟩);have aA:0≤((aJ):Int):=dga;have aD:(aJ)<(l0.length:Int):=dga;obtain⟨bI,ce,cO⟩:=Kd.at_int aG.out (aJ) aA aD;obtain rfl:bo=bI:=B15x15_;replace aA:=eq_true aA;replace aD:=eq_true aD;have aC:0≤(aa:Int):=dga;have aE:aa<(l0.length:Int):=dga;obtain⟨bJ,cf,cP⟩:=Kd.at_int aG.out aa aC aE;obtain rfl:bo=bJ:=B15x16_;replace aC:=eq_true aC;replace aE:=eq_true aE)))
      go_roundg k1
      case measure=>have:=aV.out;omega
      case rel=>exact⟨(wrap64 (aa+1)),be_,bQ,⟨B15x12_⟩,gd_⟩
    ·have fn:decide (0<aa)=false:=decide_eq_false c8
     clear c8;replace ah:=am ah;clear M Y ad ag ap
     have bp:0≤(aa:Int):=dga
     have bq:aa<(l0.length:Int):=dga
     obtain⟨bo,b9,dL⟩:=Kd.at_int aG.out aa bp bq;cases b9;replace bp:=eq_true bp;replace bq:=eq_true bq
     go_wp2_with (first|(go_at_call 31;refine(spec_l01In.calls (rd l0 aa) a1 a2 true _ A6.out).mono ?_;rintro e w' ⟨rfl,⟨nd,rfl⟩⟩;(try first|exact⟨rfl,_,World.drewN_drewN _ _ _⟩|exact⟨rfl,_,Eq.trans (World.drewN_drewN _ _ _) (congrArg (World.drewN _) (Nat.add_assoc _ _ _))⟩)))
     repeat (go_quiet (first|(go_at_call 31;(with_reducible refine(spec_l01In.calls (rd l0 aa) a1 a2 true _ A6.out).mono ?_);rintro e w' ⟨rfl,⟨nd,rfl⟩⟩;(try first|exact⟨rfl,_,World.drewN_drewN _ _ _⟩|exact⟨rfl,_,Eq.trans (World.drewN_drewN _ _ _) (congrArg (World.drewN _) (Nat.add_assoc _ _ _))⟩)));try go_wp2_with (first|(go_at_call 31;(with_reducible refine(spec_l01In.calls (rd l0 aa) a1 a2 true _ A6.out).mono ?_);rintro e w' ⟨rfl,⟨nd,rfl⟩⟩;(try first|exact⟨rfl,_,World.drewN_drewN _ _ _⟩|exact⟨rfl,_,Eq.trans (World.drewN_drewN _ _ _) (congrArg (World.drewN _) (Nat.add_assoc _ _ _))⟩))))
     go_roundg k1
     case measure=>have:=aV.out;omega
     case rel=>exact⟨(wrap64 (aa+1)),be_,ah,⟨B15x12_⟩,gd_⟩
   ·obtain rfl:=Option.some.inj ap;clear ap M Y ad ag
    have bp:0≤(aa:Int):=dga
    have bq:aa<(l0.length:Int):=dga
    obtain⟨bo,b9,dL⟩:=Kd.at_int aG.out aa bp bq;cases b9;replace bp:=eq_true bp;replace bq:=eq_true bq
    go_wp2_with (first|(go_at_call 31;refine(spec_l01In.calls (rd l0 aa) a1 a2 false _ A6.out).mono ?_;rintro e w' ⟨rfl,⟨nd,rfl⟩⟩;(try first|exact⟨rfl,_,World.drewN_drewN _ _ _⟩|exact⟨rfl,_,Eq.trans (World.drewN_drewN _ _ _) (congrArg (World.drewN _) (Nat.add_assoc _ _ _))⟩)))
    repeat (go_quiet (first|(go_at_call 31;(with_reducible refine(spec_l01In.calls (rd l0 aa) a1 a2 false _ A6.out).mono ?_);rintro e w' ⟨rfl,⟨nd,rfl⟩⟩;(try first|exact⟨rfl,_,World.drewN_drewN _ _ _⟩|exact⟨rfl,_,Eq.trans (World.drewN_drewN _ _ _) (congrArg (World.drewN _) (Nat.add_assoc _ _ _))⟩)));try go_wp2_with (first|(go_at_call 31;(with_reducible refine(spec_l01In.calls (rd l0 aa) a1 a2 false _ A6.out).mono ?_);rintro e w' ⟨rfl,⟨nd,rfl⟩⟩;(try first|exact⟨rfl,_,World.drewN_drewN _ _ _⟩|exact⟨rfl,_,Eq.trans (World.drewN_drewN _ _ _) (congrArg (World.drewN _) (Nat.add_assoc _ _ _))⟩))))
    go_ret;exact⟨gr_,gd_⟩
  ·obtain rfl:=Option.some.inj Y;clear Y M
   go_wp2
   repeat (go_quiet (fail);try go_wp2)
   go_ret;exact⟨gr_,gd_⟩

def spec_ConfOk.f (k:Nat) (l0:List Int):Option (Bool):=(spec_l01In.f (l0.length:Int) 1 4).bind fun eu=>(if eu=true then ((spec_l05Rise.f k l0 1 4).bind fun dU=>(some dU)) else (some false))
theorem spec_ConfOk.calls (k:Nat) (A0:Option Addr) (c0:Nat) (l0:List Int) (r:Bool) (w:World) (b4:Kd.C (Kd.int .i64) w A0 l0.length l0) (b3:l0.length≤c0) (h:spec_ConfOk.f k l0=some r) :
  Calls Tryz.prog 77 #[.slice A0 l0.length c0] w fun e w'=>e=.returned (.bool r)∧Drawn0 w w':=by
 have aG:=am b4
 have ci:=am b3
 clear b4 b3
 have Z:=h
 clear h
 unfold spec_ConfOk.f at Z
 obtain⟨eu,A2,M⟩:=bsi Z
 (try dsimp only at M)
 obtain⟨rfl,Y⟩|⟨rfl,Y⟩:=sb M
 ·obtain⟨dU,A4,ad⟩:=bsi Y;(try dsimp only at ad);obtain rfl:=Option.some.inj ad;clear ad Z M Y;go_enter Tryz.func77,Tryz.ntmps77
  go_wp2_with (first|((with_reducible refine gate_callee (f:=31) rfl ?_);refine goesL_ (some 5) rfl rfl Tryz.func31 gk_ rfl #[.int .i64 (l0.length:Int),.int .i64 1,.int .i64 4] rfl gm_ ?_;refine(spec_l01In.calls (l0.length:Int) 1 4 true _ A2.out).mono ?_;rintro e w' ⟨rfl,⟨nd,rfl⟩⟩;refine⟨_,rfl, ?_⟩)|(go_at_call 98;refine(spec_l05Rise.calls k _ _ l0 1 4 dU _ (Ac aG) ci.out A4.out).mono ?_;rintro e w' ⟨rfl,⟨nd,rfl⟩⟩))
  go_ret;exact⟨gr_,gd_⟩
 ·obtain rfl:=Option.some.inj Y;clear Y Z M;go_enter Tryz.func77,Tryz.ntmps77
  go_wp2_with (first|((with_reducible refine gate_callee (f:=31) rfl ?_);refine goesL_ (some 5) rfl rfl Tryz.func31 gk_ rfl #[.int .i64 (l0.length:Int),.int .i64 1,.int .i64 4] rfl gm_ ?_;refine(spec_l01In.calls (l0.length:Int) 1 4 false _ A2.out).mono ?_;rintro e w' ⟨rfl,⟨nd,rfl⟩⟩;refine⟨_,rfl, ?_⟩))
  go_ret;exact⟨gr_,gd_⟩

def spec_ConfText.l0:Nat→List Int→List Int→Int→Option (ByteArray × Bool)
 |0,_,_,_=>none
 |k+1,x0,x4,x5=>if x5<(x0.length:Int) then (if 0≤x5 then (if x4.length<140737488355328 then (spec_ConfText.l0 k x0 (x4 ++ [(rd x0 x5) % 256]) (wrap64 (x5+1))) else (none)) else (none)) else (some (strOfNums x4,true))
def spec_ConfText.f (k:Nat) (l0:List Int):Option (ByteArray × Bool):=(spec_ConfOk.f k l0).bind fun ev=>(if ev=true then (spec_ConfText.l0 k l0 (([]:List Int)) 0) else (some ((⟨#[]⟩:ByteArray),false)))
theorem spec_ConfText.calls (k:Nat) (A0:Option Addr) (c0:Nat) (l0:List Int) (r1:ByteArray) (r2:Bool) (w:World) (b4:Kd.C (Kd.int .i64) w A0 l0.length l0) (b3:l0.length≤c0) (h:spec_ConfText.f k l0=some (r1,r2)) :
  Calls Tryz.prog 43 #[.slice A0 l0.length c0] w fun e w'=>e=.returned (.tuple #[.string r1,.bool r2])∧Below w.heap.size w w':=by
 have aG:=am b4
 have ci:=am b3
 clear b4 b3
 have HB:=am (Below.refl w.heap.size w)
 have Z:=h
 clear h
 unfold spec_ConfText.f at Z
 obtain⟨ev,A2,M⟩:=bsi Z
 (try dsimp only at M)
 obtain⟨rfl,Y⟩|⟨rfl,Y⟩:=sb M
 ·obtain⟨fZ,cT⟩:∃ y_:List Int,y_=(([]:List Int)):=⟨_,rfl⟩
  (first|with_reducible replace Y:=hq cT Y|rw [←cT] at Y|simp only [←cT] at Y)
  have ee:=am cT;clear cT;replace Y:=am Y;clear Z M;go_enter Tryz.func43,Tryz.ntmps43
  go_wp2_with (first|((with_reducible refine gate_callee (f:=77) rfl ?_);refine goesL_ (some 7) rfl rfl Tryz.func77 gk_ rfl #[.slice A0 l0.length c0] rfl gm_ ?_;refine(spec_ConfOk.calls k _ _ l0 true _ (Ac aG) ci.out A2.out).mono ?_;rintro e w' ⟨rfl,⟨nd,rfl⟩⟩;refine⟨_,rfl, ?_⟩)|((with_reducible refine gate_dst (N:=9) rfl ?_);refine lL (Kd.int .u8) 5 9 ([]:List Int) [] (Reps.none _ _) ?_;intro hH w4 cN hb;(first|rw [←ee.out] at cN|(simp only [Int.reduceToNat] at cN;rw [←ee.out] at cN));have eW:=am (Kd.R_lower cN (below_size (Ae0 HB)));replace HB:=hA HB hb;clear hb cN))
  go_loopg [4,5] k (fun kq v4 v5 w'=>∃ (bu:List Int) (aR:Int),v5=.int .i64 aR∧Aside0 (spec_ConfText.l0 kq l0 bu aR=some (r1,r2))∧Aside0 (kq≤k)∧Aside0 (Kd.R (Kd.int .u8) 5 w' w.heap.size (fun _=>True) v4 bu)∧Aside0 (Below w.heap.size w w'))
  case atStart=>exact⟨(fZ),0,be_,Y,⟨Nat.le_refl _⟩,Cr eW,Ce0 HB⟩
  case round=>
   clear Y
   try clear c3
   obtain⟨bu,aR,rfl,ad,aV,dw,HB⟩:=hrel
   cases gk with
   |zero=>exact absurd ad.out (by simp [spec_ConfText.l0])
   |succ k1=>?_
   replace ad:=ad.out;simp only [spec_ConfText.l0] at ad
   obtain⟨dI,ag⟩|⟨dI,ag⟩:=sd ad
   ·obtain⟨ek,ap⟩:=yd ag;obtain⟨e2,ah⟩:=ya ap;obtain⟨f0,cU⟩:∃ y_:List Int,y_=(bu ++ [(rd l0 aR) % 256]):=⟨_,rfl⟩
    (first|with_reducible replace ah:=hq cU ah|rw [←cU] at ah|simp only [←cU] at ah)
    have e5:=am cU;clear cU;replace ah:=am ah;clear ad ag ap
    have dN:0≤(aR:Int):=dga
    have dO:aR<(l0.length:Int):=dga
    obtain⟨f4,fw,dM⟩:=Kd.at_int aG.out aR dN dO;cases fw;replace dM:=(hbc HB dM).trans dM;replace dN:=eq_true dN;replace dO:=eq_true dO
    go_wp2_with (first|((with_reducible refine gate_builtin (b:=.append) (xs:=#[.tmp 16,.tmp 22]) rfl ?_);at_builtin;refine Kd.R_append (Kd.int .u8) (w0:=w) w.heap.size rfl (.tmp 16) (.tmp 22) 22 5 (.int .u8 0) 1 rfl Tryz.underlying22 info5 rfl (by decide) (by omega) u4 bu ((rd l0 aR) % 256) [.int .u8 ((rd l0 aR) % 256)] (fun _=>True) (fun _=>False) rfl rfl ?aP (fun _ hk=>hk.elim) ?aF ?aO ?aB ?aS ?aL ?_;(case aP=>exact rfl);(case aB=>exact(Ae0 HB));(case aF=>exact(fun _ _=>trivial));(case aO=>(with_reducible repeat (first|apply Kd.R_alloc|apply Kd.R_drewN|apply Kd.R_drew));exact dw.out);(case aS=>exact(below_size (Ae0 HB)));(case aL=>have:=e2.out;omega);intro hJ w9 ho hb hg hat;rw [←e5.out] at ho;replace HB:=am hb;have eX:=am ho;clear dw;clear ho hb hg hat))
    go_roundg k1
    case measure=>have:=aV.out;omega
    case rel=>exact⟨(f0),(wrap64 (aR+1)),be_,ah,⟨B15x12_⟩,Cr eX,Ce0 HB⟩
   ·obtain⟨rfl,rfl⟩:=s2 ag;clear ag ad;have gp:=own_string (P:=Tryz.prog) Tryz.underlying22 Tryz.underlying5 Tryz.underlying9 (Kd.own_of_R dw.out)
    go_wp2
    go_ret2
    exact⟨B15x7_,(Ae0 HB)⟩
 ·obtain⟨rfl,rfl⟩:=s2 Y;clear Y Z M;go_enter Tryz.func43,Tryz.ntmps43
  go_wp2_with (first|((with_reducible refine gate_callee (f:=77) rfl ?_);refine goesL_ (some 7) rfl rfl Tryz.func77 gk_ rfl #[.slice A0 l0.length c0] rfl gm_ ?_;refine(spec_ConfOk.calls k _ _ l0 false _ (Ac aG) ci.out A2.out).mono ?_;rintro e w' ⟨rfl,⟨nd,rfl⟩⟩;refine⟨_,rfl, ?_⟩))
  go_ret2
  exact⟨B15x7_,(Ae0 HB)⟩

def spec_l05Short.f (k:Nat) (U:ByteArray):Option (ByteArray):=(spec_l01Var.f k (U.size:Int)).bind fun cX=>(if cX.size+U.size≤9223372036854775807 then (some (cX ++ U)) else (none))
theorem spec_l05Short.calls (k:Nat) (U:ByteArray) (r:ByteArray) (w:World) (h:spec_l05Short.f k U=some r) :
  Calls Tryz.prog 44 #[.string U] w fun e w'=>e=.returned (.string r)∧Below w.heap.size w w':=by
 have HB:=am (Below.refl w.heap.size w)
 have Z:=h
 clear h
 unfold spec_l05Short.f at Z
 obtain⟨cX,A2,M⟩:=bsi Z
 (try dsimp only at M)
 obtain⟨c3,Y⟩:=yn M
 have dH:=eq_true c3
 have gj:=decide_eq_true c3
 try have fh:(9223372036854775807<cX.size+U.size)=False:=eq_false (Nat.not_lt.2 c3)
 try(have fi:=fh;simp only [ByteArray.size_append] at fi)
 obtain rfl:=Option.some.inj Y
 clear Y Z M
 go_enter Tryz.func44,Tryz.ntmps44
 go_wp2_with (first|((with_reducible refine gate_callee (f:=37) rfl ?_);refine goesL_ (some 5) rfl rfl Tryz.func37 gk_ rfl #[.int .i64 (U.size:Int)] rfl gm_ ?_;refine(spec_l01Var.calls k (U.size:Int) cX _ A2.out).mono ?_;rintro e w4 ⟨rfl,hb⟩;refine⟨_,rfl, ?_⟩;replace HB:=hA HB hb))
 go_ret
 exact⟨B15x7_,(Ae0 HB)⟩

def spec_l02Four.f (U:Int):Option (ByteArray):=some (strOfNums (([(U / 16777216) % 256,(U / 65536) % 256,(U / 256) % 256,(U) % 256]:List Int)))
theorem spec_l02Four.calls (U:Int) (r:ByteArray) (w:World) (h:spec_l02Four.f U=some r) :
  Calls Tryz.prog 78 #[.int .u32 U] w fun e w'=>e=.returned (.string r)∧Below w.heap.size w w':=by
 have HB:=am (Below.refl w.heap.size w)
 have Z:=h
 clear h
 unfold spec_l02Four.f at Z
 obtain⟨hS,cV⟩:∃ y_:List Int,y_=(([(U / 16777216) % 256,(U / 65536) % 256,(U / 256) % 256,(U) % 256]:List Int)):=⟨_,rfl⟩
 (first|with_reducible replace Z:=hq cV Z|rw [←cV] at Z|simp only [←cV] at Z)
 have ef:=am cV
 clear cV
 obtain rfl:=Option.some.inj Z
 clear Z
 go_enter Tryz.func78,Tryz.ntmps78
 go_wp2_with (first|((with_reducible refine gate_dst (N:=14) rfl ?_);refine lL (Kd.int .u8) 5 14 ([(U / 16777216) % 256,(U / 65536) % 256,(U / 256) % 256,(U) % 256]:List Int) [.int .u8 ((U / 16777216) % 256),.int .u8 ((U / 65536) % 256),.int .u8 ((U / 256) % 256),.int .u8 ((U) % 256)] (Reps.one (show Kd.M (Kd.int .u8) _ _ _ ((U / 16777216) % 256) [.int .u8 ((U / 16777216) % 256)] from rfl) (Reps.one (show Kd.M (Kd.int .u8) _ _ _ ((U / 65536) % 256) [.int .u8 ((U / 65536) % 256)] from rfl) (Reps.one (show Kd.M (Kd.int .u8) _ _ _ ((U / 256) % 256) [.int .u8 ((U / 256) % 256)] from rfl) (Reps.one (show Kd.M (Kd.int .u8) _ _ _ ((U) % 256) [.int .u8 ((U) % 256)] from rfl) (Reps.none _ _))))) ?_;intro hL w2 bM hb;(first|rw [←ef.out] at bM|(simp only [Int.reduceToNat] at bM;rw [←ef.out] at bM));have eY:=am (Kd.R_lower bM (below_size (Ae0 HB)));replace HB:=hA HB hb;clear hb bM;have gq:=own_string (P:=Tryz.prog) Tryz.underlying22 Tryz.underlying5 Tryz.underlying9 (Kd.own_of_R eY.out)))
 go_ret
 exact⟨B15x7_,(Ae0 HB)⟩

mutual
def spec_SumMore.l0:Nat→Int→ByteArray→Int→Option (Int)
 |0,_,_,_=>none
 |k+1,x0,x1,x5=>if x5<(x1.size:Int) then (if 0≤x5 then (spec_SumMore.l1 k (Go.bits .xor .u32 x0 ((bt x1 x5) % 4294967296)) x1 x5 0) else (none)) else (some x0)
def spec_SumMore.l1:Nat→Int→ByteArray→Int→Int→Option (Int)
 |0,_,_,_,_=>none
 |k+1,x0,x1,x5,x6=>if x6<8 then (if (Int.tmod x0 2)=1 then (spec_SumMore.l1 k (Go.bits .xor .u32 ((Int.tdiv x0 2) % 4294967296) 3558460437) x1 x5 (wrap64 (x6+1))) else (spec_SumMore.l1 k ((Int.tdiv x0 2) % 4294967296) x1 x5 (wrap64 (x6+1)))) else (spec_SumMore.l0 k x0 x1 (wrap64 (x5+1)))
end
def spec_SumMore.f (k:Nat) (U:Int) (a1:ByteArray):Option (Int):=spec_SumMore.l0 k U a1 0
theorem spec_SumMore.calls (k:Nat) (U:Int) (a1:ByteArray) (r:Int) (w:World) (h:spec_SumMore.f k U a1=some r) :
  Calls Tryz.prog 99 #[.int .u32 U,.string a1] w fun e w'=>e=.returned (.int .u32 r)∧Drawn0 w w':=by
 have Z:=h
 clear h
 unfold spec_SumMore.f at Z
 replace Z:=am Z
 go_enter Tryz.func99,Tryz.ntmps99
 go_wp2
 go_loopg [0,5] k (fun kq v0 v5 w'=>∃ (dt:Int) (aR:Int),v0=.int .u32 dt∧v5=.int .i64 aR∧Aside0 (spec_SumMore.l0 kq dt a1 aR=some r)∧Aside0 (kq≤k)∧Drawn0 w w')
 case atStart=>exact⟨(U),0,be_,be_,Z,⟨Nat.le_refl _⟩,gd_⟩
 case round=>
  clear Z;obtain⟨dt,aR,rfl,rfl,M,aV,⟨m1,rfl⟩⟩:=hrel
  cases gk with
  |zero=>exact absurd M.out (by simp [spec_SumMore.l0])
  |succ k1=>?_
  replace M:=M.out;simp only [spec_SumMore.l0] at M
  obtain⟨dH,Y⟩|⟨dH,Y⟩:=sd M
  ·obtain⟨ct,ad⟩:=yd Y;replace ad:=am ad;clear M Y
   have p5:0≤(aR:Int):=dga
   have q5:aR<(a1.size:Int):=dga
   have fH:=bt_at a1 aR;replace p5:=eq_true p5;replace q5:=eq_true q5
   go_wp2
   go_loopg [0,6] k1 (fun kq v0 v6 w'=>∃ (cg:Int) (de:Int),v0=.int .u32 cg∧v6=.int .i64 de∧Aside0 (spec_SumMore.l1 kq cg a1 aR de=some r)∧Aside0 (kq≤k1)∧Drawn0 w w')
   case atStart=>exact⟨(Go.bits .xor .u32 dt ((bt a1 aR) % 4294967296)),0,be_,be_,ad,⟨Nat.le_refl _⟩,gd_⟩
   case round=>
    clear ad
    try clear c3
    try clear dH
    try clear c4
    try clear ct
    try clear p5
    try clear q5
    try clear fH
    try clear p5
    try clear q5
    obtain⟨cg,de,rfl,rfl,ag,dh,⟨m2,rfl⟩⟩:=hrel
    cases gk with
    |zero=>exact absurd ag.out (by simp [spec_SumMore.l1])
    |succ k2=>?_
    replace ag:=ag.out;simp only [spec_SumMore.l1] at ag
    obtain⟨dI,ap⟩|⟨dI,ap⟩:=sd ag
    ·obtain⟨c7,ah⟩|⟨c7,ah⟩:=sp ap
     ·obtain⟨ek,fm⟩:=yE c7;clear c7;replace ah:=am ah;clear ag ap
      go_wp2
      go_roundg k2
      case measure=>have:=aV.out;have:=dh.out;omega
      case rel=>exact⟨(Go.bits .xor .u32 ((Int.tdiv cg 2) % 4294967296) 3558460437),(wrap64 (de+1)),be_,be_,ah,⟨B15x14_⟩,gd_⟩
     ·obtain⟨ek,fm⟩:=nE c7;replace ah:=am ah;clear ag ap
      go_wp2
      go_roundg k2
      case measure=>have:=aV.out;have:=dh.out;omega
      case rel=>exact⟨((Int.tdiv cg 2) % 4294967296),(wrap64 (de+1)),be_,be_,ah,⟨B15x14_⟩,gd_⟩
    ·replace ap:=am ap;clear ag
     go_wp2
     go_roundg k2
     case measure=>have:=aV.out;have:=dh.out;omega
     case rel=>exact⟨(cg),(wrap64 (aR+1)),be_,be_,ap,⟨B15x14_⟩,gd_⟩
  ·obtain rfl:=Option.some.inj Y;clear Y M
   go_wp2
   go_ret;exact⟨gr_,gd_⟩

def spec_SumOf.f (k:Nat) (U:ByteArray):Option (Int):=(spec_SumMore.f k 4294967295 U).bind fun dV=>(some dV)
theorem spec_SumOf.calls (k:Nat) (U:ByteArray) (r:Int) (w:World) (h:spec_SumOf.f k U=some r) :
  Calls Tryz.prog 79 #[.string U] w fun e w'=>e=.returned (.int .u32 r)∧Drawn0 w w':=by
 have Z:=h
 clear h
 unfold spec_SumOf.f at Z
 obtain⟨dV,A2,M⟩:=bsi Z
 (try dsimp only at M)
 obtain rfl:=Option.some.inj M
 clear M Z
 go_enter Tryz.func79,Tryz.ntmps79
 go_wp2_with (first|((with_reducible refine gate_callee (f:=99) rfl ?_);refine goesL_ (some 4) rfl rfl Tryz.func99 gk_ rfl #[.int .u32 4294967295,.string U] rfl gm_ ?_;refine(spec_SumMore.calls k 4294967295 U dV _ A2.out).mono ?_;rintro e w' ⟨rfl,⟨nd,rfl⟩⟩;refine⟨_,rfl, ?_⟩))
 go_ret
 exact⟨gr_,gd_⟩

def spec_Sealed.f (k:Nat) (U:ByteArray):Option (ByteArray × Bool):=if (U.size:Int)>20000 then (some ((⟨#[]⟩:ByteArray),false)) else ((spec_SumOf.f k U).bind fun cY=>((spec_l02Four.f cY).bind fun cZ=>(if U.size+cZ.size≤9223372036854775807 then (some (U ++ cZ,true)) else (none))))
theorem spec_Sealed.calls (k:Nat) (U:ByteArray) (r1:ByteArray) (r2:Bool) (w:World) (h:spec_Sealed.f k U=some (r1,r2)) :
  Calls Tryz.prog 45 #[.string U] w fun e w'=>e=.returned (.tuple #[.string r1,.bool r2])∧Below w.heap.size w w':=by
 have HB:=am (Below.refl w.heap.size w)
 have Z:=h
 clear h
 unfold spec_Sealed.f at Z
 obtain⟨c2,M⟩|⟨c2,M⟩:=sp Z
 ·have ff:decide (20000<(U.size:Int))=true:=decide_eq_true c2
  have fg:decide (20000<U.size)=true:=decide_eq_true (by omega)
  clear c2;obtain⟨rfl,rfl⟩:=s2 M;clear M Z;go_enter Tryz.func45,Tryz.ntmps45
  go_wp2
  go_ret2
  exact⟨B15x7_,(Ae0 HB)⟩
 have ff:decide (20000<(U.size:Int))=false:=decide_eq_false c2
 have fg:decide (20000<U.size)=false:=decide_eq_false (by omega)
 clear c2
 obtain⟨cY,A3,Y⟩:=bsi M
 (try dsimp only at Y)
 obtain⟨cZ,A4,ad⟩:=bsi Y
 (try dsimp only at ad)
 obtain⟨c5,ag⟩:=yn ad
 have fj:=eq_true c5
 have gl:=decide_eq_true c5
 try have fk:(9223372036854775807<U.size+cZ.size)=False:=eq_false (Nat.not_lt.2 c5)
 try(have fl:=fk;simp only [ByteArray.size_append] at fl)
 obtain⟨rfl,rfl⟩:=s2 ag
 clear ag Z M Y ad
 go_enter Tryz.func45,Tryz.ntmps45
 go_wp2_with (first|((with_reducible refine gate_callee (f:=79) rfl ?_);refine goesL_ (some 9) rfl rfl Tryz.func79 gk_ rfl #[.string U] rfl gm_ ?_;refine(spec_SumOf.calls k U cY _ A3.out).mono ?_;rintro e w' ⟨rfl,⟨nd,rfl⟩⟩;refine⟨_,rfl, ?_⟩)|((with_reducible refine gate_callee (f:=78) rfl ?_);refine goesL_ (some 10) rfl rfl Tryz.func78 gk_ rfl #[.int .u32 cY] rfl gm_ ?_;refine(spec_l02Four.calls cY cZ _ A4.out).mono ?_;rintro e w6 ⟨rfl,hb⟩;refine⟨_,rfl, ?_⟩;replace HB:=hA HB hb))
 go_ret2
 exact⟨B15x7_,(Ae0 HB)⟩
def spec_SnapText.j0:Nat→ByteArray→Bool→Int→Int→List Int→ByteArray→Option (ByteArray × Bool)
 |0,_,_,_,_,_,_=>none
 |k+1,x4,fT,fU,fV,hQ,fW=>if fT=true then (some ((⟨#[]⟩:ByteArray),false)) else ((spec_l01Var.f k fU).bind fun bh=>((spec_l01Var.f k fV).bind fun bi=>(if bh.size+bi.size≤9223372036854775807 then ((spec_l05Short.f k x4).bind fun br=>(if (bh ++ bi).size+br.size≤9223372036854775807 then ((spec_l05Short.f k fW).bind fun bP=>(if ((bh ++ bi) ++ br).size+bP.size≤9223372036854775807 then (if (wrap64 (((((bh ++ bi) ++ br) ++ bP).size:Int)+4))>20000 then (some ((⟨#[]⟩:ByteArray),false)) else ((spec_Sealed.f k (((bh ++ bi) ++ br) ++ bP)).bind fun ei=>(some (ei.1,ei.2)))) else (none))) else (none))) else (none))))
def spec_SnapText.f (k:Nat) (a8:Int) (be:Int) (a9:List Int) (bn:ByteArray):Option (ByteArray × Bool):=(spec_ConfText.f k a9).bind fun co=>(if co.2=true then ((spec_l01In.f a8 0 1000000).bind fun ew=>(if ew=true then ((spec_l01In.f be 0 100000).bind fun ex=>(if ex=true then (spec_SnapText.j0 k co.1 (decide ((bn.size:Int)>20000)) a8 be a9 bn) else (spec_SnapText.j0 k co.1 true a8 be a9 bn))) else (spec_SnapText.j0 k co.1 true a8 be a9 bn))) else (spec_SnapText.j0 k co.1 true a8 be a9 bn))
def spec_SnapText.T4:Bool × List (List Nat × List Nat):=(true,[([],[]),([0],[0]),([1],[1]),([],[]),([3],[3]),([4,2],[4]),([2,5],[2,5]),([],[]),([7,5],[7]),([6,8],[6,8]),([],[]),([10],[10]),([11,8],[11]),([9,12],[9,12]),([13,12,0,1,2,3,4,5,6,7,8,9,10,11,12,13],[13])])
def spec_SnapText.B4:List Nat:=[0,1,3,0,8,31,63,0,191,511,0,1024,3519,8191,16383]
theorem spec_SnapText.tab4:rtab .any (opsOf Tryz.f19 4)=spec_SnapText.T4:=by kernel_rfl
theorem spec_SnapText.bits4:waitsOk spec_SnapText.T4.2 spec_SnapText.B4=true:=by kernel_rfl
theorem spec_SnapText.calls (k:Nat) (a8:Int) (be:Int) (cc:Option Addr) (cd:Nat) (a9:List Int) (bn:ByteArray) (r1:ByteArray) (r2:Bool) (w:World) (er:Kd.C (Kd.int .i64) w cc a9.length a9) (eq:a9.length≤cd) (h:spec_SnapText.f k a8 be a9 bn=some (r1,r2)) :
  Calls Tryz.prog 19 #[.agg #[.int .i64 a8,.int .i64 be,.slice cc a9.length cd,.string bn]] w fun e w'=>e=.returned (.tuple #[.string r1,.bool r2])∧Below w.heap.size w w':=by
 have hs:=Tryz.underlying29
 have eZ:=am er
 have eS:=am eq
 clear er eq
 have HB:=am (Below.refl w.heap.size w)
 have Z:=h
 clear h
 unfold spec_SnapText.f at Z
 obtain⟨⟨dr,fK⟩,A2,M⟩:=bsi Z
 (try dsimp only at M)
 replace M:=am M
 clear Z
 go_enter Tryz.func19,Tryz.ntmps19
 go_upto_region 2 with (first|((with_reducible refine gate_dst (N:=1) rfl ?_);(try(refine gate_guard (by rfl) ?_;dsimp only));refine bx (N:=1) (cs:=#[.int .i64 a8,.int .i64 be,.slice cc a9.length cd,.string bn]) (t:=29) ?_;intro cu hg w4 hbox hb;have ai:=am hbox;have bv:=gA hg HB;replace HB:=hA HB hb;clear hb hbox hg;obtain⟨d1,d2,d3,d4,d5,d6,d7,d8⟩:=cf4 ai)|((with_reducible refine gate_callee (f:=43) rfl ?_);refine goesL_ (some 10) rfl rfl Tryz.func43 gk_ rfl #[.slice cc a9.length cd] rfl gm_ ?_;(with_reducible refine(spec_ConfText.calls k _ _ a9 dr fK _ ?z1 ?z2 A2.out).mono ?_);(case z1=>repeat (first|exact(Kd.C_below eZ.out HB.out)|(with_reducible refine Kd.C_alloc ?_ _)|(with_reducible refine Kd.C_drewN ?_ _)|(with_reducible refine Kd.C_drew ?_)));(case z2=>exact eS.out);rintro e w6 ⟨rfl,hb⟩;refine⟨_,rfl, ?_⟩;replace ai:=bA ai hb;replace HB:=De1 HB bv hb))
 (try simp only [Act.put,List.setIfInBounds_toArray,List.set_cons_zero,List.set_cons_succ])
 go_cut [32] (fun fN wc=>∃ (kq:Nat) (d0:Bool),fN=.bool d0∧Aside0 (spec_SnapText.j0 kq dr d0 a8 be a9 bn=some (r1,r2))∧Aside0 (kq≤k)∧Hc wc cu #[.int .i64 a8,.int .i64 be,(.slice cc a9.length cd),.string bn] 29∧Hb w wc)
 case first=>
  replace M:=M.out
  obtain⟨rfl,Y⟩|⟨rfl,Y⟩:=sb M
  ·obtain⟨ew,A8,ad⟩:=bsi Y;(try dsimp only at ad)
   obtain⟨rfl,ag⟩|⟨rfl,ag⟩:=sb ad
   ·obtain⟨ex,d9,ap⟩:=bsi ag;(try dsimp only at ap)
    obtain⟨rfl,ah⟩|⟨rfl,ah⟩:=sb ap
    ·replace ah:=am ah;clear M Y ad ag ap;obtain⟨d1,d2,d3,d4,d5,d6,d7,d8⟩:=cf4 ai
     go_wp2_with (first|(go_at_call 31;(with_reducible refine(spec_l01In.calls a8 0 1000000 true _ A8.out).mono ?_);rintro e w' ⟨rfl,⟨nd,rfl⟩⟩)|(go_at_call 31;(with_reducible refine(spec_l01In.calls be 0 100000 true _ d9.out).mono ?_);rintro e w' ⟨rfl,⟨nd,rfl⟩⟩))
     go_meet
     case rel=>exact⟨_,(decide ((bn.size:Int)>20000)),be_,ah,⟨gl_⟩,Cb ai,Ce1 HB bv⟩
    replace ah:=am ah;clear M Y ad ag ap;obtain⟨d1,d2,d3,d4,d5,d6,d7,d8⟩:=cf4 ai
    go_wp2_with (first|(go_at_call 31;(with_reducible refine(spec_l01In.calls a8 0 1000000 true _ A8.out).mono ?_);rintro e w' ⟨rfl,⟨nd,rfl⟩⟩)|(go_at_call 31;(with_reducible refine(spec_l01In.calls be 0 100000 false _ d9.out).mono ?_);rintro e w' ⟨rfl,⟨nd,rfl⟩⟩))
    go_meet
    case rel=>exact⟨_,true,be_,ah,⟨gl_⟩,Cb ai,Ce1 HB bv⟩
   replace ag:=am ag;clear M Y ad;obtain⟨d1,d2,d3,d4,d5,d6,d7,d8⟩:=cf4 ai
   go_wp2_with (first|(go_at_call 31;refine(spec_l01In.calls a8 0 1000000 false _ A8.out).mono ?_;rintro e w' ⟨rfl,⟨nd,rfl⟩⟩))
   go_meet
   case rel=>exact⟨_,true,be_,ag,⟨gl_⟩,Cb ai,Ce1 HB bv⟩
  replace Y:=am Y;clear M
  go_wp2
  go_meet
  case rel=>exact⟨_,true,be_,Y,⟨gl_⟩,Cb ai,Ce1 HB bv⟩
 clear M
 obtain⟨kq,d0,rfl,az,f3,ai,HB⟩:=hcut
 cases kq with
 |zero=>exact absurd az.out (by simp [spec_SnapText.j0])
 |succ cW=>?_
 replace az:=az.out
 simp only [spec_SnapText.j0] at az
 obtain⟨rfl,a7⟩|⟨rfl,a7⟩:=sb az
 ·obtain⟨rfl,rfl⟩:=s2 a7;clear a7 az
  go_wp2
  go_ret2
  exact⟨B15x7_,(Ae1 HB bv)⟩
 obtain⟨bh,ch,bQ⟩:=bsi a7
 (try dsimp only at bQ)
 obtain⟨bi,eH,dx⟩:=bsi bQ
 (try dsimp only at dx)
 obtain⟨dE,eb⟩:=yn dx
 have f7:=eq_true dE
 have f8:=decide_eq_true dE
 try have e9:(9223372036854775807<bh.size+bi.size)=False:=eq_false (Nat.not_lt.2 dE)
 try(have fa:=e9;simp only [ByteArray.size_append] at fa)
 obtain⟨br,bZ,dy⟩:=bsi eb
 (try dsimp only at dy)
 obtain⟨dl,ec⟩:=yn dy
 have f9:=eq_true dl
 have ga:=decide_eq_true dl
 try have fb:(9223372036854775807<(bh ++ bi).size+br.size)=False:=eq_false (Nat.not_lt.2 dl)
 try have gb:(9223372036854775807<bh.size+bi.size+br.size)=False:=eq_false (by have h_:=dl;simp only [ByteArray.size_append,ByteArray.size_extract,decide_eq_true_eq,decide_eq_false_iff_not] at *;omega)
 try(have fc:=fb;simp only [ByteArray.size_append] at fc)
 obtain⟨bP,eI,dz⟩:=bsi ec
 (try dsimp only at dz)
 obtain⟨dm,b8⟩:=yn dz
 have gg:=eq_true dm
 have gh:=decide_eq_true dm
 try have fd:(9223372036854775807<((bh ++ bi) ++ br).size+bP.size)=False:=eq_false (Nat.not_lt.2 dm)
 try have gi:(9223372036854775807<bh.size+bi.size+br.size+bP.size)=False:=eq_false (by have h_:=dm;simp only [ByteArray.size_append,ByteArray.size_extract,decide_eq_true_eq,decide_eq_false_iff_not] at *;omega)
 try(have fe:=fd;simp only [ByteArray.size_append] at fe)
 replace b8:=am b8
 clear az a7 bQ dx eb dy ec dz
 try go_wp2
 replace ai:=dA ai
 replace HB:=bdr HB
 refine st_ 15 (fun w'=>w'.cell? ⟨cu,0,none⟩=some (.int .i64 a8)∧w'.cell? ⟨cu,1,none⟩=some (.int .i64 be)∧w'.cell? ⟨cu,2,none⟩=some (.slice cc a9.length cd)∧w'.cell? ⟨cu,3,none⟩=some (.string bn)) [] spec_SnapText.tab4 spec_SnapText.bits4 D5x2_ (fun ae B bX=>?_)
 generalize wc.drew=fQ at ai HB ae ⊢
 refine pu_ 0 33 B ?_
 refine pu_ 3 36 B ?_
 refine pu_ 7 40 B ?_
 refine pu_ 10 43 B ?_
 refine ta_ 1 34 B bX ae ?_
 refine ta_ 4 37 B bX ae ?_
 refine ta_ 11 44 B bX ae ?_
 refine on_ 2 (some 35) B (fun K hK=>?_)
 refine goes_ Tryz.func37 gk_ rfl #[.int .i64 a8] (by rfl) rfl rfl gm_ ?_
 refine(spec_l01Var.calls cW a8 bh _ ch.out).mono ?_
 rintro e ez ⟨rfl,hb⟩
 refine⟨_,rfl, ?_⟩
 replace ai:=bA ai hb
 replace HB:=De1 HB bv hb
 (try clear hb)
 (try clear dK)
 (try clear hk)
 (try clear hi)
 (try clear hl)
 refine hK.out _ _ D5x2_ (fun ae=>nm_ ?_)
 clear hK K
 refine on_ 5 (some 38) B (fun K hK=>?_)
 refine goes_ Tryz.func37 gk_ rfl #[.int .i64 be] (by rfl) rfl rfl gm_ ?_
 refine(spec_l01Var.calls cW be bi _ eH.out).mono ?_
 rintro e dY ⟨rfl,hb⟩
 refine⟨_,rfl, ?_⟩
 replace ai:=bA ai hb
 replace HB:=De1 HB bv hb
 (try clear hb)
 (try clear dK)
 (try clear hk)
 (try clear hi)
 (try clear hl)
 refine hK.out _ _ D5x2_ (fun ae=>nm_ ?_)
 clear hK K
 refine pu_ 6 39 B ?_
 refine on_ 8 (some 41) B (fun K hK=>?_)
 refine goes_ Tryz.func44 gk_ rfl #[.string dr] (by rfl) rfl rfl gm_ ?_
 refine(spec_l05Short.calls cW dr br _ bZ.out).mono ?_
 rintro e dZ ⟨rfl,hb⟩
 refine⟨_,rfl, ?_⟩
 replace ai:=bA ai hb
 replace HB:=De1 HB bv hb
 (try clear hb)
 (try clear dK)
 (try clear hk)
 (try clear hi)
 (try clear hl)
 refine hK.out _ _ D5x2_ (fun ae=>nm_ ?_)
 clear hK K
 refine pu_ 9 42 B ?_
 refine on_ 12 (some 45) B (fun K hK=>?_)
 refine goes_ Tryz.func44 gk_ rfl #[.string bn] (by rfl) rfl rfl gm_ ?_
 refine(spec_l05Short.calls cW bn bP _ eI.out).mono ?_
 rintro e db ⟨rfl,hb⟩
 refine⟨_,rfl, ?_⟩
 replace ai:=bA ai hb
 replace HB:=De1 HB bv hb
 (try clear hb)
 (try clear dK)
 (try clear hk)
 (try clear hi)
 (try clear hl)
 refine hK.out _ _ D5x2_ (fun ae=>nm_ ?_)
 clear hK K
 refine pu_ 13 46 B ?_
 refine pu_ 14 6 B ?_
 refine done_ (done_of B.out gk_) ?_
 replace b8:=b8.out
 obtain⟨cr,cj⟩|⟨cr,cj⟩:=sp b8
 ·have dF:decide (20000<(wrap64 (((((bh ++ bi) ++ br) ++ bP).size:Int)+4)))=true:=decide_eq_true cr;have dG:=dF;simp only [ByteArray.size_append,Int.natCast_add] at dG
  clear cr;obtain⟨rfl,rfl⟩:=s2 cj;clear cj b8
  try go_wp2
  go_ret2
  exact⟨B15x7_,(Ae1 HB bv)⟩
 have dF:decide (20000<(wrap64 (((((bh ++ bi) ++ br) ++ bP).size:Int)+4)))=false:=decide_eq_false cr;have dG:=dF;simp only [ByteArray.size_append,Int.natCast_add] at dG
 clear cr
 obtain⟨⟨fL,fM⟩,eJ,dB⟩:=bsi cj
 (try dsimp only at dB)
 obtain⟨rfl,rfl⟩:=s2 dB
 clear dB b8 cj
 try go_wp2_with (first|((with_reducible refine gate_callee (f:=45) rfl ?_);refine goesL_ (some 52) rfl rfl Tryz.func45 gk_ rfl #[.string (((bh ++ bi) ++ br) ++ bP)] rfl gm_ ?_;refine(spec_Sealed.calls cW (((bh ++ bi) ++ br) ++ bP) fL fM _ eJ.out).mono ?_;rintro e hN ⟨rfl,hb⟩;refine⟨_,rfl, ?_⟩;replace HB:=De1 HB bv hb))
 go_ret2
 exact⟨B15x7_,(Ae1 HB bv)⟩
end
end Go.Proofs.YtofmbomonkbeaaaGreatDoor.QFnSnapsCut
