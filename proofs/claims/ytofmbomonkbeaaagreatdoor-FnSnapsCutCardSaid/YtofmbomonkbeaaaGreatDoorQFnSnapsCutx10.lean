/- Functions that a law reaches, as functions of Lean, and the walks that show that the calls come to their answers. No condition. -/
import Derived.Test.YtofmbomonkbeaaaGreatDoorQFnSnapsCutx0
import Derived.Test.YtofmbomonkbeaaaGreatDoorQFnSnapsCutx7
import Derived.Test.YtofmbomonkbeaaaGreatDoorQFnSnapsCutx8
import Derived.Test.YtofmbomonkbeaaaGreatDoorQFnSnapsCutx9
import Derived.Test.YtofmbomonkbeaaaGreatDoorVFnSnapsCuthort3
import Derived.Test.YtofmbomonkbeaaaGreatDoorVFnSnapsCuthort2
import Derived.Test.YtofmbomonkbeaaaGreatDoorVFnSnapsCuthort
import Derived.Test.YtofmbomonkbeaaaGreatDoorVFnSnapsCuthort8
namespace Go.Proofs.YtofmbomonkbeaaaGreatDoor.QFnSnapsCut
open Go.RowKit Go.Proofs.YtofmbomonkbeaaaGreatDoorW.PrintWords Go.Proofs.YtofmbomonkbeaaaGreatDoorW.PrintLast Go.Proofs.YtofmbomonkbeaaaGreatDoorW.PrintMore Go.Proofs.YtofmbomonkbeaaaGreatDoor.Short
set_option linter.unusedVariables false
set_option linter.unusedSimpArgs false
set_option maxHeartbeats 8000000
set_option maxRecDepth 100000
variable {p:Prop}
theorem D10x0_ (h:p:=by exact⟨⟨gl_⟩,Cr aN,Cb Y,Cb Z,Ce3 HB (IsS106.gf ap) ay aJ⟩):p:=h
theorem D10x1_ (h:p:=by exact⟨⟨B37x19_⟩,Cr ae,Cr ai,Cb z,Cb J,Cb U,Ce3 HB af aH aY⟩):p:=h
theorem D10x2_ (h:p:=by exact⟨⟨B36x36_⟩,⟨tfg ad.out bi.out (by decide)⟩,Cp1 q bV,Cp1 B bX,Cp1 D bZ,Ce5 HB ah aj al az cq⟩):p:=h
theorem D10x3_ (h:p:=by exact⟨bc U 0,bc U 1,bc U 2,bc J 0,bc J 1,bc J 2,bc J 3⟩):p:=h
section
attribute [local go_sem] max2_int min2_int max_two min_two max_three min_three max_four min_four
theorem B36x0_ (h:p:=by repeat (first|(with_reducible first|exact ap.out|apply IsS106.alloc|apply IsS106.drewN|apply IsS106.drew|apply IsS106.set_0|apply IsS106.set_1|apply IsS106.set_2|refine IsS106.far ?_ eI.out _|refine IsS106.far ?_ cr.out _)|exact ap.out)):p:=h
theorem B36x22_ (h:p:=by first|rfl|(simp [errW_none,errW_some] <;> rfl)|(simp [*,errW_none,errW_some] <;> rfl)):p:=h
theorem B36x36_ (h:p:=by have:=bC.out;omega):p:=h
def impl_ReadSnap.j0:Nat→Bool→Int→Int→List Int→ByteArray→Option (Int × Int × List Int × ByteArray × Bool)
 |0,_,_,_,_,_=>none
 |k+1,fn,fo,fp,fq,fr=>if fn=true then (some (0,0,([]:List Int),(⟨#[]⟩:ByteArray),false)) else (some (fo,fp,fq,fr,true))
def impl_ReadSnap.f (k:Nat) (a0:ByteArray):Option (Int × Int × List Int × ByteArray × Bool):=(impl_Unsealed.f k a0).bind fun d7=>((impl_scan_number.f k d7.1 0 (!d7.2)).bind fun bL=>((impl_scan_number.f k bL.2.1 bL.2.2.1 bL.2.2.2).bind fun bM=>((impl_scan_short.f k bM.2.1 bM.2.2.1 bM.2.2.2).bind fun ds=>((impl_scan_short.f k ds.2.1 ds.2.2.1 ds.2.2.2).bind fun b0=>((impl_ReadConf.f k ds.1).bind fun cy=>((impl_scan_done.f b0.2.1 b0.2.2.1 b0.2.2.2).bind fun eK=>(if eK.1=true then (if cy.2=true then ((impl_isIndex.f bL.1).bind fun em=>(if em=true then ((impl_isTerm.f bM.1).bind fun en=>(if en=true then (impl_ReadSnap.j0 k (decide ((a0.size:Int)>20000)) bL.1 bM.1 cy.1 b0.1) else (impl_ReadSnap.j0 k true bL.1 bM.1 cy.1 b0.1))) else (impl_ReadSnap.j0 k true bL.1 bM.1 cy.1 b0.1))) else (impl_ReadSnap.j0 k true bL.1 bM.1 cy.1 b0.1)) else (impl_ReadSnap.j0 k true bL.1 bM.1 cy.1 b0.1))))))))
theorem impl_ReadSnap.calls (k:Nat) (a0:ByteArray) (r1:Int) (r2:Int) (r3:List Int) (r4:ByteArray) (r5:Bool) (w:World) (h:impl_ReadSnap.f k a0=some (r1,r2,r3,r4,r5)) :
  Calls Tryz.prog 34 #[.string a0] w fun e w'=>∃ dd:Value,e=.returned (.tuple #[.agg #[.int .i64 r1,.int .i64 r2,dd,.string r4],.bool r5])∧Kd.R (Kd.int .i64) 3 w' w.heap.size (fun _=>True) dd r3∧Below w.heap.size w w':=by
 have eb:=Tryz.underlying29
 have hS:=Tryz.underlying106
 have HB:=am (Below.refl w.heap.size w)
 have aQ:=h
 clear h
 unfold impl_ReadSnap.f at aQ
 obtain⟨⟨dU,dV⟩,A2,aM⟩:=bsi aQ
 (try dsimp only at aM)
 obtain⟨⟨aX,ed,ee,ef⟩,A3,aw⟩:=bsi aM
 (try dsimp only at aw)
 obtain⟨⟨a6,eg,eh,ei⟩,A4,aD⟩:=bsi aw
 (try dsimp only at aD)
 obtain⟨⟨dW,ej,ek,el⟩,A5,a1⟩:=bsi aD
 (try dsimp only at a1)
 obtain⟨⟨bu,a8,a9,ba⟩,A6,bl⟩:=bsi a1
 (try dsimp only at bl)
 obtain⟨⟨aT,fb⟩,A7,ak⟩:=bsi bl
 (try dsimp only at ak)
 replace ak:=am ak
 clear aQ aM aw aD a1 bl
 go_enter Tryz.func34,Tryz.ntmps34
 go_upto_region 10 with (first|((with_reducible refine gate_dst (N:=2) rfl ?_);(try(refine gate_guard (by rfl) ?_;dsimp only));refine bx (N:=2) (cs:=#[.int .i64 0,.int .i64 0,.slice none 0 0,.string (⟨#[]⟩:ByteArray)]) (t:=29) ?_;intro a7 hg w9 hbox hb;have Y:=am hbox;have ay:=gA hg HB;replace HB:=hA HB hb;clear hb hbox hg)|((with_reducible refine gate_callee (f:=64) rfl ?_);refine goesL_ (some 13) rfl rfl Tryz.func64 gk_ rfl #[.string a0] rfl gm_ ?_;refine(impl_Unsealed.calls k a0 dU dV _ A2.out).mono ?_;rintro e hZ ⟨rfl,hb⟩;refine⟨_,rfl, ?_⟩;replace Y:=bA Y hb;replace HB:=De1 HB ay hb)|((with_reducible refine gate_dst (N:=20) rfl ?_);(try(refine gate_guard (by rfl) ?_;dsimp only));refine bx (N:=20) (cs:=#[.string dU,.int .i64 0,.bool (!dV)]) (t:=106) ?_;intro au hg h0 hbox hb;have cG:=am hbox;have dQ:=gA hg HB;replace HB:=De1 HB ay hb;have bK:=nA hg Y;have eI:=mA hg Y;replace Y:=bA Y hb;clear hb hbox hg)|((with_reducible refine gate_dst (N:=7) rfl ?_);(try(refine gate_guard (by rfl) ?_;dsimp only));refine bx (N:=7) (cs:=#[.int .i64 0,.int .i64 0,.slice none 0 0,.string (⟨#[]⟩:ByteArray)]) (t:=29) ?_;intro aR hg et hbox hb;have Z:=am hbox;have aJ:=gA hg HB;replace HB:=De2 HB ay dQ hb;have aV:=nA hg Y;have ct:=mA hg Y;replace Y:=bA Y hb;have cr:=nA hg cG;have a4:=mA hg cG;replace cG:=bA cG hb;clear hb hbox hg;have gg:=ct.out;have g2:=aV.out;have gh:=a4.out;have g3:=cr.out;obtain⟨b7,b8,b9,ca,cc,cd,ce,cf⟩:=cf4 Z)|((with_reducible refine gate_callee (f:=65) rfl ?_);refine goesL_ (some 23) rfl rfl Tryz.func65 gk_ rfl #[.pointer (some ⟨au,0,none⟩)] rfl gm_ ?_;(with_reducible refine(impl_scan_number.calls k au dU 0 (!dV) aX ed ee ef w _ ?z1 ?z2 A3.out).mono ?_);(case z1=>exact⟨(Ap1 cG cr),dQ.out⟩);(case z2=>repeat (first|(with_reducible first|exact HB.out|apply below_alloc|apply pw_below_drewN|apply below_drew1|refine below_set ?_ ay.out|refine below_set ?_ dQ.out|refine below_set ?_ aJ.out)|exact HB.out));rintro e h1 ⟨rfl,hi,hb,hk⟩;refine⟨_,rfl, ?_⟩;replace Y:=am (KeepBut.blk hk (g':=a7) (o:=.cells #[.int .i64 0,.int .i64 0,.slice none 0 0,.string (⟨#[]⟩:ByteArray)] 29 (0,0)) (Ap1 Y aV) bK.out (by simp));replace Z:=am (KeepBut.blk hk (g':=aR) (o:=.cells #[.int .i64 0,.int .i64 0,.slice none 0 0,.string (⟨#[]⟩:ByteArray)] 29 (0,0)) (Ap0 Z) a4.out (by simp));replace HB:=am hb;have ap:=am hi;obtain⟨b7,b8,b9,ca,cc,cd,ce,cf⟩:=cf4 Z)|((with_reducible refine gate_callee (f:=65) rfl ?_);refine goesL_ (some 26) rfl rfl Tryz.func65 gk_ rfl #[.pointer (some ⟨au,0,none⟩)] rfl gm_ ?_;refine(impl_scan_number.calls k au ed ee ef a6 eg eh ei w _ B36x0_ (Ae3 HB (IsS106.gf ap) ay aJ) A4.out).mono ?_;rintro e dC ⟨rfl,hi,hb,hk⟩;refine⟨_,rfl, ?_⟩;replace Y:=am (KeepBut.blk hk (g':=a7) (o:=.cells #[.int .i64 0,.int .i64 0,.slice none 0 0,.string (⟨#[]⟩:ByteArray)] 29 (0,0)) (Ap1 Y aV) bK.out (by simp));replace Z:=am (KeepBut.blk hk (g':=aR) (o:=.cells #[.int .i64 aX,.int .i64 0,.slice none 0 0,.string (⟨#[]⟩:ByteArray)] 29 (0,0)) (Ap0 Z) a4.out (by simp));replace HB:=am hb;replace ap:=am hi;obtain⟨b7,b8,b9,ca,cc,cd,ce,cf⟩:=cf4 Z)|((with_reducible refine gate_callee (f:=66) rfl ?_);refine goesL_ (some 29) rfl rfl Tryz.func66 gk_ rfl #[.pointer (some ⟨au,0,none⟩)] rfl gm_ ?_;refine(impl_scan_short.calls k au eg eh ei dW ej ek el w _ B36x0_ (Ae3 HB (IsS106.gf ap) ay aJ) A5.out).mono ?_;rintro e h2 ⟨rfl,hi,hb,hk⟩;refine⟨_,rfl, ?_⟩;replace Y:=am (KeepBut.blk hk (g':=a7) (o:=.cells #[.int .i64 0,.int .i64 0,.slice none 0 0,.string (⟨#[]⟩:ByteArray)] 29 (0,0)) (Ap1 Y aV) bK.out (by simp));replace Z:=am (KeepBut.blk hk (g':=aR) (o:=.cells #[.int .i64 aX,.int .i64 a6,.slice none 0 0,.string (⟨#[]⟩:ByteArray)] 29 (0,0)) (Ap0 Z) a4.out (by simp));replace HB:=am hb;replace ap:=am hi)|((with_reducible refine gate_callee (f:=66) rfl ?_);refine goesL_ (some 31) rfl rfl Tryz.func66 gk_ rfl #[.pointer (some ⟨au,0,none⟩)] rfl gm_ ?_;refine(impl_scan_short.calls k au ej ek el bu a8 a9 ba w _ B36x0_ (Ae3 HB (IsS106.gf ap) ay aJ) A6.out).mono ?_;rintro e fi ⟨rfl,hi,hb,hk⟩;refine⟨_,rfl, ?_⟩;replace Y:=kA hk Y bK;replace Z:=kA hk Z a4;replace HB:=am hb;replace ap:=am hi;obtain⟨b7,b8,b9,ca,cc,cd,ce,cf⟩:=cf4 Z)|((with_reducible refine gate_callee (f:=67) rfl ?_);refine goesL_ (some 35) rfl rfl Tryz.func67 gk_ rfl #[.string dW] rfl gm_ ?_;refine(impl_ReadConf.calls k dW aT fb _ A7.out).mono ?_;rintro e bO ⟨hX,rfl,a2,hb⟩;refine⟨_,rfl, ?_⟩;have aN:=am (Kd.R_lower a2 (below_size (Ae3 HB (IsS106.gf ap) ay aJ)));replace Y:=am (blk_below (g:=a7) (o:=.cells #[.int .i64 0,.int .i64 0,.slice none 0 0,.string (⟨#[]⟩:ByteArray)] 29 (0,0)) (Ap1 Y aV) hb);replace Z:=am (blk_below (g:=aR) (o:=.cells #[.int .i64 aX,.int .i64 a6,.slice none 0 0,.string bu] 29 (0,0)) (Ap0 Z) hb);replace HB:=De3 HB (IsS106.gf ap) ay aJ hb;replace ap:=am (IsS106.below (show IsS106 w (fi.setCell ⟨aR,3,none⟩ (.string bu)) au a8 a9 ba from B36x0_) hb);obtain⟨a3,a5,eR⟩:=Kd.R_slice aN.out;subst eR;obtain⟨b7,b8,b9,ca,cc,cd,ce,cf⟩:=cf4 Z))
 (try simp only [Act.put,List.setIfInBounds_toArray,List.set_cons_zero,List.set_cons_succ])
 go_cut [63] (fun ff wc=>∃ (kq:Nat) (dZ:Bool),ff=.bool dZ∧Aside0 (impl_ReadSnap.j0 kq dZ aX a6 aT bu=some (r1,r2,r3,r4,r5))∧Aside0 (kq≤k)∧Aside0 (Kd.R (Kd.int .i64) 3 wc w.heap.size (fun _=>True) (.slice a3 aT.length a5) aT)∧Hc wc a7 #[.int .i64 0,.int .i64 0,(.slice none 0 0),.string (⟨#[]⟩:ByteArray)] 29∧Hc wc aR #[.int .i64 aX,.int .i64 a6,(.slice a3 aT.length a5),.string bu] 29∧Hb w wc)
 case first=>
  replace ak:=ak.out;obtain⟨⟨hV,da,db,dc⟩,cF,aC⟩:=bsi ak;(try dsimp only at aC)
  obtain⟨rfl,ar⟩|⟨rfl,ar⟩:=sb aC
  ·obtain⟨rfl,aI⟩|⟨rfl,aI⟩:=sb ar
   ·obtain⟨em,dP,aK⟩:=bsi aI;(try dsimp only at aK)
    obtain⟨rfl,aA⟩|⟨rfl,aA⟩:=sb aK
    ·obtain⟨en,d4,bk⟩:=bsi aA;(try dsimp only at bk)
     obtain⟨rfl,aU⟩|⟨rfl,aU⟩:=sb bk
     ·replace aU:=am aU;clear ak aC ar aI aK aA bk
      go_wp2_with (first|((with_reducible refine gate_callee (f:=68) rfl ?_);refine goesL_ (some 41) rfl rfl Tryz.func68 gk_ rfl #[.pointer (some ⟨au,0,none⟩)] rfl gm_ ?_;refine(impl_scan_done.calls au a8 a9 ba true da db dc w _ B36x0_ (Ae3 HB (IsS106.gf ap) ay aJ) cF.out).mono ?_;rintro e fk ⟨rfl,hi,hb,hk⟩;refine⟨_,rfl, ?_⟩;replace Y:=am (KeepBut.blk hk (g':=a7) (o:=.cells #[.int .i64 0,.int .i64 0,.slice none 0 0,.string (⟨#[]⟩:ByteArray)] 29 (0,0)) (Ap1 Y aV) bK.out (by simp));replace aN:=am (Kd.R_mono (Kd.R_keep (IsS106.apart (show IsS106 w _ au a8 a9 ba from B36x0_) (tr (Kd.R_mono (Kd.R_far (p:=⟨aR,2,none⟩) (Kd.R_types aN.out Z.out (by decide)) (fun _ hk=>hk.2) (.slice a3 aT.length a5)) (fun _ h_=>h_.1))) (by decide)) hk (fun _ h=>h.2)) (fun _ h=>h.1));replace Z:=am (KeepBut.blk hk (g':=aR) (o:=.cells #[.int .i64 aX,.int .i64 a6,.slice a3 aT.length a5,.string bu] 29 (0,0)) (Ap0 Z) a4.out (by simp));replace HB:=am hb;replace ap:=am hi;have eY:=ct.out;have e4:=aV.out;have eZ:=a4.out;have e5:=cr.out;obtain⟨b7,b8,b9,ca,cc,cd,ce,cf⟩:=cf4 Z)|(go_at_call 55;refine(impl_isIndex.calls aX true _ dP.out).mono ?_;rintro e w' ⟨rfl,⟨nd,rfl⟩⟩)|(go_at_call 56;refine(impl_isTerm.calls a6 true _ d4.out).mono ?_;rintro e w' ⟨rfl,⟨nd,rfl⟩⟩))
      go_meet
      case rel=>exact⟨_,(decide ((a0.size:Int)>20000)),be_,aU,D10x0_⟩
     ·replace aU:=am aU;clear ak aC ar aI aK aA bk
      go_wp2_with (first|((with_reducible refine gate_callee (f:=68) rfl ?_);refine goesL_ (some 41) rfl rfl Tryz.func68 gk_ rfl #[.pointer (some ⟨au,0,none⟩)] rfl gm_ ?_;refine(impl_scan_done.calls au a8 a9 ba true da db dc w _ B36x0_ (Ae3 HB (IsS106.gf ap) ay aJ) cF.out).mono ?_;rintro e h6 ⟨rfl,hi,hb,hk⟩;refine⟨_,rfl, ?_⟩;replace Y:=am (KeepBut.blk hk (g':=a7) (o:=.cells #[.int .i64 0,.int .i64 0,.slice none 0 0,.string (⟨#[]⟩:ByteArray)] 29 (0,0)) (Ap1 Y aV) bK.out (by simp));replace aN:=am (Kd.R_mono (Kd.R_keep (IsS106.apart (show IsS106 w _ au a8 a9 ba from B36x0_) (tr (Kd.R_mono (Kd.R_far (p:=⟨aR,2,none⟩) (Kd.R_types aN.out Z.out (by decide)) (fun _ hk=>hk.2) (.slice a3 aT.length a5)) (fun _ h_=>h_.1))) (by decide)) hk (fun _ h=>h.2)) (fun _ h=>h.1));replace Z:=am (KeepBut.blk hk (g':=aR) (o:=.cells #[.int .i64 aX,.int .i64 a6,.slice a3 aT.length a5,.string bu] 29 (0,0)) (Ap0 Z) a4.out (by simp));replace HB:=am hb;replace ap:=am hi;have e0:=ct.out;have e6:=aV.out;have e1:=a4.out;have e7:=cr.out;obtain⟨b7,b8,b9,ca,cc,cd,ce,cf⟩:=cf4 Z)|(go_at_call 55;refine(impl_isIndex.calls aX true _ dP.out).mono ?_;rintro e w' ⟨rfl,⟨nd,rfl⟩⟩)|(go_at_call 56;refine(impl_isTerm.calls a6 false _ d4.out).mono ?_;rintro e w' ⟨rfl,⟨nd,rfl⟩⟩))
      go_meet
      case rel=>exact⟨_,true,be_,aU,D10x0_⟩
    ·replace aA:=am aA;clear ak aC ar aI aK
     go_wp2_with (first|((with_reducible refine gate_callee (f:=68) rfl ?_);refine goesL_ (some 41) rfl rfl Tryz.func68 gk_ rfl #[.pointer (some ⟨au,0,none⟩)] rfl gm_ ?_;refine(impl_scan_done.calls au a8 a9 ba true da db dc w _ B36x0_ (Ae3 HB (IsS106.gf ap) ay aJ) cF.out).mono ?_;rintro e bw ⟨rfl,hi,hb,hk⟩;refine⟨_,rfl, ?_⟩;replace Y:=am (KeepBut.blk hk (g':=a7) (o:=.cells #[.int .i64 0,.int .i64 0,.slice none 0 0,.string (⟨#[]⟩:ByteArray)] 29 (0,0)) (Ap1 Y aV) bK.out (by simp));replace aN:=am (Kd.R_mono (Kd.R_keep (IsS106.apart (show IsS106 w _ au a8 a9 ba from B36x0_) (tr (Kd.R_mono (Kd.R_far (p:=⟨aR,2,none⟩) (Kd.R_types aN.out Z.out (by decide)) (fun _ hk=>hk.2) (.slice a3 aT.length a5)) (fun _ h_=>h_.1))) (by decide)) hk (fun _ h=>h.2)) (fun _ h=>h.1));replace Z:=am (KeepBut.blk hk (g':=aR) (o:=.cells #[.int .i64 aX,.int .i64 a6,.slice a3 aT.length a5,.string bu] 29 (0,0)) (Ap0 Z) a4.out (by simp));replace HB:=am hb;replace ap:=am hi;have gu:=ct.out;have hh:=aV.out;have e2:=a4.out;have e8:=cr.out;obtain⟨b7,b8,b9,ca,cc,cd,ce,cf⟩:=cf4 Z)|(go_at_call 55;refine(impl_isIndex.calls aX false _ dP.out).mono ?_;rintro e w' ⟨rfl,⟨nd,rfl⟩⟩))
     go_meet
     case rel=>exact⟨_,true,be_,aA,D10x0_⟩
   ·replace aI:=am aI;clear ak aC ar
    go_wp2_with (first|((with_reducible refine gate_callee (f:=68) rfl ?_);refine goesL_ (some 41) rfl rfl Tryz.func68 gk_ rfl #[.pointer (some ⟨au,0,none⟩)] rfl gm_ ?_;refine(impl_scan_done.calls au a8 a9 ba true da db dc w _ B36x0_ (Ae3 HB (IsS106.gf ap) ay aJ) cF.out).mono ?_;rintro e fl ⟨rfl,hi,hb,hk⟩;refine⟨_,rfl, ?_⟩;replace Y:=am (KeepBut.blk hk (g':=a7) (o:=.cells #[.int .i64 0,.int .i64 0,.slice none 0 0,.string (⟨#[]⟩:ByteArray)] 29 (0,0)) (Ap1 Y aV) bK.out (by simp));replace aN:=am (Kd.R_mono (Kd.R_keep (IsS106.apart (show IsS106 w _ au a8 a9 ba from B36x0_) (tr (Kd.R_mono (Kd.R_far (p:=⟨aR,2,none⟩) (Kd.R_types aN.out Z.out (by decide)) (fun _ hk=>hk.2) (.slice a3 aT.length a5)) (fun _ h_=>h_.1))) (by decide)) hk (fun _ h=>h.2)) (fun _ h=>h.1));replace Z:=am (KeepBut.blk hk (g':=aR) (o:=.cells #[.int .i64 aX,.int .i64 a6,.slice a3 aT.length a5,.string bu] 29 (0,0)) (Ap0 Z) a4.out (by simp));replace HB:=am hb;replace ap:=am hi))
    go_meet
    case rel=>exact⟨_,true,be_,aI,D10x0_⟩
  ·replace ar:=am ar;clear ak aC
   go_wp2_with (first|((with_reducible refine gate_callee (f:=68) rfl ?_);refine goesL_ (some 41) rfl rfl Tryz.func68 gk_ rfl #[.pointer (some ⟨au,0,none⟩)] rfl gm_ ?_;refine(impl_scan_done.calls au a8 a9 ba false da db dc w _ B36x0_ (Ae3 HB (IsS106.gf ap) ay aJ) cF.out).mono ?_;rintro e ib ⟨rfl,hi,hb,hk⟩;refine⟨_,rfl, ?_⟩;replace Y:=am (KeepBut.blk hk (g':=a7) (o:=.cells #[.int .i64 0,.int .i64 0,.slice none 0 0,.string (⟨#[]⟩:ByteArray)] 29 (0,0)) (Ap1 Y aV) bK.out (by simp));replace aN:=am (Kd.R_mono (Kd.R_keep (IsS106.apart (show IsS106 w _ au a8 a9 ba from B36x0_) (tr (Kd.R_mono (Kd.R_far (p:=⟨aR,2,none⟩) (Kd.R_types aN.out Z.out (by decide)) (fun _ hk=>hk.2) (.slice a3 aT.length a5)) (fun _ h_=>h_.1))) (by decide)) hk (fun _ h=>h.2)) (fun _ h=>h.1));replace Z:=am (KeepBut.blk hk (g':=aR) (o:=.cells #[.int .i64 aX,.int .i64 a6,.slice a3 aT.length a5,.string bu] 29 (0,0)) (Ap0 Z) a4.out (by simp));replace HB:=am hb;replace ap:=am hi))
   go_meet
   case rel=>exact⟨_,true,be_,ar,D10x0_⟩
 case rest=>
  clear ak;obtain⟨kq,dZ,rfl,ch,f3,eG,Y,Z,HB⟩:=hcut
  cases kq with
  |zero=>exact absurd ch.out (by simp [impl_ReadSnap.j0])
  |succ hU=>?_
  replace ch:=ch.out;simp only [impl_ReadSnap.j0] at ch
  obtain⟨rfl,cH⟩|⟨rfl,cH⟩:=sb ch
  ·obtain⟨rfl,rfl,rfl,rfl,rfl⟩:=s5 cH;clear cH ch;obtain⟨gy,hp⟩:=o2_ aV ct;obtain⟨fv,fw,fx,fy,fL,fM,fN,fO⟩:=cf4 Y
   go_wp2
   refine bodyPost_ret (results_ct rfl _ _ a7 29 #[.int .i64 0,.int .i64 0,.slice none 0 0,.string (⟨#[]⟩:ByteArray)] (0,0) _ rfl (Ap0 Y) Tryz.underlying29 rfl gk_) rfl ?_;exact⟨_,B36x22_,gn_,(Ae2 HB ay aJ)⟩
  ·obtain⟨rfl,rfl,rfl,rfl,rfl⟩:=s5 cH;clear cH ch;obtain⟨gB,hs⟩:=o2_ ct aV;obtain⟨b7,b8,b9,ca,cc,cd,ce,cf⟩:=cf4 Z;obtain⟨fv,fw,fx,fy,fL,fM,fN,fO⟩:=cf4 Y
   go_wp2
   refine bodyPost_ret (results_ct rfl _ _ a7 29 #[.int .i64 aX,.int .i64 a6,.slice a3 aT.length a5,.string bu] (0,0) _ rfl (Ap0 Y) Tryz.underlying29 rfl gk_) rfl ?_;exact⟨_,B36x22_,(tfg eG.out Y.out (by decide)),(Ae2 HB ay aJ)⟩

def impl_NewestSnap.l0:Nat→List (S59)→Int→Int→Int→Int→List Int→ByteArray→Option (Int × Int × List Int × ByteArray × Bool)
 |0,_,_,_,_,_,_,_=>none
 |k+1,cB,dD,ag,de,d0,d1,d2=>if ag<dD then (if 0≤ag then (if ag<(cB.length:Int) then ((impl_numberOf.f ((rd_T59 cB ag).f0) (⟨#[115]⟩:ByteArray) 1000000).bind fun bv=>((impl_ReadSnap.f k ((rd_T59 cB ag).f1)).bind fun cz=>(if bv≥0 then (if cz.2.2.2.2=true then (if cz.1=bv then (if bv>de then (impl_NewestSnap.l0 k cB dD (wrap64 (ag+1)) cz.1 cz.2.1 cz.2.2.1 cz.2.2.2.1) else (impl_NewestSnap.l0 k cB dD (wrap64 (ag+1)) de d0 d1 d2)) else (none)) else (none)) else (impl_NewestSnap.l0 k cB dD (wrap64 (ag+1)) de d0 d1 d2)))) else (none)) else (none)) else (if de<0 then (some (0,0,([]:List Int),(⟨#[]⟩:ByteArray),false)) else (some (de,d0,d1,d2,true)))
def impl_NewestSnap.f (k:Nat) (j:List (S59)):Option (Int × Int × List Int × ByteArray × Bool):=(impl_DiskOk.f k j).bind fun dX=>(if dX=true then (impl_NewestSnap.l0 k j (j.length:Int) 0 (-1) 0 ([]:List Int) (⟨#[]⟩:ByteArray)) else (none))
theorem impl_NewestSnap.calls (k:Nat) (aG:Option Addr) (ao:Nat) (j:List (S59)) (r1:Int) (r2:Int) (r3:List Int) (r4:ByteArray) (r5:Bool) (w:World) (cX:Kd.C k59 w aG j.length j) (cU:j.length≤ao) (h:impl_NewestSnap.f k j=some (r1,r2,r3,r4,r5)) (hv_:Laid.EV w) :
  Calls Tryz.prog 11 #[.agg #[.slice aG j.length ao]] w fun e w'=>∃ dd:Value,e=.returned (.tuple #[.agg #[.int .i64 r1,.int .i64 r2,dd,.string r4],.bool r5])∧Kd.R (Kd.int .i64) 3 w' w.heap.size (fun _=>True) dd r3∧Below w.heap.size w w':=by
 have HEV:=am hv_
 clear hv_
 have e9:=Tryz.underlying26
 have eb:=Tryz.underlying29
 have fa:=Tryz.underlying59
 have bT:=am cX
 have dm:=am cU
 clear cX cU
 have HB:=am (Below.refl w.heap.size w)
 have aQ:=h
 clear h
 unfold impl_NewestSnap.f at aQ
 obtain⟨dX,A2,aM⟩:=bsi aQ
 (try dsimp only at aM)
 by_cases c3:dX=true
 rotate_left
 ·replace c3:=Bool.eq_false_iff.mpr c3;subst c3;rw [if_neg (show ¬ (false=true) by decide)] at aM;exact absurd aM (by simp)
 subst c3
 rw [if_pos rfl] at aM
 replace aM:=am aM
 clear aQ
 go_enter Tryz.func11,Tryz.ntmps11
 go_wp2_with (first|((with_reducible refine gate_dst (N:=1) rfl ?_);refine bx (N:=1) (cs:=#[.slice aG j.length ao]) (t:=26) ?_;intro b1 hg w4 hbox hb;have q:=am hbox;have ah:=gA hg HB;replace HB:=hA HB hb;clear hb hbox hg)|((with_reducible refine gate_dst (N:=2) rfl ?_);refine bx (N:=2) (cs:=#[.int .i64 0,.int .i64 0,.slice none 0 0,.string (⟨#[]⟩:ByteArray)]) (t:=29) ?_;intro b2 hg w5 hbox hb;have B:=am hbox;have aj:=gA hg HB;replace HB:=De1 HB ah hb;have dR:=nA hg q;have dS:=mA hg q;replace q:=bA q hb;clear hb hbox hg)|((with_reducible refine gate_dst (N:=4) rfl ?_);refine bx (N:=4) (cs:=#[.int .i64 0,.int .i64 0,.slice none 0 0,.string (⟨#[]⟩:ByteArray)]) (t:=29) ?_;intro bE hg w6 hbox hb;have D:=am hbox;have al:=gA hg HB;replace HB:=De2 HB ah aj hb;have ci:=nA hg q;have cI:=mA hg q;replace q:=bA q hb;have cj:=nA hg B;have cJ:=mA hg B;replace B:=bA B hb;clear hb hbox hg;have gP:=cI.out;have hG:=ci.out;have gY:=cJ.out;have hO:=cj.out;obtain⟨dF,dG,dH,dI,dJ,dK,dL,dM⟩:=cf4 D;have eX:=dR.out;have e3:=dS.out;have io:w6.cell? ⟨b1,0,none⟩=some (.slice aG j.length ao):=bc q 0;have ir:=blk_frozen q.out 0)|((with_reducible refine gate_callee (f:=26) rfl ?_);refine goesL_ (some 12) rfl rfl Tryz.func26 gk_ rfl #[.agg #[.slice aG j.length ao]] rfl gm_ ?_;refine(impl_DiskOk.calls k _ _ j true _ (Kd.C_below bT.out (Ae3 HB ah aj al)) dm.out A2.out).mono ?_;rintro e et ⟨rfl,hb⟩;refine⟨_,rfl, ?_⟩;replace q:=am (blk_below (g:=b1) (o:=.cells #[.slice aG j.length ao] 26 (0,0)) (Ap1 q ci) hb);replace B:=am (blk_below (g:=b2) (o:=.cells #[.int .i64 0,.int .i64 0,.slice none 0 0,.string (⟨#[]⟩:ByteArray)] 29 (0,0)) (Ap1 B cj) hb);replace D:=am (blk_below (g:=bE) (o:=.cells #[.int .i64 (-1),.int .i64 0,.slice none 0 0,.string (⟨#[]⟩:ByteArray)] 29 (0,0)) (Ap0 D) hb);replace HB:=De3 HB ah aj al hb;have fu:et.cell? ⟨b1,0,none⟩=some (.slice aG j.length ao):=bc q 0;have fK:=blk_frozen q.out 0))
 go_loopg [18] k (fun kq fc w'=>∃ (aa:Int) (bB:Int) (bQ:Int) (co:List Int) (bR:ByteArray) (bI:Value),fc=.int .i64 aa∧Aside0 (impl_NewestSnap.l0 kq j (j.length:Int) aa bB bQ co bR=some (r1,r2,r3,r4,r5))∧Aside0 (kq≤k)∧Aside0 (Kd.R (Kd.int .i64) 3 w' w.heap.size (fun _=>True) bI co)∧Aside0 (w'.heap[b1]?=some (.cells #[(.slice aG j.length ao)] 26 (0,0)))∧Aside0 (w'.heap[b2]?=some (.cells #[.int .i64 0,.int .i64 0,(.slice none 0 0),.string (⟨#[]⟩:ByteArray)] 29 (0,0)))∧Aside0 (w'.heap[bE]?=some (.cells #[.int .i64 bB,.int .i64 bQ,bI,.string bR] 29 (0,0)))∧Aside0 (Below w.heap.size w w'))
 case atStart=>exact⟨(0),((-1)),0,(([]:List Int)),((⟨#[]⟩:ByteArray)),(.slice none 0 0),be_,aM,⟨Nat.le_refl _⟩,⟨gn_⟩,Cb q,Cb B,Cb D,Ce3 HB ah aj al⟩
 case round=>
  clear aM
  try clear c3
  obtain⟨aa,bB,bQ,co,bR,bI,rfl,aw,bC,ad,q,B,D,HB⟩:=hrel
  cases gk with
  |zero=>exact absurd aw.out (by simp [impl_NewestSnap.l0])
  |succ k1=>?_
  replace aw:=aw.out;simp only [impl_NewestSnap.l0] at aw
  obtain⟨dt,aD⟩|⟨dt,aD⟩:=sd aw
  ·obtain⟨d8,a1⟩:=yd aD;obtain⟨d9,bl⟩:=yd a1;obtain⟨bv,dN,ak⟩:=bsi bl;(try dsimp only at ak);obtain⟨⟨b3,b4,bd,b5,eo⟩,dO,aC⟩:=bsi ak;(try dsimp only at aC)
   obtain⟨cS,ar⟩|⟨cS,ar⟩:=sp aC
   ·have eL:decide (0≤bv)=true:=decide_eq_true cS
    clear cS
    by_cases du:eo=true
    rotate_left
    ·replace du:=Bool.eq_false_iff.mpr du;subst du;rw [if_neg (show ¬ (false=true) by decide)] at ar;exact absurd ar (by simp)
    subst du;rw [if_pos rfl] at ar;obtain⟨ea,aI⟩:=yn ar;obtain⟨f7,f8⟩:=yE ea;clear ea
    obtain⟨bD,aK⟩|⟨bD,aK⟩:=sp aI
    ·have ck:decide (bB<bv)=true:=decide_eq_true bD
     clear bD;replace aK:=am aK;clear aw aD a1 bl ak aC ar aI
     have bq:0≤(aa:Int):=dga
     have br:aa<(j.length:Int):=dga
     obtain⟨cx,cT,bn,bo,bp⟩:=at_T59 bT.out aa bq br;cases cT;replace bn:=(hbc HB bn).trans bn;replace bo:=(hbc HB bo).trans bo;replace bp:=(hbc HB bp).trans bp;replace bq:=eq_true bq;replace br:=eq_true br
     go_wp2_with (first|((with_reducible refine gate_dst (N:=6) rfl ?_);refine bx (N:=6) (cs:=#[.string (⟨#[]⟩:ByteArray),.string (⟨#[]⟩:ByteArray),.int .i64 0]) (t:=59) ?_;intro cA hg bO hbox hb;replace ad:=rA ad hb;have ac:=am hbox;have az:=gA hg HB;replace HB:=De3 HB ah aj al hb;have bU:=nA hg q;have cK:=mA hg q;replace q:=bA q hb;have bW:=nA hg B;have cL:=mA hg B;replace B:=bA B hb;have bY:=nA hg D;have cu:=mA hg D;replace D:=bA D hb;clear hb hbox hg;have gl:=cK.out;have g6:=bU.out;have gm:=cL.out;have g7:=bW.out;have gn:=cu.out;have g8:=bY.out;obtain⟨df,dh,di,dj,dk,dl⟩:=cf3 ac)|((with_reducible refine gate_callee (f:=33) rfl ?_);refine goesL_ (some 24) rfl rfl Tryz.func33 gk_ rfl #[.string ((rd_T59 j aa).f0),.string (⟨#[115]⟩:ByteArray),.int .i64 1000000] rfl gm_ ?_;refine(impl_numberOf.calls ((rd_T59 j aa).f0) (⟨#[115]⟩:ByteArray) 1000000 bv _ dN.out (Laid.ev_ HEV.out (Ae4 HB ah aj al az))).mono ?_;rintro e b6 ⟨rfl,hb⟩;refine⟨_,rfl, ?_⟩;replace ad:=am (Kd.R_below (tfg ad.out ac.out (by decide)) hb);replace q:=am (blk_below (g:=b1) (o:=.cells #[.slice (some cx) j.length ao] 26 (0,0)) (Ap1 q bU) hb);replace B:=am (blk_below (g:=b2) (o:=.cells #[.int .i64 0,.int .i64 0,.slice none 0 0,.string (⟨#[]⟩:ByteArray)] 29 (0,0)) (Ap1 B bW) hb);replace D:=am (blk_below (g:=bE) (o:=.cells #[.int .i64 bB,.int .i64 bQ,bI,.string bR] 29 (0,0)) (Ap1 D bY) hb);replace ac:=am (blk_below (g:=cA) (o:=.cells #[.string ((rd_T59 j aa).f0),.string ((rd_T59 j aa).f1),.int .i64 ((rd_T59 j aa).f2)] 59 (0,0)) (Ap0 ac) hb);replace HB:=De4 HB ah aj al az hb;obtain⟨df,dh,di,dj,dk,dl⟩:=cf3 ac)|((with_reducible refine gate_callee (f:=34) rfl ?_);refine goesL_ (some 28) rfl rfl Tryz.func34 gk_ rfl #[.string ((rd_T59 j aa).f1)] rfl gm_ ?_;refine(impl_ReadSnap.calls k1 ((rd_T59 j aa).f1) b3 b4 bd b5 true _ dO.out).mono ?_;rintro e fj ⟨er,rfl,a2,hb⟩;refine⟨_,rfl, ?_⟩;have aZ:=am (Kd.R_lower (Kd.R_new' a2 (Kd.R_lt (Ar ad))) (below_size (Ae4 HB ah aj al az)));replace ad:=am (Kd.R_elder' (Ar ad) (Kd.R_base a2) hb);replace q:=bA q hb;replace B:=bA B hb;replace D:=bA D hb;replace ac:=bA ac hb;replace HB:=De4 HB ah aj al az hb)|((with_reducible refine gate_dst (N:=8) rfl ?_);refine bx (N:=8) (cs:=#[.int .i64 0,.int .i64 0,.slice none 0 0,.string (⟨#[]⟩:ByteArray)]) (t:=29) ?_;intro cm hg bP hbox hb;replace ad:=rA ad hb;replace aZ:=rA aZ hb;have bi:=am hbox;have cq:=gA hg HB;replace HB:=De4 HB ah aj al az hb;have bV:=nA hg q;have cM:=mA hg q;replace q:=bA q hb;have bX:=nA hg B;have cN:=mA hg B;replace B:=bA B hb;have bZ:=nA hg D;have cw:=mA hg D;replace D:=bA D hb;have cv:=nA hg ac;have cO:=mA hg ac;replace ac:=bA ac hb;clear hb hbox hg;have gp:=cM.out;have g9:=bV.out;have gq:=cN.out;have ha:=bX.out;have eY:=cw.out;have e4:=bZ.out;have eZ:=cO.out;have e5:=cv.out;obtain⟨eu,ev,ew,ex,ey,ez,eB,eC⟩:=cf4 bi;obtain⟨cg,cl,eS⟩:=Kd.R_slice aZ.out;subst eS;have e0:=cI.out;have e6:=ci.out;have e1:=cJ.out;have e7:=cj.out;obtain⟨dF,dG,dH,dI,dJ,dK,dL,dM⟩:=cf4 D)|((with_reducible refine gate_store (t:=29) (p:=4) rfl ?_);refine store_event (t:=29) (p:=4) (v:=?vo_w41) (w1:=((((((((bP.setCell ⟨cm,0,none⟩ (.int .i64 b3)).setCell ⟨cm,1,none⟩ (.int .i64 b4)).setCell ⟨cm,2,none⟩ (.slice cg bd.length cl)).setCell ⟨cm,3,none⟩ (.string b5)).setCell ⟨bE,0,none⟩ (.int .i64 b3)).setCell ⟨bE,1,none⟩ (.int .i64 b4)).setCell ⟨bE,2,none⟩ (.slice cg bd.length cl)).setCell ⟨bE,3,none⟩ (.string b5))) ?hg ?ho ?hn ?hr ?_;(case ho=>rfl);(case hg=>rfl);(case hn=>rfl);(case hr=>exact gs_);intro bw hw;replace ad:Aside0 (Kd.R (Kd.int .i64) 3 bw w.heap.size (fun k_=>some k_≠(.slice cg bd.length cl:Value).ownBlock) bI co):=⟨wtfh ad.out bi.out (by decide) D.out (by decide)⟩;replace aZ:Aside0 (Kd.R (Kd.int .i64) 3 bw w.heap.size (fun k_=>some k_≠(bI:Value).ownBlock) (.slice cg bd.length cl) bd):=⟨wtfh aZ.out bi.out (by decide) D.out (by decide)⟩;replace q:Hc bw b1 #[.slice (some cx) j.length ao] 26:=⟨wAp2 q ci bV⟩;replace B:Hc bw b2 #[.int .i64 0,.int .i64 0,.slice none 0 0,.string (⟨#[]⟩:ByteArray)] 29:=⟨wAp2 B cj bX⟩;replace D:Hc bw bE #[.int .i64 b3,.int .i64 b4,.slice cg bd.length cl,.string b5] 29:=⟨wAp1 D bZ⟩;replace ac:Hc bw cA #[.string ((rd_T59 j aa).f0),.string ((rd_T59 j aa).f1),.int .i64 ((rd_T59 j aa).f2)] 59:=⟨wAp2 ac cu cv⟩;replace bi:Hc bw cm #[.int .i64 b3,.int .i64 b4,.slice cg bd.length cl,.string b5] 29:=⟨wAp1 bi cw⟩;replace HB:Hb w bw:=⟨wAe5 HB ah aj al az cq⟩;clear hw))
     go_roundg k1
     case measure=>have:=bC.out;omega
     case rel=>exact⟨(wrap64 (aa+1)),b3,b4,bd,b5,(.slice cg bd.length cl),be_,aK,⟨B36x36_⟩,⟨(by (with_reducible repeat (first|apply Kd.R_alloc|apply Kd.R_drewN|apply Kd.R_drew));exact Kd.R_mono aZ.out (fun _ hk=>trivial))⟩,Cb q,Cb B,Cb D,Ce5 HB ah aj al az cq⟩
    have ck:decide (bB<bv)=false:=decide_eq_false bD
    clear bD;replace aK:=am aK;clear aw aD a1 bl ak aC ar aI
    have bq:0≤(aa:Int):=dga
    have br:aa<(j.length:Int):=dga
    obtain⟨cx,cT,bn,bo,bp⟩:=at_T59 bT.out aa bq br;cases cT;replace bn:=(hbc HB bn).trans bn;replace bo:=(hbc HB bo).trans bo;replace bp:=(hbc HB bp).trans bp;replace bq:=eq_true bq;replace br:=eq_true br
    go_wp2_with (first|((with_reducible refine gate_dst (N:=6) rfl ?_);refine bx (N:=6) (cs:=#[.string (⟨#[]⟩:ByteArray),.string (⟨#[]⟩:ByteArray),.int .i64 0]) (t:=59) ?_;intro cA hg h9 hbox hb;replace ad:=rA ad hb;have ac:=am hbox;have az:=gA hg HB;replace HB:=De3 HB ah aj al hb;have bU:=nA hg q;have cK:=mA hg q;replace q:=bA q hb;have bW:=nA hg B;have cL:=mA hg B;replace B:=bA B hb;have bY:=nA hg D;have cu:=mA hg D;replace D:=bA D hb;clear hb hbox hg;have e2:=cK.out;have e8:=bU.out;have gv:=cL.out;have hj:=bW.out;have gw:=cu.out;have hl:=bY.out;obtain⟨df,dh,di,dj,dk,dl⟩:=cf3 ac)|((with_reducible refine gate_callee (f:=33) rfl ?_);refine goesL_ (some 24) rfl rfl Tryz.func33 gk_ rfl #[.string ((rd_T59 j aa).f0),.string (⟨#[115]⟩:ByteArray),.int .i64 1000000] rfl gm_ ?_;refine(impl_numberOf.calls ((rd_T59 j aa).f0) (⟨#[115]⟩:ByteArray) 1000000 bv _ dN.out (Laid.ev_ HEV.out (Ae4 HB ah aj al az))).mono ?_;rintro e ic ⟨rfl,hb⟩;refine⟨_,rfl, ?_⟩;replace ad:=am (Kd.R_below (tfg ad.out ac.out (by decide)) hb);replace q:=am (blk_below (g:=b1) (o:=.cells #[.slice (some cx) j.length ao] 26 (0,0)) (Ap1 q bU) hb);replace B:=am (blk_below (g:=b2) (o:=.cells #[.int .i64 0,.int .i64 0,.slice none 0 0,.string (⟨#[]⟩:ByteArray)] 29 (0,0)) (Ap1 B bW) hb);replace D:=am (blk_below (g:=bE) (o:=.cells #[.int .i64 bB,.int .i64 bQ,bI,.string bR] 29 (0,0)) (Ap1 D bY) hb);replace ac:=am (blk_below (g:=cA) (o:=.cells #[.string ((rd_T59 j aa).f0),.string ((rd_T59 j aa).f1),.int .i64 ((rd_T59 j aa).f2)] 59 (0,0)) (Ap0 ac) hb);replace HB:=De4 HB ah aj al az hb;obtain⟨df,dh,di,dj,dk,dl⟩:=cf3 ac)|((with_reducible refine gate_callee (f:=34) rfl ?_);refine goesL_ (some 28) rfl rfl Tryz.func34 gk_ rfl #[.string ((rd_T59 j aa).f1)] rfl gm_ ?_;refine(impl_ReadSnap.calls k1 ((rd_T59 j aa).f1) b3 b4 bd b5 true _ dO.out).mono ?_;rintro e ie ⟨er,rfl,a2,hb⟩;refine⟨_,rfl, ?_⟩;have aZ:=am (Kd.R_lower (Kd.R_new' a2 (Kd.R_lt (Ar ad))) (below_size (Ae4 HB ah aj al az)));replace ad:=am (Kd.R_elder' (Ar ad) (Kd.R_base a2) hb);replace q:=bA q hb;replace B:=bA B hb;replace D:=bA D hb;replace ac:=bA ac hb;replace HB:=De4 HB ah aj al az hb)|((with_reducible refine gate_dst (N:=8) rfl ?_);refine bx (N:=8) (cs:=#[.int .i64 0,.int .i64 0,.slice none 0 0,.string (⟨#[]⟩:ByteArray)]) (t:=29) ?_;intro cm hg ig hbox hb;replace ad:=rA ad hb;replace aZ:=rA aZ hb;have bi:=am hbox;have cq:=gA hg HB;replace HB:=De4 HB ah aj al az hb;have bV:=nA hg q;have cM:=mA hg q;replace q:=bA q hb;have bX:=nA hg B;have cN:=mA hg B;replace B:=bA B hb;have bZ:=nA hg D;have cw:=mA hg D;replace D:=bA D hb;have cv:=nA hg ac;have cO:=mA hg ac;replace ac:=bA ac hb;clear hb hbox hg;have gC:=cM.out;have ht:=bV.out;have gD:=cN.out;have hu:=bX.out;have gE:=cw.out;have hv:=bZ.out;have gF:=cO.out;have hx:=cv.out;obtain⟨eu,ev,ew,ex,ey,ez,eB,eC⟩:=cf4 bi;obtain⟨f1,ga,eU⟩:=Kd.R_slice aZ.out;subst eU;have gG:=cI.out;have hz:=ci.out;have gH:=cJ.out;have hB:=cj.out;obtain⟨dF,dG,dH,dI,dJ,dK,dL,dM⟩:=cf4 D))
    go_roundg k1
    case measure=>have:=bC.out;omega
    case rel=>exact⟨(wrap64 (aa+1)),bB,bQ,co,bR,bI,be_,aK,D10x2_⟩
   have eL:decide (0≤bv)=false:=decide_eq_false cS
   clear cS;replace ar:=am ar;clear aw aD a1 bl ak aC
   have bq:0≤(aa:Int):=dga
   have br:aa<(j.length:Int):=dga
   obtain⟨cx,cT,bn,bo,bp⟩:=at_T59 bT.out aa bq br;cases cT;replace bn:=(hbc HB bn).trans bn;replace bo:=(hbc HB bo).trans bo;replace bp:=(hbc HB bp).trans bp;replace bq:=eq_true bq;replace br:=eq_true br
   go_wp2_with (first|((with_reducible refine gate_dst (N:=6) rfl ?_);refine bx (N:=6) (cs:=#[.string (⟨#[]⟩:ByteArray),.string (⟨#[]⟩:ByteArray),.int .i64 0]) (t:=59) ?_;intro cA hg ih hbox hb;replace ad:=rA ad hb;have ac:=am hbox;have az:=gA hg HB;replace HB:=De3 HB ah aj al hb;have bU:=nA hg q;have cK:=mA hg q;replace q:=bA q hb;have bW:=nA hg B;have cL:=mA hg B;replace B:=bA B hb;have bY:=nA hg D;have cu:=mA hg D;replace D:=bA D hb;clear hb hbox hg;have gI:=cK.out;have hC:=bU.out;have gJ:=cL.out;have hD:=bW.out;have gN:=cu.out;have hE:=bY.out;obtain⟨df,dh,di,dj,dk,dl⟩:=cf3 ac)|((with_reducible refine gate_callee (f:=33) rfl ?_);refine goesL_ (some 24) rfl rfl Tryz.func33 gk_ rfl #[.string ((rd_T59 j aa).f0),.string (⟨#[115]⟩:ByteArray),.int .i64 1000000] rfl gm_ ?_;refine(impl_numberOf.calls ((rd_T59 j aa).f0) (⟨#[115]⟩:ByteArray) 1000000 bv _ dN.out (Laid.ev_ HEV.out (Ae4 HB ah aj al az))).mono ?_;rintro e ii ⟨rfl,hb⟩;refine⟨_,rfl, ?_⟩;replace ad:=am (Kd.R_below (tfg ad.out ac.out (by decide)) hb);replace q:=am (blk_below (g:=b1) (o:=.cells #[.slice (some cx) j.length ao] 26 (0,0)) (Ap1 q bU) hb);replace B:=am (blk_below (g:=b2) (o:=.cells #[.int .i64 0,.int .i64 0,.slice none 0 0,.string (⟨#[]⟩:ByteArray)] 29 (0,0)) (Ap1 B bW) hb);replace D:=am (blk_below (g:=bE) (o:=.cells #[.int .i64 bB,.int .i64 bQ,bI,.string bR] 29 (0,0)) (Ap1 D bY) hb);replace ac:=am (blk_below (g:=cA) (o:=.cells #[.string ((rd_T59 j aa).f0),.string ((rd_T59 j aa).f1),.int .i64 ((rd_T59 j aa).f2)] 59 (0,0)) (Ap0 ac) hb);replace HB:=De4 HB ah aj al az hb;obtain⟨df,dh,di,dj,dk,dl⟩:=cf3 ac)|((with_reducible refine gate_callee (f:=34) rfl ?_);refine goesL_ (some 28) rfl rfl Tryz.func34 gk_ rfl #[.string ((rd_T59 j aa).f1)] rfl gm_ ?_;refine(impl_ReadSnap.calls k1 ((rd_T59 j aa).f1) b3 b4 bd b5 eo _ dO.out).mono ?_;rintro e ij ⟨er,rfl,a2,hb⟩;refine⟨_,rfl, ?_⟩;have aZ:=am (Kd.R_lower (Kd.R_new' a2 (Kd.R_lt (Ar ad))) (below_size (Ae4 HB ah aj al az)));replace ad:=am (Kd.R_elder' (Ar ad) (Kd.R_base a2) hb);replace q:=bA q hb;replace B:=bA B hb;replace D:=bA D hb;replace ac:=bA ac hb;replace HB:=De4 HB ah aj al az hb)|((with_reducible refine gate_dst (N:=8) rfl ?_);refine bx (N:=8) (cs:=#[.int .i64 0,.int .i64 0,.slice none 0 0,.string (⟨#[]⟩:ByteArray)]) (t:=29) ?_;intro cm hg ik hbox hb;replace ad:=rA ad hb;replace aZ:=rA aZ hb;have bi:=am hbox;have cq:=gA hg HB;replace HB:=De4 HB ah aj al az hb;have bV:=nA hg q;have cM:=mA hg q;replace q:=bA q hb;have bX:=nA hg B;have cN:=mA hg B;replace B:=bA B hb;have bZ:=nA hg D;have cw:=mA hg D;replace D:=bA D hb;have cv:=nA hg ac;have cO:=mA hg ac;replace ac:=bA ac hb;clear hb hbox hg;have gO:=cM.out;have hF:=bV.out;have gQ:=cN.out;have hH:=bX.out;have gR:=cw.out;have hI:=bZ.out;have gU:=cO.out;have hJ:=cv.out;obtain⟨eu,ev,ew,ex,ey,ez,eB,eC⟩:=cf4 bi;obtain⟨f2,gb,eV⟩:=Kd.R_slice aZ.out;subst eV))
   go_roundg k1
   case measure=>have:=bC.out;omega
   case rel=>exact⟨(wrap64 (aa+1)),bB,bQ,co,bR,bI,be_,ar,D10x2_⟩
  obtain⟨eN,aA⟩|⟨eN,aA⟩:=sd aD
  ·obtain⟨rfl,rfl,rfl,rfl,rfl⟩:=s5 aA;clear aA aw aD;obtain⟨gV,hL,gW,hM⟩:=o4_ cI ci cJ cj;obtain⟨dF,dG,dH,dI,dJ,dK,dL,dM⟩:=cf4 D;obtain⟨gX,hN⟩:=o2_ dS dR;obtain⟨fz,fA,fB,fC,fP,fQ,fR,fS⟩:=cf4 B
   go_wp2
   refine bodyPost_ret (results_ct rfl _ _ b2 29 #[.int .i64 0,.int .i64 0,.slice none 0 0,.string (⟨#[]⟩:ByteArray)] (0,0) _ rfl (Ap0 B) Tryz.underlying29 rfl gk_) rfl ?_;exact⟨_,B36x22_,gn_,(Ae3 HB ah aj al)⟩
  obtain⟨rfl,rfl,rfl,rfl,rfl⟩:=s5 aA;clear aA aw aD;obtain⟨gZ,hP,g0,hQ⟩:=o4_ cI ci cJ cj;obtain⟨dF,dG,dH,dI,dJ,dK,dL,dM⟩:=cf4 D;obtain⟨g1,hR⟩:=o2_ dS dR;obtain⟨fz,fA,fB,fC,fP,fQ,fR,fS⟩:=cf4 B;obtain⟨eE,eO,eW⟩:=Kd.R_slice ad.out;subst eW
  go_wp2
  refine bodyPost_ret (results_ct rfl _ _ b2 29 #[.int .i64 bB,.int .i64 bQ,.slice eE co.length eO,.string bR] (0,0) _ rfl (Ap0 B) Tryz.underlying29 rfl gk_) rfl ?_;exact⟨_,B36x22_,(tfg ad.out B.out (by decide)),(Ae3 HB ah aj al)⟩
theorem B37x19_ (h:p:=by have:=bC.out;first|omega|exact Nat.le_refl _):p:=h
mutual
def impl_ShedActs.l0:Nat→List (S65)→List (S59)→Int→Int→Int→Int→List Int→ByteArray→Option ((List (S65)))
 |0,_,_,_,_,_,_,_,_=>none
 |k+1,x3,ag,cn,av,cp,cC,cD,cE=>if av<cn then (if 0≤av then (if av<(ag.length:Int) then (if ((rd_T59 ag av).f0).toList=([115,43]:List UInt8) then (impl_ShedActs.j1 k x3 ag cn av true cp cC cD cE ((rd_T59 ag av).f0) ((rd_T59 ag av).f1) ((rd_T59 ag av).f2)) else ((impl_isSnap.f ((rd_T59 ag av).f0) ((rd_T59 ag av).f1) ((rd_T59 ag av).f2)).bind fun ep=>(if ep=true then ((impl_SnapName.f cp).bind fun dB=>(impl_ShedActs.j1 k x3 ag cn av (((rd_T59 ag av).f0).toList != dB.toList) cp cC cD cE ((rd_T59 ag av).f0) ((rd_T59 ag av).f1) ((rd_T59 ag av).f2))) else (impl_ShedActs.j1 k x3 ag cn av false cp cC cD cE ((rd_T59 ag av).f0) ((rd_T59 ag av).f1) ((rd_T59 ag av).f2))))) else (none)) else (none)) else (some x3)
def impl_ShedActs.j1:Nat→List (S65)→List (S59)→Int→Int→Bool→Int→Int→List Int→ByteArray→ByteArray→ByteArray→Int→Option ((List (S65)))
 |0,_,_,_,_,_,_,_,_,_,_,_,_=>none
 |k+1,x3,ag,cn,av,fm,cp,cC,cD,cE,fs,il,im=>if fm=true then (if x3.length<2513169434916 then (impl_ShedActs.l0 k (x3 ++ [(⟨4,fs,(⟨#[]⟩:ByteArray),(⟨#[]⟩:ByteArray)⟩:S65)]) ag cn (wrap64 (av+1)) cp cC cD cE) else (none)) else (impl_ShedActs.l0 k x3 ag cn (wrap64 (av+1)) cp cC cD cE)
end
def impl_ShedActs.f (k:Nat) (j:List (S59)):Option ((List (S65))):=(some (([]:List (S65)):List (S65))).bind fun dE=>((impl_NewestSnap.f k j).bind fun cR=>(if cR.2.2.2.2=true then (impl_ShedActs.l0 k dE j (j.length:Int) 0 cR.1 cR.2.1 cR.2.2.1 cR.2.2.2.1) else (some dE)))
def impl_ShedActs.T8:Bool × List (List Nat × List Nat):=(true,[([],[]),([0],[0]),([1],[1]),([2],[2]),([3],[3]),([4,3,3],[3,4]),([5,5,3],[3,5]),([6],[6]),([7,6],[6,7]),([6],[6]),([9,6],[6,9]),([10,6,6],[6,10]),([8,11,6],[6,8,11]),([6,12,3],[3,6,12]),([3,13],[3,13])])
def impl_ShedActs.B8:List Nat:=[0,1,3,7,15,31,63,127,255,127,639,1663,4095,8191,16383]
theorem impl_ShedActs.tab8:rtab .any (opsOf Tryz.f13 8)=impl_ShedActs.T8:=by kernel_rfl
theorem impl_ShedActs.bits8:waitsOk impl_ShedActs.T8.2 impl_ShedActs.B8=true:=by kernel_rfl
theorem impl_ShedActs.calls (k:Nat) (aG:Option Addr) (ao:Nat) (j:List (S59)) (r:List (S65)) (w:World) (cX:Kd.C k59 w aG j.length j) (cU:j.length≤ao) (h:impl_ShedActs.f k j=some r) (hv_:Laid.EV w) :
  Calls Tryz.prog 13 #[.agg #[.slice aG j.length ao]] w fun e w'=>∃ eq:Value,e=.returned (eq)∧Kd.R k65 65 w' w.heap.size (fun _=>True) eq r∧Below w.heap.size w w':=by
 have HEV:=am hv_
 clear hv_
 have e9:=Tryz.underlying26
 have eb:=Tryz.underlying29
 have fa:=Tryz.underlying59
 have hT:=Tryz.underlying65
 have bT:=am cX
 have dm:=am cU
 clear cX cU
 have HB:=am (Below.refl w.heap.size w)
 have aQ:=h
 clear h
 unfold impl_ShedActs.f at aQ
 obtain⟨dE,cY⟩:∃ y_:List (S65),y_=(([]:List (S65))):=⟨_,rfl⟩
 (first|with_reducible replace aQ:=hq cY aQ|rw [←cY] at aQ|simp only [←cY] at aQ)
 have dq:=am cY
 clear cY
 obtain⟨⟨be,bG,aE,bH,hW⟩,A2,aM⟩:=bsi aQ
 (try dsimp only at aM)
 obtain⟨rfl,aw⟩|⟨rfl,aw⟩:=sb aM
 ·replace aw:=am aw;clear aQ aM;go_enter Tryz.func13,Tryz.ntmps13
  go_wp2_with (first|((with_reducible refine gate_dst (N:=1) rfl ?_);refine bx (N:=1) (cs:=#[.slice aG j.length ao]) (t:=26) ?_;intro bN hg w4 hbox hb;have z:=am hbox;have af:=gA hg HB;replace HB:=hA HB hb;clear hb hbox hg)|((with_reducible refine gate_dst (N:=8) rfl ?_);refine lL k65 65 8 ([]:List (S65)) [] (Reps.none _ _) ?_;intro fg w5 cW hb;(first|rw [←dq.out] at cW|(simp only [Int.reduceToNat] at cW;rw [←dq.out] at cW));have bj:=am (Kd.R_lower cW (below_size (Ae1 HB af)));replace z:=bA z hb;replace HB:=De1 HB af hb;clear hb cW;have iq:w5.cell? ⟨bN,0,none⟩=some (.slice aG j.length ao):=bc z 0;have iv:=blk_frozen z.out 0)|((with_reducible refine gate_callee (f:=11) rfl ?_);refine goesL_ (some 11) rfl rfl Tryz.func11 gk_ rfl #[.agg #[.slice aG j.length ao]] rfl gm_ ?_;refine(impl_NewestSnap.calls k _ _ j be bG aE bH true _ (tc (Kd.C_below bT.out HB.out)) dm.out A2.out (Laid.ev_ HEV.out (Ae1 HB af))).mono ?_;rintro e w8 ⟨fh,rfl,a2,hb⟩;refine⟨_,rfl, ?_⟩;replace bj:=rA bj hb;have bS:=am (Kd.R_lower a2 (below_size (Ae1 HB af)));replace z:=bA z hb;replace HB:=De1 HB af hb)|((with_reducible refine gate_dst (N:=4) rfl ?_);refine bx (N:=4) (cs:=#[.int .i64 0,.int .i64 0,.slice none 0 0,.string (⟨#[]⟩:ByteArray)]) (t:=29) ?_;intro bF hg w9 hbox hb;replace bj:=rA bj hb;replace bS:=rA bS hb;have J:=am hbox;have aH:=gA hg HB;replace HB:=De1 HB af hb;have dp:=nA hg z;have dT:=mA hg z;replace z:=bA z hb;clear hb hbox hg;have eX:=dT.out;have e3:=dp.out;obtain⟨fD,fE,fF,fG,fT,fU,fV,fW⟩:=cf4 J;obtain⟨bh,bm,eQ⟩:=Kd.R_slice bS.out;subst eQ;have fu:w9.cell? ⟨bN,0,none⟩=some (.slice aG j.length ao):=bc z 0;have fK:=blk_frozen z.out 0))
  go_loopg [3,20] k (fun kq v3 fd w'=>∃ (bz:List (S65)) (l:Int),fd=.int .i64 l∧Aside0 (impl_ShedActs.l0 kq bz j (j.length:Int) l be bG aE bH=some r)∧Aside0 (kq≤k)∧Aside0 (Kd.R k65 65 w' w.heap.size (fun _=>True) v3 bz)∧Aside0 (Kd.R (Kd.int .i64) 3 w' w.heap.size (fun _=>True) (.slice bh aE.length bm) aE)∧Aside0 (w'.heap[bN]?=some (.cells #[(.slice aG j.length ao)] 26 (0,0)))∧Aside0 (w'.heap[bF]?=some (.cells #[.int .i64 be,.int .i64 bG,(.slice bh aE.length bm),.string bH] 29 (0,0)))∧Aside0 (Below w.heap.size w w'))
  case atStart=>exact⟨(dE),0,be_,aw,⟨Nat.le_refl _⟩,⟨tfg bj.out J.out (by decide)⟩,⟨tfg bS.out J.out (by decide)⟩,Cp1 z dp,Cp0 J,Ce2 HB af aH⟩
  case round=>
   clear aw
   try clear c3
   obtain⟨bz,l,rfl,aD,bC,ae,ai,z,J,HB⟩:=hrel
   cases gk with
   |zero=>exact absurd aD.out (by simp [impl_ShedActs.l0])
   |succ k1=>?_
   replace aD:=aD.out;simp only [impl_ShedActs.l0] at aD
   obtain⟨dt,a1⟩|⟨dt,a1⟩:=sd aD
   ·obtain⟨d8,bl⟩:=yd a1;obtain⟨d9,ak⟩:=yd bl;replace ak:=am ak;clear aD a1 bl
    have dy:0≤(l:Int):=dga
    have dz:l<(j.length:Int):=dga
    obtain⟨dr,eP,dv,dw,dx⟩:=at_T59 bT.out l dy dz;cases eP;replace dv:=(hbc HB dv).trans dv;replace dw:=(hbc HB dw).trans dw;replace dx:=(hbc HB dx).trans dx;replace dy:=eq_true dy;replace dz:=eq_true dz
    go_upto_region 8 with (first|((with_reducible refine gate_dst (N:=7) rfl ?_);refine bx (N:=7) (cs:=#[.string (⟨#[]⟩:ByteArray),.string (⟨#[]⟩:ByteArray),.int .i64 0]) (t:=59) ?_;intro ax hg dC hbox hb;replace ae:=rA ae hb;replace ai:=rA ai hb;have U:=am hbox;have aY:=gA hg HB;replace HB:=De2 HB af aH hb;have cP:=nA hg z;have d5:=mA hg z;replace z:=bA z hb;have cQ:=nA hg J;have d6:=mA hg J;replace J:=bA J hb;clear hb hbox hg;have gi:=d5.out;have g4:=cP.out;have gj:=d6.out;have g5:=cQ.out;obtain⟨fH,fI,fJ,fX,fY,fZ⟩:=cf3 U))
    (try simp only [Act.put,List.setIfInBounds_toArray,List.set_cons_zero,List.set_cons_succ])
    go_cut [38] (fun fe wc=>∃ (kq:Nat) (dY:Bool),fe=.bool dY∧Aside0 (impl_ShedActs.j1 kq bz j (j.length:Int) l dY be bG aE bH ((rd_T59 j l).f0) ((rd_T59 j l).f1) ((rd_T59 j l).f2)=some r)∧Aside0 (kq≤k1)∧Aside0 (Kd.R k65 65 wc w.heap.size (fun _=>True) u3 bz)∧Aside0 (Kd.R (Kd.int .i64) 3 wc w.heap.size (fun _=>True) (.slice bh aE.length bm) aE)∧Hc wc bN #[(.slice (some dr) j.length ao)] 26∧Hc wc bF #[.int .i64 be,.int .i64 bG,(.slice bh aE.length bm),.string bH] 29∧Hc wc ax #[.string ((rd_T59 j l).f0),.string ((rd_T59 j l).f1),.int .i64 ((rd_T59 j l).f2)] 59∧Hb w wc)
    case first=>
     replace ak:=ak.out
     obtain⟨bD,aC⟩|⟨bD,aC⟩:=sp ak
     ·obtain⟨ck,eM⟩:=yE bD;clear bD
      (first|rw [ck]|(simp only [i64_w,i32_w];rw [ck])|skip)
      replace aC:=am aC;clear ak
      try go_wp2
      generalize hw:(((dC.setCell ⟨ax,0,none⟩ (.string ((rd_T59 j l).f0))).setCell ⟨ax,1,none⟩ (.string ((rd_T59 j l).f1))).setCell ⟨ax,2,none⟩ (.int .i64 ((rd_T59 j l).f2)))=bO;replace hw:=hw.symm
      replace ae:Aside0 (Kd.R k65 65 bO w.heap.size (fun _=>True) u3 bz):=⟨wtfg ae.out U.out (by decide)⟩
      replace ai:Aside0 (Kd.R (Kd.int .i64) 3 bO w.heap.size (fun _=>True) (.slice bh aE.length bm) aE):=⟨wtfg ai.out U.out (by decide)⟩
      replace z:Hc bO bN #[.slice (some dr) j.length ao] 26:=⟨wAp1 z cP⟩
      replace J:Hc bO bF #[.int .i64 be,.int .i64 bG,.slice bh aE.length bm,.string bH] 29:=⟨wAp1 J cQ⟩
      replace U:Hc bO ax #[.string ((rd_T59 j l).f0),.string ((rd_T59 j l).f1),.int .i64 ((rd_T59 j l).f2)] 59:=⟨wAp0 U⟩
      replace HB:Hb w bO:=⟨wAe3 HB af aH aY⟩
      clear hw;replace ae:=eA ae;replace ai:=eA ai;replace z:=dA z;replace J:=dA J;replace U:=dA U;replace HB:=bdr HB;refine st_ 15 (fun w'=>w'.cell? ⟨ax,0,none⟩=some (.string ((rd_T59 j l).f0))∧w'.cell? ⟨ax,1,none⟩=some (.string ((rd_T59 j l).f1))∧w'.cell? ⟨ax,2,none⟩=some (.int .i64 ((rd_T59 j l).f2))) [] impl_ShedActs.tab8 impl_ShedActs.bits8 ⟨bc U 0,bc U 1,bc U 2⟩ (fun aW M bJ=>?_);generalize bO.drew=h3 at ae ai z J U HB aW ⊢;refine pu_ 0 24 M ?_;refine ta_ 1 25 M bJ aW ?_;refine pu_ 2 26 M ?_;refine pu_ 3 27 M ?_;refine of_ 4 28 M ?_;refine of_ 5 29 M ?_;refine of_ 6 30 M ?_;refine of_ 7 31 M ?_;refine of_ 8 32 M ?_;refine of_ 9 33 M ?_;refine of_ 10 34 M ?_;refine of_ 11 35 M ?_;refine of_ 12 36 M ?_;refine of_ 13 37 M ?_;refine pu_ 14 38 M ?_;refine done_ (done_of M.out gk_) ?_
      try go_wp2
      go_meet
      case rel=>exact⟨_,true,be_,aC,D10x1_⟩
     obtain⟨ck,eM⟩:=nE bD
     (first|rw [ck]|(simp only [i64_w,i32_w];rw [ck])|skip)
     obtain⟨ep,d3,ar⟩:=bsi aC;(try dsimp only at ar)
     obtain⟨rfl,aI⟩|⟨rfl,aI⟩:=sb ar
     ·obtain⟨dB,eD,aK⟩:=bsi aI;(try dsimp only at aK);replace aK:=am aK;clear ak aC ar aI
      try go_wp2
      generalize hw:(((dC.setCell ⟨ax,0,none⟩ (.string ((rd_T59 j l).f0))).setCell ⟨ax,1,none⟩ (.string ((rd_T59 j l).f1))).setCell ⟨ax,2,none⟩ (.int .i64 ((rd_T59 j l).f2)))=b6;replace hw:=hw.symm
      replace ae:Aside0 (Kd.R k65 65 b6 w.heap.size (fun _=>True) u3 bz):=⟨wtfg ae.out U.out (by decide)⟩
      replace ai:Aside0 (Kd.R (Kd.int .i64) 3 b6 w.heap.size (fun _=>True) (.slice bh aE.length bm) aE):=⟨wtfg ai.out U.out (by decide)⟩
      replace z:Hc b6 bN #[.slice (some dr) j.length ao] 26:=⟨wAp1 z cP⟩
      replace J:Hc b6 bF #[.int .i64 be,.int .i64 bG,.slice bh aE.length bm,.string bH] 29:=⟨wAp1 J cQ⟩
      replace U:Hc b6 ax #[.string ((rd_T59 j l).f0),.string ((rd_T59 j l).f1),.int .i64 ((rd_T59 j l).f2)] 59:=⟨wAp0 U⟩
      replace HB:Hb w b6:=⟨wAe3 HB af aH aY⟩
      clear hw;replace ae:=eA ae;replace ai:=eA ai;replace z:=dA z;replace J:=dA J;replace U:=dA U;replace HB:=bdr HB;refine st_ 15 (fun w'=>w'.cell? ⟨ax,0,none⟩=some (.string ((rd_T59 j l).f0))∧w'.cell? ⟨ax,1,none⟩=some (.string ((rd_T59 j l).f1))∧w'.cell? ⟨ax,2,none⟩=some (.int .i64 ((rd_T59 j l).f2))∧w'.cell? ⟨bF,0,none⟩=some (.int .i64 be)∧w'.cell? ⟨bF,1,none⟩=some (.int .i64 bG)∧w'.cell? ⟨bF,2,none⟩=some (.slice bh aE.length bm)∧w'.cell? ⟨bF,3,none⟩=some (.string bH)) [] impl_ShedActs.tab8 impl_ShedActs.bits8 D10x3_ (fun aW M bJ=>?_);generalize b6.drew=h4 at ae ai z J U HB aW ⊢;refine pu_ 0 24 M ?_;refine ta_ 1 25 M bJ aW ?_;refine pu_ 2 26 M ?_;refine pu_ 3 27 M ?_;refine ta_ 4 28 M bJ aW ?_;refine on_ 5 (some 29) M (fun K hK=>?_);refine goes_ Tryz.func29 gk_ rfl #[.agg #[.string ((rd_T59 j l).f0),.string ((rd_T59 j l).f1),.int .i64 ((rd_T59 j l).f2)]] (by rfl) rfl rfl gm_ ?_;refine(impl_isSnap.calls ((rd_T59 j l).f0) ((rd_T59 j l).f1) ((rd_T59 j l).f2) true _ d3.out (Laid.ev_ HEV.out (Ae3 HB af aH aY))).mono ?_;rintro e fj ⟨rfl,hb⟩;refine⟨_,rfl, ?_⟩;replace ae:=rA ae hb;replace ai:=rA ai hb;replace z:=bA z hb;replace J:=bA J hb;replace U:=bA U hb;replace HB:=De3 HB af aH aY hb;refine hK.out _ _ D10x3_ (fun aW=>nm_ ?_);clear hK K;refine pu_ 6 30 M ?_;refine pu_ 7 31 M ?_;refine pu_ 9 33 M ?_;refine ta_ 8 32 M bJ aW ?_;refine ta_ 10 34 M bJ aW ?_;refine on_ 11 (some 35) M (fun K hK=>?_);refine goes_ Tryz.func28 gk_ rfl #[.int .i64 be] (by rfl) rfl rfl gm_ ?_;refine(impl_SnapName.calls be dB _ eD.out).mono ?_;rintro e w' ⟨rfl,⟨nd,rfl⟩⟩;refine⟨_,rfl, ?_⟩;refine hK.out _ _ D10x3_ (fun aW=>nm_ ?_);clear hK K;refine pu_ 12 36 M ?_;refine pu_ 13 37 M ?_;refine pu_ 14 38 M ?_;refine done_ (done_of M.out gk_) ?_
      try go_wp2
      go_meet
      case rel=>exact⟨_,((((rd_T59 j l).f0).toList != dB.toList)),be_,aK,D10x1_⟩
     replace aI:=am aI;clear ak aC ar
     try go_wp2
     generalize hw:(((dC.setCell ⟨ax,0,none⟩ (.string ((rd_T59 j l).f0))).setCell ⟨ax,1,none⟩ (.string ((rd_T59 j l).f1))).setCell ⟨ax,2,none⟩ (.int .i64 ((rd_T59 j l).f2)))=bP;replace hw:=hw.symm
     replace ae:Aside0 (Kd.R k65 65 bP w.heap.size (fun _=>True) u3 bz):=⟨wtfg ae.out U.out (by decide)⟩
     replace ai:Aside0 (Kd.R (Kd.int .i64) 3 bP w.heap.size (fun _=>True) (.slice bh aE.length bm) aE):=⟨wtfg ai.out U.out (by decide)⟩
     replace z:Hc bP bN #[.slice (some dr) j.length ao] 26:=⟨wAp1 z cP⟩
     replace J:Hc bP bF #[.int .i64 be,.int .i64 bG,.slice bh aE.length bm,.string bH] 29:=⟨wAp1 J cQ⟩
     replace U:Hc bP ax #[.string ((rd_T59 j l).f0),.string ((rd_T59 j l).f1),.int .i64 ((rd_T59 j l).f2)] 59:=⟨wAp0 U⟩
     replace HB:Hb w bP:=⟨wAe3 HB af aH aY⟩
     clear hw;replace ae:=eA ae;replace ai:=eA ai;replace z:=dA z;replace J:=dA J;replace U:=dA U;replace HB:=bdr HB;refine st_ 15 (fun w'=>w'.cell? ⟨ax,0,none⟩=some (.string ((rd_T59 j l).f0))∧w'.cell? ⟨ax,1,none⟩=some (.string ((rd_T59 j l).f1))∧w'.cell? ⟨ax,2,none⟩=some (.int .i64 ((rd_T59 j l).f2))) [] impl_ShedActs.tab8 impl_ShedActs.bits8 ⟨bc U 0,bc U 1,bc U 2⟩ (fun aW M bJ=>?_);generalize bP.drew=h5 at ae ai z J U HB aW ⊢;refine pu_ 0 24 M ?_;refine ta_ 1 25 M bJ aW ?_;refine pu_ 2 26 M ?_;refine pu_ 3 27 M ?_;refine ta_ 4 28 M bJ aW ?_;refine on_ 5 (some 29) M (fun K hK=>?_);refine goes_ Tryz.func29 gk_ rfl #[.agg #[.string ((rd_T59 j l).f0),.string ((rd_T59 j l).f1),.int .i64 ((rd_T59 j l).f2)]] (by rfl) rfl rfl gm_ ?_;refine(impl_isSnap.calls ((rd_T59 j l).f0) ((rd_T59 j l).f1) ((rd_T59 j l).f2) false _ d3.out (Laid.ev_ HEV.out (Ae3 HB af aH aY))).mono ?_;rintro e fk ⟨rfl,hb⟩;refine⟨_,rfl, ?_⟩;replace ae:=rA ae hb;replace ai:=rA ai hb;replace z:=bA z hb;replace J:=bA J hb;replace U:=bA U hb;replace HB:=De3 HB af aH aY hb;refine hK.out _ _ ⟨bc U 0,bc U 1,bc U 2⟩ (fun aW=>nm_ ?_);clear hK K;refine pu_ 6 30 M ?_;refine of_ 7 31 M ?_;refine of_ 8 32 M ?_;refine of_ 9 33 M ?_;refine of_ 10 34 M ?_;refine of_ 11 35 M ?_;refine of_ 12 36 M ?_;refine pu_ 13 37 M ?_;refine pu_ 14 38 M ?_;refine done_ (done_of M.out gk_) ?_
     try go_wp2
     go_meet
     case rel=>exact⟨_,false,be_,aI,D10x1_⟩
    clear ak
    try clear c3
    try clear f4
    try clear dt
    try clear f5
    try clear d8
    try clear f6
    try clear d9
    try clear dv
    try clear dw
    try clear dx
    try clear dy
    try clear dz
    obtain⟨kq,dY,rfl,aA,dn,ae,ai,z,J,U,HB⟩:=hcut
    cases kq with
    |zero=>exact absurd aA.out (by simp [impl_ShedActs.j1])
    |succ ec=>?_
    replace aA:=aA.out;simp only [impl_ShedActs.j1] at aA
    obtain⟨rfl,bk⟩|⟨rfl,bk⟩:=sb aA
    ·obtain⟨eH,aU⟩:=ya bk;obtain⟨ft,cZ⟩:∃ y_:List (S65),y_=(bz ++ [(⟨4,((rd_T59 j l).f0),(⟨#[]⟩:ByteArray),(⟨#[]⟩:ByteArray)⟩:S65)]):=⟨_,rfl⟩
     (first|with_reducible replace aU:=hq cZ aU|rw [←cZ] at aU|simp only [←cZ] at aU)
     have eJ:=am cZ;clear cZ;replace aU:=am aU;clear aA bk;obtain⟨gr,he,gs,hf⟩:=o4_ d5 cP d6 cQ;obtain⟨fH,fI,fJ,fX,fY,fZ⟩:=cf3 U
     go_wp2_with (first|((with_reducible refine gate_builtin (b:=.append) (xs:=#[.tmp 39,.tmp 43]) rfl ?_);at_builtin;refine Kd.R_append k65 (w0:=w) w.heap.size rfl (.tmp 39) (.tmp 43) 34 65 (.agg #[(.int .i64 0),(.string ⟨#[]⟩),(.string ⟨#[]⟩),(.string ⟨#[]⟩)]) 56 rfl Tryz.underlying34 info65 rfl (by decide) (by omega) u3 bz (⟨4,((rd_T59 j l).f0),(⟨#[]⟩:ByteArray),(⟨#[]⟩:ByteArray)⟩:S65) [.int .i64 4,.string ((rd_T59 j l).f0),.string (⟨#[]⟩:ByteArray),.string (⟨#[]⟩:ByteArray)] (fun _=>True) (fun _=>False) rfl rfl ?aP (fun _ hk=>hk.elim) ?aF ?aO ?aB ?aS ?aL ?_;(case aP=>exact k65_mkM _ _ _ (⟨4,((rd_T59 j l).f0),(⟨#[]⟩:ByteArray),(⟨#[]⟩:ByteArray)⟩:S65));(case aB=>exact(Ae3 HB af aH aY));(case aF=>exact(fun _ _=>trivial));(case aO=>exact(Ar ae));(case aS=>exact(below_size (Ae3 HB af aH aY)));(case aL=>have:=eH.out;omega);intro hY h7 ho hb hg hat;rw [←eJ.out] at ho;replace ai:=am (Kd.R_over' (Ar ai) (Kd.R_typed (Ar ae)) (by decide) hg);replace z:=bg z hg (Kd.R_ne ae.out z.out (by decide));replace J:=bg J hg (Kd.R_ne ae.out J.out (by decide));replace HB:=am hb;have eF:=am ho;clear ae;clear ho hb hg hat))
     go_roundg ec
     case measure=>have:=bC.out;have:=dn.out;omega
     case rel=>exact⟨(ft),(wrap64 (l+1)),be_,aU,⟨(by have:=bC.out;have:=dn.out;omega)⟩,Cr eF,Cr ai,Cb z,Cb J,Ce3 HB af aH aY⟩
    replace bk:=am bk;clear aA
    go_wp2
    go_roundg ec
    case measure=>have:=bC.out;have:=dn.out;omega
    case rel=>exact⟨(bz),(wrap64 (l+1)),be_,bk,⟨(by have:=bC.out;have:=dn.out;omega)⟩,Cr ae,Cr ai,Cb z,Cb J,Ce3 HB af aH aY⟩
   obtain rfl:=Option.some.inj a1;clear a1 aD
   go_wp2
   go_ret;exact⟨_,B36x22_,(Ar ae),(Ae2 HB af aH)⟩
 obtain rfl:=Option.some.inj aw
 clear aw aQ aM
 go_enter Tryz.func13,Tryz.ntmps13
 go_wp2_with (first|((with_reducible refine gate_dst (N:=1) rfl ?_);refine bx (N:=1) (cs:=#[.slice aG j.length ao]) (t:=26) ?_;intro bN hg h8 hbox hb;have z:=am hbox;have af:=gA hg HB;replace HB:=hA HB hb;clear hb hbox hg)|((with_reducible refine gate_dst (N:=8) rfl ?_);refine lL k65 65 8 ([]:List (S65)) [] (Reps.none _ _) ?_;intro fg bw cV hb;(first|rw [←dq.out] at cV|(simp only [Int.reduceToNat] at cV;rw [←dq.out] at cV));have bj:=am (Kd.R_lower cV (below_size (Ae1 HB af)));replace z:=bA z hb;replace HB:=De1 HB af hb;clear hb cV;have ip:bw.cell? ⟨bN,0,none⟩=some (.slice aG j.length ao):=bc z 0;have iu:=blk_frozen z.out 0)|((with_reducible refine gate_callee (f:=11) rfl ?_);refine goesL_ (some 11) rfl rfl Tryz.func11 gk_ rfl #[.agg #[.slice aG j.length ao]] rfl gm_ ?_;refine(impl_NewestSnap.calls k _ _ j be bG aE bH false _ (tc (Kd.C_below bT.out HB.out)) dm.out A2.out (Laid.ev_ HEV.out (Ae1 HB af))).mono ?_;rintro e ia ⟨fh,rfl,a2,hb⟩;refine⟨_,rfl, ?_⟩;replace bj:=rA bj hb;have bS:=am (Kd.R_lower a2 (below_size (Ae1 HB af)));replace z:=bA z hb;replace HB:=De1 HB af hb)|((with_reducible refine gate_dst (N:=4) rfl ?_);refine bx (N:=4) (cs:=#[.int .i64 0,.int .i64 0,.slice none 0 0,.string (⟨#[]⟩:ByteArray)]) (t:=29) ?_;intro bF hg fl hbox hb;replace bj:=rA bj hb;replace bS:=rA bS hb;have J:=am hbox;have aH:=gA hg HB;replace HB:=De1 HB af hb;have dp:=nA hg z;have dT:=mA hg z;replace z:=bA z hb;clear hb hbox hg;have gx:=dT.out;have hm:=dp.out;obtain⟨fD,fE,fF,fG,fT,fU,fV,fW⟩:=cf4 J;obtain⟨f0,f9,eT⟩:=Kd.R_slice bS.out;subst eT))
 go_ret
 exact⟨_,B36x22_,(tfg bj.out J.out (by decide)),(Ae2 HB af aH)⟩
end
end Go.Proofs.YtofmbomonkbeaaaGreatDoor.QFnSnapsCut
