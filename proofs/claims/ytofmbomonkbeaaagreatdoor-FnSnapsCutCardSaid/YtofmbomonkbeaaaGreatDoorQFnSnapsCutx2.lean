/- Functions that a law reaches, as functions of Lean, and the walks that show that the calls come to their answers. No condition. -/
import Derived.Test.YtofmbomonkbeaaaGreatDoorQFnSnapsCutx0
import Derived.Test.YtofmbomonkbeaaaGreatDoorVFnSnapsCuthort3
import Derived.Test.YtofmbomonkbeaaaGreatDoorVFnSnapsCuthort2
import Derived.Test.YtofmbomonkbeaaaGreatDoorVFnSnapsCuthort
import Derived.Test.YtofmbomonkbeaaaGreatDoorVFnSnapsCuthort8
import Derived.Laws.Cover1
namespace Go.Proofs.YtofmbomonkbeaaaGreatDoor.QFnSnapsCut
open Go.RowKit Go.Proofs.YtofmbomonkbeaaaGreatDoorW.PrintWords Go.Proofs.YtofmbomonkbeaaaGreatDoorW.PrintLast Go.Proofs.YtofmbomonkbeaaaGreatDoorW.PrintMore Go.Proofs.YtofmbomonkbeaaaGreatDoor.Short
set_option linter.unusedVariables false
set_option linter.unusedSimpArgs false
set_option maxHeartbeats 8000000
set_option maxRecDepth 100000
variable {p:Prop}
theorem D2x0_ (h:p:=by exact⟨bc z 0,bc z 1,bc z 2,((hbc HB ah).trans ah),((hbc HB ai).trans ai),((hbc HB aj).trans aj)⟩):p:=h
theorem D2x1_ (h:p:=by exact⟨bc J 0,bc J 1,bc J 2,bc Y 0,bc Y 1,((hbc HB a4).trans a4),((hbc HB a5).trans a5),((hbc HB a6).trans a6)⟩):p:=h
theorem D2x2_ (h:p:=by exact⟨bc z 0,bc z 1,bc z 2⟩):p:=h
theorem D2x3_ (h:p:=by exact⟨⟨B2x6_⟩,Cb z,Ce1 HB aG⟩):p:=h
theorem D2x4_ (h:p:=by exact⟨⟨B2x6_⟩,Cb Y,Cb J,Ce2 HB aM a9⟩):p:=h
theorem D2x5_ (h:p:=by exact⟨bc J 0,bc J 1,bc J 2⟩):p:=h
section
attribute [local go_sem] max2_int min2_int max_two min_two max_three min_three max_four min_four
theorem B2x6_ (h:p:=by have:=ba.out;first|omega|exact Nat.le_refl _):p:=h
theorem B2x8_ (h:p:=by first|rfl|(simp [errW_none,errW_some] <;> rfl)|(simp [*,errW_none,errW_some] <;> rfl)):p:=h
theorem B2x9_ (h:p:=by injection ca):p:=h
mutual
def spec_l15Sessions.l0:Nat→List (S76)→Int→Option (Bool)
 |0,_,_=>none
 |k+1,x0,x3=>if x3<(x0.length:Int) then (if 0≤x3 then ((spec_l01In.f ((rd_T76 x0 x3).f0) 1 1000000).bind fun dI=>(if dI=true then (if x3>0 then (if 0≤(wrap64 (x3 - 1)) then (if (wrap64 (x3 - 1))<(x0.length:Int) then (if ((rd_T76 x0 (wrap64 (x3 - 1))).f0)≥((rd_T76 x0 x3).f0) then (spec_l15Sessions.j1 k x0 x3 true) else ((spec_l01In.f ((rd_T76 x0 x3).f1) 0 1000000).bind fun dJ=>(if dJ=true then (if (((rd_T76 x0 x3).f2).size:Int)>40 then (spec_l15Sessions.j1 k x0 x3 true) else (if ((rd_T76 x0 x3).f1)=0 then (spec_l15Sessions.j1 k x0 x3 (((rd_T76 x0 x3).f2).toList != ([]:List UInt8))) else (spec_l15Sessions.j1 k x0 x3 false))) else (spec_l15Sessions.j1 k x0 x3 true)))) else (none)) else (none)) else ((spec_l01In.f ((rd_T76 x0 x3).f1) 0 1000000).bind fun dK=>(if dK=true then (if (((rd_T76 x0 x3).f2).size:Int)>40 then (spec_l15Sessions.j1 k x0 x3 true) else (if ((rd_T76 x0 x3).f1)=0 then (spec_l15Sessions.j1 k x0 x3 (((rd_T76 x0 x3).f2).toList != ([]:List UInt8))) else (spec_l15Sessions.j1 k x0 x3 false))) else (spec_l15Sessions.j1 k x0 x3 true)))) else (spec_l15Sessions.j1 k x0 x3 true))) else (none)) else (some (decide ((x0.length:Int)≤3)))
def spec_l15Sessions.j1:Nat→List (S76)→Int→Bool→Option (Bool)
 |0,_,_,_=>none
 |k+1,x0,x3,eW=>if eW=true then (some false) else (spec_l15Sessions.l0 k x0 (wrap64 (x3+1)))
end
def spec_l15Sessions.f (k:Nat) (l0:List (S76)):Option (Bool):=spec_l15Sessions.l0 k l0 0
def spec_l15Sessions.T5:Bool × List (List Nat × List Nat):=(true,[([],[]),([0],[0]),([1],[1]),([2],[2]),([3,2],[3]),([4],[4]),([5,4],[4,5]),([6,4,4],[4,6]),([7],[7]),([7],[7]),([9,7],[7,9]),([8,10,7],[7,8,10]),([11,7],[7,11]),([12,7],[7,12]),([7],[7]),([14,7],[7,14]),([13,15,7],[7,13,15]),([7,16,4],[4,7,16]),([4,17],[4,17]),([18,7],[18]),([19],[19]),([20,19],[19,20]),([21,19,19],[19,21]),([22,19],[19,22]),([19,23],[19,23]),([24,22],[24]),([25],[25]),([26,25],[25,26]),([27,25],[25,27]),([28,25],[25,28]),([25,29],[25,29]),([30,25],[30]),([31],[31]),([32,31],[31,32]),([33,31],[31,33]),([34,31,31],[31,34]),([35],[35]),([36,35],[35,36]),([37,35],[35,37]),([35,38,31],[31,35,38]),([31,39],[31,39])])
def spec_l15Sessions.B5:List Nat:=[0,1,3,7,15,31,63,127,255,255,767,2047,4095,8191,255,16639,65535,131071,262143,524287,1048575,2097151,4194303,8388607,16777215,33554431,67108863,134217727,268435455,536870911,1073741823,2147483647,4294967295,8589934591,17179869183,34359738367,68719476735,137438953471,274877906943,549755813887,1099511627775]
theorem spec_l15Sessions.tab5:rtab .any (opsOf Tryz.f71 5)=spec_l15Sessions.T5:=by kernel_rfl
theorem spec_l15Sessions.bits5:waitsOk spec_l15Sessions.T5.2 spec_l15Sessions.B5=true:=by kernel_rfl
theorem spec_l15Sessions.calls (k:Nat) (A0:Option Addr) (c0:Nat) (l0:List (S76)) (r:Bool) (w:World) (dH:Kd.C k76 w A0 l0.length l0) (dG:l0.length≤c0) (h:spec_l15Sessions.f k l0=some r) :
  Calls Tryz.prog 71 #[.slice A0 l0.length c0] w fun e w'=>e=.returned (.bool r)∧Below w.heap.size w w':=by
 have eK:=Tryz.underlying76
 have bP:=am dH
 have eZ:=am dG
 clear dH dG
 have HB:=am (Below.refl w.heap.size w)
 have al:=h
 clear h
 unfold spec_l15Sessions.f at al
 replace al:=am al
 go_enter Tryz.func71,Tryz.ntmps71
 go_wp2
 go_loopg [3] k (fun kq v3 w'=>∃ (l:Int),v3=.int .i64 l∧Aside0 (spec_l15Sessions.l0 kq l0 l=some r)∧Aside0 (kq≤k)∧Aside0 (Below w.heap.size w w'))
 case atStart=>exact⟨(0),be_,al,⟨Nat.le_refl _⟩,Ce0 HB⟩
 case round=>
  clear al;obtain⟨l,rfl,ag,ba,HB⟩:=hrel
  cases gk with
  |zero=>exact absurd ag.out (by simp [spec_l15Sessions.l0])
  |succ k1=>?_
  replace ag:=ag.out;simp only [spec_l15Sessions.l0] at ag
  obtain⟨ep,ax⟩|⟨ep,ax⟩:=sd ag
  ·obtain⟨cK,ac⟩:=yd ax;replace ac:=am ac;clear ag ax
   have cX:0≤(l:Int):=dga
   have db:l<(l0.length:Int):=dga
   obtain⟨ao,eF,cL,cM,cN⟩:=at_T76 bP.out l cX db;cases eF;replace cL:=(hbc HB cL).trans cL;replace cM:=(hbc HB cM).trans cM;replace cN:=(hbc HB cN).trans cN;replace cX:=eq_true cX;replace db:=eq_true db
   go_upto_region 5 with (first|((with_reducible refine gate_dst (N:=4) rfl ?_);(try(refine gate_guard (by rfl) ?_;dsimp only));refine bx (N:=4) (cs:=#[.int .i64 0,.int .i64 0,.string (⟨#[]⟩:ByteArray)]) (t:=76) ?_;intro M hg w5 hbox hb;have z:=am hbox;have aG:=gA hg HB;replace HB:=hA HB hb;clear hb hbox hg;obtain⟨fD,fE,fF,fP,fQ,fR⟩:=cf3 z))
   (try simp only [Act.put,List.setIfInBounds_toArray,List.set_cons_zero,List.set_cons_succ])
   go_cut [55] (fun eP wc=>∃ (kq:Nat) (dl:Bool),eP=.bool dl∧Aside0 (spec_l15Sessions.j1 kq l0 l dl=some r)∧Aside0 (kq≤k1)∧Hc wc M #[.int .i64 ((rd_T76 l0 l).f0),.int .i64 ((rd_T76 l0 l).f1),.string ((rd_T76 l0 l).f2)] 76∧Hb w wc)
   case first=>
    replace ac:=ac.out;obtain⟨dI,A7,ae⟩:=bsi ac;(try dsimp only at ae)
    obtain⟨rfl,ak⟩|⟨rfl,ak⟩:=sb ae
    ·obtain⟨c9,av⟩|⟨c9,av⟩:=sp ak
     ·have b9:decide (0<l)=true:=decide_eq_true c9
      clear c9
      (first|rw [b9]|(simp only [i64_w,i32_w];rw [b9])|skip)
      obtain⟨Z,cw⟩:∃ j_:Int,(wrap64 (l - 1))=j_:=⟨_,rfl⟩
      (first|rw [cw] at av|simp only [cw] at av)
      (try rw [cw] at A7)
      have fg:(IntKind.i64.wrap (l - 1))=Z:=(i64_w _).trans cw
      obtain⟨d7,a7⟩:=yd av;obtain⟨bR,bd⟩:=yd a7
      obtain⟨bv,aK⟩|⟨bv,aK⟩:=sp bd
      ·have dB:decide (((rd_T76 l0 l).f0)≤((rd_T76 l0 (Z)).f0))=true:=decide_eq_true bv
       clear bv;replace aK:=am aK;clear ac ae ak av a7 bd
       try go_wp2
       generalize hw:(((w5.setCell ⟨M,0,none⟩ (.int .i64 ((rd_T76 l0 l).f0))).setCell ⟨M,1,none⟩ (.int .i64 ((rd_T76 l0 l).f1))).setCell ⟨M,2,none⟩ (.string ((rd_T76 l0 l).f2)))=df;replace hw:=hw.symm
       replace z:Hc df M #[.int .i64 ((rd_T76 l0 l).f0),.int .i64 ((rd_T76 l0 l).f1),.string ((rd_T76 l0 l).f2)] 76:=⟨wAp0 z⟩
       replace HB:Hb w df:=⟨wAe1 HB aG⟩
       clear hw;replace z:=dA z;replace HB:=bdr HB
       have aQ:0≤((Z):Int):=dga
       have aR:(Z)<(l0.length:Int):=dga
       obtain⟨bu,ca,ap,ar,au⟩:=at_T76 bP.out (Z) aQ aR;have aj:=au;have ai:=ar;have ah:=ap;obtain rfl:ao=bu:=B2x9_;replace ap:=(hbc HB ap).trans ap;replace ar:=(hbc HB ar).trans ar;replace au:=(hbc HB au).trans au;replace aQ:=eq_true aQ;replace aR:=eq_true aR;refine st_ 41 (fun w'=>w'.cell? ⟨M,0,none⟩=some (.int .i64 ((rd_T76 l0 l).f0))∧w'.cell? ⟨M,1,none⟩=some (.int .i64 ((rd_T76 l0 l).f1))∧w'.cell? ⟨M,2,none⟩=some (.string ((rd_T76 l0 l).f2))∧w'.cell? (ao.add (((Z)).toNat * 3))=some (.int .i64 ((rd_T76 l0 (Z)).f0))∧w'.cell? ⟨(ao.add (((Z)).toNat * 3)).block,(ao.add (((Z)).toNat * 3)).off+1,none⟩=some (.int .i64 ((rd_T76 l0 (Z)).f1))∧w'.cell? ⟨(ao.add (((Z)).toNat * 3)).block,(ao.add (((Z)).toNat * 3)).off+2,none⟩=some (.string ((rd_T76 l0 (Z)).f2))) [] spec_l15Sessions.tab5 spec_l15Sessions.bits5 D2x0_ (fun B j D=>?_);generalize df.drew=fr at z HB ap ar au B ⊢;refine pu_ 0 15 j ?_;refine ta_ 1 16 j D B ?_;refine on_ 2 (some 17) j (fun K hK=>?_);refine goes_ Tryz.func31 gk_ rfl #[.int .i64 ((rd_T76 l0 l).f0),.int .i64 1,.int .i64 1000000] (by rfl) rfl rfl gm_ ?_;refine(spec_l01In.calls ((rd_T76 l0 l).f0) 1 1000000 true _ A7.out).mono ?_;rintro e w' ⟨rfl,⟨nd,rfl⟩⟩;refine⟨_,rfl, ?_⟩;refine hK.out _ _ D2x0_ (fun B=>nm_ ?_);clear hK K;refine pu_ 3 18 j ?_;refine pu_ 4 19 j ?_;refine pu_ 5 20 j ?_;refine pu_ 6 21 j ?_;refine pu_ 7 22 j ?_;refine pu_ 8 23 j ?_;refine pu_ 9 24 j ?_;refine pu_ 10 25 j ?_;refine pu_ 11 26 j ?_;refine pu_ 12 27 j ?_;refine pu_ 14 29 j ?_;refine ta_ 13 28 j D B ?_;refine ta_ 15 30 j D B ?_;refine pu_ 16 31 j ?_;refine pu_ 17 32 j ?_;refine pu_ 18 33 j ?_;refine pu_ 19 34 j ?_;refine of_ 20 35 j ?_;refine of_ 21 36 j ?_;refine of_ 22 37 j ?_;refine of_ 23 38 j ?_;refine pu_ 24 39 j ?_;refine pu_ 25 40 j ?_;refine of_ 26 41 j ?_;refine of_ 27 42 j ?_;refine of_ 28 43 j ?_;refine of_ 29 44 j ?_;refine pu_ 30 45 j ?_;refine pu_ 31 46 j ?_;refine of_ 32 47 j ?_;refine of_ 33 48 j ?_;refine of_ 34 49 j ?_;refine of_ 35 50 j ?_;refine of_ 36 51 j ?_;refine of_ 37 52 j ?_;refine of_ 38 53 j ?_;refine of_ 39 54 j ?_;refine pu_ 40 55 j ?_;refine done_ (done_of j.out gk_) ?_
       try go_wp2
       go_meet
       case rel=>exact⟨_,true,be_,aK,D2x3_⟩
      have dB:decide (((rd_T76 l0 l).f0)≤((rd_T76 l0 (Z)).f0))=false:=decide_eq_false bv
      clear bv;obtain⟨dJ,bN,a1⟩:=bsi aK;(try dsimp only at a1)
      obtain⟨rfl,aW⟩|⟨rfl,aW⟩:=sb a1
      ·obtain⟨b6,aT⟩|⟨b6,aT⟩:=sp aW
       ·have eg:decide (40<(((rd_T76 l0 l).f2).size:Int))=true:=decide_eq_true b6
        have eh:decide (40<((rd_T76 l0 l).f2).size)=true:=decide_eq_true (by omega)
        clear b6;replace aT:=am aT;clear ac ae ak av a7 bd aK a1 aW
        try go_wp2
        generalize hw:(((w5.setCell ⟨M,0,none⟩ (.int .i64 ((rd_T76 l0 l).f0))).setCell ⟨M,1,none⟩ (.int .i64 ((rd_T76 l0 l).f1))).setCell ⟨M,2,none⟩ (.string ((rd_T76 l0 l).f2)))=bT;replace hw:=hw.symm
        replace z:Hc bT M #[.int .i64 ((rd_T76 l0 l).f0),.int .i64 ((rd_T76 l0 l).f1),.string ((rd_T76 l0 l).f2)] 76:=⟨wAp0 z⟩
        replace HB:Hb w bT:=⟨wAe1 HB aG⟩
        clear hw;replace z:=dA z;replace HB:=bdr HB
        have aQ:0≤((Z):Int):=dga
        have aR:(Z)<(l0.length:Int):=dga
        obtain⟨bu,ca,ap,ar,au⟩:=at_T76 bP.out (Z) aQ aR;have aj:=au;have ai:=ar;have ah:=ap;obtain rfl:ao=bu:=B2x9_;replace ap:=(hbc HB ap).trans ap;replace ar:=(hbc HB ar).trans ar;replace au:=(hbc HB au).trans au;replace aQ:=eq_true aQ;replace aR:=eq_true aR;refine st_ 41 (fun w'=>w'.cell? ⟨M,0,none⟩=some (.int .i64 ((rd_T76 l0 l).f0))∧w'.cell? ⟨M,1,none⟩=some (.int .i64 ((rd_T76 l0 l).f1))∧w'.cell? ⟨M,2,none⟩=some (.string ((rd_T76 l0 l).f2))∧w'.cell? (ao.add (((Z)).toNat * 3))=some (.int .i64 ((rd_T76 l0 (Z)).f0))∧w'.cell? ⟨(ao.add (((Z)).toNat * 3)).block,(ao.add (((Z)).toNat * 3)).off+1,none⟩=some (.int .i64 ((rd_T76 l0 (Z)).f1))∧w'.cell? ⟨(ao.add (((Z)).toNat * 3)).block,(ao.add (((Z)).toNat * 3)).off+2,none⟩=some (.string ((rd_T76 l0 (Z)).f2))) [] spec_l15Sessions.tab5 spec_l15Sessions.bits5 D2x0_ (fun B j D=>?_);generalize bT.drew=fs at z HB ap ar au B ⊢;refine pu_ 0 15 j ?_;refine ta_ 1 16 j D B ?_;refine on_ 2 (some 17) j (fun K hK=>?_);refine goes_ Tryz.func31 gk_ rfl #[.int .i64 ((rd_T76 l0 l).f0),.int .i64 1,.int .i64 1000000] (by rfl) rfl rfl gm_ ?_;refine(spec_l01In.calls ((rd_T76 l0 l).f0) 1 1000000 true _ A7.out).mono ?_;rintro e w' ⟨rfl,⟨nd,rfl⟩⟩;refine⟨_,rfl, ?_⟩;refine hK.out _ _ D2x0_ (fun B=>nm_ ?_);clear hK K;refine pu_ 3 18 j ?_;refine pu_ 4 19 j ?_;refine pu_ 5 20 j ?_;refine pu_ 6 21 j ?_;refine pu_ 7 22 j ?_;refine pu_ 8 23 j ?_;refine pu_ 9 24 j ?_;refine pu_ 10 25 j ?_;refine pu_ 11 26 j ?_;refine pu_ 12 27 j ?_;refine pu_ 14 29 j ?_;refine ta_ 13 28 j D B ?_;refine ta_ 15 30 j D B ?_;refine pu_ 16 31 j ?_;refine pu_ 17 32 j ?_;refine pu_ 18 33 j ?_;refine pu_ 19 34 j ?_;refine pu_ 20 35 j ?_;refine ta_ 21 36 j D B ?_;refine on_ 22 (some 37) j (fun K hK=>?_);refine goes_ Tryz.func31 gk_ rfl #[.int .i64 ((rd_T76 l0 l).f1),.int .i64 0,.int .i64 1000000] (by rfl) rfl rfl gm_ ?_;refine(spec_l01In.calls ((rd_T76 l0 l).f1) 0 1000000 true _ bN.out).mono ?_;rintro e w' ⟨rfl,⟨nd,rfl⟩⟩;refine⟨_,rfl, ?_⟩;refine hK.out _ _ D2x0_ (fun B=>nm_ ?_);clear hK K;refine pu_ 23 38 j ?_;refine pu_ 24 39 j ?_;refine pu_ 25 40 j ?_;refine pu_ 26 41 j ?_;refine ta_ 27 42 j D B ?_;refine pu_ 28 43 j ?_;refine pu_ 29 44 j ?_;refine pu_ 30 45 j ?_;refine pu_ 31 46 j ?_;refine of_ 32 47 j ?_;refine of_ 33 48 j ?_;refine of_ 34 49 j ?_;refine of_ 35 50 j ?_;refine of_ 36 51 j ?_;refine of_ 37 52 j ?_;refine of_ 38 53 j ?_;refine of_ 39 54 j ?_;refine pu_ 40 55 j ?_;refine done_ (done_of j.out gk_) ?_
        try go_wp2
        go_meet
        case rel=>exact⟨_,true,be_,aT,D2x3_⟩
       have eg:decide (40<(((rd_T76 l0 l).f2).size:Int))=false:=decide_eq_false b6
       have eh:decide (40<((rd_T76 l0 l).f2).size)=false:=decide_eq_false (by omega)
       clear b6
       obtain⟨cq,a2⟩|⟨cq,a2⟩:=sp aT
       ·obtain⟨ei,ej⟩:=yE cq;clear cq;replace a2:=am a2;clear ac ae ak av a7 bd aK a1 aW aT
        try go_wp2
        generalize hw:(((w5.setCell ⟨M,0,none⟩ (.int .i64 ((rd_T76 l0 l).f0))).setCell ⟨M,1,none⟩ (.int .i64 ((rd_T76 l0 l).f1))).setCell ⟨M,2,none⟩ (.string ((rd_T76 l0 l).f2)))=bw;replace hw:=hw.symm
        replace z:Hc bw M #[.int .i64 ((rd_T76 l0 l).f0),.int .i64 ((rd_T76 l0 l).f1),.string ((rd_T76 l0 l).f2)] 76:=⟨wAp0 z⟩
        replace HB:Hb w bw:=⟨wAe1 HB aG⟩
        clear hw;replace z:=dA z;replace HB:=bdr HB
        have aQ:0≤((Z):Int):=dga
        have aR:(Z)<(l0.length:Int):=dga
        obtain⟨bu,ca,ap,ar,au⟩:=at_T76 bP.out (Z) aQ aR;have aj:=au;have ai:=ar;have ah:=ap;obtain rfl:ao=bu:=B2x9_;replace ap:=(hbc HB ap).trans ap;replace ar:=(hbc HB ar).trans ar;replace au:=(hbc HB au).trans au;replace aQ:=eq_true aQ;replace aR:=eq_true aR;refine st_ 41 (fun w'=>w'.cell? ⟨M,0,none⟩=some (.int .i64 ((rd_T76 l0 l).f0))∧w'.cell? ⟨M,1,none⟩=some (.int .i64 ((rd_T76 l0 l).f1))∧w'.cell? ⟨M,2,none⟩=some (.string ((rd_T76 l0 l).f2))∧w'.cell? (ao.add (((Z)).toNat * 3))=some (.int .i64 ((rd_T76 l0 (Z)).f0))∧w'.cell? ⟨(ao.add (((Z)).toNat * 3)).block,(ao.add (((Z)).toNat * 3)).off+1,none⟩=some (.int .i64 ((rd_T76 l0 (Z)).f1))∧w'.cell? ⟨(ao.add (((Z)).toNat * 3)).block,(ao.add (((Z)).toNat * 3)).off+2,none⟩=some (.string ((rd_T76 l0 (Z)).f2))) [] spec_l15Sessions.tab5 spec_l15Sessions.bits5 D2x0_ (fun B j D=>?_);generalize bw.drew=bU at z HB ap ar au B ⊢;refine pu_ 0 15 j ?_;refine ta_ 1 16 j D B ?_;refine on_ 2 (some 17) j (fun K hK=>?_);refine goes_ Tryz.func31 gk_ rfl #[.int .i64 ((rd_T76 l0 l).f0),.int .i64 1,.int .i64 1000000] (by rfl) rfl rfl gm_ ?_;refine(spec_l01In.calls ((rd_T76 l0 l).f0) 1 1000000 true _ A7.out).mono ?_;rintro e w' ⟨rfl,⟨nd,rfl⟩⟩;refine⟨_,rfl, ?_⟩;refine hK.out _ _ D2x0_ (fun B=>nm_ ?_);clear hK K;refine pu_ 3 18 j ?_;refine pu_ 4 19 j ?_;refine pu_ 5 20 j ?_;refine pu_ 6 21 j ?_;refine pu_ 7 22 j ?_;refine pu_ 8 23 j ?_;refine pu_ 9 24 j ?_;refine pu_ 10 25 j ?_;refine pu_ 11 26 j ?_;refine pu_ 12 27 j ?_;refine pu_ 14 29 j ?_;refine ta_ 13 28 j D B ?_;refine ta_ 15 30 j D B ?_;refine pu_ 16 31 j ?_;refine pu_ 17 32 j ?_;refine pu_ 18 33 j ?_;refine pu_ 19 34 j ?_;refine pu_ 20 35 j ?_;refine ta_ 21 36 j D B ?_;refine on_ 22 (some 37) j (fun K hK=>?_);refine goes_ Tryz.func31 gk_ rfl #[.int .i64 ((rd_T76 l0 l).f1),.int .i64 0,.int .i64 1000000] (by rfl) rfl rfl gm_ ?_;refine(spec_l01In.calls ((rd_T76 l0 l).f1) 0 1000000 true _ bN.out).mono ?_;rintro e w' ⟨rfl,⟨nd,rfl⟩⟩;refine⟨_,rfl, ?_⟩;refine hK.out _ _ D2x0_ (fun B=>nm_ ?_);clear hK K;refine pu_ 23 38 j ?_;refine pu_ 24 39 j ?_;refine pu_ 25 40 j ?_;refine pu_ 26 41 j ?_;refine ta_ 27 42 j D B ?_;refine pu_ 28 43 j ?_;refine pu_ 29 44 j ?_;refine pu_ 30 45 j ?_;refine pu_ 31 46 j ?_;refine pu_ 32 47 j ?_;refine ta_ 33 48 j D B ?_;refine pu_ 34 49 j ?_;refine pu_ 35 50 j ?_;refine pu_ 36 51 j ?_;refine ta_ 37 52 j D B ?_;refine pu_ 38 53 j ?_;refine pu_ 39 54 j ?_;refine pu_ 40 55 j ?_;refine done_ (done_of j.out gk_) ?_
        try go_wp2
        go_meet
        case rel=>exact⟨_,((((rd_T76 l0 l).f2).toList != ([]:List UInt8))),be_,a2,D2x3_⟩
       obtain⟨ei,ej⟩:=nE cq;replace a2:=am a2;clear ac ae ak av a7 bd aK a1 aW aT
       try go_wp2
       generalize hw:(((w5.setCell ⟨M,0,none⟩ (.int .i64 ((rd_T76 l0 l).f0))).setCell ⟨M,1,none⟩ (.int .i64 ((rd_T76 l0 l).f1))).setCell ⟨M,2,none⟩ (.string ((rd_T76 l0 l).f2)))=cn;replace hw:=hw.symm
       replace z:Hc cn M #[.int .i64 ((rd_T76 l0 l).f0),.int .i64 ((rd_T76 l0 l).f1),.string ((rd_T76 l0 l).f2)] 76:=⟨wAp0 z⟩
       replace HB:Hb w cn:=⟨wAe1 HB aG⟩
       clear hw;replace z:=dA z;replace HB:=bdr HB
       have aQ:0≤((Z):Int):=dga
       have aR:(Z)<(l0.length:Int):=dga
       obtain⟨bu,ca,ap,ar,au⟩:=at_T76 bP.out (Z) aQ aR;have aj:=au;have ai:=ar;have ah:=ap;obtain rfl:ao=bu:=B2x9_;replace ap:=(hbc HB ap).trans ap;replace ar:=(hbc HB ar).trans ar;replace au:=(hbc HB au).trans au;replace aQ:=eq_true aQ;replace aR:=eq_true aR;refine st_ 41 (fun w'=>w'.cell? ⟨M,0,none⟩=some (.int .i64 ((rd_T76 l0 l).f0))∧w'.cell? ⟨M,1,none⟩=some (.int .i64 ((rd_T76 l0 l).f1))∧w'.cell? ⟨M,2,none⟩=some (.string ((rd_T76 l0 l).f2))∧w'.cell? (ao.add (((Z)).toNat * 3))=some (.int .i64 ((rd_T76 l0 (Z)).f0))∧w'.cell? ⟨(ao.add (((Z)).toNat * 3)).block,(ao.add (((Z)).toNat * 3)).off+1,none⟩=some (.int .i64 ((rd_T76 l0 (Z)).f1))∧w'.cell? ⟨(ao.add (((Z)).toNat * 3)).block,(ao.add (((Z)).toNat * 3)).off+2,none⟩=some (.string ((rd_T76 l0 (Z)).f2))) [] spec_l15Sessions.tab5 spec_l15Sessions.bits5 D2x0_ (fun B j D=>?_);generalize cn.drew=eQ at z HB ap ar au B ⊢;refine pu_ 0 15 j ?_;refine ta_ 1 16 j D B ?_;refine on_ 2 (some 17) j (fun K hK=>?_);refine goes_ Tryz.func31 gk_ rfl #[.int .i64 ((rd_T76 l0 l).f0),.int .i64 1,.int .i64 1000000] (by rfl) rfl rfl gm_ ?_;refine(spec_l01In.calls ((rd_T76 l0 l).f0) 1 1000000 true _ A7.out).mono ?_;rintro e w' ⟨rfl,⟨nd,rfl⟩⟩;refine⟨_,rfl, ?_⟩;refine hK.out _ _ D2x0_ (fun B=>nm_ ?_);clear hK K;refine pu_ 3 18 j ?_;refine pu_ 4 19 j ?_;refine pu_ 5 20 j ?_;refine pu_ 6 21 j ?_;refine pu_ 7 22 j ?_;refine pu_ 8 23 j ?_;refine pu_ 9 24 j ?_;refine pu_ 10 25 j ?_;refine pu_ 11 26 j ?_;refine pu_ 12 27 j ?_;refine pu_ 14 29 j ?_;refine ta_ 13 28 j D B ?_;refine ta_ 15 30 j D B ?_;refine pu_ 16 31 j ?_;refine pu_ 17 32 j ?_;refine pu_ 18 33 j ?_;refine pu_ 19 34 j ?_;refine pu_ 20 35 j ?_;refine ta_ 21 36 j D B ?_;refine on_ 22 (some 37) j (fun K hK=>?_);refine goes_ Tryz.func31 gk_ rfl #[.int .i64 ((rd_T76 l0 l).f1),.int .i64 0,.int .i64 1000000] (by rfl) rfl rfl gm_ ?_;refine(spec_l01In.calls ((rd_T76 l0 l).f1) 0 1000000 true _ bN.out).mono ?_;rintro e w' ⟨rfl,⟨nd,rfl⟩⟩;refine⟨_,rfl, ?_⟩;refine hK.out _ _ D2x0_ (fun B=>nm_ ?_);clear hK K;refine pu_ 23 38 j ?_;refine pu_ 24 39 j ?_;refine pu_ 25 40 j ?_;refine pu_ 26 41 j ?_;refine ta_ 27 42 j D B ?_;refine pu_ 28 43 j ?_;refine pu_ 29 44 j ?_;refine pu_ 30 45 j ?_;refine pu_ 31 46 j ?_;refine pu_ 32 47 j ?_;refine ta_ 33 48 j D B ?_;refine pu_ 34 49 j ?_;refine pu_ 35 50 j ?_;refine of_ 36 51 j ?_;refine of_ 37 52 j ?_;refine of_ 38 53 j ?_;refine pu_ 39 54 j ?_;refine pu_ 40 55 j ?_;refine done_ (done_of j.out gk_) ?_
       try go_wp2
       go_meet
       case rel=>exact⟨_,false,be_,a2,D2x3_⟩
      replace aW:=am aW;clear ac ae ak av a7 bd aK a1
      try go_wp2
      generalize hw:(((w5.setCell ⟨M,0,none⟩ (.int .i64 ((rd_T76 l0 l).f0))).setCell ⟨M,1,none⟩ (.int .i64 ((rd_T76 l0 l).f1))).setCell ⟨M,2,none⟩ (.string ((rd_T76 l0 l).f2)))=bz;replace hw:=hw.symm
      replace z:Hc bz M #[.int .i64 ((rd_T76 l0 l).f0),.int .i64 ((rd_T76 l0 l).f1),.string ((rd_T76 l0 l).f2)] 76:=⟨wAp0 z⟩
      replace HB:Hb w bz:=⟨wAe1 HB aG⟩
      clear hw;replace z:=dA z;replace HB:=bdr HB
      have aQ:0≤((Z):Int):=dga
      have aR:(Z)<(l0.length:Int):=dga
      obtain⟨bu,ca,ap,ar,au⟩:=at_T76 bP.out (Z) aQ aR;have aj:=au;have ai:=ar;have ah:=ap;obtain rfl:ao=bu:=B2x9_;replace ap:=(hbc HB ap).trans ap;replace ar:=(hbc HB ar).trans ar;replace au:=(hbc HB au).trans au;replace aQ:=eq_true aQ;replace aR:=eq_true aR;refine st_ 41 (fun w'=>w'.cell? ⟨M,0,none⟩=some (.int .i64 ((rd_T76 l0 l).f0))∧w'.cell? ⟨M,1,none⟩=some (.int .i64 ((rd_T76 l0 l).f1))∧w'.cell? ⟨M,2,none⟩=some (.string ((rd_T76 l0 l).f2))∧w'.cell? (ao.add (((Z)).toNat * 3))=some (.int .i64 ((rd_T76 l0 (Z)).f0))∧w'.cell? ⟨(ao.add (((Z)).toNat * 3)).block,(ao.add (((Z)).toNat * 3)).off+1,none⟩=some (.int .i64 ((rd_T76 l0 (Z)).f1))∧w'.cell? ⟨(ao.add (((Z)).toNat * 3)).block,(ao.add (((Z)).toNat * 3)).off+2,none⟩=some (.string ((rd_T76 l0 (Z)).f2))) [] spec_l15Sessions.tab5 spec_l15Sessions.bits5 D2x0_ (fun B j D=>?_);generalize bz.drew=eR at z HB ap ar au B ⊢;refine pu_ 0 15 j ?_;refine ta_ 1 16 j D B ?_;refine on_ 2 (some 17) j (fun K hK=>?_);refine goes_ Tryz.func31 gk_ rfl #[.int .i64 ((rd_T76 l0 l).f0),.int .i64 1,.int .i64 1000000] (by rfl) rfl rfl gm_ ?_;refine(spec_l01In.calls ((rd_T76 l0 l).f0) 1 1000000 true _ A7.out).mono ?_;rintro e w' ⟨rfl,⟨nd,rfl⟩⟩;refine⟨_,rfl, ?_⟩;refine hK.out _ _ D2x0_ (fun B=>nm_ ?_);clear hK K;refine pu_ 3 18 j ?_;refine pu_ 4 19 j ?_;refine pu_ 5 20 j ?_;refine pu_ 6 21 j ?_;refine pu_ 7 22 j ?_;refine pu_ 8 23 j ?_;refine pu_ 9 24 j ?_;refine pu_ 10 25 j ?_;refine pu_ 11 26 j ?_;refine pu_ 12 27 j ?_;refine pu_ 14 29 j ?_;refine ta_ 13 28 j D B ?_;refine ta_ 15 30 j D B ?_;refine pu_ 16 31 j ?_;refine pu_ 17 32 j ?_;refine pu_ 18 33 j ?_;refine pu_ 19 34 j ?_;refine pu_ 20 35 j ?_;refine ta_ 21 36 j D B ?_;refine on_ 22 (some 37) j (fun K hK=>?_);refine goes_ Tryz.func31 gk_ rfl #[.int .i64 ((rd_T76 l0 l).f1),.int .i64 0,.int .i64 1000000] (by rfl) rfl rfl gm_ ?_;refine(spec_l01In.calls ((rd_T76 l0 l).f1) 0 1000000 false _ bN.out).mono ?_;rintro e w' ⟨rfl,⟨nd,rfl⟩⟩;refine⟨_,rfl, ?_⟩;refine hK.out _ _ D2x0_ (fun B=>nm_ ?_);clear hK K;refine pu_ 23 38 j ?_;refine pu_ 24 39 j ?_;refine pu_ 25 40 j ?_;refine of_ 26 41 j ?_;refine of_ 27 42 j ?_;refine of_ 28 43 j ?_;refine of_ 29 44 j ?_;refine pu_ 30 45 j ?_;refine pu_ 31 46 j ?_;refine of_ 32 47 j ?_;refine of_ 33 48 j ?_;refine of_ 34 49 j ?_;refine of_ 35 50 j ?_;refine of_ 36 51 j ?_;refine of_ 37 52 j ?_;refine of_ 38 53 j ?_;refine of_ 39 54 j ?_;refine pu_ 40 55 j ?_;refine done_ (done_of j.out gk_) ?_
      try go_wp2
      go_meet
      case rel=>exact⟨_,true,be_,aW,D2x3_⟩
     have b9:decide (0<l)=false:=decide_eq_false c9
     clear c9
     (first|rw [b9]|(simp only [i64_w,i32_w];rw [b9])|skip)
     obtain⟨dK,bO,aN⟩:=bsi av;(try dsimp only at aN)
     obtain⟨rfl,aE⟩|⟨rfl,aE⟩:=sb aN
     ·obtain⟨b8,aU⟩|⟨b8,aU⟩:=sp aE
      ·have eq:decide (40<(((rd_T76 l0 l).f2).size:Int))=true:=decide_eq_true b8
       have er:decide (40<((rd_T76 l0 l).f2).size)=true:=decide_eq_true (by omega)
       clear b8;replace aU:=am aU;clear ac ae ak av aN aE
       try go_wp2
       generalize hw:(((w5.setCell ⟨M,0,none⟩ (.int .i64 ((rd_T76 l0 l).f0))).setCell ⟨M,1,none⟩ (.int .i64 ((rd_T76 l0 l).f1))).setCell ⟨M,2,none⟩ (.string ((rd_T76 l0 l).f2)))=bF;replace hw:=hw.symm
       replace z:Hc bF M #[.int .i64 ((rd_T76 l0 l).f0),.int .i64 ((rd_T76 l0 l).f1),.string ((rd_T76 l0 l).f2)] 76:=⟨wAp0 z⟩
       replace HB:Hb w bF:=⟨wAe1 HB aG⟩
       clear hw;replace z:=dA z;replace HB:=bdr HB;refine st_ 41 (fun w'=>w'.cell? ⟨M,0,none⟩=some (.int .i64 ((rd_T76 l0 l).f0))∧w'.cell? ⟨M,1,none⟩=some (.int .i64 ((rd_T76 l0 l).f1))∧w'.cell? ⟨M,2,none⟩=some (.string ((rd_T76 l0 l).f2))) [] spec_l15Sessions.tab5 spec_l15Sessions.bits5 D2x2_ (fun B j D=>?_);generalize bF.drew=eT at z HB B ⊢;refine pu_ 0 15 j ?_;refine ta_ 1 16 j D B ?_;refine on_ 2 (some 17) j (fun K hK=>?_);refine goes_ Tryz.func31 gk_ rfl #[.int .i64 ((rd_T76 l0 l).f0),.int .i64 1,.int .i64 1000000] (by rfl) rfl rfl gm_ ?_;refine(spec_l01In.calls ((rd_T76 l0 l).f0) 1 1000000 true _ A7.out).mono ?_;rintro e w' ⟨rfl,⟨nd,rfl⟩⟩;refine⟨_,rfl, ?_⟩;refine hK.out _ _ D2x2_ (fun B=>nm_ ?_);clear hK K;refine pu_ 3 18 j ?_;refine pu_ 4 19 j ?_;refine pu_ 5 20 j ?_;refine pu_ 6 21 j ?_;refine pu_ 7 22 j ?_;refine of_ 8 23 j ?_;refine of_ 9 24 j ?_;refine of_ 10 25 j ?_;refine of_ 11 26 j ?_;refine of_ 12 27 j ?_;refine of_ 13 28 j ?_;refine of_ 14 29 j ?_;refine of_ 15 30 j ?_;refine of_ 16 31 j ?_;refine pu_ 17 32 j ?_;refine pu_ 18 33 j ?_;refine pu_ 19 34 j ?_;refine pu_ 20 35 j ?_;refine ta_ 21 36 j D B ?_;refine on_ 22 (some 37) j (fun K hK=>?_);refine goes_ Tryz.func31 gk_ rfl #[.int .i64 ((rd_T76 l0 l).f1),.int .i64 0,.int .i64 1000000] (by rfl) rfl rfl gm_ ?_;refine(spec_l01In.calls ((rd_T76 l0 l).f1) 0 1000000 true _ bO.out).mono ?_;rintro e w' ⟨rfl,⟨nd,rfl⟩⟩;refine⟨_,rfl, ?_⟩;refine hK.out _ _ D2x2_ (fun B=>nm_ ?_);clear hK K;refine pu_ 23 38 j ?_;refine pu_ 24 39 j ?_;refine pu_ 25 40 j ?_;refine pu_ 26 41 j ?_;refine ta_ 27 42 j D B ?_;refine pu_ 28 43 j ?_;refine pu_ 29 44 j ?_;refine pu_ 30 45 j ?_;refine pu_ 31 46 j ?_;refine of_ 32 47 j ?_;refine of_ 33 48 j ?_;refine of_ 34 49 j ?_;refine of_ 35 50 j ?_;refine of_ 36 51 j ?_;refine of_ 37 52 j ?_;refine of_ 38 53 j ?_;refine of_ 39 54 j ?_;refine pu_ 40 55 j ?_;refine done_ (done_of j.out gk_) ?_
       try go_wp2
       go_meet
       case rel=>exact⟨_,true,be_,aU,D2x3_⟩
      have eq:decide (40<(((rd_T76 l0 l).f2).size:Int))=false:=decide_eq_false b8
      have er:decide (40<((rd_T76 l0 l).f2).size)=false:=decide_eq_false (by omega)
      clear b8
      obtain⟨ct,a3⟩|⟨ct,a3⟩:=sp aU
      ·obtain⟨eu,ev⟩:=yE ct;clear ct;replace a3:=am a3;clear ac ae ak av aN aE aU
       try go_wp2
       generalize hw:(((w5.setCell ⟨M,0,none⟩ (.int .i64 ((rd_T76 l0 l).f0))).setCell ⟨M,1,none⟩ (.int .i64 ((rd_T76 l0 l).f1))).setCell ⟨M,2,none⟩ (.string ((rd_T76 l0 l).f2)))=dh;replace hw:=hw.symm
       replace z:Hc dh M #[.int .i64 ((rd_T76 l0 l).f0),.int .i64 ((rd_T76 l0 l).f1),.string ((rd_T76 l0 l).f2)] 76:=⟨wAp0 z⟩
       replace HB:Hb w dh:=⟨wAe1 HB aG⟩
       clear hw;replace z:=dA z;replace HB:=bdr HB;refine st_ 41 (fun w'=>w'.cell? ⟨M,0,none⟩=some (.int .i64 ((rd_T76 l0 l).f0))∧w'.cell? ⟨M,1,none⟩=some (.int .i64 ((rd_T76 l0 l).f1))∧w'.cell? ⟨M,2,none⟩=some (.string ((rd_T76 l0 l).f2))) [] spec_l15Sessions.tab5 spec_l15Sessions.bits5 D2x2_ (fun B j D=>?_);generalize dh.drew=ft at z HB B ⊢;refine pu_ 0 15 j ?_;refine ta_ 1 16 j D B ?_;refine on_ 2 (some 17) j (fun K hK=>?_);refine goes_ Tryz.func31 gk_ rfl #[.int .i64 ((rd_T76 l0 l).f0),.int .i64 1,.int .i64 1000000] (by rfl) rfl rfl gm_ ?_;refine(spec_l01In.calls ((rd_T76 l0 l).f0) 1 1000000 true _ A7.out).mono ?_;rintro e w' ⟨rfl,⟨nd,rfl⟩⟩;refine⟨_,rfl, ?_⟩;refine hK.out _ _ D2x2_ (fun B=>nm_ ?_);clear hK K;refine pu_ 3 18 j ?_;refine pu_ 4 19 j ?_;refine pu_ 5 20 j ?_;refine pu_ 6 21 j ?_;refine pu_ 7 22 j ?_;refine of_ 8 23 j ?_;refine of_ 9 24 j ?_;refine of_ 10 25 j ?_;refine of_ 11 26 j ?_;refine of_ 12 27 j ?_;refine of_ 13 28 j ?_;refine of_ 14 29 j ?_;refine of_ 15 30 j ?_;refine of_ 16 31 j ?_;refine pu_ 17 32 j ?_;refine pu_ 18 33 j ?_;refine pu_ 19 34 j ?_;refine pu_ 20 35 j ?_;refine ta_ 21 36 j D B ?_;refine on_ 22 (some 37) j (fun K hK=>?_);refine goes_ Tryz.func31 gk_ rfl #[.int .i64 ((rd_T76 l0 l).f1),.int .i64 0,.int .i64 1000000] (by rfl) rfl rfl gm_ ?_;refine(spec_l01In.calls ((rd_T76 l0 l).f1) 0 1000000 true _ bO.out).mono ?_;rintro e w' ⟨rfl,⟨nd,rfl⟩⟩;refine⟨_,rfl, ?_⟩;refine hK.out _ _ D2x2_ (fun B=>nm_ ?_);clear hK K;refine pu_ 23 38 j ?_;refine pu_ 24 39 j ?_;refine pu_ 25 40 j ?_;refine pu_ 26 41 j ?_;refine ta_ 27 42 j D B ?_;refine pu_ 28 43 j ?_;refine pu_ 29 44 j ?_;refine pu_ 30 45 j ?_;refine pu_ 31 46 j ?_;refine pu_ 32 47 j ?_;refine ta_ 33 48 j D B ?_;refine pu_ 34 49 j ?_;refine pu_ 35 50 j ?_;refine pu_ 36 51 j ?_;refine ta_ 37 52 j D B ?_;refine pu_ 38 53 j ?_;refine pu_ 39 54 j ?_;refine pu_ 40 55 j ?_;refine done_ (done_of j.out gk_) ?_
       try go_wp2
       go_meet
       case rel=>exact⟨_,((((rd_T76 l0 l).f2).toList != ([]:List UInt8))),be_,a3,D2x3_⟩
      obtain⟨eu,ev⟩:=nE ct;replace a3:=am a3;clear ac ae ak av aN aE aU
      try go_wp2
      generalize hw:(((w5.setCell ⟨M,0,none⟩ (.int .i64 ((rd_T76 l0 l).f0))).setCell ⟨M,1,none⟩ (.int .i64 ((rd_T76 l0 l).f1))).setCell ⟨M,2,none⟩ (.string ((rd_T76 l0 l).f2)))=di;replace hw:=hw.symm
      replace z:Hc di M #[.int .i64 ((rd_T76 l0 l).f0),.int .i64 ((rd_T76 l0 l).f1),.string ((rd_T76 l0 l).f2)] 76:=⟨wAp0 z⟩
      replace HB:Hb w di:=⟨wAe1 HB aG⟩
      clear hw;replace z:=dA z;replace HB:=bdr HB;refine st_ 41 (fun w'=>w'.cell? ⟨M,0,none⟩=some (.int .i64 ((rd_T76 l0 l).f0))∧w'.cell? ⟨M,1,none⟩=some (.int .i64 ((rd_T76 l0 l).f1))∧w'.cell? ⟨M,2,none⟩=some (.string ((rd_T76 l0 l).f2))) [] spec_l15Sessions.tab5 spec_l15Sessions.bits5 D2x2_ (fun B j D=>?_);generalize di.drew=eU at z HB B ⊢;refine pu_ 0 15 j ?_;refine ta_ 1 16 j D B ?_;refine on_ 2 (some 17) j (fun K hK=>?_);refine goes_ Tryz.func31 gk_ rfl #[.int .i64 ((rd_T76 l0 l).f0),.int .i64 1,.int .i64 1000000] (by rfl) rfl rfl gm_ ?_;refine(spec_l01In.calls ((rd_T76 l0 l).f0) 1 1000000 true _ A7.out).mono ?_;rintro e w' ⟨rfl,⟨nd,rfl⟩⟩;refine⟨_,rfl, ?_⟩;refine hK.out _ _ D2x2_ (fun B=>nm_ ?_);clear hK K;refine pu_ 3 18 j ?_;refine pu_ 4 19 j ?_;refine pu_ 5 20 j ?_;refine pu_ 6 21 j ?_;refine pu_ 7 22 j ?_;refine of_ 8 23 j ?_;refine of_ 9 24 j ?_;refine of_ 10 25 j ?_;refine of_ 11 26 j ?_;refine of_ 12 27 j ?_;refine of_ 13 28 j ?_;refine of_ 14 29 j ?_;refine of_ 15 30 j ?_;refine of_ 16 31 j ?_;refine pu_ 17 32 j ?_;refine pu_ 18 33 j ?_;refine pu_ 19 34 j ?_;refine pu_ 20 35 j ?_;refine ta_ 21 36 j D B ?_;refine on_ 22 (some 37) j (fun K hK=>?_);refine goes_ Tryz.func31 gk_ rfl #[.int .i64 ((rd_T76 l0 l).f1),.int .i64 0,.int .i64 1000000] (by rfl) rfl rfl gm_ ?_;refine(spec_l01In.calls ((rd_T76 l0 l).f1) 0 1000000 true _ bO.out).mono ?_;rintro e w' ⟨rfl,⟨nd,rfl⟩⟩;refine⟨_,rfl, ?_⟩;refine hK.out _ _ D2x2_ (fun B=>nm_ ?_);clear hK K;refine pu_ 23 38 j ?_;refine pu_ 24 39 j ?_;refine pu_ 25 40 j ?_;refine pu_ 26 41 j ?_;refine ta_ 27 42 j D B ?_;refine pu_ 28 43 j ?_;refine pu_ 29 44 j ?_;refine pu_ 30 45 j ?_;refine pu_ 31 46 j ?_;refine pu_ 32 47 j ?_;refine ta_ 33 48 j D B ?_;refine pu_ 34 49 j ?_;refine pu_ 35 50 j ?_;refine of_ 36 51 j ?_;refine of_ 37 52 j ?_;refine of_ 38 53 j ?_;refine pu_ 39 54 j ?_;refine pu_ 40 55 j ?_;refine done_ (done_of j.out gk_) ?_
      try go_wp2
      go_meet
      case rel=>exact⟨_,false,be_,a3,D2x3_⟩
     replace aE:=am aE;clear ac ae ak av aN
     try go_wp2
     generalize hw:(((w5.setCell ⟨M,0,none⟩ (.int .i64 ((rd_T76 l0 l).f0))).setCell ⟨M,1,none⟩ (.int .i64 ((rd_T76 l0 l).f1))).setCell ⟨M,2,none⟩ (.string ((rd_T76 l0 l).f2)))=dj;replace hw:=hw.symm
     replace z:Hc dj M #[.int .i64 ((rd_T76 l0 l).f0),.int .i64 ((rd_T76 l0 l).f1),.string ((rd_T76 l0 l).f2)] 76:=⟨wAp0 z⟩
     replace HB:Hb w dj:=⟨wAe1 HB aG⟩
     clear hw;replace z:=dA z;replace HB:=bdr HB;refine st_ 41 (fun w'=>w'.cell? ⟨M,0,none⟩=some (.int .i64 ((rd_T76 l0 l).f0))∧w'.cell? ⟨M,1,none⟩=some (.int .i64 ((rd_T76 l0 l).f1))∧w'.cell? ⟨M,2,none⟩=some (.string ((rd_T76 l0 l).f2))) [] spec_l15Sessions.tab5 spec_l15Sessions.bits5 D2x2_ (fun B j D=>?_);generalize dj.drew=fu at z HB B ⊢;refine pu_ 0 15 j ?_;refine ta_ 1 16 j D B ?_;refine on_ 2 (some 17) j (fun K hK=>?_);refine goes_ Tryz.func31 gk_ rfl #[.int .i64 ((rd_T76 l0 l).f0),.int .i64 1,.int .i64 1000000] (by rfl) rfl rfl gm_ ?_;refine(spec_l01In.calls ((rd_T76 l0 l).f0) 1 1000000 true _ A7.out).mono ?_;rintro e w' ⟨rfl,⟨nd,rfl⟩⟩;refine⟨_,rfl, ?_⟩;refine hK.out _ _ D2x2_ (fun B=>nm_ ?_);clear hK K;refine pu_ 3 18 j ?_;refine pu_ 4 19 j ?_;refine pu_ 5 20 j ?_;refine pu_ 6 21 j ?_;refine pu_ 7 22 j ?_;refine of_ 8 23 j ?_;refine of_ 9 24 j ?_;refine of_ 10 25 j ?_;refine of_ 11 26 j ?_;refine of_ 12 27 j ?_;refine of_ 13 28 j ?_;refine of_ 14 29 j ?_;refine of_ 15 30 j ?_;refine of_ 16 31 j ?_;refine pu_ 17 32 j ?_;refine pu_ 18 33 j ?_;refine pu_ 19 34 j ?_;refine pu_ 20 35 j ?_;refine ta_ 21 36 j D B ?_;refine on_ 22 (some 37) j (fun K hK=>?_);refine goes_ Tryz.func31 gk_ rfl #[.int .i64 ((rd_T76 l0 l).f1),.int .i64 0,.int .i64 1000000] (by rfl) rfl rfl gm_ ?_;refine(spec_l01In.calls ((rd_T76 l0 l).f1) 0 1000000 false _ bO.out).mono ?_;rintro e w' ⟨rfl,⟨nd,rfl⟩⟩;refine⟨_,rfl, ?_⟩;refine hK.out _ _ D2x2_ (fun B=>nm_ ?_);clear hK K;refine pu_ 23 38 j ?_;refine pu_ 24 39 j ?_;refine pu_ 25 40 j ?_;refine of_ 26 41 j ?_;refine of_ 27 42 j ?_;refine of_ 28 43 j ?_;refine of_ 29 44 j ?_;refine pu_ 30 45 j ?_;refine pu_ 31 46 j ?_;refine of_ 32 47 j ?_;refine of_ 33 48 j ?_;refine of_ 34 49 j ?_;refine of_ 35 50 j ?_;refine of_ 36 51 j ?_;refine of_ 37 52 j ?_;refine of_ 38 53 j ?_;refine of_ 39 54 j ?_;refine pu_ 40 55 j ?_;refine done_ (done_of j.out gk_) ?_
     try go_wp2
     go_meet
     case rel=>exact⟨_,true,be_,aE,D2x3_⟩
    replace ak:=am ak;clear ac ae
    try go_wp2
    generalize hw:(((w5.setCell ⟨M,0,none⟩ (.int .i64 ((rd_T76 l0 l).f0))).setCell ⟨M,1,none⟩ (.int .i64 ((rd_T76 l0 l).f1))).setCell ⟨M,2,none⟩ (.string ((rd_T76 l0 l).f2)))=bV;replace hw:=hw.symm
    replace z:Hc bV M #[.int .i64 ((rd_T76 l0 l).f0),.int .i64 ((rd_T76 l0 l).f1),.string ((rd_T76 l0 l).f2)] 76:=⟨wAp0 z⟩
    replace HB:Hb w bV:=⟨wAe1 HB aG⟩
    clear hw;replace z:=dA z;replace HB:=bdr HB;refine st_ 41 (fun w'=>w'.cell? ⟨M,0,none⟩=some (.int .i64 ((rd_T76 l0 l).f0))∧w'.cell? ⟨M,1,none⟩=some (.int .i64 ((rd_T76 l0 l).f1))∧w'.cell? ⟨M,2,none⟩=some (.string ((rd_T76 l0 l).f2))) [] spec_l15Sessions.tab5 spec_l15Sessions.bits5 D2x2_ (fun B j D=>?_);generalize bV.drew=fv at z HB B ⊢;refine pu_ 0 15 j ?_;refine ta_ 1 16 j D B ?_;refine on_ 2 (some 17) j (fun K hK=>?_);refine goes_ Tryz.func31 gk_ rfl #[.int .i64 ((rd_T76 l0 l).f0),.int .i64 1,.int .i64 1000000] (by rfl) rfl rfl gm_ ?_;refine(spec_l01In.calls ((rd_T76 l0 l).f0) 1 1000000 false _ A7.out).mono ?_;rintro e w' ⟨rfl,⟨nd,rfl⟩⟩;refine⟨_,rfl, ?_⟩;refine hK.out _ _ D2x2_ (fun B=>nm_ ?_);clear hK K;refine pu_ 3 18 j ?_;refine pu_ 4 19 j ?_;refine of_ 5 20 j ?_;refine of_ 6 21 j ?_;refine of_ 7 22 j ?_;refine of_ 8 23 j ?_;refine of_ 9 24 j ?_;refine of_ 10 25 j ?_;refine of_ 11 26 j ?_;refine of_ 12 27 j ?_;refine of_ 13 28 j ?_;refine of_ 14 29 j ?_;refine of_ 15 30 j ?_;refine of_ 16 31 j ?_;refine of_ 17 32 j ?_;refine pu_ 18 33 j ?_;refine pu_ 19 34 j ?_;refine of_ 20 35 j ?_;refine of_ 21 36 j ?_;refine of_ 22 37 j ?_;refine of_ 23 38 j ?_;refine pu_ 24 39 j ?_;refine pu_ 25 40 j ?_;refine of_ 26 41 j ?_;refine of_ 27 42 j ?_;refine of_ 28 43 j ?_;refine of_ 29 44 j ?_;refine pu_ 30 45 j ?_;refine pu_ 31 46 j ?_;refine of_ 32 47 j ?_;refine of_ 33 48 j ?_;refine of_ 34 49 j ?_;refine of_ 35 50 j ?_;refine of_ 36 51 j ?_;refine of_ 37 52 j ?_;refine of_ 38 53 j ?_;refine of_ 39 54 j ?_;refine pu_ 40 55 j ?_;refine done_ (done_of j.out gk_) ?_
    try go_wp2
    go_meet
    case rel=>exact⟨_,true,be_,ak,D2x3_⟩
   clear ac
   try clear c2
   try clear c3
   obtain⟨kq,dl,rfl,bk,ds,z,HB⟩:=hcut
   cases kq with
   |zero=>exact absurd bk.out (by simp [spec_l15Sessions.j1])
   |succ eM=>?_
   replace bk:=bk.out;simp only [spec_l15Sessions.j1] at bk
   obtain⟨rfl,br⟩|⟨rfl,br⟩:=sb bk
   ·obtain rfl:=Option.some.inj br;clear br bk
    go_wp2
    go_ret;exact⟨B2x8_,(Ae1 HB aG)⟩
   replace br:=am br;clear bk
   go_wp2
   go_roundg eM
   case measure=>have:=ba.out;have:=ds.out;omega
   case rel=>exact⟨(wrap64 (l+1)),be_,br,⟨(by have:=ba.out;have:=ds.out;omega)⟩,Ce1 HB aG⟩
  obtain rfl:=Option.some.inj ax;clear ax ag
  go_wp2
  go_ret;exact⟨B2x8_,(Ae0 HB)⟩
mutual
def spec_KeepOk.l0:Nat→Int→List (S76)→List (S79)→Option (Bool)
 |0,_,_,_=>none
 |k+1,x3,bB,aV=>if x3<(aV.length:Int) then (if 0≤x3 then ((spec_l01In.f (((rd_T79 aV x3).f0).size:Int) 1 8).bind fun dL=>(if dL=true then (if x3>0 then (if 0≤(wrap64 (x3 - 1)) then (if (wrap64 (x3 - 1))<(aV.length:Int) then (if ((Op.bytesLess (((rd_T79 aV (wrap64 (x3 - 1))).f0).toList) (((rd_T79 aV x3).f0).toList))=true) then (if (((rd_T79 aV x3).f1).size:Int)>20 then (spec_KeepOk.j1 k x3 true bB aV) else ((spec_l01In.f ((rd_T79 aV x3).f2) 1 1000000000).bind fun cy=>(spec_KeepOk.j1 k x3 (!cy) bB aV))) else (spec_KeepOk.j1 k x3 true bB aV)) else (none)) else (none)) else (if (((rd_T79 aV x3).f1).size:Int)>20 then (spec_KeepOk.j1 k x3 true bB aV) else ((spec_l01In.f ((rd_T79 aV x3).f2) 1 1000000000).bind fun cz=>(spec_KeepOk.j1 k x3 (!cz) bB aV)))) else (spec_KeepOk.j1 k x3 true bB aV))) else (none)) else ((spec_l15Sessions.f k bB).bind fun dM=>(if dM=true then (some (decide ((aV.length:Int)≤8))) else (some false)))
def spec_KeepOk.j1:Nat→Int→Bool→List (S76)→List (S79)→Option (Bool)
 |0,_,_,_,_=>none
 |k+1,x3,eV,bB,aV=>if eV=true then (some false) else (spec_KeepOk.l0 k (wrap64 (x3+1)) bB aV)
end
def spec_KeepOk.f (k:Nat) (U:List (S76)) (q:List (S79)):Option (Bool):=spec_KeepOk.l0 k 0 U q
def spec_KeepOk.T5:Bool × List (List Nat × List Nat):=(true,[([],[]),([0],[0]),([1],[1]),([2],[2]),([3],[3]),([4,3],[4]),([5],[5]),([6,5],[5,6]),([7,5,5],[5,7]),([8],[8]),([9,8],[8,9]),([8],[8]),([11,8],[8,11]),([10,12,8],[8,10,12]),([13,8],[8,13]),([14,8],[8,14]),([8],[8]),([16,8],[8,16]),([15,17,8],[8,15,17]),([8,18,5],[5,8,18]),([5,19],[5,19]),([20,8],[20]),([21],[21]),([22,21],[21,22]),([23,21],[21,23]),([24,21],[21,24]),([21,25],[21,25]),([26,21],[26]),([27],[27]),([28,27],[27,28]),([29,27,27],[27,29]),([30,27],[27,30]),([27,31],[27,31])])
def spec_KeepOk.B5:List Nat:=[0,1,3,7,15,31,63,127,255,511,1023,511,2559,8191,16383,32767,511,66047,262143,524287,1048575,2097151,4194303,8388607,16777215,33554431,67108863,134217727,268435455,536870911,1073741823,2147483647,4294967295]
theorem spec_KeepOk.tab5:rtab .any (opsOf Tryz.f36 5)=spec_KeepOk.T5:=by kernel_rfl
theorem spec_KeepOk.bits5:waitsOk spec_KeepOk.T5.2 spec_KeepOk.B5=true:=by kernel_rfl
theorem spec_KeepOk.calls (k:Nat) (az:Option Addr) (ay:Nat) (U:List (S76)) (a8:Option Addr) (aA:Nat) (q:List (S79)) (r:Bool) (w:World) (ch:Kd.C k76 w az U.length U) (ce:U.length≤ay) (ci:Kd.C k79 w a8 q.length q) (cf:q.length≤aA) (h:spec_KeepOk.f k U q=some r) :
  Calls Tryz.prog 36 #[.agg #[.slice az U.length ay,.slice a8 q.length aA]] w fun e w'=>e=.returned (.bool r)∧Below w.heap.size w w':=by
 have eJ:=Tryz.underlying52
 have eL:=Tryz.underlying79
 have bQ:=am ch
 have b2:=am ce
 clear ch ce
 have bE:=am ci
 have cF:=am cf
 clear ci cf
 have HB:=am (Below.refl w.heap.size w)
 have al:=h
 clear h
 unfold spec_KeepOk.f at al
 replace al:=am al
 go_enter Tryz.func36,Tryz.ntmps36
 go_wp2_with (first|((with_reducible refine gate_dst (N:=1) rfl ?_);(try(refine gate_guard (by rfl) ?_;dsimp only));refine bx (N:=1) (cs:=#[.slice az U.length ay,.slice a8 q.length aA]) (t:=52) ?_;intro be hg w2 hbox hb;have Y:=am hbox;have aM:=gA hg HB;replace HB:=hA HB hb;clear hb hbox hg))
 go_loopg [3] k (fun kq v3 w'=>∃ (l:Int),v3=.int .i64 l∧Aside0 (spec_KeepOk.l0 kq l U q=some r)∧Aside0 (kq≤k)∧Aside0 (w'.heap[be]?=some (.cells #[(.slice az U.length ay),(.slice a8 q.length aA)] 52 (0,0)))∧Aside0 (Below w.heap.size w w'))
 case atStart=>exact⟨(0),be_,al,⟨Nat.le_refl _⟩,Cb Y,Ce1 HB aM⟩
 case round=>
  clear al;obtain⟨l,rfl,ag,ba,Y,HB⟩:=hrel
  cases gk with
  |zero=>exact absurd ag.out (by simp [spec_KeepOk.l0])
  |succ k1=>?_
  replace ag:=ag.out;simp only [spec_KeepOk.l0] at ag
  obtain⟨cK,ax⟩|⟨cK,ax⟩:=sd ag
  ·obtain⟨dF,ac⟩:=yd ax;replace ac:=am ac;clear ag ax;obtain⟨dm,dn,dp,dq⟩:=cf2 Y
   have cY:0≤(l:Int):=dga
   have dc:l<(q.length:Int):=dga
   obtain⟨aw,eG,cO,cP,cQ⟩:=at_T79 bE.out l cY dc;cases eG;replace cO:=(hbc HB cO).trans cO;replace cP:=(hbc HB cP).trans cP;replace cQ:=(hbc HB cQ).trans cQ;replace cY:=eq_true cY;replace dc:=eq_true dc
   go_upto_region 5 with (first|((with_reducible refine gate_dst (N:=4) rfl ?_);(try(refine gate_guard (by rfl) ?_;dsimp only));refine bx (N:=4) (cs:=#[.string (⟨#[]⟩:ByteArray),.string (⟨#[]⟩:ByteArray),.int .i64 0]) (t:=79) ?_;intro ad hg w7 hbox hb;have J:=am hbox;have a9:=gA hg HB;replace HB:=De1 HB aM hb;have bI:=nA hg Y;have d0:=mA hg Y;replace Y:=bA Y hb;clear hb hbox hg;have fk:=d0.out;have fn:=bI.out;obtain⟨fG,fH,fI,fS,fT,fU⟩:=cf3 J))
   (try simp only [Act.put,List.setIfInBounds_toArray,List.set_cons_zero,List.set_cons_succ])
   go_cut [49] (fun eO wc=>∃ (kq:Nat) (dk:Bool),eO=.bool dk∧Aside0 (spec_KeepOk.j1 kq l dk U q=some r)∧Aside0 (kq≤k1)∧Hc wc be #[(.slice az U.length ay),(.slice (some aw) q.length aA)] 52∧Hc wc ad #[.string ((rd_T79 q l).f0),.string ((rd_T79 q l).f1),.int .i64 ((rd_T79 q l).f2)] 79∧Hb w wc)
   case first=>
    replace ac:=ac.out;obtain⟨dL,bH,ae⟩:=bsi ac;(try dsimp only at ae)
    obtain⟨rfl,ak⟩|⟨rfl,ak⟩:=sb ae
    ·obtain⟨b4,av⟩|⟨b4,av⟩:=sp ak
     ·have bR:decide (0<l)=true:=decide_eq_true b4
      clear b4
      (first|rw [bR]|(simp only [i64_w,i32_w];rw [bR])|skip)
      obtain⟨af,cx⟩:∃ j_:Int,(wrap64 (l - 1))=j_:=⟨_,rfl⟩
      (first|rw [cx] at av|simp only [cx] at av)
      (try rw [cx] at bH)
      have fh:(IntKind.i64.wrap (l - 1))=af:=(i64_w _).trans cx
      obtain⟨e1,a7⟩:=yd av;obtain⟨ea,bd⟩:=yd a7
      obtain⟨b5,aK⟩|⟨b5,aK⟩:=sp bd
      ·have ed:(Op.bytesLess (((rd_T79 q (af)).f0).toList) (((rd_T79 q l).f0).toList))=true:=b5
       clear b5
       obtain⟨bo,a1⟩|⟨bo,a1⟩:=sp aK
       ·have dC:decide (20<(((rd_T79 q l).f1).size:Int))=true:=decide_eq_true bo
        have dD:decide (20<((rd_T79 q l).f1).size)=true:=decide_eq_true (by omega)
        clear bo;replace a1:=am a1;clear ac ae ak av a7 bd aK
        try go_wp2
        generalize hw:(((w7.setCell ⟨ad,0,none⟩ (.string ((rd_T79 q l).f0))).setCell ⟨ad,1,none⟩ (.string ((rd_T79 q l).f1))).setCell ⟨ad,2,none⟩ (.int .i64 ((rd_T79 q l).f2)))=cB;replace hw:=hw.symm
        replace Y:Hc cB be #[.slice az U.length ay,.slice (some aw) q.length aA] 52:=⟨wAp1 Y bI⟩
        replace J:Hc cB ad #[.string ((rd_T79 q l).f0),.string ((rd_T79 q l).f1),.int .i64 ((rd_T79 q l).f2)] 79:=⟨wAp0 J⟩
        replace HB:Hb w cB:=⟨wAe2 HB aM a9⟩
        clear hw;replace Y:=dA Y;replace J:=dA J;replace HB:=bdr HB
        have bl:0≤((af):Int):=dga
        have bm:(af)<(q.length:Int):=dga
        obtain⟨b3,cc,aX,aY,aZ⟩:=at_T79 bE.out (af) bl bm;have a6:=aZ;have a5:=aY;have a4:=aX;obtain rfl:aw=b3:=(by injection cc);replace aX:=(hbc HB aX).trans aX;replace aY:=(hbc HB aY).trans aY;replace aZ:=(hbc HB aZ).trans aZ;replace bl:=eq_true bl;replace bm:=eq_true bm;refine st_ 33 (fun w'=>w'.cell? ⟨ad,0,none⟩=some (.string ((rd_T79 q l).f0))∧w'.cell? ⟨ad,1,none⟩=some (.string ((rd_T79 q l).f1))∧w'.cell? ⟨ad,2,none⟩=some (.int .i64 ((rd_T79 q l).f2))∧w'.cell? ⟨be,0,none⟩=some (.slice az U.length ay)∧w'.cell? ⟨be,1,none⟩=some (.slice (some aw) q.length aA)∧w'.cell? (aw.add (((af)).toNat * 3))=some (.string ((rd_T79 q (af)).f0))∧w'.cell? ⟨(aw.add (((af)).toNat * 3)).block,(aw.add (((af)).toNat * 3)).off+1,none⟩=some (.string ((rd_T79 q (af)).f1))∧w'.cell? ⟨(aw.add (((af)).toNat * 3)).block,(aw.add (((af)).toNat * 3)).off+2,none⟩=some (.int .i64 ((rd_T79 q (af)).f2))) [] spec_KeepOk.tab5 spec_KeepOk.bits5 D2x1_ (fun B j D=>?_);generalize cB.drew=bT at Y J HB aX aY aZ B ⊢;refine pu_ 0 17 j ?_;refine ta_ 1 18 j D B ?_;refine pu_ 2 19 j ?_;refine on_ 3 (some 20) j (fun K hK=>?_);refine goes_ Tryz.func31 gk_ rfl #[.int .i64 (((rd_T79 q l).f0).size:Int),.int .i64 1,.int .i64 8] (by rfl) rfl rfl gm_ ?_;refine(spec_l01In.calls (((rd_T79 q l).f0).size:Int) 1 8 true _ bH.out).mono ?_;rintro e w' ⟨rfl,⟨nd,rfl⟩⟩;refine⟨_,rfl, ?_⟩;refine hK.out _ _ D2x1_ (fun B=>nm_ ?_);clear hK K;refine pu_ 4 21 j ?_;refine pu_ 5 22 j ?_;refine pu_ 6 23 j ?_;refine pu_ 7 24 j ?_;refine pu_ 8 25 j ?_;refine pu_ 9 26 j ?_;refine pu_ 11 28 j ?_;refine pu_ 12 29 j ?_;refine pu_ 16 33 j ?_;refine ta_ 10 27 j D B ?_;refine pu_ 13 30 j ?_;refine pu_ 14 31 j ?_;refine ta_ 15 32 j D B ?_;refine ta_ 17 34 j D B ?_;refine pu_ 18 35 j ?_;refine pu_ 19 36 j ?_;refine pu_ 20 37 j ?_;refine pu_ 21 38 j ?_;refine pu_ 22 39 j ?_;refine ta_ 23 40 j D B ?_;refine pu_ 24 41 j ?_;refine pu_ 25 42 j ?_;refine pu_ 26 43 j ?_;refine pu_ 27 44 j ?_;refine of_ 28 45 j ?_;refine of_ 29 46 j ?_;refine of_ 30 47 j ?_;refine of_ 31 48 j ?_;refine pu_ 32 49 j ?_;refine done_ (done_of j.out gk_) ?_
        try go_wp2
        go_meet
        case rel=>exact⟨_,true,be_,a1,D2x4_⟩
       have dC:decide (20<(((rd_T79 q l).f1).size:Int))=false:=decide_eq_false bo
       have dD:decide (20<((rd_T79 q l).f1).size)=false:=decide_eq_false (by omega)
       clear bo;obtain⟨cy,dQ,aW⟩:=bsi a1;(try dsimp only at aW);replace aW:=am aW;clear ac ae ak av a7 bd aK a1
       try go_wp2
       generalize hw:(((w7.setCell ⟨ad,0,none⟩ (.string ((rd_T79 q l).f0))).setCell ⟨ad,1,none⟩ (.string ((rd_T79 q l).f1))).setCell ⟨ad,2,none⟩ (.int .i64 ((rd_T79 q l).f2)))=cC;replace hw:=hw.symm
       replace Y:Hc cC be #[.slice az U.length ay,.slice (some aw) q.length aA] 52:=⟨wAp1 Y bI⟩
       replace J:Hc cC ad #[.string ((rd_T79 q l).f0),.string ((rd_T79 q l).f1),.int .i64 ((rd_T79 q l).f2)] 79:=⟨wAp0 J⟩
       replace HB:Hb w cC:=⟨wAe2 HB aM a9⟩
       clear hw;replace Y:=dA Y;replace J:=dA J;replace HB:=bdr HB
       have bl:0≤((af):Int):=dga
       have bm:(af)<(q.length:Int):=dga
       obtain⟨b3,cc,aX,aY,aZ⟩:=at_T79 bE.out (af) bl bm;have a6:=aZ;have a5:=aY;have a4:=aX;obtain rfl:aw=b3:=(by injection cc);replace aX:=(hbc HB aX).trans aX;replace aY:=(hbc HB aY).trans aY;replace aZ:=(hbc HB aZ).trans aZ;replace bl:=eq_true bl;replace bm:=eq_true bm;refine st_ 33 (fun w'=>w'.cell? ⟨ad,0,none⟩=some (.string ((rd_T79 q l).f0))∧w'.cell? ⟨ad,1,none⟩=some (.string ((rd_T79 q l).f1))∧w'.cell? ⟨ad,2,none⟩=some (.int .i64 ((rd_T79 q l).f2))∧w'.cell? ⟨be,0,none⟩=some (.slice az U.length ay)∧w'.cell? ⟨be,1,none⟩=some (.slice (some aw) q.length aA)∧w'.cell? (aw.add (((af)).toNat * 3))=some (.string ((rd_T79 q (af)).f0))∧w'.cell? ⟨(aw.add (((af)).toNat * 3)).block,(aw.add (((af)).toNat * 3)).off+1,none⟩=some (.string ((rd_T79 q (af)).f1))∧w'.cell? ⟨(aw.add (((af)).toNat * 3)).block,(aw.add (((af)).toNat * 3)).off+2,none⟩=some (.int .i64 ((rd_T79 q (af)).f2))) [] spec_KeepOk.tab5 spec_KeepOk.bits5 D2x1_ (fun B j D=>?_);generalize cC.drew=bw at Y J HB aX aY aZ B ⊢;refine pu_ 0 17 j ?_;refine ta_ 1 18 j D B ?_;refine pu_ 2 19 j ?_;refine on_ 3 (some 20) j (fun K hK=>?_);refine goes_ Tryz.func31 gk_ rfl #[.int .i64 (((rd_T79 q l).f0).size:Int),.int .i64 1,.int .i64 8] (by rfl) rfl rfl gm_ ?_;refine(spec_l01In.calls (((rd_T79 q l).f0).size:Int) 1 8 true _ bH.out).mono ?_;rintro e w' ⟨rfl,⟨nd,rfl⟩⟩;refine⟨_,rfl, ?_⟩;refine hK.out _ _ D2x1_ (fun B=>nm_ ?_);clear hK K;refine pu_ 4 21 j ?_;refine pu_ 5 22 j ?_;refine pu_ 6 23 j ?_;refine pu_ 7 24 j ?_;refine pu_ 8 25 j ?_;refine pu_ 9 26 j ?_;refine pu_ 11 28 j ?_;refine pu_ 12 29 j ?_;refine pu_ 16 33 j ?_;refine ta_ 10 27 j D B ?_;refine pu_ 13 30 j ?_;refine pu_ 14 31 j ?_;refine ta_ 15 32 j D B ?_;refine ta_ 17 34 j D B ?_;refine pu_ 18 35 j ?_;refine pu_ 19 36 j ?_;refine pu_ 20 37 j ?_;refine pu_ 21 38 j ?_;refine pu_ 22 39 j ?_;refine ta_ 23 40 j D B ?_;refine pu_ 24 41 j ?_;refine pu_ 25 42 j ?_;refine pu_ 26 43 j ?_;refine pu_ 27 44 j ?_;refine pu_ 28 45 j ?_;refine ta_ 29 46 j D B ?_;refine on_ 30 (some 47) j (fun K hK=>?_);refine goes_ Tryz.func31 gk_ rfl #[.int .i64 ((rd_T79 q l).f2),.int .i64 1,.int .i64 1000000000] (by rfl) rfl rfl gm_ ?_;refine(spec_l01In.calls ((rd_T79 q l).f2) 1 1000000000 cy _ dQ.out).mono ?_;rintro e w' ⟨rfl,⟨nd,rfl⟩⟩;refine⟨_,rfl, ?_⟩;refine hK.out _ _ D2x1_ (fun B=>nm_ ?_);clear hK K;refine pu_ 31 48 j ?_;refine pu_ 32 49 j ?_;refine done_ (done_of j.out gk_) ?_
       try go_wp2
       go_meet
       case rel=>exact⟨_,(!cy),be_,aW,D2x4_⟩
      have ed:(Op.bytesLess (((rd_T79 q (af)).f0).toList) (((rd_T79 q l).f0).toList))=false:=by simpa using b5
      clear b5;replace aK:=am aK;clear ac ae ak av a7 bd
      try go_wp2
      generalize hw:(((w7.setCell ⟨ad,0,none⟩ (.string ((rd_T79 q l).f0))).setCell ⟨ad,1,none⟩ (.string ((rd_T79 q l).f1))).setCell ⟨ad,2,none⟩ (.int .i64 ((rd_T79 q l).f2)))=bU;replace hw:=hw.symm
      replace Y:Hc bU be #[.slice az U.length ay,.slice (some aw) q.length aA] 52:=⟨wAp1 Y bI⟩
      replace J:Hc bU ad #[.string ((rd_T79 q l).f0),.string ((rd_T79 q l).f1),.int .i64 ((rd_T79 q l).f2)] 79:=⟨wAp0 J⟩
      replace HB:Hb w bU:=⟨wAe2 HB aM a9⟩
      clear hw;replace Y:=dA Y;replace J:=dA J;replace HB:=bdr HB
      have bl:0≤((af):Int):=dga
      have bm:(af)<(q.length:Int):=dga
      obtain⟨b3,cc,aX,aY,aZ⟩:=at_T79 bE.out (af) bl bm;have a6:=aZ;have a5:=aY;have a4:=aX;obtain rfl:aw=b3:=(by injection cc);replace aX:=(hbc HB aX).trans aX;replace aY:=(hbc HB aY).trans aY;replace aZ:=(hbc HB aZ).trans aZ;replace bl:=eq_true bl;replace bm:=eq_true bm;refine st_ 33 (fun w'=>w'.cell? ⟨ad,0,none⟩=some (.string ((rd_T79 q l).f0))∧w'.cell? ⟨ad,1,none⟩=some (.string ((rd_T79 q l).f1))∧w'.cell? ⟨ad,2,none⟩=some (.int .i64 ((rd_T79 q l).f2))∧w'.cell? ⟨be,0,none⟩=some (.slice az U.length ay)∧w'.cell? ⟨be,1,none⟩=some (.slice (some aw) q.length aA)∧w'.cell? (aw.add (((af)).toNat * 3))=some (.string ((rd_T79 q (af)).f0))∧w'.cell? ⟨(aw.add (((af)).toNat * 3)).block,(aw.add (((af)).toNat * 3)).off+1,none⟩=some (.string ((rd_T79 q (af)).f1))∧w'.cell? ⟨(aw.add (((af)).toNat * 3)).block,(aw.add (((af)).toNat * 3)).off+2,none⟩=some (.int .i64 ((rd_T79 q (af)).f2))) [] spec_KeepOk.tab5 spec_KeepOk.bits5 D2x1_ (fun B j D=>?_);generalize bU.drew=cn at Y J HB aX aY aZ B ⊢;refine pu_ 0 17 j ?_;refine ta_ 1 18 j D B ?_;refine pu_ 2 19 j ?_;refine on_ 3 (some 20) j (fun K hK=>?_);refine goes_ Tryz.func31 gk_ rfl #[.int .i64 (((rd_T79 q l).f0).size:Int),.int .i64 1,.int .i64 8] (by rfl) rfl rfl gm_ ?_;refine(spec_l01In.calls (((rd_T79 q l).f0).size:Int) 1 8 true _ bH.out).mono ?_;rintro e w' ⟨rfl,⟨nd,rfl⟩⟩;refine⟨_,rfl, ?_⟩;refine hK.out _ _ D2x1_ (fun B=>nm_ ?_);clear hK K;refine pu_ 4 21 j ?_;refine pu_ 5 22 j ?_;refine pu_ 6 23 j ?_;refine pu_ 7 24 j ?_;refine pu_ 8 25 j ?_;refine pu_ 9 26 j ?_;refine pu_ 11 28 j ?_;refine pu_ 12 29 j ?_;refine pu_ 16 33 j ?_;refine ta_ 10 27 j D B ?_;refine pu_ 13 30 j ?_;refine pu_ 14 31 j ?_;refine ta_ 15 32 j D B ?_;refine ta_ 17 34 j D B ?_;refine pu_ 18 35 j ?_;refine pu_ 19 36 j ?_;refine pu_ 20 37 j ?_;refine pu_ 21 38 j ?_;refine of_ 22 39 j ?_;refine of_ 23 40 j ?_;refine of_ 24 41 j ?_;refine of_ 25 42 j ?_;refine pu_ 26 43 j ?_;refine pu_ 27 44 j ?_;refine of_ 28 45 j ?_;refine of_ 29 46 j ?_;refine of_ 30 47 j ?_;refine of_ 31 48 j ?_;refine pu_ 32 49 j ?_;refine done_ (done_of j.out gk_) ?_
      try go_wp2
      go_meet
      case rel=>exact⟨_,true,be_,aK,D2x4_⟩
     have bR:decide (0<l)=false:=decide_eq_false b4
     clear b4
     (first|rw [bR]|(simp only [i64_w,i32_w];rw [bR])|skip)
     obtain⟨b7,aT⟩|⟨b7,aT⟩:=sp av
     ·have ek:decide (20<(((rd_T79 q l).f1).size:Int))=true:=decide_eq_true b7
      have el:decide (20<((rd_T79 q l).f1).size)=true:=decide_eq_true (by omega)
      clear b7;replace aT:=am aT;clear ac ae ak av
      try go_wp2
      generalize hw:(((w7.setCell ⟨ad,0,none⟩ (.string ((rd_T79 q l).f0))).setCell ⟨ad,1,none⟩ (.string ((rd_T79 q l).f1))).setCell ⟨ad,2,none⟩ (.int .i64 ((rd_T79 q l).f2)))=bz;replace hw:=hw.symm
      replace Y:Hc bz be #[.slice az U.length ay,.slice (some aw) q.length aA] 52:=⟨wAp1 Y bI⟩
      replace J:Hc bz ad #[.string ((rd_T79 q l).f0),.string ((rd_T79 q l).f1),.int .i64 ((rd_T79 q l).f2)] 79:=⟨wAp0 J⟩
      replace HB:Hb w bz:=⟨wAe2 HB aM a9⟩
      clear hw;replace Y:=dA Y;replace J:=dA J;replace HB:=bdr HB;refine st_ 33 (fun w'=>w'.cell? ⟨ad,0,none⟩=some (.string ((rd_T79 q l).f0))∧w'.cell? ⟨ad,1,none⟩=some (.string ((rd_T79 q l).f1))∧w'.cell? ⟨ad,2,none⟩=some (.int .i64 ((rd_T79 q l).f2))) [] spec_KeepOk.tab5 spec_KeepOk.bits5 D2x5_ (fun B j D=>?_);generalize bz.drew=eR at Y J HB B ⊢;refine pu_ 0 17 j ?_;refine ta_ 1 18 j D B ?_;refine pu_ 2 19 j ?_;refine on_ 3 (some 20) j (fun K hK=>?_);refine goes_ Tryz.func31 gk_ rfl #[.int .i64 (((rd_T79 q l).f0).size:Int),.int .i64 1,.int .i64 8] (by rfl) rfl rfl gm_ ?_;refine(spec_l01In.calls (((rd_T79 q l).f0).size:Int) 1 8 true _ bH.out).mono ?_;rintro e w' ⟨rfl,⟨nd,rfl⟩⟩;refine⟨_,rfl, ?_⟩;refine hK.out _ _ D2x5_ (fun B=>nm_ ?_);clear hK K;refine pu_ 4 21 j ?_;refine pu_ 5 22 j ?_;refine pu_ 6 23 j ?_;refine pu_ 7 24 j ?_;refine pu_ 8 25 j ?_;refine of_ 9 26 j ?_;refine of_ 10 27 j ?_;refine of_ 11 28 j ?_;refine of_ 12 29 j ?_;refine of_ 13 30 j ?_;refine of_ 14 31 j ?_;refine of_ 15 32 j ?_;refine of_ 16 33 j ?_;refine of_ 17 34 j ?_;refine of_ 18 35 j ?_;refine pu_ 19 36 j ?_;refine pu_ 20 37 j ?_;refine pu_ 21 38 j ?_;refine pu_ 22 39 j ?_;refine ta_ 23 40 j D B ?_;refine pu_ 24 41 j ?_;refine pu_ 25 42 j ?_;refine pu_ 26 43 j ?_;refine pu_ 27 44 j ?_;refine of_ 28 45 j ?_;refine of_ 29 46 j ?_;refine of_ 30 47 j ?_;refine of_ 31 48 j ?_;refine pu_ 32 49 j ?_;refine done_ (done_of j.out gk_) ?_
      try go_wp2
      go_meet
      case rel=>exact⟨_,true,be_,aT,D2x4_⟩
     have ek:decide (20<(((rd_T79 q l).f1).size:Int))=false:=decide_eq_false b7
     have el:decide (20<((rd_T79 q l).f1).size)=false:=decide_eq_false (by omega)
     clear b7;obtain⟨cz,bO,a2⟩:=bsi aT;(try dsimp only at a2);replace a2:=am a2;clear ac ae ak av aT
     try go_wp2
     generalize hw:(((w7.setCell ⟨ad,0,none⟩ (.string ((rd_T79 q l).f0))).setCell ⟨ad,1,none⟩ (.string ((rd_T79 q l).f1))).setCell ⟨ad,2,none⟩ (.int .i64 ((rd_T79 q l).f2)))=cD;replace hw:=hw.symm
     replace Y:Hc cD be #[.slice az U.length ay,.slice (some aw) q.length aA] 52:=⟨wAp1 Y bI⟩
     replace J:Hc cD ad #[.string ((rd_T79 q l).f0),.string ((rd_T79 q l).f1),.int .i64 ((rd_T79 q l).f2)] 79:=⟨wAp0 J⟩
     replace HB:Hb w cD:=⟨wAe2 HB aM a9⟩
     clear hw;replace Y:=dA Y;replace J:=dA J;replace HB:=bdr HB;refine st_ 33 (fun w'=>w'.cell? ⟨ad,0,none⟩=some (.string ((rd_T79 q l).f0))∧w'.cell? ⟨ad,1,none⟩=some (.string ((rd_T79 q l).f1))∧w'.cell? ⟨ad,2,none⟩=some (.int .i64 ((rd_T79 q l).f2))) [] spec_KeepOk.tab5 spec_KeepOk.bits5 D2x5_ (fun B j D=>?_);generalize cD.drew=eS at Y J HB B ⊢;refine pu_ 0 17 j ?_;refine ta_ 1 18 j D B ?_;refine pu_ 2 19 j ?_;refine on_ 3 (some 20) j (fun K hK=>?_);refine goes_ Tryz.func31 gk_ rfl #[.int .i64 (((rd_T79 q l).f0).size:Int),.int .i64 1,.int .i64 8] (by rfl) rfl rfl gm_ ?_;refine(spec_l01In.calls (((rd_T79 q l).f0).size:Int) 1 8 true _ bH.out).mono ?_;rintro e w' ⟨rfl,⟨nd,rfl⟩⟩;refine⟨_,rfl, ?_⟩;refine hK.out _ _ D2x5_ (fun B=>nm_ ?_);clear hK K;refine pu_ 4 21 j ?_;refine pu_ 5 22 j ?_;refine pu_ 6 23 j ?_;refine pu_ 7 24 j ?_;refine pu_ 8 25 j ?_;refine of_ 9 26 j ?_;refine of_ 10 27 j ?_;refine of_ 11 28 j ?_;refine of_ 12 29 j ?_;refine of_ 13 30 j ?_;refine of_ 14 31 j ?_;refine of_ 15 32 j ?_;refine of_ 16 33 j ?_;refine of_ 17 34 j ?_;refine of_ 18 35 j ?_;refine pu_ 19 36 j ?_;refine pu_ 20 37 j ?_;refine pu_ 21 38 j ?_;refine pu_ 22 39 j ?_;refine ta_ 23 40 j D B ?_;refine pu_ 24 41 j ?_;refine pu_ 25 42 j ?_;refine pu_ 26 43 j ?_;refine pu_ 27 44 j ?_;refine pu_ 28 45 j ?_;refine ta_ 29 46 j D B ?_;refine on_ 30 (some 47) j (fun K hK=>?_);refine goes_ Tryz.func31 gk_ rfl #[.int .i64 ((rd_T79 q l).f2),.int .i64 1,.int .i64 1000000000] (by rfl) rfl rfl gm_ ?_;refine(spec_l01In.calls ((rd_T79 q l).f2) 1 1000000000 cz _ bO.out).mono ?_;rintro e w' ⟨rfl,⟨nd,rfl⟩⟩;refine⟨_,rfl, ?_⟩;refine hK.out _ _ D2x5_ (fun B=>nm_ ?_);clear hK K;refine pu_ 31 48 j ?_;refine pu_ 32 49 j ?_;refine done_ (done_of j.out gk_) ?_
     try go_wp2
     go_meet
     case rel=>exact⟨_,(!cz),be_,a2,D2x4_⟩
    replace ak:=am ak;clear ac ae
    try go_wp2
    generalize hw:(((w7.setCell ⟨ad,0,none⟩ (.string ((rd_T79 q l).f0))).setCell ⟨ad,1,none⟩ (.string ((rd_T79 q l).f1))).setCell ⟨ad,2,none⟩ (.int .i64 ((rd_T79 q l).f2)))=bF;replace hw:=hw.symm
    replace Y:Hc bF be #[.slice az U.length ay,.slice (some aw) q.length aA] 52:=⟨wAp1 Y bI⟩
    replace J:Hc bF ad #[.string ((rd_T79 q l).f0),.string ((rd_T79 q l).f1),.int .i64 ((rd_T79 q l).f2)] 79:=⟨wAp0 J⟩
    replace HB:Hb w bF:=⟨wAe2 HB aM a9⟩
    clear hw;replace Y:=dA Y;replace J:=dA J;replace HB:=bdr HB;refine st_ 33 (fun w'=>w'.cell? ⟨ad,0,none⟩=some (.string ((rd_T79 q l).f0))∧w'.cell? ⟨ad,1,none⟩=some (.string ((rd_T79 q l).f1))∧w'.cell? ⟨ad,2,none⟩=some (.int .i64 ((rd_T79 q l).f2))) [] spec_KeepOk.tab5 spec_KeepOk.bits5 D2x5_ (fun B j D=>?_);generalize bF.drew=eT at Y J HB B ⊢;refine pu_ 0 17 j ?_;refine ta_ 1 18 j D B ?_;refine pu_ 2 19 j ?_;refine on_ 3 (some 20) j (fun K hK=>?_);refine goes_ Tryz.func31 gk_ rfl #[.int .i64 (((rd_T79 q l).f0).size:Int),.int .i64 1,.int .i64 8] (by rfl) rfl rfl gm_ ?_;refine(spec_l01In.calls (((rd_T79 q l).f0).size:Int) 1 8 false _ bH.out).mono ?_;rintro e w' ⟨rfl,⟨nd,rfl⟩⟩;refine⟨_,rfl, ?_⟩;refine hK.out _ _ D2x5_ (fun B=>nm_ ?_);clear hK K;refine pu_ 4 21 j ?_;refine pu_ 5 22 j ?_;refine of_ 6 23 j ?_;refine of_ 7 24 j ?_;refine of_ 8 25 j ?_;refine of_ 9 26 j ?_;refine of_ 10 27 j ?_;refine of_ 11 28 j ?_;refine of_ 12 29 j ?_;refine of_ 13 30 j ?_;refine of_ 14 31 j ?_;refine of_ 15 32 j ?_;refine of_ 16 33 j ?_;refine of_ 17 34 j ?_;refine of_ 18 35 j ?_;refine of_ 19 36 j ?_;refine pu_ 20 37 j ?_;refine pu_ 21 38 j ?_;refine of_ 22 39 j ?_;refine of_ 23 40 j ?_;refine of_ 24 41 j ?_;refine of_ 25 42 j ?_;refine pu_ 26 43 j ?_;refine pu_ 27 44 j ?_;refine of_ 28 45 j ?_;refine of_ 29 46 j ?_;refine of_ 30 47 j ?_;refine of_ 31 48 j ?_;refine pu_ 32 49 j ?_;refine done_ (done_of j.out gk_) ?_
    try go_wp2
    go_meet
    case rel=>exact⟨_,true,be_,ak,D2x4_⟩
   clear ac
   try clear c3
   obtain⟨kq,dk,rfl,aN,dt,Y,J,HB⟩:=hcut
   cases kq with
   |zero=>exact absurd aN.out (by simp [spec_KeepOk.j1])
   |succ eN=>?_
   replace aN:=aN.out;simp only [spec_KeepOk.j1] at aN
   obtain⟨rfl,aE⟩|⟨rfl,aE⟩:=sb aN
   ·obtain rfl:=Option.some.inj aE;clear aE aN
    go_wp2
    go_ret;exact⟨B2x8_,(Ae2 HB aM a9)⟩
   replace aE:=am aE;clear aN
   go_wp2
   go_roundg eN
   case measure=>have:=ba.out;have:=dt.out;omega
   case rel=>exact⟨(wrap64 (l+1)),be_,aE,⟨(by have:=ba.out;have:=dt.out;omega)⟩,Cb Y,Ce2 HB aM a9⟩
  obtain⟨dM,dr,aU⟩:=bsi ax;(try dsimp only at aU)
  obtain⟨rfl,a3⟩|⟨rfl,a3⟩:=sb aU
  ·obtain rfl:=Option.some.inj a3;clear a3 ag ax aU;obtain⟨dm,dn,dp,dq⟩:=cf2 Y
   go_wp2_with (first|((with_reducible refine gate_callee (f:=71) rfl ?_);refine goesL_ (some 52) rfl rfl Tryz.func71 gk_ rfl #[.slice az U.length ay] rfl gm_ ?_;refine(spec_l15Sessions.calls k1 _ _ U true _ (tc (Kd.C_below bQ.out HB.out)) b2.out dr.out).mono ?_;rintro e eU ⟨rfl,hb⟩;refine⟨_,rfl, ?_⟩;replace Y:=bA Y hb;replace HB:=De1 HB aM hb;obtain⟨dm,dn,dp,dq⟩:=cf2 Y))
   go_ret;exact⟨B2x8_,(Ae1 HB aM)⟩
  obtain rfl:=Option.some.inj a3;clear a3 ag ax aU;obtain⟨dm,dn,dp,dq⟩:=cf2 Y
  go_wp2_with (first|((with_reducible refine gate_callee (f:=71) rfl ?_);refine goesL_ (some 52) rfl rfl Tryz.func71 gk_ rfl #[.slice az U.length ay] rfl gm_ ?_;refine(spec_l15Sessions.calls k1 _ _ U false _ (tc (Kd.C_below bQ.out HB.out)) b2.out dr.out).mono ?_;rintro e bV ⟨rfl,hb⟩;refine⟨_,rfl, ?_⟩;replace HB:=De1 HB aM hb))
  go_ret;exact⟨B2x8_,(Ae1 HB aM)⟩
def spec_l01Var.l0:Nat→Int→List Int→Option (ByteArray)
 |0,_,_=>none
 |k+1,x0,x3=>if x0>127 then (if x3.length<140737488355328 then (spec_l01Var.l0 k (wrap64 (Int.tdiv x0 128)) (x3 ++ [(wrap64 ((Int.tmod x0 128)+128)) % 256])) else (none)) else (if x3.length<140737488355328 then (some (strOfNums (x3 ++ [(x0) % 256]))) else (none))
def spec_l01Var.f (k:Nat) (a0:Int):Option (ByteArray):=spec_l01Var.l0 k a0 (([]:List Int))
theorem spec_l01Var.calls (k:Nat) (a0:Int) (r:ByteArray) (w:World) (h:spec_l01Var.f k a0=some r) :
  Calls Tryz.prog 37 #[.int .i64 a0] w fun e w'=>e=.returned (.string r)∧Below w.heap.size w w':=by
 have HB:=am (Below.refl w.heap.size w)
 have al:=h
 clear h
 unfold spec_l01Var.f at al
 obtain⟨eX,cj⟩:∃ y_:List Int,y_=(([]:List Int)):=⟨_,rfl⟩
 (first|with_reducible replace al:=hq cj al|rw [←cj] at al|simp only [←cj] at al)
 have dy:=am cj
 clear cj
 replace al:=am al
 go_enter Tryz.func37,Tryz.ntmps37
 go_wp2_with (first|((with_reducible refine gate_dst (N:=4) rfl ?_);refine Kd.R_lit (Kd.int .u8) _ 5 ?hg (N:=4) ?hd (xs:=([]:List Int)) (inner:=[]) (ok:=fun _=>True) (okp:=fun _=>True) ?hr ?hp (fun _ hk=>hk) trivial (Below.refl _ _) (Nat.le_refl _) (by simp) ?_;(case hd=>rfl);(case hg=>rfl);(case hr=>first|(go_simp;done)|(go_simp;rfl));(case hp=>exact(Reps.none _ _));intro fo w2 cg hb hg_ hnew_;clear hg_ hnew_;(first|rw [←dy.out] at cg|(simp only [Int.reduceToNat] at cg;rw [←dy.out] at cg));have dV:=am (Kd.R_lower cg (below_size (Ae0 HB)));replace HB:=hA HB hb;clear hb cg))
 go_loopg [0,3] k (fun kq v0 v3 w'=>∃ (bj:Int) (l:List Int),v0=.int .i64 bj∧Aside0 (spec_l01Var.l0 kq bj l=some r)∧Aside0 (kq≤k)∧Aside0 (Kd.R (Kd.int .u8) 5 w' w.heap.size (fun _=>True) v3 l)∧Aside0 (Below w.heap.size w w'))
 case atStart=>exact⟨(a0),eX,be_,al,⟨Nat.le_refl _⟩,Cr dV,Ce0 HB⟩
 case round=>
  clear al;obtain⟨bj,l,rfl,ag,ba,co,HB⟩:=hrel
  cases gk with
  |zero=>exact absurd ag.out (by simp [spec_l01Var.l0])
  |succ k1=>?_
  replace ag:=ag.out;simp only [spec_l01Var.l0] at ag
  obtain⟨c4,ax⟩|⟨c4,ax⟩:=sp ag
  ·have dF:decide (127<bj)=true:=decide_eq_true c4
   clear c4;obtain⟨dY,ac⟩:=ya ax;obtain⟨eY,ck⟩:∃ y_:List Int,y_=(l ++ [(wrap64 ((Int.tmod bj 128)+128)) % 256]):=⟨_,rfl⟩
   (first|with_reducible replace ac:=hq ck ac|rw [←ck] at ac|simp only [←ck] at ac)
   have d3:=am ck;clear ck;replace ac:=am ac;clear ag ax
   go_wp2_with (first|((with_reducible refine gate_builtin (b:=.append) (xs:=#[.tmp 7,.tmp 12]) rfl ?_);at_builtin;refine Kd.R_append (Kd.int .u8) (w0:=w) w.heap.size rfl (.tmp 7) (.tmp 12) 22 5 (.int .u8 0) 1 rfl Tryz.underlying22 info5 rfl (by decide) (by omega) u3 l ((wrap64 ((Int.tmod bj 128)+128)) % 256) [.int .u8 ((wrap64 ((Int.tmod bj 128)+128)) % 256)] (fun _=>True) (fun _=>False) rfl rfl ?aP (fun _ hk=>hk.elim) ?aF ?aO ?aB ?aS ?aL ?_;(case aP=>exact rfl);(case aB=>exact(Ae0 HB));(case aF=>exact(fun _ _=>trivial));(case aO=>exact(Ar co));(case aS=>exact(below_size (Ae0 HB)));(case aL=>have:=dY.out;omega);intro fp w6 ho hb hg hat;rw [←d3.out] at ho;replace HB:=am hb;have dW:=am ho;clear co;clear ho hb hg hat))
   go_roundg k1
   case measure=>have:=ba.out;omega
   case rel=>exact⟨(wrap64 (Int.tdiv bj 128)),eY,be_,ac,⟨(by have:=ba.out;omega)⟩,Cr dW,Ce0 HB⟩
  ·have dF:decide (127<bj)=false:=decide_eq_false c4
   clear c4;obtain⟨dZ,ae⟩:=ya ax;obtain⟨fC,cl⟩:∃ y_:List Int,y_=(l ++ [(bj) % 256]):=⟨_,rfl⟩
   (first|with_reducible replace ae:=hq cl ae|rw [←cl] at ae|simp only [←cl] at ae)
   have d4:=am cl;clear cl;obtain rfl:=Option.some.inj ae;clear ae ag ax
   go_wp2_with (first|((with_reducible refine gate_builtin (b:=.append) (xs:=#[.tmp 16,.tmp 19]) rfl ?_);at_builtin;refine Kd.R_append (Kd.int .u8) (w0:=w) w.heap.size rfl (.tmp 16) (.tmp 19) 22 5 (.int .u8 0) 1 rfl Tryz.underlying22 info5 rfl (by decide) (by omega) u3 l ((bj) % 256) [.int .u8 ((bj) % 256)] (fun _=>True) (fun _=>False) rfl rfl ?aP (fun _ hk=>hk.elim) ?aF ?aO ?aB ?aS ?aL ?_;(case aP=>exact rfl);(case aB=>exact(Ae0 HB));(case aF=>exact(fun _ _=>trivial));(case aO=>exact(Ar co));(case aS=>exact(below_size (Ae0 HB)));(case aL=>have:=dZ.out;omega);intro fq w8 ho hb hg hat;rw [←d4.out] at ho;replace HB:=am hb;have dX:=am ho;clear co;clear ho hb hg hat;have ff:=own_string (P:=Tryz.prog) Tryz.underlying22 Tryz.underlying5 Tryz.underlying9 (Kd.own_of_R dX.out)))
   go_ret;exact⟨B2x8_,(Ae0 HB)⟩

def spec_l16Short.f (k:Nat) (a0:ByteArray):Option (ByteArray):=(spec_l01Var.f k (a0.size:Int)).bind fun cm=>(if cm.size+a0.size≤9223372036854775807 then (some (cm ++ a0)) else (none))
theorem spec_l16Short.calls (k:Nat) (a0:ByteArray) (r:ByteArray) (w:World) (h:spec_l16Short.f k a0=some r) :
  Calls Tryz.prog 38 #[.string a0] w fun e w'=>e=.returned (.string r)∧Below w.heap.size w w':=by
 have HB:=am (Below.refl w.heap.size w)
 have al:=h
 clear h
 unfold spec_l16Short.f at al
 obtain⟨cm,A2,ag⟩:=bsi al
 (try dsimp only at ag)
 obtain⟨c3,ax⟩:=yn ag
 have cK:=eq_true c3
 have fe:=decide_eq_true c3
 try have eD:(9223372036854775807<cm.size+a0.size)=False:=eq_false (Nat.not_lt.2 c3)
 try(have eE:=eD;simp only [ByteArray.size_append] at eE)
 obtain rfl:=Option.some.inj ax
 clear ax al ag
 go_enter Tryz.func38,Tryz.ntmps38
 go_wp2_with (first|((with_reducible refine gate_callee (f:=37) rfl ?_);refine goesL_ (some 5) rfl rfl Tryz.func37 gk_ rfl #[.int .i64 (a0.size:Int)] rfl gm_ ?_;refine(spec_l01Var.calls k (a0.size:Int) cm _ A2.out).mono ?_;rintro e w4 ⟨rfl,hb⟩;refine⟨_,rfl, ?_⟩;replace HB:=hA HB hb))
 go_ret
 exact⟨B2x8_,(Ae0 HB)⟩
mutual
def spec_KeepText.l0:Nat→ByteArray→Int→List (S76)→List (S79)→Option (ByteArray × Bool)
 |0,_,_,_,_=>none
 |k+1,x4,x5,bG,bC=>if x5<(bG.length:Int) then (if 0≤x5 then ((spec_l01Var.f k ((rd_T76 bG x5).f0)).bind fun bh=>(if x4.size+bh.size≤9223372036854775807 then ((spec_l01Var.f k ((rd_T76 bG x5).f1)).bind fun bp=>(if (x4 ++ bh).size+bp.size≤9223372036854775807 then ((spec_l16Short.f k ((rd_T76 bG x5).f2)).bind fun bL=>(if ((x4 ++ bh) ++ bp).size+bL.size≤9223372036854775807 then (spec_KeepText.l0 k (((x4 ++ bh) ++ bp) ++ bL) (wrap64 (x5+1)) bG bC) else (none))) else (none))) else (none))) else (none)) else ((spec_l01Var.f k (bC.length:Int)).bind fun bS=>(if x4.size+bS.size≤9223372036854775807 then (spec_KeepText.l1 k (x4 ++ bS) 0 bG bC) else (none)))
def spec_KeepText.l1:Nat→ByteArray→Int→List (S76)→List (S79)→Option (ByteArray × Bool)
 |0,_,_,_,_=>none
 |k+1,x4,x7,bG,bC=>if x7<(bC.length:Int) then (if 0≤x7 then ((spec_l16Short.f k ((rd_T79 bC x7).f0)).bind fun bi=>(if x4.size+bi.size≤9223372036854775807 then ((spec_l16Short.f k ((rd_T79 bC x7).f1)).bind fun bq=>(if (x4 ++ bi).size+bq.size≤9223372036854775807 then ((spec_l01Var.f k ((rd_T79 bC x7).f2)).bind fun bM=>(if ((x4 ++ bi) ++ bq).size+bM.size≤9223372036854775807 then (spec_KeepText.l1 k (((x4 ++ bi) ++ bq) ++ bM) (wrap64 (x7+1)) bG bC) else (none))) else (none))) else (none))) else (none)) else (some (x4,true))
end
def spec_KeepText.f (k:Nat) (U:List (S76)) (q:List (S79)):Option (ByteArray × Bool):=(spec_KeepOk.f k U q).bind fun dN=>(if dN=true then ((spec_l01Var.f k (U.length:Int)).bind fun cA=>(spec_KeepText.l0 k cA 0 U q)) else (some ((⟨#[]⟩:ByteArray),false)))
def spec_KeepText.T8:Bool × List (List Nat × List Nat):=(true,[([],[]),([],[]),([1],[1]),([2],[2]),([0,3],[0,3]),([],[]),([5],[5]),([6,3],[6]),([4,7],[4,7]),([],[]),([9],[9]),([10,7],[10]),([8,11],[8,11]),([12,11,0,1,2,3,4,5,6,7,8,9,10,11,12],[0,12])])
def spec_KeepText.B8:List Nat:=[0,0,2,6,15,0,32,110,255,0,512,1774,4095,8191]
theorem spec_KeepText.tab8:rtab .any (opsOf Tryz.f16 8)=spec_KeepText.T8:=by kernel_rfl
theorem spec_KeepText.bits8:waitsOk spec_KeepText.T8.2 spec_KeepText.B8=true:=by kernel_rfl
def spec_KeepText.T14:Bool × List (List Nat × List Nat):=(true,[([],[]),([],[]),([1],[1]),([2],[2]),([0,3],[0,3]),([],[]),([5],[5]),([6,3],[6]),([4,7],[4,7]),([],[]),([9],[9]),([10,7],[10]),([8,11],[8,11]),([12,11,0,1,2,3,4,5,6,7,8,9,10,11,12],[0,12])])
def spec_KeepText.B14:List Nat:=[0,0,2,6,15,0,32,110,255,0,512,1774,4095,8191]
theorem spec_KeepText.tab14:rtab .any (opsOf Tryz.f16 14)=spec_KeepText.T14:=by kernel_rfl
theorem spec_KeepText.bits14:waitsOk spec_KeepText.T14.2 spec_KeepText.B14=true:=by kernel_rfl
theorem spec_KeepText.calls (k:Nat) (az:Option Addr) (ay:Nat) (U:List (S76)) (a8:Option Addr) (aA:Nat) (q:List (S79)) (r1:ByteArray) (r2:Bool) (w:World) (ch:Kd.C k76 w az U.length U) (ce:U.length≤ay) (ci:Kd.C k79 w a8 q.length q) (cf:q.length≤aA) (h:spec_KeepText.f k U q=some (r1,r2)) :
  Calls Tryz.prog 16 #[.agg #[.slice az U.length ay,.slice a8 q.length aA]] w fun e w'=>e=.returned (.tuple #[.string r1,.bool r2])∧Below w.heap.size w w':=by
 have eJ:=Tryz.underlying52
 have eK:=Tryz.underlying76
 have eL:=Tryz.underlying79
 have bQ:=am ch
 have b2:=am ce
 clear ch ce
 have bE:=am ci
 have cF:=am cf
 clear ci cf
 have HB:=am (Below.refl w.heap.size w)
 have al:=h
 clear h
 unfold spec_KeepText.f at al
 obtain⟨dN,A2,ag⟩:=bsi al
 (try dsimp only at ag)
 obtain⟨rfl,ax⟩|⟨rfl,ax⟩:=sb ag
 ·obtain⟨cA,A4,ac⟩:=bsi ax;(try dsimp only at ac);replace ac:=am ac;clear al ag ax;go_enter Tryz.func16,Tryz.ntmps16
  go_wp2_with (first|((with_reducible refine gate_dst (N:=1) rfl ?_);refine bx (N:=1) (cs:=#[.slice az U.length ay,.slice a8 q.length aA]) (t:=52) ?_;intro cd hg w5 hbox hb;have aa:=am hbox;have aJ:=gA hg HB;replace HB:=hA HB hb;clear hb hbox hg;obtain⟨bW,bX,bY,bZ⟩:=cf2 aa)|((with_reducible refine gate_callee (f:=36) rfl ?_);refine goesL_ (some 10) rfl rfl Tryz.func36 gk_ rfl #[.agg #[.slice az U.length ay,.slice a8 q.length aA]] rfl gm_ ?_;refine(spec_KeepOk.calls k _ _ U _ _ q true _ (tc (Kd.C_below bQ.out HB.out)) b2.out (tc (Kd.C_below bE.out HB.out)) cF.out A2.out).mono ?_;rintro e w7 ⟨rfl,hb⟩;refine⟨_,rfl, ?_⟩;replace aa:=bA aa hb;replace HB:=De1 HB aJ hb;obtain⟨bW,bX,bY,bZ⟩:=cf2 aa)|((with_reducible refine gate_callee (f:=37) rfl ?_);refine goesL_ (some 15) rfl rfl Tryz.func37 gk_ rfl #[.int .i64 (U.length:Int)] rfl gm_ ?_;refine(spec_l01Var.calls k (U.length:Int) cA _ A4.out).mono ?_;rintro e w9 ⟨rfl,hb⟩;refine⟨_,rfl, ?_⟩;replace aa:=bA aa hb;replace HB:=De1 HB aJ hb))
  go_loopg [4,5] k (fun kq v4 v5 w'=>∃ (bn:ByteArray) (aH:Int),v4=.string bn∧v5=.int .i64 aH∧Aside0 (spec_KeepText.l0 kq bn aH U q=some (r1,r2))∧Aside0 (kq≤k)∧Aside0 (w'.heap[cd]?=some (.cells #[(.slice az U.length ay),(.slice a8 q.length aA)] 52 (0,0)))∧Aside0 (Below w.heap.size w w'))
  case atStart=>exact⟨(cA),0,be_,be_,ac,⟨Nat.le_refl _⟩,Cb aa,Ce1 HB aJ⟩
  case round=>
   clear ac
   try clear c3
   obtain⟨bn,aH,rfl,rfl,ae,ba,aa,HB⟩:=hrel
   cases gk with
   |zero=>exact absurd ae.out (by simp [spec_KeepText.l0])
   |succ k1=>?_
   replace ae:=ae.out;simp only [spec_KeepText.l0] at ae
   obtain⟨dz,ak⟩|⟨dz,ak⟩:=sd ae
   ·obtain⟨d7,av⟩:=yd ak;obtain⟨bh,dO,a7⟩:=bsi av;(try dsimp only at a7);obtain⟨bv,bd⟩:=yn a7;have dB:=eq_true bv;have e0:=decide_eq_true bv
    try have d8:(9223372036854775807<bn.size+bh.size)=False:=eq_false (Nat.not_lt.2 bv)
    try(have d9:=d8;simp only [ByteArray.size_append] at d9)
    obtain⟨bp,dP,aK⟩:=bsi bd;(try dsimp only at aK);obtain⟨cp,a1⟩:=yn aK;have ea:=eq_true cp;have e2:=decide_eq_true cp
    try have eb:(9223372036854775807<(bn ++ bh).size+bp.size)=False:=eq_false (Nat.not_lt.2 cp)
    try have e3:(9223372036854775807<bn.size+bh.size+bp.size)=False:=eq_false (by have h_:=cp;simp only [ByteArray.size_append,ByteArray.size_extract,decide_eq_true_eq,decide_eq_false_iff_not] at *;omega)
    try(have ec:=eb;simp only [ByteArray.size_append] at ec)
    obtain⟨bL,bN,aW⟩:=bsi a1;(try dsimp only at aW);obtain⟨bo,aT⟩:=yn aW;have dC:=eq_true bo;have dD:=decide_eq_true bo
    try have ee:(9223372036854775807<((bn ++ bh) ++ bp).size+bL.size)=False:=eq_false (Nat.not_lt.2 bo)
    try have e4:(9223372036854775807<bn.size+bh.size+bp.size+bL.size)=False:=eq_false (by have h_:=bo;simp only [ByteArray.size_append,ByteArray.size_extract,decide_eq_true_eq,decide_eq_false_iff_not] at *;omega)
    try(have ef:=ee;simp only [ByteArray.size_append] at ef)
    replace aT:=am aT;clear ae ak av a7 bd aK a1 aW;obtain⟨bW,bX,bY,bZ⟩:=cf2 aa
    have cZ:0≤(aH:Int):=dga
    have dd:aH<(U.length:Int):=dga
    obtain⟨d5,eH,cR,cS,cT⟩:=at_T76 bQ.out aH cZ dd;cases eH;replace cR:=(hbc HB cR).trans cR;replace cS:=(hbc HB cS).trans cS;replace cT:=(hbc HB cT).trans cT;replace cZ:=eq_true cZ;replace dd:=eq_true dd
    try go_wp2_with (first|((with_reducible refine gate_dst (N:=6) rfl ?_);refine bx (N:=6) (cs:=#[.int .i64 0,.int .i64 0,.string (⟨#[]⟩:ByteArray)]) (t:=76) ?_;intro bJ hg bT hbox hb;have aC:=am hbox;have b0:=gA hg HB;replace HB:=De1 HB aJ hb;have dw:=nA hg aa;have d1:=mA hg aa;replace aa:=bA aa hb;clear hb hbox hg;have fi:=d1.out;have fl:=dw.out;obtain⟨fJ,fK,fL,fV,fW,fX⟩:=cf3 aC))
    generalize hw:(((bT.setCell ⟨bJ,0,none⟩ (.int .i64 ((rd_T76 U aH).f0))).setCell ⟨bJ,1,none⟩ (.int .i64 ((rd_T76 U aH).f1))).setCell ⟨bJ,2,none⟩ (.string ((rd_T76 U aH).f2)))=bw;replace hw:=hw.symm
    replace aa:Hc bw cd #[.slice (some d5) U.length ay,.slice a8 q.length aA] 52:=⟨wAp1 aa dw⟩
    replace aC:Hc bw bJ #[.int .i64 ((rd_T76 U aH).f0),.int .i64 ((rd_T76 U aH).f1),.string ((rd_T76 U aH).f2)] 76:=⟨wAp0 aC⟩
    replace HB:Hb w bw:=⟨wAe2 HB aJ b0⟩
    clear hw;replace aa:=dA aa;replace aC:=dA aC;replace HB:=bdr HB;refine st_ 14 (fun w'=>w'.cell? ⟨bJ,0,none⟩=some (.int .i64 ((rd_T76 U aH).f0))∧w'.cell? ⟨bJ,1,none⟩=some (.int .i64 ((rd_T76 U aH).f1))∧w'.cell? ⟨bJ,2,none⟩=some (.string ((rd_T76 U aH).f2))) [] spec_KeepText.tab8 spec_KeepText.bits8 ⟨bc aC 0,bc aC 1,bc aC 2⟩ (fun B j D=>?_);generalize bw.drew=bU at aa aC HB B ⊢;refine pu_ 0 28 j ?_;refine pu_ 1 29 j ?_;refine pu_ 5 33 j ?_;refine pu_ 9 37 j ?_;refine ta_ 2 30 j D B ?_;refine ta_ 6 34 j D B ?_;refine ta_ 10 38 j D B ?_;refine on_ 3 (some 31) j (fun K hK=>?_);refine goes_ Tryz.func37 gk_ rfl #[.int .i64 ((rd_T76 U aH).f0)] (by rfl) rfl rfl gm_ ?_;refine(spec_l01Var.calls k1 ((rd_T76 U aH).f0) bh _ dO.out).mono ?_;rintro e cn ⟨rfl,hb⟩;refine⟨_,rfl, ?_⟩;replace aa:=bA aa hb;replace aC:=bA aC hb;replace HB:=De2 HB aJ b0 hb;refine hK.out _ _ ⟨bc aC 0,bc aC 1,bc aC 2⟩ (fun B=>nm_ ?_);clear hK K;refine pu_ 4 32 j ?_;refine on_ 7 (some 35) j (fun K hK=>?_);refine goes_ Tryz.func37 gk_ rfl #[.int .i64 ((rd_T76 U aH).f1)] (by rfl) rfl rfl gm_ ?_;refine(spec_l01Var.calls k1 ((rd_T76 U aH).f1) bp _ dP.out).mono ?_;rintro e eQ ⟨rfl,hb⟩;refine⟨_,rfl, ?_⟩;replace aa:=bA aa hb;replace aC:=bA aC hb;replace HB:=De2 HB aJ b0 hb;refine hK.out _ _ ⟨bc aC 0,bc aC 1,bc aC 2⟩ (fun B=>nm_ ?_);clear hK K;refine pu_ 8 36 j ?_;refine on_ 11 (some 39) j (fun K hK=>?_);refine goes_ Tryz.func38 gk_ rfl #[.string ((rd_T76 U aH).f2)] (by rfl) rfl rfl gm_ ?_;refine(spec_l16Short.calls k1 ((rd_T76 U aH).f2) bL _ bN.out).mono ?_;rintro e bz ⟨rfl,hb⟩;refine⟨_,rfl, ?_⟩;replace aa:=bA aa hb;replace aC:=bA aC hb;replace HB:=De2 HB aJ b0 hb;refine hK.out _ _ ⟨bc aC 0,bc aC 1,bc aC 2⟩ (fun B=>nm_ ?_);clear hK K;refine pu_ 12 40 j ?_;refine pu_ 13 4 j ?_;refine done_ (done_of j.out gk_) ?_
    try go_wp2
    go_roundg k1
    case measure=>have:=ba.out;omega
    case rel=>exact⟨(((bn ++ bh) ++ bp) ++ bL),(wrap64 (aH+1)),be_,be_,aT,⟨(by have:=ba.out;omega)⟩,Cb aa,Ce2 HB aJ b0⟩
   obtain⟨bS,dR,a2⟩:=bsi ak;(try dsimp only at a2);obtain⟨cr,aN⟩:=yn a2;have em:=eq_true cr;have en:=decide_eq_true cr
   try have dE:(9223372036854775807<bn.size+bS.size)=False:=eq_false (Nat.not_lt.2 cr)
   try(have eo:=dE;simp only [ByteArray.size_append] at eo)
   replace aN:=am aN;clear ae ak a2;obtain⟨bW,bX,bY,bZ⟩:=cf2 aa
   go_wp2_with (first|((with_reducible refine gate_callee (f:=37) rfl ?_);refine goesL_ (some 45) rfl rfl Tryz.func37 gk_ rfl #[.int .i64 (q.length:Int)] rfl gm_ ?_;refine(spec_l01Var.calls k1 (q.length:Int) bS _ dR.out).mono ?_;rintro e eS ⟨rfl,hb⟩;refine⟨_,rfl, ?_⟩;replace aa:=bA aa hb;replace HB:=De1 HB aJ hb))
   go_loopg [4,7] k1 (fun kq v4 v7 w'=>∃ (bD:ByteArray) (aI:Int),v4=.string bD∧v7=.int .i64 aI∧Aside0 (spec_KeepText.l1 kq bD aI U q=some (r1,r2))∧Aside0 (kq≤k1)∧Aside0 (w'.heap[cd]?=some (.cells #[(.slice az U.length ay),(.slice a8 q.length aA)] 52 (0,0)))∧Aside0 (Below w.heap.size w w'))
   case atStart=>exact⟨(bn ++ bS),0,be_,be_,aN,⟨Nat.le_refl _⟩,Cb aa,Ce1 HB aJ⟩
   case round=>
    clear aN
    try clear c3
    try clear c10
    try clear dz
    try clear cr
    try clear em
    try clear en
    try clear dE
    obtain⟨bD,aI,rfl,rfl,aE,du,aa,HB⟩:=hrel
    cases gk with
    |zero=>exact absurd aE.out (by simp [spec_KeepText.l1])
    |succ k2=>?_
    replace aE:=aE.out;simp only [spec_KeepText.l1] at aE
    obtain⟨et,aU⟩|⟨et,aU⟩:=sd aE
    ·obtain⟨e5,a3⟩:=yd aU;obtain⟨bi,dS,bk⟩:=bsi a3;(try dsimp only at bk);obtain⟨cJ,br⟩:=yn bk;have e6:=eq_true cJ;have e7:=decide_eq_true cJ
     try have ew:(9223372036854775807<bD.size+bi.size)=False:=eq_false (Nat.not_lt.2 cJ)
     try(have ex:=ew;simp only [ByteArray.size_append] at ex)
     obtain⟨bq,dT,cG⟩:=bsi br;(try dsimp only at cG);obtain⟨cu,dv⟩:=yn cG;have e8:=eq_true cu;have e9:=decide_eq_true cu
     try have ey:(9223372036854775807<(bD ++ bi).size+bq.size)=False:=eq_false (Nat.not_lt.2 cu)
     try have fa:(9223372036854775807<bD.size+bi.size+bq.size)=False:=eq_false (by have h_:=cu;simp only [ByteArray.size_append,ByteArray.size_extract,decide_eq_true_eq,decide_eq_false_iff_not] at *;omega)
     try(have ez:=ey;simp only [ByteArray.size_append] at ez)
     obtain⟨bM,dU,cH⟩:=bsi dv;(try dsimp only at cH);obtain⟨cv,cI⟩:=yn cH;have fb:=eq_true cv;have fc:=decide_eq_true cv
     try have eB:(9223372036854775807<((bD ++ bi) ++ bq).size+bM.size)=False:=eq_false (Nat.not_lt.2 cv)
     try have fd:(9223372036854775807<bD.size+bi.size+bq.size+bM.size)=False:=eq_false (by have h_:=cv;simp only [ByteArray.size_append,ByteArray.size_extract,decide_eq_true_eq,decide_eq_false_iff_not] at *;omega)
     try(have eC:=eB;simp only [ByteArray.size_append] at eC)
     replace cI:=am cI;clear aE aU a3 bk br cG dv cH;obtain⟨bW,bX,bY,bZ⟩:=cf2 aa
     have da:0≤(aI:Int):=dga
     have de:aI<(q.length:Int):=dga
     obtain⟨d6,eI,cU,cV,cW⟩:=at_T79 bE.out aI da de;cases eI;replace cU:=(hbc HB cU).trans cU;replace cV:=(hbc HB cV).trans cV;replace cW:=(hbc HB cW).trans cW;replace da:=eq_true da;replace de:=eq_true de
     try go_wp2_with (first|((with_reducible refine gate_dst (N:=8) rfl ?_);refine bx (N:=8) (cs:=#[.string (⟨#[]⟩:ByteArray),.string (⟨#[]⟩:ByteArray),.int .i64 0]) (t:=79) ?_;intro bK hg bV hbox hb;have aD:=am hbox;have b1:=gA hg HB;replace HB:=De1 HB aJ hb;have dx:=nA hg aa;have d2:=mA hg aa;replace aa:=bA aa hb;clear hb hbox hg;have fj:=d2.out;have fm:=dx.out;obtain⟨fM,fN,fO,fY,fZ,f0⟩:=cf3 aD))
     generalize hw:(((bV.setCell ⟨bK,0,none⟩ (.string ((rd_T79 q aI).f0))).setCell ⟨bK,1,none⟩ (.string ((rd_T79 q aI).f1))).setCell ⟨bK,2,none⟩ (.int .i64 ((rd_T79 q aI).f2)))=cE;replace hw:=hw.symm
     replace aa:Hc cE cd #[.slice az U.length ay,.slice (some d6) q.length aA] 52:=⟨wAp1 aa dx⟩
     replace aD:Hc cE bK #[.string ((rd_T79 q aI).f0),.string ((rd_T79 q aI).f1),.int .i64 ((rd_T79 q aI).f2)] 79:=⟨wAp0 aD⟩
     replace HB:Hb w cE:=⟨wAe2 HB aJ b1⟩
     clear hw;replace aa:=dA aa;replace aD:=dA aD;replace HB:=bdr HB;refine st_ 14 (fun w'=>w'.cell? ⟨bK,0,none⟩=some (.string ((rd_T79 q aI).f0))∧w'.cell? ⟨bK,1,none⟩=some (.string ((rd_T79 q aI).f1))∧w'.cell? ⟨bK,2,none⟩=some (.int .i64 ((rd_T79 q aI).f2))) [] spec_KeepText.tab14 spec_KeepText.bits14 ⟨bc aD 0,bc aD 1,bc aD 2⟩ (fun B j D=>?_);generalize cE.drew=fw at aa aD HB B ⊢;refine pu_ 0 59 j ?_;refine pu_ 1 60 j ?_;refine pu_ 5 64 j ?_;refine pu_ 9 68 j ?_;refine ta_ 2 61 j D B ?_;refine ta_ 6 65 j D B ?_;refine ta_ 10 69 j D B ?_;refine on_ 3 (some 62) j (fun K hK=>?_);refine goes_ Tryz.func38 gk_ rfl #[.string ((rd_T79 q aI).f0)] (by rfl) rfl rfl gm_ ?_;refine(spec_l16Short.calls k2 ((rd_T79 q aI).f0) bi _ dS.out).mono ?_;rintro e fx ⟨rfl,hb⟩;refine⟨_,rfl, ?_⟩;replace aa:=bA aa hb;replace aD:=bA aD hb;replace HB:=De2 HB aJ b1 hb;refine hK.out _ _ ⟨bc aD 0,bc aD 1,bc aD 2⟩ (fun B=>nm_ ?_);clear hK K;refine pu_ 4 63 j ?_;refine on_ 7 (some 66) j (fun K hK=>?_);refine goes_ Tryz.func38 gk_ rfl #[.string ((rd_T79 q aI).f1)] (by rfl) rfl rfl gm_ ?_;refine(spec_l16Short.calls k2 ((rd_T79 q aI).f1) bq _ dT.out).mono ?_;rintro e fy ⟨rfl,hb⟩;refine⟨_,rfl, ?_⟩;replace aa:=bA aa hb;replace aD:=bA aD hb;replace HB:=De2 HB aJ b1 hb;refine hK.out _ _ ⟨bc aD 0,bc aD 1,bc aD 2⟩ (fun B=>nm_ ?_);clear hK K;refine pu_ 8 67 j ?_;refine on_ 11 (some 70) j (fun K hK=>?_);refine goes_ Tryz.func37 gk_ rfl #[.int .i64 ((rd_T79 q aI).f2)] (by rfl) rfl rfl gm_ ?_;refine(spec_l01Var.calls k2 ((rd_T79 q aI).f2) bM _ dU.out).mono ?_;rintro e fz ⟨rfl,hb⟩;refine⟨_,rfl, ?_⟩;replace aa:=bA aa hb;replace aD:=bA aD hb;replace HB:=De2 HB aJ b1 hb;refine hK.out _ _ ⟨bc aD 0,bc aD 1,bc aD 2⟩ (fun B=>nm_ ?_);clear hK K;refine pu_ 12 71 j ?_;refine pu_ 13 4 j ?_;refine done_ (done_of j.out gk_) ?_
     try go_wp2
     go_roundg k2
     case measure=>have:=ba.out;have:=du.out;omega
     case rel=>exact⟨(((bD ++ bi) ++ bq) ++ bM),(wrap64 (aI+1)),be_,be_,cI,⟨(by have:=ba.out;have:=du.out;omega)⟩,Cb aa,Ce2 HB aJ b1⟩
    obtain⟨rfl,rfl⟩:=s2 aU;clear aU aE;obtain⟨bW,bX,bY,bZ⟩:=cf2 aa
    go_wp2
    go_ret2
    exact⟨B2x8_,(Ae1 HB aJ)⟩
 obtain⟨rfl,rfl⟩:=s2 ax
 clear ax al ag
 go_enter Tryz.func16,Tryz.ntmps16
 go_wp2_with (first|((with_reducible refine gate_dst (N:=1) rfl ?_);refine bx (N:=1) (cs:=#[.slice az U.length ay,.slice a8 q.length aA]) (t:=52) ?_;intro cd hg fA hbox hb;have aa:=am hbox;have aJ:=gA hg HB;replace HB:=hA HB hb;clear hb hbox hg;obtain⟨bW,bX,bY,bZ⟩:=cf2 aa)|((with_reducible refine gate_callee (f:=36) rfl ?_);refine goesL_ (some 10) rfl rfl Tryz.func36 gk_ rfl #[.agg #[.slice az U.length ay,.slice a8 q.length aA]] rfl gm_ ?_;refine(spec_KeepOk.calls k _ _ U _ _ q false _ (tc (Kd.C_below bQ.out HB.out)) b2.out (tc (Kd.C_below bE.out HB.out)) cF.out A2.out).mono ?_;rintro e fB ⟨rfl,hb⟩;refine⟨_,rfl, ?_⟩;replace aa:=bA aa hb;replace HB:=De1 HB aJ hb))
 go_ret2
 exact⟨B2x8_,(Ae1 HB aJ)⟩
end
end Go.Proofs.YtofmbomonkbeaaaGreatDoor.QFnSnapsCut
