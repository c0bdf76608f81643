/- Functions that a law reaches, as functions of Lean, and the walks that show that the calls come to their answers. No condition. -/
import Derived.Test.YtofmbomonkbeaaaGreatDoorQFnSnapsCutx0
import Derived.Test.YtofmbomonkbeaaaGreatDoorQFnSnapsCutx1
import Derived.Test.YtofmbomonkbeaaaGreatDoorQFnSnapsCutx6
import Derived.Test.YtofmbomonkbeaaaGreatDoorQFnSnapsCutx7
import Derived.Test.YtofmbomonkbeaaaGreatDoorVFnSnapsCuthort2
import Derived.Test.YtofmbomonkbeaaaGreatDoorVFnSnapsCuthort
import Derived.Test.YtofmbomonkbeaaaGreatDoorVFnSnapsCuthort8
import Derived.Test.YtofmbomonkbeaaaGreatDoorLaid
import Derived.Test.YtofmbomonkbeaaaGreatDoorVFnSnapsCuthort3
namespace Go.Proofs.YtofmbomonkbeaaaGreatDoor.QFnSnapsCut
open Go.RowKit Go.Proofs.YtofmbomonkbeaaaGreatDoorW.PrintWords Go.Proofs.YtofmbomonkbeaaaGreatDoorW.PrintLast Go.Proofs.YtofmbomonkbeaaaGreatDoorW.PrintMore Go.Proofs.YtofmbomonkbeaaaGreatDoor.Short
set_option linter.unusedVariables false
set_option linter.unusedSimpArgs false
set_option maxHeartbeats 8000000
set_option maxRecDepth 100000
variable {p:Prop}
theorem D8x0_ (h:p:=by exact⟨Cp1 z ba,Cp1 B aJ,Cp1 M bh,Cp1 Z aD,Cp0 ai,Ce5 HB ap ar au aE aT⟩):p:=h
theorem D8x1_ (h:p:=by exact⟨⟨gl_⟩,Cb z,Cb B,Cb M,Ce3 HB ap ar au⟩):p:=h
theorem D8x2_ (h:p:=by exact⟨bc z 0,bc B 0,bc B 1,bc B 2,bc B 3,bc Z 0,bc Z 1,bc Z 2⟩):p:=h
section
attribute [local go_sem] max2_int min2_int max_two min_two max_three min_three max_four min_four
def impl_placeOf.l0:Nat→List S59→ByteArray→Int→Option (Int)
 |0,_,_,_=>none
 |k+1,l,nm,j=>if j<(l.length:Int) then (if 0≤j then (if ((rd_T59 l j).f0.toList == nm.toList)=true then (some j) else (impl_placeOf.l0 k l nm (wrap64 (j+1)))) else (none)) else (some (-1))
def impl_placeOf.f (k:Nat) (q:List (S59)) (a1:ByteArray):Option (Int):=impl_placeOf.l0 k q a1 0
theorem impl_placeOf.asked (g:Nat) (nm x0 x1:ByteArray) (x2:Int) (w:World) (hb:w.heap[g]?=some (.cells #[.string nm] 9 (0,0))) :
  Calls Tryz.prog 89 (#[.agg #[.string x0,.string x1,.int .i64 x2]] ++ #[.pointer (some ⟨g,0,none⟩)]) w fun e w'=>e=.returned (.bool (x0.toList == nm.toList))∧Below w.heap.size w w':=by
 have hu59:=Tryz.underlying59
 have BK:=am hb
 clear hb
 go_enter Tryz.func89,Tryz.ntmps89
 go_wp2_with (first|((with_reducible refine gate_dst (N:=2) rfl ?_);refine bx (N:=2) (cs:=#[.string x0,.string x1,.int .i64 x2]) (t:=59) ?_;intro gb hg w2 hbox hb;replace BK:=am (blk_below BK.out hb);have BX:=am hbox;have HB:=am hb;clear hb hbox hg;have hc0:=bc BX 0;have hd0:=bc BK 0))
 go_ret
 exact⟨rfl,HB.out⟩
theorem impl_placeOf.index (k:Nat) (A0:Option Addr) (c0:Nat) (l0:List S59) (g:Nat) (nm:ByteArray) (r:Int) (w:World) (hr0:Kd.C k59 w A0 l0.length l0) (hc0:l0.length≤c0) (hb:w.heap[g]?=some (.cells #[.string nm] 9 (0,0))) (h:impl_placeOf.f k l0 nm=some r) :
  Calls Tryz.prog 88 #[.slice A0 l0.length c0,.func (.func 89) #[] #[.pointer (some ⟨g,0,none⟩)]] w fun e w'=>e=.returned (.int .i64 r)∧Below w.heap.size w w':=by
 have hu59:=Tryz.underlying59
 have HR0:=am hr0
 have HC0:=am hc0
 have BK:=am hb
 clear hr0 hc0 hb
 have H':=am (show impl_placeOf.l0 k l0 nm 0=some r from h)
 clear h
 go_enter Tryz.func88,Tryz.ntmps88
 go_wp2
 go_loopg [8] k (fun kq v8 w'=>∃ (j:Int),v8=.int .i64 j∧Aside0 (impl_placeOf.l0 kq l0 nm j=some r)∧Aside0 (kq≤k)∧Aside0 (Below w.heap.size w w'))
 case atStart=>exact⟨0,be_,H',⟨Nat.le_refl _⟩,⟨Below.refl _ _⟩⟩
 case round=>
  clear H';obtain⟨j,rfl,HA,HK1,HB⟩:=hrel
  cases gk with
  |zero=>exact absurd HA.out (by simp [impl_placeOf.l0])
  |succ k1=>
   have H:=HA.out;clear HA;simp only [impl_placeOf.l0] at H
   by_cases c1:j<(l0.length:Int)
   ·rw [if_pos c1] at H
    by_cases c2:0≤j
    ·rw [if_pos c2] at H;obtain⟨ad,e1,hx0,hx1,hx2⟩:=at_T59 (Kd.C_below HR0.out HB.out) j c2 c1;subst e1;have c1b:=eq_true c1;have c2b:=eq_true c2;clear c1 c2
     by_cases c3:((rd_T59 l0 j).f0.toList == nm.toList)=true
     ·rw [if_pos c3] at H;obtain rfl:=Option.some.inj H;have hq:=am c3;clear c3
      go_wp2_with (go_at_call 89;refine(impl_placeOf.asked g nm _ _ _ _ (blk_below BK.out HB.out)).mono ?_;rintro e w2 ⟨rfl,hb⟩;rw [hq.out];replace HB:=am (below_step HB.out hb);clear hb)
      go_ret;exact⟨rfl,HB.out⟩
     ·rw [if_neg c3] at H;have hq:=am (Bool.eq_false_iff.mpr c3);clear c3
      have H':=am H
      clear H
      go_wp2_with (go_at_call 89;refine(impl_placeOf.asked g nm _ _ _ _ (blk_below BK.out HB.out)).mono ?_;rintro e w2 ⟨rfl,hb⟩;rw [hq.out];replace HB:=am (below_step HB.out hb);clear hb)
      go_roundg k1
      case measure=>have:=HK1.out;omega
      case rel=>exact⟨wrap64 (j+1),be_,H',⟨(by have:=HK1.out;omega)⟩,⟨HB.out⟩⟩
    ·rw [if_neg c2] at H;exact absurd H (by simp)
   ·rw [if_neg c1] at H;obtain rfl:=Option.some.inj H;have c1b:=eq_false c1;clear c1
    go_wp2
    go_ret;exact⟨rfl,HB.out⟩
theorem box_behind (w:World) (o o2:Obj):((w.alloc o).alloc o2).heap[w.heap.size+1]?=some o2:=by
 have h:=blk_new (w.alloc o) o2
 have e:(w.alloc o).heap.size=w.heap.size+1:=by first|exact Array.size_push _|(unfold World.alloc;exact Array.size_push _)|(unfold World.alloc;simp only [Array.size_push])
 rw [e] at h
 exact h
theorem impl_placeOf.calls (k:Nat) (J:Option Addr) (D:Nat) (q:List (S59)) (a1:ByteArray) (r:Int) (w:World) (be:Kd.C k59 w J q.length q) (bd:q.length≤D) (h:impl_placeOf.f k q a1=some r) :
  Calls Tryz.prog 61 #[.agg #[.slice J q.length D],.string a1] w fun e w'=>e=.returned (.int .i64 r)∧Below w.heap.size w w':=by
 have dG:=Tryz.underlying26
 have eG:=am be
 have eE:=am bd
 have HFF:=am h
 have HB:=am (Below.refl w.heap.size w)
 clear be bd h
 go_enter Tryz.func61,Tryz.ntmps61
 go_wp2_with (go_at_call 88;refine(impl_placeOf.index k J D q (w.heap.size+1) a1 r _ ?s1 ?s2 ?s3 HFF.out).mono ?_;(case s1=>exact Kd.C_alloc (Kd.C_alloc eG.out _) _);(case s2=>exact eE.out);(case s3=>exact box_behind w _ _);rintro e w2 ⟨rfl,hb⟩;replace HB:=am (below_step (below_alloc (below_alloc HB.out _) _) hb);clear hb)
 go_ret
 exact⟨rfl,HB.out⟩

def impl_hasFile.f (k:Nat) (q:List (S59)) (a1:ByteArray):Option (Bool):=(impl_placeOf.f k q a1).bind fun e6=>(some (decide (e6≥0)))
theorem impl_hasFile.calls (k:Nat) (J:Option Addr) (D:Nat) (q:List (S59)) (a1:ByteArray) (r:Bool) (w:World) (be:Kd.C k59 w J q.length q) (bd:q.length≤D) (h:impl_hasFile.f k q a1=some r) :
  Calls Tryz.prog 27 #[.agg #[.slice J q.length D],.string a1] w fun e w'=>e=.returned (.bool r)∧Below w.heap.size w w':=by
 have dG:=Tryz.underlying26
 have aN:=am be
 have a6:=am bd
 clear be bd
 have HB:=am (Below.refl w.heap.size w)
 have af:=h
 clear h
 unfold impl_hasFile.f at af
 obtain⟨e6,A3,aa⟩:=bsi af
 (try dsimp only at aa)
 obtain rfl:=Option.some.inj aa
 clear aa af
 go_enter Tryz.func27,Tryz.ntmps27
 go_wp2_with (first|((with_reducible refine gate_dst (N:=2) rfl ?_);refine bx (N:=2) (cs:=#[.slice J q.length D]) (t:=26) ?_;intro h9 hg w4 hbox hb;have d6:=am hbox;have fm:=gA hg HB;replace HB:=hA HB hb;clear hb hbox hg;have oq:w4.cell? ⟨h9,0,none⟩=some (.slice J q.length D):=bc d6 0;have oR:=blk_frozen d6.out 0)|((with_reducible refine gate_callee (f:=61) rfl ?_);refine goesL_ (some 7) rfl rfl Tryz.func61 gk_ rfl #[.agg #[.slice J q.length D],.string a1] rfl gm_ ?_;(with_reducible refine(impl_placeOf.calls k _ _ q a1 e6 _ ?z1 ?z2 A3.out).mono ?_);(case z1=>repeat (first|exact(Kd.C_below aN.out HB.out)|(with_reducible refine Kd.C_alloc ?_ _)|(with_reducible refine Kd.C_drewN ?_ _)|(with_reducible refine Kd.C_drew ?_)));(case z2=>exact a6.out);rintro e w6 ⟨rfl,hb⟩;refine⟨_,rfl, ?_⟩;replace d6:=bA d6 hb;replace HB:=De1 HB fm hb))
 go_ret
 exact⟨(by first|rfl|(simp [errW_none,errW_some] <;> rfl)|(simp [*,errW_none,errW_some] <;> rfl)),(Ae1 HB fm)⟩

def impl_Decimal.f (U:Int):Option ByteArray:=if 0≤U∧U<100 then some (⟨(Lib.decDigits U.toNat).toArray⟩:ByteArray) else none
theorem impl_Decimal.calls (U:Int) (r:ByteArray) (w:World) (h:impl_Decimal.f U=some r) :
  Calls Tryz.prog 62 #[.int .i64 U] w fun e w'=>e=.returned (.string r)∧∃ nd,w'=w.drewN nd:=by
 unfold impl_Decimal.f at h
 by_cases hc:0≤U∧U<100
 rotate_left
 ·rw [if_neg hc] at h;cases h
 rw [if_pos hc] at h
 obtain⟨i,rfl⟩:∃ i:Nat,U=(i:Int):=⟨U.toNat,(by omega)⟩
 obtain rfl:=Option.some.inj h
 go_enter Tryz.func62,Tryz.ntmps62
 go_wp2_with (go_at_call 90;refine(Laid.itoa_small i (by omega) _).mono ?_;rintro e w' ⟨rfl,rfl⟩)
 go_ret
 exact⟨rfl,0,rfl⟩

def impl_SnapName.f (U:Int):Option (ByteArray):=(impl_isIndex.f U).bind fun f1=>(if f1=true then ((impl_Decimal.f U).bind fun dU=>(if 1+dU.size≤9223372036854775807 then (some ((⟨#[115]⟩:ByteArray) ++ dU)) else (none))) else (some (⟨#[]⟩:ByteArray)))
theorem impl_SnapName.calls (U:Int) (r:ByteArray) (w:World) (h:impl_SnapName.f U=some r) :
  Calls Tryz.prog 28 #[.int .i64 U] w fun e w'=>e=.returned (.string r)∧Drawn0 w w':=by
 have af:=h
 clear h
 unfold impl_SnapName.f at af
 obtain⟨f1,A2,aa⟩:=bsi af
 (try dsimp only at aa)
 obtain⟨rfl,Y⟩|⟨rfl,Y⟩:=sb aa
 ·obtain⟨dU,A4,ak⟩:=bsi Y;(try dsimp only at ak);obtain⟨c5,al⟩:=yn ak;have fJ:=eq_true c5;have hI:=decide_eq_true c5
  try have hJ:(9223372036854775807<1+dU.size)=False:=eq_false (Nat.not_lt.2 c5)
  try(have hL:=hJ;simp only [ByteArray.size_append] at hL)
  obtain rfl:=Option.some.inj al;clear al af aa Y ak;go_enter Tryz.func28,Tryz.ntmps28
  go_wp2_with (first|((with_reducible refine gate_callee (f:=55) rfl ?_);refine goesL_ (some 4) rfl rfl Tryz.func55 gk_ rfl #[.int .i64 U] rfl gm_ ?_;refine(impl_isIndex.calls U true _ A2.out).mono ?_;rintro e w' ⟨rfl,⟨nd,rfl⟩⟩;refine⟨_,rfl, ?_⟩)|((with_reducible refine gate_callee (f:=62) rfl ?_);refine goesL_ (some 7) rfl rfl Tryz.func62 gk_ rfl #[.int .i64 U] rfl gm_ ?_;refine(impl_Decimal.calls U dU _ A4.out).mono ?_;rintro e w' ⟨rfl,⟨nd,rfl⟩⟩;refine⟨_,rfl, ?_⟩))
  go_ret;exact⟨gr_,gd_⟩
 ·obtain rfl:=Option.some.inj Y;clear Y af aa;go_enter Tryz.func28,Tryz.ntmps28
  go_wp2_with (first|((with_reducible refine gate_callee (f:=55) rfl ?_);refine goesL_ (some 4) rfl rfl Tryz.func55 gk_ rfl #[.int .i64 U] rfl gm_ ?_;refine(impl_isIndex.calls U false _ A2.out).mono ?_;rintro e w' ⟨rfl,⟨nd,rfl⟩⟩;refine⟨_,rfl, ?_⟩))
  go_ret;exact⟨gr_,gd_⟩
-- NOT PRINTED: function 116 (strconv_ParseUint)

-- NOT PRINTED: function 107 (strconv_ParseInt)

-- NOT PRINTED: function 103 (strconv_Atoi_103)

-- NOT PRINTED: function 117 (stringslite_Clone)

-- NOT PRINTED: function 108 (strconv_syntaxError)

-- NOT PRINTED: function 109 (strconv_rangeError)

-- NOT PRINTED: function 118 (errors_New)

-- NOT PRINTED: function 110 (strconv_baseError)

-- NOT PRINTED: function 111 (strconv_bitSizeError)

-- NOT PRINTED: function 104 (strconv_toError)

-- NOT PRINTED: function 91 (strconv_Atoi_91)

theorem B29x5_ (h:p:=by repeat (first|(with_reducible first|exact a7.out|apply IsS73.alloc|apply IsS73.drewN|apply IsS73.drew|apply IsS73.set_1|apply IsS73.set_2)|exact a7.out)):p:=h
theorem B29x9_ (h:p:=by first|rfl|(simp [errW_none,errW_some] <;> rfl)|(simp [*,errW_none,errW_some] <;> rfl)):p:=h
theorem B29x20_ (h:p:=by apply pw_below_drewN;exact bytes_below (Below.refl _ w) (Nat.le_refl _) 5 _):p:=h
theorem B29x21_ (h:p:=by exact(below_size (Ae2 HB aH aK))):p:=h
def impl_ReadDecimal.f (U:ByteArray):Option (Int × Bool):=match Lib.atoi U.data.toList with
 |none=>if U.size≤18 then some (0,false) else none
 |some n=>if U.size≤18∧0≤n∧n<100 then some (if (⟨(Lib.decDigits n.toNat).toArray⟩:ByteArray).toList=U.toList then (n,true) else (0,false)) else none
theorem impl_ReadDecimal.calls (U:ByteArray) (r1:Int) (r2:Bool) (w:World) (h:impl_ReadDecimal.f U=some (r1,r2)) (hv_:Laid.EV w) :
  Calls Tryz.prog 63 #[.string U] w fun e w'=>e=.returned (.tuple #[.int .i64 r1,.bool r2])∧Below w.heap.size w w':=by
 unfold impl_ReadDecimal.f at h
 cases ha:Lib.atoi U.data.toList with
 |none=>
  rw [ha] at h;dsimp only at h
  by_cases h1:U.size≤18
  rotate_left
  ·rw [if_neg h1] at h;cases h
  rw [if_pos h1] at h;obtain⟨rfl,rfl⟩:=Prod.mk.inj (Option.some.inj h);go_enter Tryz.func63,Tryz.ntmps63
  go_wp2_with (go_at_call 91;refine(Laid.atoi_err U h1 ha _ hv_).mono ?_;rintro e w1 ⟨⟨te,ae,rfl⟩,hb⟩)
  go_ret2
  exact⟨rfl,hb⟩
 |some n=>
  rw [ha] at h;dsimp only at h
  by_cases hc:U.size≤18∧0≤n∧n<100
  rotate_left
  ·rw [if_neg hc] at h;cases h
  rw [if_pos hc] at h;have h:=Option.some.inj h;obtain⟨h1,h2,h3⟩:=hc
  have hw:impl_within.f n 0 1000000000=some true:=by
   unfold impl_within.f
   rw [if_pos (by omega),decide_eq_true (by omega)]
  have hd:impl_Decimal.f n=some (⟨(Lib.decDigits n.toNat).toArray⟩:ByteArray):=if_pos ⟨h2,h3⟩
  by_cases he:(⟨(Lib.decDigits n.toNat).toArray⟩:ByteArray).toList=U.toList
  ·rw [if_pos he] at h;obtain⟨rfl,rfl⟩:=Prod.mk.inj h
   have hb:((⟨(Lib.decDigits n.toNat).toArray⟩:ByteArray).toList != U.toList)=false:=by simp [he]

   go_enter Tryz.func63,Tryz.ntmps63
   go_wp2_with (first|(go_at_call 91;refine(Laid.atoi_ok U n h1 ha _).mono ?_;rintro e w1 ⟨rfl,t,rfl⟩)|(go_at_call 60;refine(impl_within.calls n 0 1000000000 true _ hw).mono ?_;rintro e w1 ⟨rfl,nd,rfl⟩)|(go_at_call 62;refine(impl_Decimal.calls n _ _ hd).mono ?_;rintro e w1 ⟨rfl,io,rfl⟩))
   go_ret2
   exact⟨rfl,B29x20_⟩
  ·rw [if_neg he] at h;obtain⟨rfl,rfl⟩:=Prod.mk.inj h
   have hb:((⟨(Lib.decDigits n.toNat).toArray⟩:ByteArray).toList != U.toList)=true:=bne_iff_ne.mpr he
   have hq:(Lib.decDigits n.toNat == U.toList)=false:=by first|simpa using he|(simp at he;simp [he])
   go_enter Tryz.func63,Tryz.ntmps63
   go_wp2_with (first|(go_at_call 91;refine(Laid.atoi_ok U n h1 ha _).mono ?_;rintro e w1 ⟨rfl,t,rfl⟩)|(go_at_call 60;refine(impl_within.calls n 0 1000000000 true _ hw).mono ?_;rintro e w1 ⟨rfl,nd,rfl⟩)|(go_at_call 62;refine(impl_Decimal.calls n _ _ hd).mono ?_;rintro e w1 ⟨rfl,io,rfl⟩))
   go_ret2
   exact⟨rfl,B29x20_⟩

def impl_numberOf.f (U:ByteArray) (a1:ByteArray) (a2:Int):Option (Int):=if (U.size:Int)<2 then (none) else (if 0≤1 then (if 1≤(U.size:Int) then (if (U.extract 0 1).toList=a1.toList then ((impl_ReadDecimal.f (U.extract 1 U.size)).bind fun eM=>(if eM.2=true then (if eM.1>a2 then (none) else (some eM.1)) else (some (-1)))) else (none)) else (none)) else (none))
theorem impl_numberOf.calls (U:ByteArray) (a1:ByteArray) (a2:Int) (r:Int) (w:World) (h:impl_numberOf.f U a1 a2=some r) (hv_:Laid.EV w) :
  Calls Tryz.prog 33 #[.string U,.string a1,.int .i64 a2] w fun e w'=>e=.returned (.int .i64 r)∧Below w.heap.size w w':=by
 have HEV:=am hv_
 clear hv_
 have HB:=am (Below.refl w.heap.size w)
 have af:=h
 clear h
 unfold impl_numberOf.f at af
 obtain⟨c4,aa⟩|⟨c4,aa⟩:=sp af
 ·exact absurd aa (by simp)
 ·have fI:=decide_eq_false c4
  have jn:decide (U.size<2)=false:=decide_eq_false (by omega)
  clear c4;obtain⟨fJ,hI,Y⟩:=ye aa;obtain⟨fK,fL,ak⟩:=ye Y;obtain⟨c7,al⟩:=yn ak;obtain⟨ju,jv⟩:=yE c7;clear c7;have fN:=eq_true (dga:1≤(U.size:Int));obtain⟨⟨e7,nB⟩,A9,ax⟩:=bsi al;(try dsimp only at ax)
  obtain⟨rfl,aA⟩|⟨rfl,aA⟩:=sb ax
  ·obtain⟨bw,aZ⟩|⟨bw,aZ⟩:=sp aA
   ·exact absurd aZ (by simp)
   ·have cj:decide (a2<e7)=false:=decide_eq_false bw
    clear bw;obtain rfl:=Option.some.inj aZ;clear aZ af aa Y ak al ax aA;go_enter Tryz.func33,Tryz.ntmps33
    go_wp2_with (first|((with_reducible refine gate_callee (f:=63) rfl ?_);refine goesL_ (some 21) rfl rfl Tryz.func63 gk_ rfl #[.string (U.extract 1 U.size)] rfl gm_ ?_;refine(impl_ReadDecimal.calls (U.extract 1 U.size) e7 true _ A9.out (Laid.ev_ HEV.out (Ae0 HB))).mono ?_;rintro e iy ⟨rfl,hb⟩;refine⟨_,rfl, ?_⟩;replace HB:=hA HB hb))
    go_ret;exact⟨B29x9_,(Ae0 HB)⟩
  ·obtain rfl:=Option.some.inj aA;clear aA af aa Y ak al ax;go_enter Tryz.func33,Tryz.ntmps33
   go_wp2_with (first|((with_reducible refine gate_callee (f:=63) rfl ?_);refine goesL_ (some 21) rfl rfl Tryz.func63 gk_ rfl #[.string (U.extract 1 U.size)] rfl gm_ ?_;refine(impl_ReadDecimal.calls (U.extract 1 U.size) e7 false _ A9.out (Laid.ev_ HEV.out (Ae0 HB))).mono ?_;rintro e f8 ⟨rfl,hb⟩;refine⟨_,rfl, ?_⟩;replace HB:=hA HB hb))
   go_ret;exact⟨B29x9_,(Ae0 HB)⟩

def impl_isSnap.f (cw:ByteArray) (ef:ByteArray) (eg:Int):Option (Bool):=(impl_numberOf.f cw (⟨#[115]⟩:ByteArray) 1000000).bind fun e8=>(some (decide (e8≥0)))
theorem impl_isSnap.calls (cw:ByteArray) (ef:ByteArray) (eg:Int) (r:Bool) (w:World) (h:impl_isSnap.f cw ef eg=some r) (hv_:Laid.EV w) :
  Calls Tryz.prog 29 #[.agg #[.string cw,.string ef,.int .i64 eg]] w fun e w'=>e=.returned (.bool r)∧Below w.heap.size w w':=by
 have HEV:=am hv_
 clear hv_
 have eV:=Tryz.underlying59
 have HB:=am (Below.refl w.heap.size w)
 have af:=h
 clear h
 unfold impl_isSnap.f at af
 obtain⟨e8,A2,aa⟩:=bsi af
 (try dsimp only at aa)
 obtain rfl:=Option.some.inj aa
 clear aa af
 go_enter Tryz.func29,Tryz.ntmps29
 go_wp2_with (first|((with_reducible refine gate_dst (N:=1) rfl ?_);refine bx (N:=1) (cs:=#[.string cw,.string ef,.int .i64 eg]) (t:=59) ?_;intro jx hg w3 hbox hb;have eB:=am hbox;have eC:=gA hg HB;replace HB:=hA HB hb;clear hb hbox hg;obtain⟨ou,ov,ow,oT,oU,oV⟩:=cf3 eB)|((with_reducible refine gate_callee (f:=33) rfl ?_);refine goesL_ (some 5) rfl rfl Tryz.func33 gk_ rfl #[.string cw,.string (⟨#[115]⟩:ByteArray),.int .i64 1000000] rfl gm_ ?_;refine(impl_numberOf.calls cw (⟨#[115]⟩:ByteArray) 1000000 e8 _ A2.out (Laid.ev_ HEV.out (Ae1 HB eC))).mono ?_;rintro e w5 ⟨rfl,hb⟩;refine⟨_,rfl, ?_⟩;replace eB:=bA eB hb;replace HB:=De1 HB eC hb))
 go_ret
 exact⟨B29x9_,(Ae1 HB eC)⟩

mutual
def impl_SnapActs.j0:Nat→ByteArray→List (S65)→List (S59)→Int→Int→List Int→ByteArray→Option ((List (S65)) × Bool)
 |0,_,_,_,_,_,_,_=>none
 |k+1,x6,x8,d2,ew,fi,fj,fk=>impl_SnapActs.l0 k x6 x8 d2 ew fi fj fk
def impl_SnapActs.l0:Nat→ByteArray→List (S65)→List (S59)→Int→Int→List Int→ByteArray→Option ((List (S65)) × Bool)
 |0,_,_,_,_,_,_,_=>none
 |k+1,x6,x8,d2,ew,fi,fj,fk=>if x6.toList=([]:List UInt8) then ((impl_SnapName.f ew).bind fun bR=>((some (([(⟨2,(⟨#[115,43]⟩:ByteArray),(⟨#[]⟩:ByteArray),(⟨#[]⟩:ByteArray)⟩:S65),(⟨3,(⟨#[115,43]⟩:ByteArray),(⟨#[]⟩:ByteArray),bR⟩:S65)]:List (S65)):List (S65))).bind fun dl=>(if x8.length+dl.length<2513169434916 then (impl_SnapActs.l1 k (x8 ++ dl) bR d2 (d2.length:Int) 0) else (none)))) else (if 0≤(mn 60 (x6.size:Int)) then (if (mn 60 (x6.size:Int))≤(x6.size:Int) then (if x8.length<2513169434916 then (impl_SnapActs.l0 k (x6.extract ((mn 60 (x6.size:Int)):Int).toNat x6.size) (x8 ++ [(⟨1,(⟨#[115,43]⟩:ByteArray),x6.extract 0 ((mn 60 (x6.size:Int)):Int).toNat,(⟨#[]⟩:ByteArray)⟩:S65)]) d2 ew fi fj fk) else (none)) else (none)) else (none))
def impl_SnapActs.l1:Nat→List (S65)→ByteArray→List (S59)→Int→Int→Option ((List (S65)) × Bool)
 |0,_,_,_,_,_=>none
 |k+1,x8,gi,cJ,gj,cd=>if cd<gj then (if 0≤cd then (if cd<(cJ.length:Int) then ((impl_isSnap.f ((rd_T59 cJ cd).f0) ((rd_T59 cJ cd).f1) ((rd_T59 cJ cd).f2)).bind fun fc=>(if fc=true then (if ((rd_T59 cJ cd).f0).toList=gi.toList then (none) else (if x8.length<2513169434916 then (impl_SnapActs.l1 k (x8 ++ [(⟨4,(rd_T59 cJ cd).f0,(⟨#[]⟩:ByteArray),(⟨#[]⟩:ByteArray)⟩:S65)]) gi cJ gj (wrap64 (cd+1))) else (none))) else (none))) else (none)) else (none)) else (some (x8,true))
end
def impl_SnapActs.f (k:Nat) (q:List (S59)) (aj:Int) (ac:Int) (a4:List Int) (ag:ByteArray):Option ((List (S65)) × Bool):=(impl_SnapText.f k aj ac a4 ag).bind fun eN=>((impl_DiskOk.f k q).bind fun fa=>(if fa=true then (if eN.2=true then ((some (([]:List (S65)):List (S65))).bind fun cP=>((impl_hasFile.f k q (⟨#[115,43]⟩:ByteArray)).bind fun fb=>(if fb=true then (if cP.length<2513169434916 then (impl_SnapActs.j0 k eN.1 (cP ++ [(⟨4,(⟨#[115,43]⟩:ByteArray),(⟨#[]⟩:ByteArray),(⟨#[]⟩:ByteArray)⟩:S65)]) q aj ac a4 ag) else (none)) else (impl_SnapActs.j0 k eN.1 cP q aj ac a4 ag)))) else (none)) else (none)))
theorem impl_SnapActs.calls (k:Nat) (J:Option Addr) (D:Nat) (q:List (S59)) (aj:Int) (ac:Int) (cf:Option Addr) (ck:Nat) (a4:List Int) (ag:ByteArray) (r1:List (S65)) (r2:Bool) (w:World) (be:Kd.C k59 w J q.length q) (bd:q.length≤D) (fX:Kd.C (Kd.int .i64) w cf a4.length a4) (fV:a4.length≤ck) (h:impl_SnapActs.f k q aj ac a4 ag=some (r1,r2)) (hv_:Laid.EV w) :
  Calls Tryz.prog 7 #[.agg #[.slice J q.length D],.agg #[.int .i64 aj,.int .i64 ac,.slice cf a4.length ck,.string ag]] w fun e w'=>∃ bS:Value,e=.returned (.tuple #[bS,.bool r2])∧Kd.R k65 65 w' w.heap.size (fun _=>True) bS r1∧Below w.heap.size w w':=by
 have HEV:=am hv_
 clear hv_
 have dG:=Tryz.underlying26
 have nz:=Tryz.underlying29
 have il:=Tryz.underlying65
 have eV:=Tryz.underlying59
 have aN:=am be
 have a6:=am bd
 clear be bd
 have g0:=am fX
 have gQ:=am fV
 clear fX fV
 have HB:=am (Below.refl w.heap.size w)
 have af:=h
 clear h
 unfold impl_SnapActs.f at af
 obtain⟨⟨e9,ip⟩,A3,aa⟩:=bsi af
 (try dsimp only at aa)
 obtain⟨fa,A4,Y⟩:=bsi aa
 (try dsimp only at Y)
 by_cases c5:fa=true
 rotate_left
 ·replace c5:=Bool.eq_false_iff.mpr c5;subst c5;rw [if_neg (show ¬ (false=true) by decide)] at Y;exact absurd Y (by simp)
 subst c5
 rw [if_pos rfl] at Y
 by_cases c6:ip=true
 rotate_left
 ·replace c6:=Bool.eq_false_iff.mpr c6;subst c6;rw [if_neg (show ¬ (false=true) by decide)] at Y;exact absurd Y (by simp)
 subst c6
 rw [if_pos rfl] at Y
 obtain⟨cP,dK⟩:∃ y_:List (S65),y_=(([]:List (S65))):=⟨_,rfl⟩
 (first|with_reducible replace Y:=hq dK Y|rw [←dK] at Y|simp only [←dK] at Y)
 have fy:=am dK
 clear dK
 obtain⟨fb,A7,ak⟩:=bsi Y
 (try dsimp only at ak)
 replace ak:=am ak
 clear af aa Y
 go_enter Tryz.func7,Tryz.ntmps7
 go_upto_if 27 with (first|((with_reducible refine gate_dst (N:=2) rfl ?_);refine bx (N:=2) (cs:=#[.slice J q.length D]) (t:=26) ?_;intro cx hg w9 hbox hb;have ah:=am hbox;have aH:=gA hg HB;replace HB:=hA HB hb;clear hb hbox hg)|((with_reducible refine gate_dst (N:=3) rfl ?_);refine bx (N:=3) (cs:=#[.int .i64 aj,.int .i64 ac,.slice cf a4.length ck,.string ag]) (t:=29) ?_;intro eo hg nQ hbox hb;have ao:=am hbox;have aK:=gA hg HB;replace HB:=De1 HB aH hb;have fu:=nA hg ah;have fw:=mA hg ah;replace ah:=bA ah hb;clear hb hbox hg;have jQ:=fw.out;have lG:=fu.out;obtain⟨iT,iU,iV,iW,i4,i5,i6,i7⟩:=cf4 ao)|((with_reducible refine gate_callee (f:=25) rfl ?_);refine goesL_ (some 15) rfl rfl Tryz.func25 gk_ rfl #[.agg #[.int .i64 aj,.int .i64 ac,.slice cf a4.length ck,.string ag]] rfl gm_ ?_;(with_reducible refine(impl_SnapText.calls k aj ac _ _ a4 ag e9 true _ ?z1 ?z2 A3.out).mono ?_);(case z1=>repeat (first|exact(Kd.C_below g0.out HB.out)|(with_reducible refine Kd.C_alloc ?_ _)|(with_reducible refine Kd.C_drewN ?_ _)|(with_reducible refine Kd.C_drew ?_)));(case z2=>exact gQ.out);rintro e f8 ⟨rfl,hb⟩;refine⟨_,rfl, ?_⟩;replace ah:=bA ah hb;replace ao:=bA ao hb;replace HB:=De2 HB aH aK hb;have iQ:f8.cell? ⟨cx,0,none⟩=some (.slice J q.length D):=bc ah 0;have i1:=blk_frozen ah.out 0)|((with_reducible refine gate_callee (f:=26) rfl ?_);refine goesL_ (some 19) rfl rfl Tryz.func26 gk_ rfl #[.agg #[.slice J q.length D]] rfl gm_ ?_;refine(impl_DiskOk.calls k _ _ q true _ (tc (Kd.C_below aN.out HB.out)) a6.out A4.out).mono ?_;rintro e nS ⟨rfl,hb⟩;refine⟨_,rfl, ?_⟩;replace ah:=bA ah hb;replace ao:=bA ao hb;replace HB:=De2 HB aH aK hb)|((with_reducible refine gate_dst (N:=25) rfl ?_);refine lL k65 65 25 ([]:List (S65)) [] (Reps.none _ _) ?_;intro iw f9 dE hb;(first|rw [←fy.out] at dE|(simp only [Int.reduceToNat] at dE;rw [←fy.out] at dE));have cr:=am (Kd.R_lower dE (below_size (Ae2 HB aH aK)));replace ah:=bA ah hb;replace ao:=bA ao hb;replace HB:=De2 HB aH aK hb;clear hb dE;have iR:f9.cell? ⟨cx,0,none⟩=some (.slice J q.length D):=bc ah 0;have i2:=blk_frozen ah.out 0)|((with_reducible refine gate_callee (f:=27) rfl ?_);refine goesL_ (some 27) rfl rfl Tryz.func27 gk_ rfl #[.agg #[.slice J q.length D],.string (⟨#[115,43]⟩:ByteArray)] rfl gm_ ?_;refine(impl_hasFile.calls k _ _ q (⟨#[115,43]⟩:ByteArray) fb _ (tc (Kd.C_below aN.out HB.out)) a6.out A7.out).mono ?_;rintro e iB ⟨rfl,hb⟩;refine⟨_,rfl, ?_⟩;replace cr:=rA cr hb;replace ah:=bA ah hb;replace ao:=bA ao hb;replace HB:=De2 HB aH aK hb))
 (try simp only [Act.put,List.setIfInBounds_toArray,List.set_cons_zero,List.set_cons_succ])
 go_cut [8] (fun v8 wc=>∃ (kq:Nat) (ey:List (S65)),Aside0 (impl_SnapActs.j0 kq e9 ey q aj ac a4 ag=some (r1,r2))∧Aside0 (kq≤k)∧Aside0 (Kd.R k65 65 wc w.heap.size (fun _=>True) v8 ey)∧Hc wc cx #[(.slice J q.length D)] 26∧Hc wc eo #[.int .i64 aj,.int .i64 ac,(.slice cf a4.length ck),.string ag] 29∧Hb w wc)
 case first=>
  replace ak:=ak.out
  obtain⟨rfl,al⟩|⟨rfl,al⟩:=sb ak
  ·obtain⟨g3,ax⟩:=ya al;obtain⟨iK,dL⟩:∃ y_:List (S65),y_=(cP ++ [(⟨4,(⟨#[115,43]⟩:ByteArray),(⟨#[]⟩:ByteArray),(⟨#[]⟩:ByteArray)⟩:S65)]):=⟨_,rfl⟩
   (first|with_reducible replace ax:=hq dL ax|rw [←dL] at ax|simp only [←dL] at ax)
   have g9:=am dL;clear dL;replace ax:=am ax;clear ak al
   go_wp2_with (first|((with_reducible refine gate_builtin (b:=.append) (xs:=#[.tmp 28,.tmp 30]) rfl ?_);at_builtin;refine Kd.R_append k65 (w0:=w) w.heap.size rfl (.tmp 28) (.tmp 30) 34 65 (.agg #[(.int .i64 0),(.string ⟨#[]⟩),(.string ⟨#[]⟩),(.string ⟨#[]⟩)]) 56 rfl Tryz.underlying34 info65 rfl (by decide) (by omega) iw cP (⟨4,(⟨#[115,43]⟩:ByteArray),(⟨#[]⟩:ByteArray),(⟨#[]⟩:ByteArray)⟩:S65) [.int .i64 4,.string (⟨#[115,43]⟩:ByteArray),.string (⟨#[]⟩:ByteArray),.string (⟨#[]⟩:ByteArray)] (fun _=>True) (fun _=>False) rfl rfl ?aP (fun _ hk=>hk.elim) ?aF ?aO ?aB ?aS ?aL ?_;(case aP=>exact k65_mkM _ _ _ (⟨4,(⟨#[115,43]⟩:ByteArray),(⟨#[]⟩:ByteArray),(⟨#[]⟩:ByteArray)⟩:S65));(case aB=>exact(Ae2 HB aH aK));(case aF=>exact(fun _ _=>trivial));(case aO=>exact(Ar cr));(case aS=>exact B29x21_);(case aL=>have:=g3.out;omega);intro nC iD ho hb hg hat;rw [←g9.out] at ho;replace ah:=bg ah hg (Kd.R_ne cr.out ah.out (by decide));replace ao:=bg ao hg (Kd.R_ne cr.out ao.out (by decide));replace HB:=am hb;have gU:=am ho;clear cr;clear ho hb hg hat))
   go_meet
   case rel=>exact⟨_,iK,ax,⟨gl_⟩,Cr gU,Cb ah,Cb ao,Ce2 HB aH aK⟩
  ·replace al:=am al;clear ak
   go_wp2
   go_meet
   case rel=>exact⟨_,cP,al,⟨gl_⟩,Cr cr,Cb ah,Cb ao,Ce2 HB aH aK⟩
 case rest=>
  clear ak
  try clear c5
  try clear c6
  obtain⟨kq,ey,aA,d8,aI,ah,ao,HB⟩:=hcut
  cases kq with
  |zero=>exact absurd aA.out (by simp [impl_SnapActs.j0])
  |succ f0=>?_
  replace aA:=aA.out;simp only [impl_SnapActs.j0] at aA;replace aA:=am aA
  go_wp2
  go_loopg [6,8] f0 (fun kq v6 v8 w'=>∃ (bB:ByteArray) (cO:List (S65)),v6=.string bB∧Aside0 (impl_SnapActs.l0 kq bB cO q aj ac a4 ag=some (r1,r2))∧Aside0 (kq≤f0)∧Aside0 (Kd.R k65 65 w' w.heap.size (fun _=>True) v8 cO)∧Aside0 (w'.heap[cx]?=some (.cells #[(.slice J q.length D)] 26 (0,0)))∧Aside0 (w'.heap[eo]?=some (.cells #[.int .i64 aj,.int .i64 ac,(.slice cf a4.length ck),.string ag] 29 (0,0)))∧Aside0 (Below w.heap.size w w'))
  case atStart=>exact⟨(e9),ey,be_,aA,⟨Nat.le_refl _⟩,Cr aI,Cb ah,Cb ao,Ce2 HB aH aK⟩
  case round=>
   clear aA
   try clear c5
   try clear c6
   obtain⟨bB,cO,rfl,aZ,d9,aI,ah,ao,HB⟩:=hrel
   cases gk with
   |zero=>exact absurd aZ.out (by simp [impl_SnapActs.l0])
   |succ k2=>?_
   replace aZ:=aZ.out;simp only [impl_SnapActs.l0] at aZ
   obtain⟨dv,bL⟩|⟨dv,bL⟩:=sp aZ
   ·obtain⟨fE,fF⟩:=yE dv;clear dv;obtain⟨bR,gy,a8⟩:=bsi bL;(try dsimp only at a8);obtain⟨dl,dN⟩:∃ y_:List (S65),y_=(([(⟨2,(⟨#[115,43]⟩:ByteArray),(⟨#[]⟩:ByteArray),(⟨#[]⟩:ByteArray)⟩:S65),(⟨3,(⟨#[115,43]⟩:ByteArray),(⟨#[]⟩:ByteArray),bR⟩:S65)]:List (S65))):=⟨_,rfl⟩
    (first|with_reducible replace a8:=hq dN a8|rw [←dN] at a8|simp only [←dN] at a8)
    have fz:=am dN;clear dN;obtain⟨g4,bj⟩:=ya a8;obtain⟨iM,dO⟩:∃ y_:List (S65),y_=(cO ++ dl):=⟨_,rfl⟩
    (first|with_reducible replace bj:=hq dO bj|rw [←dO] at bj|simp only [←dO] at bj)
    have hh:=am dO;clear dO;replace bj:=am bj;clear aZ bL a8;obtain⟨ig,ik⟩:=o2_ fw fu;obtain⟨iT,iU,iV,iW,i4,i5,i6,i7⟩:=cf4 ao
    go_wp2_with (first|((with_reducible refine gate_callee (f:=28) rfl ?_);refine goesL_ (some 49) rfl rfl Tryz.func28 gk_ rfl #[.int .i64 aj] rfl gm_ ?_;refine(impl_SnapName.calls aj bR _ gy.out).mono ?_;rintro e w' ⟨rfl,⟨nd,rfl⟩⟩;refine⟨_,rfl, ?_⟩)|((with_reducible refine gate_dst (N:=54) rfl ?_);refine lL k65 65 54 ([(⟨2,(⟨#[115,43]⟩:ByteArray),(⟨#[]⟩:ByteArray),(⟨#[]⟩:ByteArray)⟩:S65),(⟨3,(⟨#[115,43]⟩:ByteArray),(⟨#[]⟩:ByteArray),bR⟩:S65)]:List (S65)) [.int .i64 2,.string (⟨#[115,43]⟩:ByteArray),.string (⟨#[]⟩:ByteArray),.string (⟨#[]⟩:ByteArray),.int .i64 3,.string (⟨#[115,43]⟩:ByteArray),.string (⟨#[]⟩:ByteArray),.string bR] (Reps.c4 (show Kd.M k65 _ _ _ (⟨2,(⟨#[115,43]⟩:ByteArray),(⟨#[]⟩:ByteArray),(⟨#[]⟩:ByteArray)⟩:S65) [.int .i64 2,.string (⟨#[115,43]⟩:ByteArray),.string (⟨#[]⟩:ByteArray),.string (⟨#[]⟩:ByteArray)] from (k65_mkM _ _ _ (⟨2,(⟨#[115,43]⟩:ByteArray),(⟨#[]⟩:ByteArray),(⟨#[]⟩:ByteArray)⟩:S65) )) (Reps.c4 (show Kd.M k65 _ _ _ (⟨3,(⟨#[115,43]⟩:ByteArray),(⟨#[]⟩:ByteArray),bR⟩:S65) [.int .i64 3,.string (⟨#[115,43]⟩:ByteArray),.string (⟨#[]⟩:ByteArray),.string bR] from (k65_mkM _ _ _ (⟨3,(⟨#[115,43]⟩:ByteArray),(⟨#[]⟩:ByteArray),bR⟩:S65) )) (Reps.none _ _))) ?_;intro nF nV di hb;(first|rw [←fz.out] at di|(simp only [Int.reduceToNat] at di;rw [←fz.out] at di));have dn:=am (Kd.R_lower (Kd.R_new' di (Kd.R_lt (Ar aI))) (below_size (Ae2 HB aH aK)));replace aI:=am (Kd.R_elder' (Ar aI) (Kd.R_base di) hb);replace ah:=bA ah hb;replace ao:=bA ao hb;replace HB:=De2 HB aH aK hb;clear hb di;obtain⟨gO,hV,h7⟩:=Kd.R_slice dn.out;subst h7)|((with_reducible refine gate_builtin (b:=.append) (xs:=#[.tmp 50,.tmp 54]) rfl ?_);at_builtin;refine Kd.R_append_rows k65 (w0:=w) w.heap.size rfl (.tmp 50) (.tmp 54) 34 65 (.agg #[(.int .i64 0),(.string ⟨#[]⟩),(.string ⟨#[]⟩),(.string ⟨#[]⟩)]) 56 rfl Tryz.underlying34 info65 rfl (by decide) (by omega) u8 cO dl _ _ _ (fun k_=>some k_≠(.slice gO dl.length hV:Value).ownBlock) (fun _=>False) rfl rfl ?aO ?aR (fun _ _ h=>h) (fun _ h=>h.elim) ?aF ?aB ?aS ?aL ?_;(case aR=>repeat (first|exact(Kd.R_reads' dn.out).2.2|(with_reducible refine Kd.C_alloc ?_ _)|(with_reducible refine Kd.C_drewN ?_ _)|(with_reducible refine Kd.C_drew ?_)));(case aB=>exact(Ae2 HB aH aK));(case aF=>exact(fun k_ hk=>Kd.fresh' (Kd.R_lt (Ar dn)) k_ hk));(case aO=>(with_reducible repeat (first|apply Kd.R_alloc|apply Kd.R_drewN|apply Kd.R_drew));exact Kd.R_mono aI.out (fun _ hk=>hk.2));(case aS=>exact B29x21_);(case aL=>have:=g4.out;omega);intro nG gg ho hb hg hat;rw [←hh.out] at ho;replace ah:=bg ah hg (Kd.R_ne aI.out ah.out (by decide));replace ao:=bg ao hg (Kd.R_ne aI.out ao.out (by decide));replace dn:=am (Kd.R_after (ok:=(fun _=>True)) (Ar dn) hg hat);replace HB:=am hb;have gW:=am ho;clear aI;clear ho hb hg hat;have oj:gg.cell? ⟨cx,0,none⟩=some (.slice J q.length D):=bc ah 0;have oN:=blk_frozen ah.out 0))
    go_loopg [8,59] k2 (fun kq v8 iv w'=>∃ (d5:List (S65)) (aX:Int),iv=.int .i64 aX∧Aside0 (impl_SnapActs.l1 kq d5 bR q (q.length:Int) aX=some (r1,r2))∧Aside0 (kq≤k2)∧Aside0 (Kd.R k65 65 w' w.heap.size (fun _=>True) v8 d5)∧Aside0 (w'.heap[cx]?=some (.cells #[(.slice J q.length D)] 26 (0,0)))∧Aside0 (w'.heap[eo]?=some (.cells #[.int .i64 aj,.int .i64 ac,(.slice cf a4.length ck),.string ag] 29 (0,0)))∧Aside0 (Below w.heap.size w w'))
    case atStart=>exact⟨(iM),0,be_,bj,⟨Nat.le_refl _⟩,⟨(by (with_reducible repeat (first|apply Kd.R_alloc|apply Kd.R_drewN|apply Kd.R_drew));exact Kd.R_mono gW.out (fun _ hk=>trivial))⟩,Cb ah,Cb ao,Ce2 HB aH aK⟩
    case round=>
     clear bj
     try clear c5
     try clear c6
     try clear dv
     try clear fE
     try clear fF
     try clear dw
     obtain⟨d5,aX,rfl,bV,fo,aI,ah,ao,HB⟩:=hrel
     cases gk with
     |zero=>exact absurd bV.out (by simp [impl_SnapActs.l1])
     |succ k3=>?_
     replace bV:=bV.out;simp only [impl_SnapActs.l1] at bV
     obtain⟨hH,b3⟩|⟨hH,b3⟩:=sd bV
     ·obtain⟨jf,a9⟩:=yd b3;obtain⟨jg,bW⟩:=yd a9;obtain⟨fc,gB,b4⟩:=bsi bW;(try dsimp only at b4)
      by_cases en:fc=true
      rotate_left
      ·replace en:=Bool.eq_false_iff.mpr en;subst en;rw [if_neg (show ¬ (false=true) by decide)] at b4;exact absurd b4 (by simp)
      subst en;rw [if_pos rfl] at b4
      obtain⟨fG,b5⟩|⟨fG,b5⟩:=sp b4
      ·exact absurd b5 (by simp)
      ·obtain⟨jh,ji⟩:=nE fG;obtain⟨g5,bm⟩:=ya b5;obtain⟨iN,dP⟩:∃ y_:List (S65),y_=(d5 ++ [(⟨4,(rd_T59 q aX).f0,(⟨#[]⟩:ByteArray),(⟨#[]⟩:ByteArray)⟩:S65)]):=⟨_,rfl⟩
       (first|with_reducible replace bm:=hq dP bm|rw [←dP] at bm|simp only [←dP] at bm)
       have hj:=am dP;clear dP;replace bm:=am bm;clear bV b3 a9 bW b4 b5
       have eZ:0≤(aX:Int):=dga
       have e3:aX<(q.length:Int):=dga
       obtain⟨hp,hX,eW,eX,eY⟩:=at_T59 aN.out aX eZ e3;cases hX;replace eW:=(hbc HB eW).trans eW;replace eX:=(hbc HB eX).trans eX;replace eY:=(hbc HB eY).trans eY;replace eZ:=eq_true eZ;replace e3:=eq_true e3
       go_wp2_with (first|((with_reducible refine gate_dst (N:=12) rfl ?_);refine bx (N:=12) (cs:=#[.string (⟨#[]⟩:ByteArray),.string (⟨#[]⟩:ByteArray),.int .i64 0]) (t:=59) ?_;intro ia hg nX hbox hb;replace aI:=rA aI hb;have cg:=am hbox;have dm:=gA hg HB;replace HB:=De2 HB aH aK hb;have fv:=nA hg ah;have g7:=mA hg ah;replace ah:=bA ah hb;have fx:=nA hg ao;have g8:=mA hg ao;replace ao:=bA ao hb;clear hb hbox hg;have kX:=g7.out;have mQ:=fv.out;have kY:=g8.out;have mR:=fx.out;obtain⟨iX,iY,iZ,i9,ja,jb⟩:=cf3 cg)|((with_reducible refine gate_callee (f:=29) rfl ?_);refine goesL_ (some 64) rfl rfl Tryz.func29 gk_ rfl #[.agg #[.string ((rd_T59 q aX).f0),.string ((rd_T59 q aX).f1),.int .i64 ((rd_T59 q aX).f2)]] rfl gm_ ?_;refine(impl_isSnap.calls ((rd_T59 q aX).f0) ((rd_T59 q aX).f1) ((rd_T59 q aX).f2) true _ gB.out (Laid.ev_ HEV.out (Ae3 HB aH aK dm))).mono ?_;rintro e nZ ⟨rfl,hb⟩;refine⟨_,rfl, ?_⟩;replace aI:=am (Kd.R_below (tfg aI.out cg.out (by decide)) hb);replace ah:=am (blk_below (g:=cx) (o:=.cells #[.slice (some hp) q.length D] 26 (0,0)) (Ap1 ah fv) hb);replace ao:=am (blk_below (g:=eo) (o:=.cells #[.int .i64 aj,.int .i64 ac,.slice cf a4.length ck,.string ag] 29 (0,0)) (Ap1 ao fx) hb);replace cg:=am (blk_below (g:=ia) (o:=.cells #[.string ((rd_T59 q aX).f0),.string ((rd_T59 q aX).f1),.int .i64 ((rd_T59 q aX).f2)] 59 (0,0)) (Ap0 cg) hb);replace HB:=De3 HB aH aK dm hb;obtain⟨iX,iY,iZ,i9,ja,jb⟩:=cf3 cg)|((with_reducible refine gate_builtin (b:=.append) (xs:=#[.tmp 71,.tmp 75]) rfl ?_);at_builtin;refine Kd.R_append k65 (w0:=w) w.heap.size rfl (.tmp 71) (.tmp 75) 34 65 (.agg #[(.int .i64 0),(.string ⟨#[]⟩),(.string ⟨#[]⟩),(.string ⟨#[]⟩)]) 56 rfl Tryz.underlying34 info65 rfl (by decide) (by omega) u8 d5 (⟨4,(rd_T59 q aX).f0,(⟨#[]⟩:ByteArray),(⟨#[]⟩:ByteArray)⟩:S65) [.int .i64 4,.string ((rd_T59 q aX).f0),.string (⟨#[]⟩:ByteArray),.string (⟨#[]⟩:ByteArray)] (fun _=>True) (fun _=>False) rfl rfl ?aP (fun _ hk=>hk.elim) ?aF ?aO ?aB ?aS ?aL ?_;(case aP=>exact k65_mkM _ _ _ (⟨4,(rd_T59 q aX).f0,(⟨#[]⟩:ByteArray),(⟨#[]⟩:ByteArray)⟩:S65));(case aB=>exact(Ae3 HB aH aK dm));(case aF=>exact(fun _ _=>trivial));(case aO=>exact(Ar aI));(case aS=>exact(below_size (Ae3 HB aH aK dm)));(case aL=>have:=g5.out;omega);intro nH n0 ho hb hg hat;rw [←hj.out] at ho;replace ah:=bg ah hg (Kd.R_ne aI.out ah.out (by decide));replace ao:=bg ao hg (Kd.R_ne aI.out ao.out (by decide));replace cg:=bg cg hg (Kd.R_ne aI.out cg.out (by decide));replace HB:=am hb;have gX:=am ho;clear aI;clear ho hb hg hat))
       go_roundg k3
       case measure=>have:=d8.out;have:=d9.out;have:=fo.out;omega
       case rel=>exact⟨(iN),(wrap64 (aX+1)),be_,bm,⟨(by have:=d8.out;have:=d9.out;have:=fo.out;omega)⟩,Cr gX,Cb ah,Cb ao,Ce3 HB aH aK dm⟩
     ·obtain⟨rfl,rfl⟩:=s2 b3;clear b3 bV
      go_wp2
      go_ret2
      exact⟨_,B29x9_,(Ar aI),(Ae2 HB aH aK)⟩
   ·obtain⟨fE,fF⟩:=nE dv;obtain⟨co,eq⟩:∃ j_:Int,(mn 60 (bB.size:Int))=j_:=⟨_,rfl⟩
    (first|rw [eq] at bL|simp only [eq] at bL)
    have jB:(if (bB.size:Int)<60 then (bB.size:Int) else 60)=co:=eq
    obtain⟨jj,jk,b6⟩:=ye bL;obtain⟨jl,jm,ct⟩:=ye b6;obtain⟨g6,aM⟩:=ya ct;obtain⟨iL,dM⟩:∃ y_:List (S65),y_=(cO ++ [(⟨1,(⟨#[115,43]⟩:ByteArray),bB.extract 0 ((co):Int).toNat,(⟨#[]⟩:ByteArray)⟩:S65)]):=⟨_,rfl⟩
    (first|with_reducible replace aM:=hq dM aM|rw [←dM] at aM|simp only [←dM] at aM)
    have hf:=am dM;clear dM;have jo:=eq_true (dga:0≤(co));have jp:=eq_true (dga:(co)≤(bB.size:Int));replace aM:=am aM;clear aZ bL b6 ct
    go_wp2_with (first|((with_reducible refine gate_builtin (b:=.append) (xs:=#[.tmp 37,.tmp 42]) rfl ?_);at_builtin;refine Kd.R_append k65 (w0:=w) w.heap.size rfl (.tmp 37) (.tmp 42) 34 65 (.agg #[(.int .i64 0),(.string ⟨#[]⟩),(.string ⟨#[]⟩),(.string ⟨#[]⟩)]) 56 rfl Tryz.underlying34 info65 rfl (by decide) (by omega) u8 cO (⟨1,(⟨#[115,43]⟩:ByteArray),bB.extract 0 ((co):Int).toNat,(⟨#[]⟩:ByteArray)⟩:S65) [.int .i64 1,.string (⟨#[115,43]⟩:ByteArray),.string (bB.extract 0 ((co):Int).toNat),.string (⟨#[]⟩:ByteArray)] (fun _=>True) (fun _=>False) rfl rfl ?aP (fun _ hk=>hk.elim) ?aF ?aO ?aB ?aS ?aL ?_;(case aP=>exact k65_mkM _ _ _ (⟨1,(⟨#[115,43]⟩:ByteArray),bB.extract 0 ((co):Int).toNat,(⟨#[]⟩:ByteArray)⟩:S65));(case aB=>exact(Ae2 HB aH aK));(case aF=>exact(fun _ _=>trivial));(case aO=>exact(Ar aI));(case aS=>exact B29x21_);(case aL=>have:=g6.out;omega);intro nD iE ho hb hg hat;rw [←hf.out] at ho;replace ah:=bg ah hg (Kd.R_ne aI.out ah.out (by decide));replace ao:=bg ao hg (Kd.R_ne aI.out ao.out (by decide));replace HB:=am hb;have gV:=am ho;clear aI;clear ho hb hg hat))
    go_roundg k2
    case measure=>have:=d8.out;have:=d9.out;omega
    case rel=>exact⟨(bB.extract ((co):Int).toNat bB.size),iL,(by first|rfl|(simp;done)|(simp only [←eq] <;> (first|rfl|simp))|(simp [*];done)),aM,⟨(by have:=d8.out;have:=d9.out;omega)⟩,Cr gV,Cb ah,Cb ao,Ce2 HB aH aK⟩

def spec_DrawPlaces.l0:Nat→List Int→Int→List Int→Int→Int→Option (List Int)
 |0,_,_,_,_,_=>none
 |k+1,x4,x5,gl,iI,iJ=>if x5<12 then ((spec_l01Below.f gl iI iJ 10000).bind fun eO=>(if x4.length<17592186044416 then (spec_DrawPlaces.l0 k (x4 ++ [eO.1]) (wrap64 (x5+1)) gl eO.2.1 eO.2.2) else (none))) else (some x4)
def spec_DrawPlaces.f (k:Nat) (l0:List Int):Option (List Int):=(spec_l01New.f k l0).bind fun ei=>((spec_l01Byte.f ei.1 ei.2.1 ei.2.2).bind fun fB=>(spec_DrawPlaces.l0 k (([]:List Int)) 0 ei.1 fB.2.1 fB.2.2))
theorem spec_DrawPlaces.calls (k:Nat) (A0:Option Addr) (c0:Nat) (l0:List Int) (r:List Int) (w:World) (fW:Kd.C (Kd.int .u8) w A0 l0.length l0) (fU:l0.length≤c0) (h:spec_DrawPlaces.f k l0=some r) :
  Calls Tryz.prog 8 #[.slice A0 l0.length c0] w fun e w'=>∃ bS:Value,e=.returned (bS)∧Kd.R (Kd.int .i64) 3 w' w.heap.size (fun _=>True) bS r∧Below w.heap.size w w':=by
 have eG:=am fW
 have eE:=am fU
 clear fW fU
 have HB:=am (Below.refl w.heap.size w)
 have af:=h
 clear h
 unfold spec_DrawPlaces.f at af
 obtain⟨⟨dj,f2,f3⟩,A2,aa⟩:=bsi af
 (try dsimp only at aa)
 obtain⟨⟨iq,f4,f5⟩,A3,Y⟩:=bsi aa
 (try dsimp only at Y)
 obtain⟨iO,dQ⟩:∃ y_:List Int,y_=(([]:List Int)):=⟨_,rfl⟩
 (first|with_reducible replace Y:=hq dQ Y|rw [←dQ] at Y|simp only [←dQ] at Y)
 have fA:=am dQ
 clear dQ
 replace Y:=am Y
 clear af aa
 go_enter Tryz.func8,Tryz.ntmps8
 go_wp2_with (first|((with_reducible refine gate_callee (f:=14) rfl ?_);refine goesL_ (some 7) rfl rfl Tryz.func14 gk_ rfl #[.slice A0 l0.length c0] rfl gm_ ?_;refine(spec_l01New.calls k _ _ l0 dj f2 f3 w _ (Ae0 HB) eG.out eE.out A2.out).mono ?_;rintro e w4 ⟨dh,rfl,hi,hb,jy⟩;refine⟨_,rfl, ?_⟩;replace HB:=am hb;have a7:=am hi)|((with_reducible refine gate_callee (f:=30) rfl ?_);refine goesL_ (some 9) rfl rfl Tryz.func30 gk_ rfl #[.pointer (some ⟨dh,0,none⟩)] rfl gm_ ?_;refine(spec_l01Byte.calls dh dj f2 f3 iq f4 f5 w _ B29x5_ (Ae1 HB (IsS73.gf a7)) A3.out).mono ?_;rintro e w5 ⟨rfl,hi,hb,hk⟩;refine⟨_,rfl, ?_⟩;replace HB:=am hb;replace a7:=am hi)|((with_reducible refine gate_dst (N:=10) rfl ?_);refine lL (Kd.int .i64) 3 10 ([]:List Int) [] (Reps.none _ _) ?_;intro nI w6 dF hb;(first|rw [←fA.out] at dF|(simp only [Int.reduceToNat] at dF;rw [←fA.out] at dF));have gY:=am (Kd.R_lower dF (below_size (Ae1 HB (IsS73.gf a7))));replace HB:=De1 HB (IsS73.gf a7) hb;replace a7:=am (IsS73.below B29x5_ hb);clear hb dF))
 go_loopg [4,5] k (fun kq v4 v5 w'=>∃ (d1:List Int) (bl:Int) (d3:Int) (d4:Int),v5=.int .i64 bl∧Aside0 (spec_DrawPlaces.l0 kq d1 bl dj d3 d4=some r)∧Aside0 (kq≤k)∧Aside0 (Kd.R (Kd.int .i64) 3 w' w.heap.size (fun _=>True) v4 d1)∧Aside0 (IsS73 w w' dh dj d3 d4)∧Aside0 (Below w.heap.size w w'))
 case atStart=>exact⟨(iO),0,f4,f5,be_,Y,⟨Nat.le_refl _⟩,Cr gY,⟨B29x5_⟩,Ce1 HB (IsS73.gf a7)⟩
 case round=>
  clear Y;obtain⟨d1,bl,d3,d4,rfl,ak,bU,cX,a7,HB⟩:=hrel
  cases gk with
  |zero=>exact absurd ak.out (by simp [spec_DrawPlaces.l0])
  |succ k1=>?_
  replace ak:=ak.out;simp only [spec_DrawPlaces.l0] at ak
  obtain⟨fN,al⟩|⟨fN,al⟩:=sd ak
  ·obtain⟨⟨er,f6,f7⟩,A9,ax⟩:=bsi al;(try dsimp only at ax);obtain⟨g1,aA⟩:=ya ax;obtain⟨iP,dR⟩:∃ y_:List Int,y_=(d1 ++ [er]):=⟨_,rfl⟩
   (first|with_reducible replace aA:=hq dR aA|rw [←dR] at aA|simp only [←dR] at aA)
   have hl:=am dR;clear dR;replace aA:=am aA;clear ak al ax
   go_wp2_with (first|((with_reducible refine gate_callee (f:=15) rfl ?_);refine goesL_ (some 17) rfl rfl Tryz.func15 gk_ rfl #[.pointer (some ⟨dh,0,none⟩),.int .i64 10000] rfl gm_ ?_;refine(spec_l01Below.calls dh dj d3 d4 10000 er f6 f7 w _ B29x5_ (Ae1 HB (IsS73.gf a7)) A9.out).mono ?_;rintro e nR ⟨rfl,hi,hb,hk⟩;refine⟨_,rfl, ?_⟩;replace cX:=am (Kd.R_mono (Kd.R_keep (IsS73.apart (show IsS73 w _ dh dj d3 d4 from B29x5_) (Ar cX) (by decide)) hk (fun _ h=>h.2)) (fun _ h=>h.1));replace HB:=am hb;replace a7:=am hi)|((with_reducible refine gate_builtin (b:=.append) (xs:=#[.tmp 15,.tmp 18]) rfl ?_);at_builtin;refine Kd.R_append (Kd.int .i64) (w0:=w) w.heap.size rfl (.tmp 15) (.tmp 18) 27 3 (.int .i64 0) 8 rfl Tryz.underlying27 info3 rfl (by decide) (by omega) u4 d1 er [.int .i64 er] (fun _=>True) (fun _=>False) rfl rfl ?aP (fun _ hk=>hk.elim) ?aF ?aO ?aB ?aS ?aL ?_;(case aP=>exact rfl);(case aB=>exact(Ae1 HB (IsS73.gf a7)));(case aF=>exact(fun _ _=>trivial));(case aO=>exact(Ar cX));(case aS=>exact(below_size (Ae1 HB (IsS73.gf a7))));(case aL=>have:=g1.out;omega);intro nJ iy ho hb hg hat;rw [←hl.out] at ho;replace a7:=am (IsS73.grown B29x5_ hg (IsS73.own_ne a7.out cX.out (by decide)));replace HB:=am hb;have gZ:=am ho;clear cX;clear ho hb hg hat))
   go_roundg k1
   case measure=>have:=bU.out;omega
   case rel=>exact⟨(iP),(wrap64 (bl+1)),f6,f7,be_,aA,⟨(by have:=bU.out;omega)⟩,Cr gZ,⟨B29x5_⟩,Ce1 HB (IsS73.gf a7)⟩
  ·obtain rfl:=Option.some.inj al;clear al ak
   go_wp2
   go_ret;exact⟨_,B29x9_,(Ar cX),(Ae1 HB (IsS73.gf a7))⟩

def spec_l03At.l0:Nat→ByteArray→Int→List (S59)→Option (Int)
 |0,_,_,_=>none
 |k+1,x1,x5,fl=>if x5<(fl.length:Int) then (if 0≤x5 then (if ((rd_T59 fl x5).f0).toList=x1.toList then (some x5) else (spec_l03At.l0 k x1 (wrap64 (x5+1)) fl)) else (none)) else (some (-1))
def spec_l03At.f (k:Nat) (q:List (S59)) (a1:ByteArray):Option (Int):=spec_l03At.l0 k a1 0 q
theorem spec_l03At.calls (k:Nat) (J:Option Addr) (D:Nat) (q:List (S59)) (a1:ByteArray) (r:Int) (w:World) (be:Kd.C k59 w J q.length q) (bd:q.length≤D) (h:spec_l03At.f k q a1=some r) :
  Calls Tryz.prog 69 #[.agg #[.slice J q.length D],.string a1] w fun e w'=>e=.returned (.int .i64 r)∧Below w.heap.size w w':=by
 have dG:=Tryz.underlying26
 have aN:=am be
 have a6:=am bd
 clear be bd
 have HB:=am (Below.refl w.heap.size w)
 have af:=h
 clear h
 unfold spec_l03At.f at af
 replace af:=am af
 go_enter Tryz.func69,Tryz.ntmps69
 go_wp2_with (first|((with_reducible refine gate_dst (N:=2) rfl ?_);refine bx (N:=2) (cs:=#[.slice J q.length D]) (t:=26) ?_;intro ep hg w3 hbox hb;have b2:=am hbox;have d7:=gA hg HB;replace HB:=hA HB hb;clear hb hbox hg))
 go_loopg [5] k (fun kq v5 w'=>∃ (bl:Int),v5=.int .i64 bl∧Aside0 (spec_l03At.l0 kq a1 bl q=some r)∧Aside0 (kq≤k)∧Aside0 (w'.heap[ep]?=some (.cells #[(.slice J q.length D)] 26 (0,0)))∧Aside0 (Below w.heap.size w w'))
 case atStart=>exact⟨(0),be_,af,⟨Nat.le_refl _⟩,Cb b2,Ce1 HB d7⟩
 case round=>
  clear af;obtain⟨bl,rfl,aa,bU,b2,HB⟩:=hrel
  cases gk with
  |zero=>exact absurd aa.out (by simp [spec_l03At.l0])
  |succ k1=>?_
  replace aa:=aa.out;simp only [spec_l03At.l0] at aa
  obtain⟨fI,Y⟩|⟨fI,Y⟩:=sd aa
  ·obtain⟨fJ,ak⟩:=yd Y
   obtain⟨c6,al⟩|⟨c6,al⟩:=sp ak
   ·obtain⟨fK,fL⟩:=yE c6;clear c6;obtain rfl:=Option.some.inj al;clear al aa Y ak
    have oy:wr.cell? ⟨ep,0,none⟩=some (.slice J q.length D):=bc b2 0
    have oX:=blk_frozen b2.out 0
    have cE:0≤(bl:Int):=dga
    have cG:bl<(q.length:Int):=dga
    obtain⟨hs,eS,cy,cz,cA⟩:=at_T59 aN.out bl cE cG;cases eS;replace cy:=(hbc HB cy).trans cy;replace cz:=(hbc HB cz).trans cz;replace cA:=(hbc HB cA).trans cA;replace cE:=eq_true cE;replace cG:=eq_true cG
    go_wp2
    go_ret;exact⟨B29x9_,(Ae1 HB d7)⟩
   obtain⟨fK,fL⟩:=nE c6;replace al:=am al;clear aa Y ak
   have i0:wr.cell? ⟨ep,0,none⟩=some (.slice J q.length D):=bc b2 0
   have jc:=blk_frozen b2.out 0
   have cE:0≤(bl:Int):=dga
   have cG:bl<(q.length:Int):=dga
   obtain⟨hs,eS,cy,cz,cA⟩:=at_T59 aN.out bl cE cG;cases eS;replace cy:=(hbc HB cy).trans cy;replace cz:=(hbc HB cz).trans cz;replace cA:=(hbc HB cA).trans cA;replace cE:=eq_true cE;replace cG:=eq_true cG
   go_wp2
   go_roundg k1
   case measure=>have:=bU.out;omega
   case rel=>exact⟨(wrap64 (bl+1)),be_,al,⟨(by have:=bU.out;omega)⟩,Cb b2,Ce1 HB d7⟩
  obtain rfl:=Option.some.inj Y;clear Y aa
  have oB:wr.cell? ⟨ep,0,none⟩=some (.slice J q.length D):=bc b2 0
  have o0:=blk_frozen b2.out 0
  go_wp2
  go_ret;exact⟨B29x9_,(Ae1 HB d7)⟩
def spec_l03Without.l0:Nat→ByteArray→Int→List (S59)→List (S59)→Option ((List (S59)))
 |0,_,_,_,_=>none
 |k+1,x1,x6,cK,ex=>if x6<(cK.length:Int) then (if 0≤x6 then (if ((rd_T59 cK x6).f0).toList=x1.toList then (spec_l03Without.l0 k x1 (wrap64 (x6+1)) cK ex) else (if ex.length<3518437208883 then (spec_l03Without.l0 k x1 (wrap64 (x6+1)) cK (ex ++ [(⟨(rd_T59 cK x6).f0,(rd_T59 cK x6).f1,(rd_T59 cK x6).f2⟩:S59)])) else (none))) else (none)) else (some ex)
def spec_l03Without.f (k:Nat) (q:List (S59)) (a1:ByteArray):Option ((List (S59))):=spec_l03Without.l0 k a1 0 q ([]:List (S59))
def spec_l03Without.T6:Bool × List (List Nat × List Nat):=(true,[([],[]),([0],[0]),([],[]),([2],[2]),([],[]),([3,4],[3,4]),([5],[5]),([6],[6]),([1,7],[1,7]),([0,1,2,3,4,5,6,7,8],[]),([9,8,8,0,1,2,3,4,5,6,7,8],[8,9])])
def spec_l03Without.B6:List Nat:=[0,1,0,4,0,28,60,124,255,511,1023]
theorem spec_l03Without.tab6:rtab .any (opsOf Tryz.f70 6)=spec_l03Without.T6:=by kernel_rfl
theorem spec_l03Without.bits6:waitsOk spec_l03Without.T6.2 spec_l03Without.B6=true:=by kernel_rfl
theorem spec_l03Without.calls (k:Nat) (J:Option Addr) (D:Nat) (q:List (S59)) (a1:ByteArray) (r:List (S59)) (w:World) (be:Kd.C k59 w J q.length q) (bd:q.length≤D) (h:spec_l03Without.f k q a1=some r) :
  Calls Tryz.prog 70 #[.agg #[.slice J q.length D],.string a1] w fun e w'=>∃ bS:Value,e=.returned (.agg #[bS])∧Kd.R k59 59 w' w.heap.size (fun _=>True) bS r∧Below w.heap.size w w':=by
 have dG:=Tryz.underlying26
 have eV:=Tryz.underlying59
 have aN:=am be
 have a6:=am bd
 clear be bd
 have HB:=am (Below.refl w.heap.size w)
 have af:=h
 clear h
 unfold spec_l03Without.f at af
 replace af:=am af
 go_enter Tryz.func70,Tryz.ntmps70
 go_wp2_with (first|((with_reducible refine gate_dst (N:=2) rfl ?_);refine bx (N:=2) (cs:=#[.slice J q.length D]) (t:=26) ?_;intro dC hg w3 hbox hb;have aC:=am hbox;have ch:=gA hg HB;replace HB:=hA HB hb;clear hb hbox hg)|((with_reducible refine gate_dst (N:=4) rfl ?_);refine bx (N:=4) (cs:=#[.slice none 0 0]) (t:=26) ?_;intro eU hg w4 hbox hb;have a3:=am hbox;have cq:=gA hg HB;replace HB:=De1 HB ch hb;have eJ:=nA hg aC;have eK:=mA hg aC;replace aC:=bA aC hb;clear hb hbox hg)|((with_reducible refine gate_dst (N:=5) rfl ?_);refine bx (N:=5) (cs:=#[.slice none 0 0]) (t:=26) ?_;intro dD hg w5 hbox hb;have aV:=am hbox;have cW:=gA hg HB;replace HB:=De2 HB ch cq hb;have cv:=nA hg aC;have dq:=mA hg aC;replace aC:=bA aC hb;have dp:=nA hg a3;have eL:=mA hg a3;replace a3:=bA a3 hb;clear hb hbox hg;have k9:=dq.out;have mZ:=cv.out;have lh:=eL.out;have m5:=dp.out;have i0:w5.cell? ⟨dD,0,none⟩=some (.slice none 0 0):=bc aV 0;have jc:=blk_frozen aV.out 0))
 go_loopg [6] k (fun kq v6 w'=>∃ (aw:Int) (cL:List (S59)) (cp:Value),v6=.int .i64 aw∧Aside0 (spec_l03Without.l0 kq a1 aw q cL=some r)∧Aside0 (kq≤k)∧Aside0 (Kd.R k59 59 w' w.heap.size (fun _=>True) cp cL)∧Aside0 (w'.heap[dC]?=some (.cells #[(.slice J q.length D)] 26 (0,0)))∧Aside0 (w'.heap[eU]?=some (.cells #[(.slice none 0 0)] 26 (0,0)))∧Aside0 (w'.heap[dD]?=some (.cells #[cp] 26 (0,0)))∧Aside0 (Below w.heap.size w w'))
 case atStart=>exact⟨(0),(([]:List (S59))),(.slice none 0 0),be_,af,⟨Nat.le_refl _⟩,⟨gn_⟩,Cp1 aC cv,Cp1 a3 dp,Cp0 aV,Ce3 HB ch cq cW⟩
 case round=>
  clear af;obtain⟨aw,cL,cp,rfl,aa,bU,bN,aC,a3,aV,HB⟩:=hrel
  cases gk with
  |zero=>exact absurd aa.out (by simp [spec_l03Without.l0])
  |succ k1=>?_
  replace aa:=aa.out;simp only [spec_l03Without.l0] at aa
  obtain⟨hO,Y⟩|⟨hO,Y⟩:=sd aa
  ·obtain⟨je,ak⟩:=yd Y
   obtain⟨bw,al⟩|⟨bw,al⟩:=sp ak
   ·obtain⟨cj,eP⟩:=yE bw;clear bw;replace al:=am al;clear aa Y ak;obtain⟨jV,lM,ib,ih⟩:=o4_ eJ eK cv dq
    have iQ:wr.cell? ⟨dC,0,none⟩=some (.slice J q.length D):=bc aC 0
    have i1:=blk_frozen aC.out 0
    have cF:0≤(aw:Int):=dga
    have cH:aw<(q.length:Int):=dga
    obtain⟨ci,eT,cB,cC,cD⟩:=at_T59 aN.out aw cF cH;cases eT;replace cB:=(hbc HB cB).trans cB;replace cC:=(hbc HB cC).trans cC;replace cD:=(hbc HB cD).trans cD;replace cF:=eq_true cF;replace cH:=eq_true cH
    go_wp2
    go_roundg k1
    case measure=>have:=bU.out;omega
    case rel=>exact⟨(wrap64 (aw+1)),cL,cp,be_,al,⟨(by have:=bU.out;omega)⟩,Cr bN,Cb aC,Cb a3,Cb aV,Ce3 HB ch cq cW⟩
   obtain⟨cj,eP⟩:=nE bw;obtain⟨g2,ax⟩:=ya al;obtain⟨gr,dS⟩:∃ y_:List (S59),y_=(cL ++ [(⟨(rd_T59 q aw).f0,(rd_T59 q aw).f1,(rd_T59 q aw).f2⟩:S59)]):=⟨_,rfl⟩
   (first|with_reducible replace ax:=hq dS ax|rw [←dS] at ax|simp only [←dS] at ax)
   have hm:=am dS;clear dS;replace ax:=am ax;clear aa Y ak al;obtain⟨ku,mi,ic,ii⟩:=o4_ eJ eK cv dq
   have iR:wr.cell? ⟨dC,0,none⟩=some (.slice J q.length D):=bc aC 0
   have i2:=blk_frozen aC.out 0
   have cF:0≤(aw:Int):=dga
   have cH:aw<(q.length:Int):=dga
   obtain⟨ci,eT,cB,cC,cD⟩:=at_T59 aN.out aw cF cH;cases eT;replace cB:=(hbc HB cB).trans cB;replace cC:=(hbc HB cC).trans cC;replace cD:=(hbc HB cD).trans cD;replace cF:=eq_true cF;replace cH:=eq_true cH
   try go_wp2
   replace bN:=eA bN;replace aC:=dA aC;replace a3:=dA a3;replace aV:=dA aV;replace HB:=bdr HB
   have e0:0≤(aw:Int):=dga
   have e4:aw<(q.length:Int):=dga
   obtain⟨ht,hY,dH,dI,dJ⟩:=at_T59 aN.out aw e0 e4;have cn:=dJ;have cm:=dI;have cl:=dH;obtain rfl:ci=ht:=(by injection hY);replace dH:=(hbc HB dH).trans dH;replace dI:=(hbc HB dI).trans dI;replace dJ:=(hbc HB dJ).trans dJ;replace e0:=eq_true e0;replace e4:=eq_true e4;refine st_ 11 (fun w'=>w'.cell? ⟨dD,0,none⟩=some (cp)∧w'.cell? ⟨dC,0,none⟩=some (.slice (some ci) q.length D)∧w'.cell? (ci.add ((aw).toNat * 3))=some (.string ((rd_T59 q aw).f0))∧w'.cell? ⟨(ci.add ((aw).toNat * 3)).block,(ci.add ((aw).toNat * 3)).off+1,none⟩=some (.string ((rd_T59 q aw).f1))∧w'.cell? ⟨(ci.add ((aw).toNat * 3)).block,(ci.add ((aw).toNat * 3)).off+2,none⟩=some (.int .i64 ((rd_T59 q aw).f2))) [10] spec_l03Without.tab6 spec_l03Without.bits6 ⟨bc aV 0,bc aC 0,((hbc HB cl).trans cl),((hbc HB cm).trans cm),((hbc HB cn).trans cn)⟩ (fun aQ bK eH=>?_);generalize wr.drew=iB at bN aC a3 aV HB dH dI dJ aQ ⊢;refine pu_ 0 23 bK ?_;refine pu_ 2 25 bK ?_;refine pu_ 4 27 bK ?_;refine ta_ 1 24 bK eH aQ ?_;refine ta_ 3 26 bK eH aQ ?_;refine pu_ 5 28 bK ?_;refine ta_ 6 29 bK eH aQ ?_;refine on_ 7 (some 30) bK (fun K hK=>?_);refine value_ (w1:=?_) (v:=?_) (by rfl) rfl ?_ ?_
   rotate_left 2
   ·go_simp
    constructor
    ·rfl
    rfl
   refine hK.out _ _ ⟨(blk_cell (blk_alloc aV.out _) 0).trans rfl,(blk_cell (blk_alloc aC.out _) 0).trans rfl,(World.cell?_alloc_lt _ _ _ (World.block_lt_of_cell? _ _ (((hbc HB cl).trans cl)))).trans (((hbc HB cl).trans cl)),(World.cell?_alloc_lt _ _ _ (World.block_lt_of_cell? _ _ (((hbc HB cm).trans cm)))).trans (((hbc HB cm).trans cm)),(World.cell?_alloc_lt _ _ _ (World.block_lt_of_cell? _ _ (((hbc HB cn).trans cn)))).trans (((hbc HB cn).trans cn))⟩ (fun aQ=>nm_ ?_);clear hK K;refine on_ 8 (some 31) bK (fun K hK=>?_);refine Kd.R_append_step k59 (w0:=w) w.heap.size (by rfl) (.tmp 24) (.tmp 30) 24 59 (.agg #[(.string ⟨#[]⟩),(.string ⟨#[]⟩),(.int .i64 0)]) 40 rfl Tryz.underlying24 info59 rfl (by decide) (by omega) cp cL (⟨(rd_T59 q aw).f0,(rd_T59 q aw).f1,(rd_T59 q aw).f2⟩:S59) [.string ((rd_T59 q aw).f0),.string ((rd_T59 q aw).f1),.int .i64 ((rd_T59 q aw).f2)] (fun _=>True) (fun _=>False) rfl rfl ?aP (fun _ hk=>hk.elim) ?aF ?aO ?aB ?aS ?aL ?_
   (case aP=>exact k59_mkM _ _ _ (⟨(rd_T59 q aw).f0,(rd_T59 q aw).f1,(rd_T59 q aw).f2⟩:S59))
   (case aB=>exact(Ae3 HB ch cq cW))
   (case aF=>exact(fun _ _=>trivial))
   (case aO=>exact(Ar bN))
   (case aS=>exact(below_size (Ae3 HB ch cq cW)))
   (case aL=>have:=g2.out;omega)
   intro nK iC ho hb hg hat;rw [←hm.out] at ho;replace aC:=bg aC hg (Kd.R_ne bN.out aC.out (by decide));replace a3:=bg a3 hg (Kd.R_ne bN.out a3.out (by decide));replace aV:=bg aV hg (Kd.R_ne bN.out aV.out (by decide));replace HB:=am hb;have fp:=am ho;clear bN;clear ho hb hg hat;obtain⟨gJ,hT,fT⟩:=Kd.R_slice fp.out
   (first|subst fT|(injection fT with f1_ f2_ f3_;have f4_:=f1_.symm;have f5_:=f3_.symm;clear f1_ f2_ f3_;subst f4_;subst f5_))
   refine hK.out _ _ ⟨bc aV 0,bc aC 0,((hbc HB cl).trans cl),((hbc HB cm).trans cm),((hbc HB cn).trans cn)⟩ (fun aQ=>nm_ ?_);clear hK K;refine pu_ 9 32 bK ?_;refine last_ (i:=10) (N:=none) #[true,true,true,true,true,true,true,true,true,true,true] rfl rfl (one_of bK.out gk_) (by decide) (fun K hK=>?_)
   have ny:iC.cell? ⟨dD,0,none⟩=some (cp):=bc aV 0
   have jA:=blk_frozen aV.out 0;obtain⟨nv,nw,jG,jH⟩:=o4_ cv dp dq eL;refine skip_ (w1:=?_) (by rfl) rfl ?_ ?_;rotate_left
   ·go_simp;rfl
   refine hK.out _ _ ?_;clear hK K;refine done_ (done_of bK.out gk_) ?_
   try go_wp2
   go_roundg k1
   case measure=>have:=bU.out;omega
   case rel=>exact⟨(wrap64 (aw+1)),gr,(.slice gJ gr.length hT),be_,ax,⟨(by have:=bU.out;omega)⟩,⟨tfg fp.out aV.out (by decide)⟩,Cp1 aC cv,Cp1 a3 dp,Cp0 aV,Ce3 HB ch cq cW⟩
  obtain rfl:=Option.some.inj Y;clear Y aa;obtain⟨ie,ij,kO,mH⟩:=o4_ eJ eK cv dq
  have oh:wr.cell? ⟨dC,0,none⟩=some (.slice J q.length D):=bc aC 0
  have oL:=blk_frozen aC.out 0;obtain⟨ig,ik⟩:=o2_ eL dp
  have oi:wr.cell? ⟨dD,0,none⟩=some (cp):=bc aV 0
  have oM:=blk_frozen aV.out 0;obtain⟨gN,hU,h6⟩:=Kd.R_slice bN.out;subst h6
  have iS:wr.cell? ⟨eU,0,none⟩=some (.slice none 0 0):=bc a3 0
  have i3:=blk_frozen a3.out 0
  go_wp2
  refine bodyPost_ret (results_cell_row rfl _ _ eU 26 #[.slice gN cL.length hU] (0,0) _ rfl (Ap0 a3) Tryz.underlying26 rfl gk_) rfl ?_
  exact⟨_,(by first|rfl|(simp [errW_none,errW_some] <;> rfl)|(simp [*,errW_none,errW_some] <;> rfl)),(tfg bN.out a3.out (by decide)),(Ae3 HB ch cq cW)⟩
theorem B31x18_ (h:p:=by have:=eF.out;have:=fn.out;first|omega|exact Nat.le_refl _):p:=h
theorem B31x22_ (h:p:=by first|(rw [add_block];exact hn806_0)|(show (Addr.add _ _).block≠_;rw [add_block];exact hn806_0)|exact hn806_0):p:=h
theorem B31x23_ (h:p:=by first|(rw [add_block];exact hn806_1)|(show (Addr.add _ _).block≠_;rw [add_block];exact hn806_1)|exact hn806_1):p:=h
theorem B31x24_ (h:p:=by first|(rw [add_block];exact hn806_2)|(show (Addr.add _ _).block≠_;rw [add_block];exact hn806_2)|exact hn806_2):p:=h
theorem B31x28_ (h:p:=by have:=World.block_lt_of_cell? _ _ bZ;first|rwa [add_block] at this|exact this):p:=h
theorem B31x31_ (h:p:=by exact Kd.C_below aN.out (Ae5 HB ap ar au aE aT)):p:=h
theorem B31x32_ (h:p:=by have:=eF.out;first|omega|exact Nat.le_refl _):p:=h
mutual
def spec_DoAct.j0:Nat→Bool→List (S59)→Int→ByteArray→ByteArray→ByteArray→Option ((List (S59)) × Bool)
 |0,_,_,_,_,_,_=>none
 |k+1,iH,bi,bT,bM,ce,b0=>if iH=true then (none) else ((spec_l03At.f k bi bM).bind fun aG=>(if aG≥0 then (if 0≤aG then (if aG<(bi.length:Int) then (spec_DoAct.j1 k aG bi bT bM ce b0 ((rd_T59 bi aG).f0) ((rd_T59 bi aG).f1) ((rd_T59 bi aG).f2)) else (none)) else (none)) else (spec_DoAct.j1 k aG bi bT bM ce b0 bM (⟨#[]⟩:ByteArray) 0)))
def spec_DoAct.j1:Nat→Int→List (S59)→Int→ByteArray→ByteArray→ByteArray→ByteArray→ByteArray→Int→Option ((List (S59)) × Bool)
 |0,_,_,_,_,_,_,_,_,_=>none
 |k+1,x6,bi,bT,bM,ce,b0,dk,b1,cM=>if bT=1 then (if b1.size+ce.size≤9223372036854775807 then ((spec_l03Put.f k bi dk (b1 ++ ce) cM).bind fun dV=>(spec_DoAct.j3 k dV)) else (none)) else (if x6<0 then (none) else (if bT=2 then ((spec_l03Put.f k bi dk b1 (b1.size:Int)).bind fun dW=>(spec_DoAct.j3 k dW)) else (if bT=3 then (if cM<(b1.size:Int) then (spec_DoAct.j2 k true bi bT bM ce b0 dk b1 cM) else (if b0.toList=bM.toList then (spec_DoAct.j2 k true bi bT bM ce b0 dk b1 cM) else ((spec_l03Name.f b0).bind fun et=>(spec_DoAct.j2 k (!et) bi bT bM ce b0 dk b1 cM)))) else (if bT=4 then ((spec_l03Without.f k bi bM).bind fun dZ=>(spec_DoAct.j3 k dZ)) else (none)))))
def spec_DoAct.j3:Nat→List (S59)→Option ((List (S59)) × Bool)
 |0,_=>none
 |k+1,gq=>(spec_DiskOk.f k gq).bind fun ff=>(if ff=true then (some (gq,true)) else (none))
def spec_DoAct.j2:Nat→Bool→List (S59)→Int→ByteArray→ByteArray→ByteArray→ByteArray→ByteArray→Int→Option ((List (S59)) × Bool)
 |0,_,_,_,_,_,_,_,_,_=>none
 |k+1,iG,bi,bT,bM,ce,b0,dk,b1,cM=>if iG=true then (none) else ((spec_l03Without.f k bi bM).bind fun dX=>((spec_l03Put.f k dX b0 b1 cM).bind fun dY=>(spec_DoAct.j3 k dY)))
end
def spec_DoAct.f (k:Nat) (q:List (S59)) (aj:Int) (ac:ByteArray) (ay:ByteArray) (ag:ByteArray):Option ((List (S59)) × Bool):=(spec_DiskOk.f k q).bind fun fd=>(if fd=true then ((spec_l03Name.f ac).bind fun fe=>(if fe=true then (if aj=3 then (if aj=1 then (spec_DoAct.j0 k false q aj ac ay ag) else (spec_DoAct.j0 k (ay.toList != ([]:List UInt8)) q aj ac ay ag)) else (if ag.toList=([]:List UInt8) then (if aj=1 then (spec_DoAct.j0 k false q aj ac ay ag) else (spec_DoAct.j0 k (ay.toList != ([]:List UInt8)) q aj ac ay ag)) else (spec_DoAct.j0 k true q aj ac ay ag))) else (none))) else (none))
theorem spec_DoAct.calls (k:Nat) (J:Option Addr) (D:Nat) (q:List (S59)) (aj:Int) (ac:ByteArray) (ay:ByteArray) (ag:ByteArray) (r1:List (S59)) (r2:Bool) (w:World) (be:Kd.C k59 w J q.length q) (bd:q.length≤D) (h:spec_DoAct.f k q aj ac ay ag=some (r1,r2)) :
  Calls Tryz.prog 35 #[.agg #[.slice J q.length D],.agg #[.int .i64 aj,.string ac,.string ay,.string ag]] w fun e w'=>∃ bS:Value,e=.returned (.tuple #[.agg #[bS],.bool r2])∧Kd.R k59 59 w' w.heap.size (fun _=>True) bS r1∧Below w.heap.size w w':=by
 have dG:=Tryz.underlying26
 have il:=Tryz.underlying65
 have eV:=Tryz.underlying59
 have aN:=am be
 have a6:=am bd
 clear be bd
 have HB:=am (Below.refl w.heap.size w)
 have af:=h
 clear h
 unfold spec_DoAct.f at af
 replace af:=am af
 go_enter Tryz.func35,Tryz.ntmps35
 go_upto_region 1 with (first|((with_reducible refine gate_dst (N:=2) rfl ?_);refine bx (N:=2) (cs:=#[.slice J q.length D]) (t:=26) ?_;intro aW hg w4 hbox hb;have z:=am hbox;have ap:=gA hg HB;replace HB:=hA HB hb;clear hb hbox hg)|((with_reducible refine gate_dst (N:=3) rfl ?_);refine bx (N:=3) (cs:=#[.int .i64 aj,.string ac,.string ay,.string ag]) (t:=65) ?_;intro bz hg w5 hbox hb;have B:=am hbox;have ar:=gA hg HB;replace HB:=De1 HB ap hb;have bn:=nA hg z;have bp:=mA hg z;replace z:=bA z hb;clear hb hbox hg)|((with_reducible refine gate_dst (N:=4) rfl ?_);refine bx (N:=4) (cs:=#[.slice none 0 0]) (t:=26) ?_;intro bQ hg w6 hbox hb;have M:=am hbox;have au:=gA hg HB;replace HB:=De2 HB ap ar hb;have bO:=nA hg z;have bP:=mA hg z;replace z:=bA z hb;have bq:=nA hg B;have br:=mA hg B;replace B:=bA B hb;clear hb hbox hg))
 (try simp only [Act.put,List.setIfInBounds_toArray,List.set_cons_zero,List.set_cons_succ])
 go_cut [37] (fun iu wc=>∃ (kq:Nat) (fh:Bool),iu=.bool fh∧Aside0 (spec_DoAct.j0 kq fh q aj ac ay ag=some (r1,r2))∧Aside0 (kq≤k)∧Hc wc aW #[(.slice J q.length D)] 26∧Hc wc bz #[.int .i64 aj,.string ac,.string ay,.string ag] 65∧Hc wc bQ #[(.slice none 0 0)] 26∧Hb w wc)
 case first=>
  replace af:=af.out;obtain⟨fd,A7,aa⟩:=bsi af;(try dsimp only at aa)
  by_cases c8:fd=true
  rotate_left
  ·replace c8:=Bool.eq_false_iff.mpr c8;subst c8;rw [if_neg (show ¬ (false=true) by decide)] at aa;exact absurd aa (by simp)
  subst c8;rw [if_pos rfl] at aa;obtain⟨fe,A9,Y⟩:=bsi aa;(try dsimp only at Y)
  by_cases c10:fe=true
  rotate_left
  ·replace c10:=Bool.eq_false_iff.mpr c10;subst c10;rw [if_neg (show ¬ (false=true) by decide)] at Y;exact absurd Y (by simp)
  subst c10;rw [if_pos rfl] at Y
  obtain⟨bw,ak⟩|⟨bw,ak⟩:=sp Y
  ·obtain⟨cj,eP⟩:=yE bw;clear bw
   (first|rw [cj]|(simp only [i64_w,i32_w];rw [cj])|skip)
   obtain⟨ej,al⟩|⟨ej,al⟩:=sp ak
   ·obtain⟨hx,hz⟩:=yE ej;clear ej;replace al:=am al;clear af aa Y ak;obtain⟨ib,ih,ke,l3⟩:=o4_ bn bp bO bP
    have n3:w6.cell? ⟨aW,0,none⟩=some (.slice J q.length D):=bc z 0
    have oE:=blk_frozen z.out 0
    go_wp2_with (first|((with_reducible refine gate_callee (f:=22) rfl ?_);refine goesL_ (some 10) rfl rfl Tryz.func22 gk_ rfl #[.agg #[.slice J q.length D]] rfl gm_ ?_;refine(spec_DiskOk.calls k _ _ q true _ (tc (Kd.C_below aN.out HB.out)) a6.out A7.out).mono ?_;rintro e f9 ⟨rfl,hb⟩;refine⟨_,rfl, ?_⟩;replace z:=bA z hb;replace B:=bA B hb;replace M:=bA M hb;replace HB:=De3 HB ap ar au hb;have ic:=bq.out;have ii:=br.out;obtain⟨bC,bD,bE,bF,bG,bH,bI,bJ⟩:=cf4 B)|(go_at_call 47;refine(spec_l03Name.calls ac true _ A9.out).mono ?_;rintro e w' ⟨rfl,⟨nd,rfl⟩⟩))
    go_meet
    case rel=>exact⟨_,false,be_,al,D8x1_⟩
   obtain⟨hx,hz⟩:=nE ej;replace al:=am al;clear af aa Y ak;obtain⟨kJ,mC,kN,mG⟩:=o4_ bn bp bO bP
   have og:w6.cell? ⟨aW,0,none⟩=some (.slice J q.length D):=bc z 0
   have oK:=blk_frozen z.out 0
   go_wp2_with (first|((with_reducible refine gate_callee (f:=22) rfl ?_);refine goesL_ (some 10) rfl rfl Tryz.func22 gk_ rfl #[.agg #[.slice J q.length D]] rfl gm_ ?_;refine(spec_DiskOk.calls k _ _ q true _ (tc (Kd.C_below aN.out HB.out)) a6.out A7.out).mono ?_;rintro e iD ⟨rfl,hb⟩;refine⟨_,rfl, ?_⟩;replace z:=bA z hb;replace B:=bA B hb;replace M:=bA M hb;replace HB:=De3 HB ap ar au hb;have ie:=bq.out;have ij:=br.out;obtain⟨bC,bD,bE,bF,bG,bH,bI,bJ⟩:=cf4 B)|(go_at_call 47;refine(spec_l03Name.calls ac true _ A9.out).mono ?_;rintro e w' ⟨rfl,⟨nd,rfl⟩⟩))
   go_meet
   case rel=>exact⟨_,((ay.toList != ([]:List UInt8))),be_,al,D8x1_⟩
  obtain⟨cj,eP⟩:=nE bw
  (first|rw [cj]|(simp only [i64_w,i32_w];rw [cj])|skip)
  obtain⟨dw,ax⟩|⟨dw,ax⟩:=sp ak
  ·obtain⟨hD,hE⟩:=yE dw;clear dw
   obtain⟨em,aA⟩|⟨em,aA⟩:=sp ax
   ·obtain⟨hF,hG⟩:=yE em;clear em;replace aA:=am aA;clear af aa Y ak ax;obtain⟨kP,mI,kQ,mJ⟩:=o4_ bn bp bO bP
    have iS:w6.cell? ⟨aW,0,none⟩=some (.slice J q.length D):=bc z 0
    have i3:=blk_frozen z.out 0
    go_wp2_with (first|((with_reducible refine gate_callee (f:=22) rfl ?_);refine goesL_ (some 10) rfl rfl Tryz.func22 gk_ rfl #[.agg #[.slice J q.length D]] rfl gm_ ?_;refine(spec_DiskOk.calls k _ _ q true _ (tc (Kd.C_below aN.out HB.out)) a6.out A7.out).mono ?_;rintro e gg ⟨rfl,hb⟩;refine⟨_,rfl, ?_⟩;replace z:=bA z hb;replace B:=bA B hb;replace M:=bA M hb;replace HB:=De3 HB ap ar au hb;have kR:=bq.out;have mK:=br.out;obtain⟨bC,bD,bE,bF,bG,bH,bI,bJ⟩:=cf4 B)|(go_at_call 47;refine(spec_l03Name.calls ac true _ A9.out).mono ?_;rintro e w' ⟨rfl,⟨nd,rfl⟩⟩))
    go_meet
    case rel=>exact⟨_,false,be_,aA,D8x1_⟩
   obtain⟨hF,hG⟩:=nE em;replace aA:=am aA;clear af aa Y ak ax;obtain⟨kS,mL,kT,mM⟩:=o4_ bn bp bO bP
   have ol:w6.cell? ⟨aW,0,none⟩=some (.slice J q.length D):=bc z 0
   have oO:=blk_frozen z.out 0
   go_wp2_with (first|((with_reducible refine gate_callee (f:=22) rfl ?_);refine goesL_ (some 10) rfl rfl Tryz.func22 gk_ rfl #[.agg #[.slice J q.length D]] rfl gm_ ?_;refine(spec_DiskOk.calls k _ _ q true _ (tc (Kd.C_below aN.out HB.out)) a6.out A7.out).mono ?_;rintro e nW ⟨rfl,hb⟩;refine⟨_,rfl, ?_⟩;replace z:=bA z hb;replace B:=bA B hb;replace M:=bA M hb;replace HB:=De3 HB ap ar au hb;have kU:=bq.out;have mN:=br.out;obtain⟨bC,bD,bE,bF,bG,bH,bI,bJ⟩:=cf4 B)|(go_at_call 47;refine(spec_l03Name.calls ac true _ A9.out).mono ?_;rintro e w' ⟨rfl,⟨nd,rfl⟩⟩))
   go_meet
   case rel=>exact⟨_,((ay.toList != ([]:List UInt8))),be_,aA,D8x1_⟩
  obtain⟨hD,hE⟩:=nE dw;replace ax:=am ax;clear af aa Y ak;obtain⟨kV,mO,kW,mP⟩:=o4_ bn bp bO bP
  have om:w6.cell? ⟨aW,0,none⟩=some (.slice J q.length D):=bc z 0
  have oP:=blk_frozen z.out 0
  go_wp2_with (first|((with_reducible refine gate_callee (f:=22) rfl ?_);refine goesL_ (some 10) rfl rfl Tryz.func22 gk_ rfl #[.agg #[.slice J q.length D]] rfl gm_ ?_;refine(spec_DiskOk.calls k _ _ q true _ (tc (Kd.C_below aN.out HB.out)) a6.out A7.out).mono ?_;rintro e nY ⟨rfl,hb⟩;refine⟨_,rfl, ?_⟩;replace z:=bA z hb;replace B:=bA B hb;replace M:=bA M hb;replace HB:=De3 HB ap ar au hb;have kZ:=bq.out;have mS:=br.out;obtain⟨bC,bD,bE,bF,bG,bH,bI,bJ⟩:=cf4 B)|(go_at_call 47;refine(spec_l03Name.calls ac true _ A9.out).mono ?_;rintro e w' ⟨rfl,⟨nd,rfl⟩⟩))
  go_meet
  case rel=>exact⟨_,true,be_,ax,D8x1_⟩
 clear af
 obtain⟨kq,fh,rfl,aZ,eF,z,B,M,HB⟩:=hcut
 cases kq with
 |zero=>exact absurd aZ.out (by simp [spec_DoAct.j0])
 |succ fZ=>?_
 replace aZ:=aZ.out
 simp only [spec_DoAct.j0] at aZ
 obtain⟨rfl,bL⟩|⟨rfl,bL⟩:=sb aZ
 ·exact absurd bL (by simp)
 obtain⟨aG,gC,a8⟩:=bsi bL
 (try dsimp only at a8)
 replace a8:=am a8
 clear aZ bL
 obtain⟨k0,mT,k4,mU⟩:=o4_ bn bp bO bP
 have oo:wc.cell? ⟨aW,0,none⟩=some (.slice J q.length D):=bc z 0
 have oQ:=blk_frozen z.out 0
 obtain⟨k5,mV⟩:=o2_ bq br
 obtain⟨bC,bD,bE,bF,bG,bH,bI,bJ⟩:=cf4 B
 go_upto_if 47 with (first|((with_reducible refine gate_callee (f:=69) rfl ?_);refine goesL_ (some 42) rfl rfl Tryz.func69 gk_ rfl #[.agg #[.slice J q.length D],.string ac] rfl gm_ ?_;refine(spec_l03At.calls fZ _ _ q ac aG _ (tc (Kd.C_below aN.out HB.out)) a6.out gC.out).mono ?_;rintro e iE ⟨rfl,hb⟩;refine⟨_,rfl, ?_⟩;replace z:=bA z hb;replace B:=bA B hb;replace M:=bA M hb;replace HB:=De3 HB ap ar au hb;obtain⟨bC,bD,bE,bF,bG,bH,bI,bJ⟩:=cf4 B)|((with_reducible refine gate_dst (N:=7) rfl ?_);refine bx (N:=7) (cs:=#[.string (⟨#[]⟩:ByteArray),.string (⟨#[]⟩:ByteArray),.int .i64 0]) (t:=59) ?_;intro av hg gh hbox hb;have Z:=am hbox;have eD:=gA hg HB;have aE:=gA hg HB;replace HB:=De3 HB ap ar au hb;have bo:=nA hg z;have b7:=mA hg z;replace z:=bA z hb;have bk:=nA hg B;have bX:=mA hg B;replace B:=bA B hb;have bu:=nA hg M;have b8:=mA hg M;replace M:=bA M hb;clear hb hbox hg;have k6:=b7.out;have mW:=bo.out;have k7:=bX.out;have mX:=bk.out;have k8:=b8.out;have mY:=bu.out;obtain⟨cQ,cR,cS,cT,cU,cV⟩:=cf3 Z))
 (try simp only [Act.put,List.setIfInBounds_toArray,List.set_cons_zero,List.set_cons_succ])
 go_cut [] (fun wc=>∃ (kq:Nat) (a5:ByteArray) (az:ByteArray) (aY:Int),Aside0 (spec_DoAct.j1 kq aG q aj ac ay ag a5 az aY=some (r1,r2))∧Aside0 (kq≤fZ)∧Hc wc aW #[(.slice J q.length D)] 26∧Hc wc bz #[.int .i64 aj,.string ac,.string ay,.string ag] 65∧Hc wc bQ #[(.slice none 0 0)] 26∧Hc wc av #[.string a5,.string az,.int .i64 aY] 59∧Hb w wc)
 case first=>
  replace a8:=a8.out
  obtain⟨dx,bj⟩|⟨dx,bj⟩:=sp a8
  ·have dy:decide (0≤aG)=true:=decide_eq_true dx
   clear dx
   (first|rw [dy]|(simp only [i64_w,i32_w];rw [dy])|skip)
   obtain⟨jq,bV⟩:=yd bj;obtain⟨jr,b3⟩:=yd bV;replace b3:=am b3;clear a8 bj bV;obtain⟨lb,m0,lc,m1,ld,m2⟩:=o6_ bn bp bO bP bo b7
   have ot:gh.cell? ⟨aW,0,none⟩=some (.slice J q.length D):=bc z 0
   have oS:=blk_frozen z.out 0
   have e2:0≤(aG:Int):=dga
   have e5:aG<(q.length:Int):=dga
   obtain⟨eh,hZ,bZ,ca,cc⟩:=at_T59 aN.out aG e2 e5;cases hZ
   have hn806_0:eh.block≠av:=Nat.ne_of_lt (Nat.lt_of_lt_of_le B31x28_ eD.out)
   have hn806_1:eh.block≠av:=Nat.ne_of_lt (Nat.lt_of_lt_of_le B31x28_ eD.out)
   have hn806_2:eh.block≠av:=Nat.ne_of_lt (Nat.lt_of_lt_of_le B31x28_ eD.out)
   replace bZ:=(hbc HB bZ).trans bZ;replace ca:=(hbc HB ca).trans ca;replace cc:=(hbc HB cc).trans cc;replace bZ:=(cell_far (p:=⟨av,0,none⟩) B31x22_ (.string ac)).trans bZ;replace ca:=(cell_far (p:=⟨av,0,none⟩) B31x22_ (.string ac)).trans ca;replace cc:=(cell_far (p:=⟨av,0,none⟩) B31x22_ (.string ac)).trans cc;replace bZ:=(cell_far (p:=⟨av,1,none⟩) B31x23_ (.string (⟨#[]⟩:ByteArray))).trans bZ;replace ca:=(cell_far (p:=⟨av,1,none⟩) B31x23_ (.string (⟨#[]⟩:ByteArray))).trans ca;replace cc:=(cell_far (p:=⟨av,1,none⟩) B31x23_ (.string (⟨#[]⟩:ByteArray))).trans cc;replace bZ:=(cell_far (p:=⟨av,2,none⟩) B31x24_ (.int .i64 0)).trans bZ;replace ca:=(cell_far (p:=⟨av,2,none⟩) B31x24_ (.int .i64 0)).trans ca;replace cc:=(cell_far (p:=⟨av,2,none⟩) B31x24_ (.int .i64 0)).trans cc;clear hn806_0;clear hn806_1;clear hn806_2;replace e2:=eq_true e2;replace e5:=eq_true e5;obtain⟨lf,m3,lg,m4⟩:=o4_ bX bk b8 bu;obtain⟨cQ,cR,cS,cT,cU,cV⟩:=cf3 Z
   go_wp2_with (first|((with_reducible refine gate_store (t:=59) (p:=7) rfl ?_);refine store_event (t:=59) (p:=7) (v:=?vo_w70) (w1:=((((((gh.setCell ⟨av,0,none⟩ (.string ac)).setCell ⟨av,1,none⟩ (.string (⟨#[]⟩:ByteArray))).setCell ⟨av,2,none⟩ (.int .i64 0)).setCell ⟨av,0,none⟩ (.string ((rd_T59 q aG).f0))).setCell ⟨av,1,none⟩ (.string ((rd_T59 q aG).f1))).setCell ⟨av,2,none⟩ (.int .i64 ((rd_T59 q aG).f2)))) ?hg ?ho ?hn ?hr ?_;(case ho=>rfl);(case hg=>rfl);(case hn=>rfl);(case hr=>exact gs_);intro d0 hw;replace z:Hc d0 aW #[.slice (some eh) q.length D] 26:=⟨wAp1 z bo⟩;replace B:Hc d0 bz #[.int .i64 aj,.string ac,.string ay,.string ag] 65:=⟨wAp1 B bk⟩;replace M:Hc d0 bQ #[.slice none 0 0] 26:=⟨wAp1 M bu⟩;replace Z:Hc d0 av #[.string ((rd_T59 q aG).f0),.string ((rd_T59 q aG).f1),.int .i64 ((rd_T59 q aG).f2)] 59:=⟨wAp0 Z⟩;replace HB:Hb w d0:=⟨wAe4 HB ap ar au aE⟩;clear hw))
   go_meet
   case rel=>exact⟨_,((rd_T59 q aG).f0),((rd_T59 q aG).f1),((rd_T59 q aG).f2),b3,⟨B31x32_⟩,Cb z,Cb B,Cb M,Cb Z,Ce4 HB ap ar au aE⟩
  have dy:decide (0≤aG)=false:=decide_eq_false dx
  clear dx
  (first|rw [dy]|(simp only [i64_w,i32_w];rw [dy])|skip)
  replace bj:=am bj;clear a8
  go_wp2
  go_meet
  case rel=>exact⟨_,ac,((⟨#[]⟩:ByteArray)),0,bj,⟨B31x32_⟩,Cp1 z bo,Cp1 B bk,Cp1 M bu,Cp0 Z,Ce4 HB ap ar au aE⟩
 clear a8
 try clear fH
 obtain⟨kq,a5,az,aY,a9,fn,z,B,M,Z,HB⟩:=hcut
 cases kq with
 |zero=>exact absurd a9.out (by simp [spec_DoAct.j1])
 |succ dT=>?_
 replace a9:=a9.out
 simp only [spec_DoAct.j1] at a9
 replace a9:=am a9
 go_upto_block 0 with (first|((with_reducible refine gate_dst (N:=8) rfl ?_);refine bx (N:=8) (cs:=#[.slice none 0 0]) (t:=26) ?_;intro aU hg ev hbox hb;have ai:=am hbox;have aT:=gA hg HB;replace HB:=De4 HB ap ar au aE hb;have ba:=nA hg z;have dd:=mA hg z;replace z:=bA z hb;have aJ:=nA hg B;have bY:=mA hg B;replace B:=bA B hb;have bh:=nA hg M;have de:=mA hg M;replace M:=bA M hb;have aD:=nA hg Z;have bv:=mA hg Z;replace Z:=bA Z hb;clear hb hbox hg;have li:=dd.out;have m6:=ba.out;have lj:=bY.out;have m7:=aJ.out;have lk:=de.out;have m8:=bh.out;have ll:=bv.out;have m9:=aD.out;have ox:ev.cell? ⟨aU,0,none⟩=some (.slice none 0 0):=bc ai 0;have oW:=blk_frozen ai.out 0))
 (try simp only [Act.put,List.setIfInBounds_toArray,List.set_cons_zero,List.set_cons_succ])
 go_cut [] (fun wc=>∃ (kq:Nat) (gm:ByteArray) (gn:ByteArray) (gp:Int) (cN:List (S59)) (eu:Value),Aside0 (spec_DoAct.j3 kq cN=some (r1,r2))∧Aside0 (kq≤dT)∧Aside0 (Kd.R k59 59 wc w.heap.size (fun k_=>k_≠av) eu cN)∧Hc wc aW #[(.slice J q.length D)] 26∧Hc wc bz #[.int .i64 aj,.string ac,.string ay,.string ag] 65∧Hc wc bQ #[(.slice none 0 0)] 26∧Hc wc av #[.string gm,.string gn,.int .i64 gp] 59∧Hc wc aU #[eu] 26∧Hb w wc)
 case first=>
  replace a9:=a9.out
  obtain⟨dz,bW⟩|⟨dz,bW⟩:=sp a9
  ·obtain⟨df,fM⟩:=yE dz;clear dz
   (first|rw [df]|(simp only [i64_w,i32_w];rw [df])|skip)
   obtain⟨eQ,b4⟩:=yn bW;have js:=eq_true eQ;have jt:=decide_eq_true eQ
   try have hM:(9223372036854775807<az.size+ay.size)=False:=eq_false (Nat.not_lt.2 eQ)
   try(have hN:=hM;simp only [ByteArray.size_append] at hN)
   obtain⟨dV,gD,b5⟩:=bsi b4;(try dsimp only at b5);replace b5:=am b5;clear a9 bW b4;obtain⟨lm,na,ln,nb,lp,nc,lq,nf⟩:=o8_ bp bn bq br bk bX aJ bY;obtain⟨bC,bD,bE,bF,bG,bH,bI,bJ⟩:=cf4 B;obtain⟨lr,nh,ls,ni,lu,nj⟩:=o6_ b7 bo b8 bu aD bv;obtain⟨cQ,cR,cS,cT,cU,cV⟩:=cf3 Z;obtain⟨lv,nk,lw,nn⟩:=o4_ bO bP ba dd
   have oz:ev.cell? ⟨aW,0,none⟩=some (.slice J q.length D):=bc z 0
   have oY:=blk_frozen z.out 0
   go_wp2_with (first|((with_reducible refine gate_callee (f:=20) rfl ?_);refine goesL_ (some 67) rfl rfl Tryz.func20 gk_ rfl #[.agg #[.slice J q.length D],.agg #[.string a5,.string (az ++ ay),.int .i64 aY]] rfl gm_ ?_;refine(spec_l03Put.calls dT _ _ q a5 (az ++ ay) aY dV _ B31x31_ a6.out gD.out).mono ?_;rintro e iF ⟨nL,rfl,b9,hb⟩;refine⟨_,rfl, ?_⟩;have fq:=am (Kd.R_lower (Kd.R_newB b9 (g:=av) (o:=.cells #[.string a5,.string (az ++ ay),.int .i64 aY] 59 (0,0)) (Ap1 Z aD)) (below_size (Ae5 HB ap ar au aE aT)));replace z:=am (blk_below (g:=aW) (o:=.cells #[.slice J q.length D] 26 (0,0)) (Ap2 z bo ba) hb);replace B:=am (blk_below (g:=bz) (o:=.cells #[.int .i64 aj,.string ac,.string ay,.string ag] 65 (0,0)) (Ap2 B bk aJ) hb);replace M:=am (blk_below (g:=bQ) (o:=.cells #[.slice none 0 0] 26 (0,0)) (Ap2 M bu bh) hb);replace Z:=am (blk_below (g:=av) (o:=.cells #[.string a5,.string (az ++ ay),.int .i64 aY] 59 (0,0)) (Ap1 Z aD) hb);replace ai:=am (blk_below (g:=aU) (o:=.cells #[.slice none 0 0] 26 (0,0)) (Ap1 ai bv) hb);replace HB:=De5 HB ap ar au aE aT hb;obtain⟨gP,hW,h8⟩:=Kd.R_slice fq.out;subst h8;have lx:=de.out;have np:=bh.out;have oA:iF.cell? ⟨aU,0,none⟩=some (.slice none 0 0):=bc ai 0;have oZ:=blk_frozen ai.out 0))
   go_meet
   case rel=>exact⟨_,a5,(az ++ ay),aY,dV,(.slice gP dV.length hW),b5,⟨B31x18_⟩,⟨tfg fq.out ai.out (by decide)⟩,D8x0_⟩
  obtain⟨df,fM⟩:=nE dz
  (first|rw [df]|(simp only [i64_w,i32_w];rw [df])|skip)
  obtain⟨fO,bm⟩|⟨fO,bm⟩:=sd bW
  ·exact absurd bm (by simp)
  obtain⟨dB,b6⟩|⟨dB,b6⟩:=sp bm
  ·obtain⟨fP,fQ⟩:=yE dB;clear dB;obtain⟨dW,gE,ct⟩:=bsi b6;(try dsimp only at ct);replace ct:=am ct;clear a9 bW bm b6;obtain⟨jI,ly,jJ,lz,jK,lA,jL,lB⟩:=o8_ bp bn bq br bk bX aJ bY;obtain⟨bC,bD,bE,bF,bG,bH,bI,bJ⟩:=cf4 B;obtain⟨jM,lC,jN,lD,jO,lE⟩:=o6_ b7 bo b8 bu aD bv;obtain⟨cQ,cR,cS,cT,cU,cV⟩:=cf3 Z;obtain⟨jP,lF,jR,lH⟩:=o4_ bO bP ba dd
   have n1:ev.cell? ⟨aW,0,none⟩=some (.slice J q.length D):=bc z 0
   have oC:=blk_frozen z.out 0
   go_wp2_with (first|((with_reducible refine gate_callee (f:=20) rfl ?_);refine goesL_ (some 82) rfl rfl Tryz.func20 gk_ rfl #[.agg #[.slice J q.length D],.agg #[.string a5,.string az,.int .i64 (az.size:Int)]] rfl gm_ ?_;refine(spec_l03Put.calls dT _ _ q a5 az (az.size:Int) dW _ B31x31_ a6.out gE.out).mono ?_;rintro e ix ⟨nM,rfl,b9,hb⟩;refine⟨_,rfl, ?_⟩;have fr:=am (Kd.R_lower (Kd.R_newB b9 (g:=av) (o:=.cells #[.string a5,.string az,.int .i64 (az.size:Int)] 59 (0,0)) (Ap1 Z aD)) (below_size (Ae5 HB ap ar au aE aT)));replace z:=am (blk_below (g:=aW) (o:=.cells #[.slice J q.length D] 26 (0,0)) (Ap2 z bo ba) hb);replace B:=am (blk_below (g:=bz) (o:=.cells #[.int .i64 aj,.string ac,.string ay,.string ag] 65 (0,0)) (Ap2 B bk aJ) hb);replace M:=am (blk_below (g:=bQ) (o:=.cells #[.slice none 0 0] 26 (0,0)) (Ap2 M bu bh) hb);replace Z:=am (blk_below (g:=av) (o:=.cells #[.string a5,.string az,.int .i64 (az.size:Int)] 59 (0,0)) (Ap1 Z aD) hb);replace ai:=am (blk_below (g:=aU) (o:=.cells #[.slice none 0 0] 26 (0,0)) (Ap1 ai bv) hb);replace HB:=De5 HB ap ar au aE aT hb;obtain⟨gF,hP,h0⟩:=Kd.R_slice fr.out;subst h0;have jS:=de.out;have lI:=bh.out;have n2:ix.cell? ⟨aU,0,none⟩=some (.slice none 0 0):=bc ai 0;have oD:=blk_frozen ai.out 0))
   go_meet
   case rel=>exact⟨_,a5,az,((az.size:Int)),dW,(.slice gF dW.length hP),ct,⟨B31x18_⟩,⟨tfg fr.out ai.out (by decide)⟩,D8x0_⟩
  obtain⟨fP,fQ⟩:=nE dB
  obtain⟨dr,aM⟩|⟨dr,aM⟩:=sp b6
  ·obtain⟨fC,fD⟩:=yE dr;clear dr;replace aM:=am aM;clear a9 bW bm b6;obtain⟨jT,lJ,jU,lK,jW,lN,jX,lO⟩:=o8_ bp bn bq br bk bX aJ bY;obtain⟨bC,bD,bE,bF,bG,bH,bI,bJ⟩:=cf4 B
   go_upto_region 18 with (fail)
   go_cut [105] (fun ir wc=>∃ (kq:Nat) (fg:Bool),ir=.bool fg∧Aside0 (spec_DoAct.j2 kq fg q aj ac ay ag a5 az aY=some (r1,r2))∧Aside0 (kq≤dT)∧Hc wc aW #[(.slice J q.length D)] 26∧Hc wc bz #[.int .i64 aj,.string ac,.string ay,.string ag] 65∧Hc wc bQ #[(.slice none 0 0)] 26∧Hc wc av #[.string a5,.string az,.int .i64 aY] 59∧Hc wc aU #[(.slice none 0 0)] 26∧Hb w wc)
   case first=>
    replace aM:=aM.out
    obtain⟨dt,cu⟩|⟨dt,cu⟩:=sd aM
    ·(first|rw [dt]|(simp only [i64_w,i32_w];rw [dt])|skip)
     replace cu:=am cu;clear aM;obtain⟨jY,lP,jZ,lQ,j4,lR,j5,lT⟩:=o8_ b7 bo bX bk b8 bu aD bv;obtain⟨cQ,cR,cS,cT,cU,cV⟩:=cf3 Z
     go_wp2
     go_meet
     case rel=>exact⟨_,true,be_,cu,⟨B31x18_⟩,D8x0_⟩
    (first|rw [dt]|(simp only [i64_w,i32_w];rw [dt])|skip)
    obtain⟨ek,cZ⟩|⟨ek,cZ⟩:=sp cu
    ·obtain⟨hu,hv⟩:=yE ek;clear ek;replace cZ:=am cZ;clear aM cu;obtain⟨j6,lU,j7,lV,j8,lW,j9,lX⟩:=o8_ b7 bo bX bk b8 bu aD bv;obtain⟨cQ,cR,cS,cT,cU,cV⟩:=cf3 Z;obtain⟨ka,lY,kc,lZ,kd,l2⟩:=o6_ bp bn bq br aJ bY;obtain⟨bC,bD,bE,bF,bG,bH,bI,bJ⟩:=cf4 B
     go_wp2
     go_meet
     case rel=>exact⟨_,true,be_,cZ,⟨B31x18_⟩,D8x0_⟩
    obtain⟨hu,hv⟩:=nE ek;obtain⟨et,gs,eb⟩:=bsi cZ;(try dsimp only at eb);replace eb:=am eb;clear aM cu cZ;obtain⟨kf,l4,kg,l5,kh,l6,ki,l7⟩:=o8_ b7 bo bX bk b8 bu aD bv;obtain⟨cQ,cR,cS,cT,cU,cV⟩:=cf3 Z;obtain⟨kj,l8,kk,l9,kl,ma⟩:=o6_ bp bn bq br aJ bY;obtain⟨bC,bD,bE,bF,bG,bH,bI,bJ⟩:=cf4 B
    go_wp2_with (first|(go_at_call 47;refine(spec_l03Name.calls ag et _ gs.out).mono ?_;rintro e w' ⟨rfl,⟨nd,rfl⟩⟩))
    go_meet
    case rel=>exact⟨_,(!et),be_,eb,⟨B31x18_⟩,D8x0_⟩
   clear aM
   try clear fH
   try clear dz
   try clear df
   try clear fM
   try clear jw
   try clear fO
   try clear dB
   try clear fP
   try clear fQ
   try clear dr
   try clear fC
   try clear fD
   obtain⟨kq,fg,rfl,da,gR,z,B,M,Z,ai,HB⟩:=hcut
   cases kq with
   |zero=>exact absurd da.out (by simp [spec_DoAct.j2])
   |succ fY=>?_
   replace da:=da.out;simp only [spec_DoAct.j2] at da
   obtain⟨rfl,ec⟩|⟨rfl,ec⟩:=sb da
   ·exact absurd ec (by simp)
   obtain⟨dX,gu,eI⟩:=bsi ec;(try dsimp only at eI);obtain⟨dY,gv,ed⟩:=bsi eI;(try dsimp only at ed);replace ed:=am ed;clear da ec eI;obtain⟨km,mb,kn,mc,ko,md,kp,me⟩:=o8_ bp bn bq br bk bX aJ bY;obtain⟨bC,bD,bE,bF,bG,bH,bI,bJ⟩:=cf4 B;obtain⟨kr,mf,ks,mg,kt,mh⟩:=o6_ b7 bo b8 bu aD bv;obtain⟨cQ,cR,cS,cT,cU,cV⟩:=cf3 Z
   try go_wp2
   generalize hw:(wc.setCell ⟨av,0,none⟩ (.string ag))=cI;replace hw:=hw.symm
   replace z:Hc cI aW #[.slice J q.length D] 26:=⟨wAp1 z bo⟩
   replace B:Hc cI bz #[.int .i64 aj,.string ac,.string ay,.string ag] 65:=⟨wAp1 B bk⟩
   replace M:Hc cI bQ #[.slice none 0 0] 26:=⟨wAp1 M bu⟩
   replace Z:Hc cI av #[.string ag,.string az,.int .i64 aY] 59:=⟨wAp0 Z⟩
   replace ai:Hc cI aU #[.slice none 0 0] 26:=⟨wAp1 ai bv⟩
   replace HB:Hb w cI:=⟨wAe5 HB ap ar au aE aT⟩
   clear hw;replace z:=dA z;replace B:=dA B;replace M:=dA M;replace Z:=dA Z;replace ai:=dA ai;replace HB:=bdr HB;refine start_ (n:=7) (S:=fun w'=>w'.cell? ⟨aW,0,none⟩=some (.slice J q.length D)∧w'.cell? ⟨bz,0,none⟩=some (.int .i64 aj)∧w'.cell? ⟨bz,1,none⟩=some (.string ac)∧w'.cell? ⟨bz,2,none⟩=some (.string ay)∧w'.cell? ⟨bz,3,none⟩=some (.string ag)∧w'.cell? ⟨av,0,none⟩=some (.string ag)∧w'.cell? ⟨av,1,none⟩=some (.string az)∧w'.cell? ⟨av,2,none⟩=some (.int .i64 aY)) (ds:=[]) #[false,false,false,false,false,false,false] gk_ rfl rfl D8x2_ (fun aQ=>?_);generalize cI.drew=nT at z B M Z ai HB aQ ⊢;refine pure_ (i:=1) (N:=some 111) (v:=?_) (a':=?_) #[false,true,false,false,false,false,false] rfl rfl gk_ (fun _ _ _ h=>h) (Or.inl ⟨(by rfl), ?_⟩) ?_ ?_;rotate_left
   ·intro w';go_simp;with_reducible rfl
   rotate_left
   ·simp only [Act.put,List.setIfInBounds_toArray,List.set_cons_zero,List.set_cons_succ,i64_w,i32_w];rfl
   refine take_ (i:=0) (N:=some 110) (v:=?_) (a':=?_) #[true,true,false,false,false,false,false] rfl rfl gk_ (fun _ _ _ h=>h) (Or.inl ⟨(by rfl), ?_⟩) aQ ?_ ?_;rotate_left
   ·rintro w' ⟨s0,s1,s2,s3,s4,s5,s6,s7⟩;go_simp;with_reducible rfl
   rotate_left
   ·simp only [Act.put,List.setIfInBounds_toArray,List.set_cons_zero,List.set_cons_succ,i64_w,i32_w];rfl
   refine take_ (i:=2) (N:=some 112) (v:=?_) (a':=?_) #[true,true,true,false,false,false,false] rfl rfl gk_ (fun _ _ _ h=>h) (Or.inl ⟨(by rfl), ?_⟩) aQ ?_ ?_;rotate_left
   ·rintro w' ⟨s0,s1,s2,s3,s4,s5,s6,s7⟩;go_simp;with_reducible rfl
   rotate_left
   ·simp only [Act.put,List.setIfInBounds_toArray,List.set_cons_zero,List.set_cons_succ,i64_w,i32_w];rfl
   refine take_ (i:=4) (N:=some 114) (v:=?_) (a':=?_) #[true,true,true,false,true,false,false] rfl rfl gk_ (fun _ _ _ h=>h) (Or.inl ⟨(by rfl), ?_⟩) aQ ?_ ?_;rotate_left
   ·rintro w' ⟨s0,s1,s2,s3,s4,s5,s6,s7⟩;go_simp;with_reducible rfl
   rotate_left
   ·simp only [Act.put,List.setIfInBounds_toArray,List.set_cons_zero,List.set_cons_succ,i64_w,i32_w];rfl
   refine one_ (i:=3) (N:=some 113) #[true,true,true,true,true,false,false] rfl rfl gk_ (by decide) (fun K hK=>?_);refine goes_ Tryz.func70 gk_ rfl #[.agg #[.slice J q.length D],.string ac] (by rfl) rfl rfl gm_ ?_;refine(spec_l03Without.calls fY _ _ q ac dX _ (tc (Kd.C_below aN.out HB.out)) a6.out gu.out).mono ?_;rintro e nU ⟨nN,rfl,b9,hb⟩;refine⟨_,rfl, ?_⟩;have ea:=am (Kd.R_lower (Kd.R_newB b9 (g:=av) (o:=.cells #[.string ag,.string az,.int .i64 aY] 59 (0,0)) (Ab Z)) (below_size (Ae5 HB ap ar au aE aT)));replace z:=bA z hb;replace B:=bA B hb;replace M:=bA M hb;replace Z:=bA Z hb;replace ai:=bA ai hb;replace HB:=De5 HB ap ar au aE aT hb;obtain⟨gG,hQ,fR⟩:=Kd.R_slice ea.out
   (first|subst fR|(injection fR with f1_ f2_ f3_;have f4_:=f1_.symm;have f5_:=f3_.symm;clear f1_ f2_ f3_;subst f4_;subst f5_))
   refine hK.out _ _ D8x2_ (fun aQ=>nm_ ?_);clear hK K;refine one_ (i:=5) (N:=some 115) #[true,true,true,true,true,true,false] rfl rfl gk_ (by decide) (fun K hK=>?_);refine goes_ Tryz.func20 gk_ rfl #[.agg #[.slice gG dX.length hQ],.agg #[.string ag,.string az,.int .i64 aY]] (by rfl) rfl rfl gm_ ?_
   with_reducible refine(spec_l03Put.calls fY _ _ dX ag az aY dY _ ?z1 ?z2 gv.out).mono ?_
   (case z1=>repeat (first|exact(Kd.R_reads' ea.out).2.2|(with_reducible refine Kd.C_alloc ?_ _)|(with_reducible refine Kd.C_drewN ?_ _)|(with_reducible refine Kd.C_drew ?_)))
   (case z2=>exact(Kd.R_reads' ea.out).2.1)
   rintro e iz ⟨nO,rfl,b9,hb⟩;refine⟨_,rfl, ?_⟩;have fs:=am (Kd.R_lower (Kd.R_newB (Kd.R_new' b9 (Kd.R_lt (Ar ea))) (g:=av) (o:=.cells #[.string ag,.string az,.int .i64 aY] 59 (0,0)) (Ab Z)) (below_size (Ae5 HB ap ar au aE aT)));replace z:=bA z hb;replace B:=bA B hb;replace M:=bA M hb;replace Z:=bA Z hb;replace ai:=bA ai hb;replace HB:=De5 HB ap ar au aE aT hb;obtain⟨gH,hR,fS⟩:=Kd.R_slice fs.out
   (first|subst fS|(injection fS with f1_ f2_ f3_;have f4_:=f1_.symm;have f5_:=f3_.symm;clear f1_ f2_ f3_;subst f4_;subst f5_))
   refine hK.out _ _ D8x2_ (fun aQ=>nm_ ?_);clear hK K;refine one_ (i:=6) (N:=none) #[true,true,true,true,true,true,true] rfl rfl gk_ (by decide) (fun K hK=>?_)
   have nx:iz.cell? ⟨aU,0,none⟩=some (.slice none 0 0):=bc ai 0
   have jz:=blk_frozen ai.out 0;obtain⟨nr,ns,nt,nu,jC,jD,jE,jF⟩:=o8_ ba aJ bh aD dd bY de bv;refine skip_ (w1:=?_) (by rfl) rfl ?_ ?_;rotate_left
   ·go_simp;rfl
   refine hK.out _ _ ⟨((cell_far (p:=⟨aU,_,none⟩) ba.out _).trans (aQ.1)),((cell_far (p:=⟨aU,_,none⟩) aJ.out _).trans (aQ.2.1)),((cell_far (p:=⟨aU,_,none⟩) aJ.out _).trans (aQ.2.2.1)),((cell_far (p:=⟨aU,_,none⟩) aJ.out _).trans (aQ.2.2.2.1)),((cell_far (p:=⟨aU,_,none⟩) aJ.out _).trans (aQ.2.2.2.2.1)),((cell_far (p:=⟨aU,_,none⟩) aD.out _).trans (aQ.2.2.2.2.2.1)),((cell_far (p:=⟨aU,_,none⟩) aD.out _).trans (aQ.2.2.2.2.2.2.1)),((cell_far (p:=⟨aU,_,none⟩) aD.out _).trans (aQ.2.2.2.2.2.2.2))⟩ (fun aQ=>?_);clear hK K;refine done_ gk_ ?_
   try go_wp2
   go_meet
   case rel=>exact⟨_,ag,az,aY,dY,(.slice gH dY.length hR),ed,⟨(by have:=eF.out;have:=fn.out;have:=gR.out;first|omega|exact Nat.le_refl _)⟩,⟨tfg fs.out ai.out (by decide)⟩,D8x0_⟩
  obtain⟨fC,fD⟩:=nE dr
  by_cases du:aj=4
  rotate_left
  ·rw [if_neg du] at aM;obtain⟨hB,hC⟩:=nE du;exact absurd aM (by simp)
  rw [if_pos du] at aM;obtain⟨hB,hC⟩:=yE du;clear du;obtain⟨dZ,gw,ee⟩:=bsi aM;(try dsimp only at ee);replace ee:=am ee;clear a9 bW bm b6 aM;obtain⟨kv,mj,kw,ml,kx,mm,ky,mo⟩:=o8_ bp bn bq br bk bX aJ bY;obtain⟨bC,bD,bE,bF,bG,bH,bI,bJ⟩:=cf4 B;obtain⟨kz,mp,kB,mq,kC,mr⟩:=o6_ bO bP bo b7 ba dd
  have oa:ev.cell? ⟨aW,0,none⟩=some (.slice J q.length D):=bc z 0
  have oF:=blk_frozen z.out 0
  go_wp2_with (first|((with_reducible refine gate_callee (f:=70) rfl ?_);refine goesL_ (some 123) rfl rfl Tryz.func70 gk_ rfl #[.agg #[.slice J q.length D],.string ac] rfl gm_ ?_;refine(spec_l03Without.calls dT _ _ q ac dZ _ B31x31_ a6.out gw.out).mono ?_;rintro e iA ⟨nP,rfl,b9,hb⟩;refine⟨_,rfl, ?_⟩;have ft:=am (Kd.R_lower (Kd.R_newB b9 (g:=av) (o:=.cells #[.string a5,.string az,.int .i64 aY] 59 (0,0)) (Ap1 Z aD)) (below_size (Ae5 HB ap ar au aE aT)));replace z:=am (blk_below (g:=aW) (o:=.cells #[.slice J q.length D] 26 (0,0)) (Ap1 z ba) hb);replace B:=am (blk_below (g:=bz) (o:=.cells #[.int .i64 aj,.string ac,.string ay,.string ag] 65 (0,0)) (Ap1 B aJ) hb);replace M:=am (blk_below (g:=bQ) (o:=.cells #[.slice none 0 0] 26 (0,0)) (Ap1 M bh) hb);replace Z:=am (blk_below (g:=av) (o:=.cells #[.string a5,.string az,.int .i64 aY] 59 (0,0)) (Ap1 Z aD) hb);replace ai:=am (blk_below (g:=aU) (o:=.cells #[.slice none 0 0] 26 (0,0)) (Ap0 ai) hb);replace HB:=De5 HB ap ar au aE aT hb;obtain⟨gI,hS,h4⟩:=Kd.R_slice ft.out;subst h4;have kD:=de.out;have ms:=bh.out;have kE:=bv.out;have mt:=aD.out;have ob:iA.cell? ⟨aU,0,none⟩=some (.slice none 0 0):=bc ai 0;have oG:=blk_frozen ai.out 0))
  go_meet
  case rel=>exact⟨_,a5,az,aY,dZ,(.slice gI dZ.length hS),ee,⟨B31x18_⟩,⟨tfg ft.out ai.out (by decide)⟩,D8x0_⟩
 clear a9
 try clear fH
 obtain⟨kq,gm,gn,gp,cN,eu,db,jd,cY,z,B,M,Z,ai,HB⟩:=hcut
 cases kq with
 |zero=>exact absurd db.out (by simp [spec_DoAct.j3])
 |succ im=>?_
 replace db:=db.out
 simp only [spec_DoAct.j3] at db
 obtain⟨ff,gx,dc⟩:=bsi db
 (try dsimp only at dc)
 by_cases el:ff=true
 rotate_left
 ·replace el:=Bool.eq_false_iff.mpr el;subst el;rw [if_neg (show ¬ (false=true) by decide)] at dc;exact absurd dc (by simp)
 subst el
 rw [if_pos rfl] at dc
 obtain⟨rfl,rfl⟩:=s2 dc
 clear dc db
 obtain⟨kF,mw,kG,my,kH,mz,kI,mB⟩:=o8_ dd ba bY aJ de bh bv aD
 have oc:wc.cell? ⟨aU,0,none⟩=some (eu):=bc ai 0
 have oH:=blk_frozen ai.out 0
 obtain⟨ez,eR,h5⟩:=Kd.R_slice cY.out
 subst h5
 go_wp2_with (first|((with_reducible refine gate_callee (f:=22) rfl ?_);refine goesL_ (some 125) rfl rfl Tryz.func22 gk_ rfl #[.agg #[.slice ez cN.length eR]] rfl gm_ ?_;(with_reducible refine(spec_DiskOk.calls im _ _ cN true _ ?z1 ?z2 gx.out).mono ?_);(case z1=>repeat (first|exact(Kd.R_reads' cY.out).2.2|(with_reducible refine Kd.C_alloc ?_ _)|(with_reducible refine Kd.C_drewN ?_ _)|(with_reducible refine Kd.C_drew ?_)));(case z2=>exact(Kd.R_reads' cY.out).2.1);rintro e ga ⟨rfl,hb⟩;refine⟨_,rfl, ?_⟩;replace cY:=rA cY hb;replace M:=bA M hb;replace ai:=bA ai hb;replace HB:=De5 HB ap ar au aE aT hb;have od:ga.cell? ⟨aU,0,none⟩=some (.slice ez cN.length eR):=bc ai 0;have oI:=blk_frozen ai.out 0;have kK:=bP.out;have mD:=bO.out;have kL:=br.out;have mE:=bq.out;have kM:=bu.out;have mF:=b8.out;have oe:ga.cell? ⟨bQ,0,none⟩=some (.slice none 0 0):=bc M 0;have oJ:=blk_frozen M.out 0))
 refine bodyPost_ret (results_ct rfl _ _ bQ 26 #[.slice ez cN.length eR] (0,0) _ rfl (Ap0 M) Tryz.underlying26 rfl gk_) rfl ?_
 exact⟨_,(by first|rfl|(simp [errW_none,errW_some] <;> rfl)|(simp [*,errW_none,errW_some] <;> rfl)),(tfg cY.out M.out (by decide)),(Ae5 HB ap ar au aE aT)⟩
end
end Go.Proofs.YtofmbomonkbeaaaGreatDoor.QFnSnapsCut
