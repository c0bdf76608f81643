/- Functions that a law reaches, as functions of Lean, and the walks that show that the calls come to their answers. No condition. -/
import Derived.Test.YtfikaimmclgajaaGreatDoorQFnSnapsx0
import Derived.Test.YtfikaimmclgajaaGreatDoorQFnSnapsx6
import Derived.Test.YtfikaimmclgajaaGreatDoorQFnSnapsx7
import Derived.Test.YtfikaimmclgajaaGreatDoorVFnSnapsShort3
import Derived.Test.YtfikaimmclgajaaGreatDoorVFnSnapsShort2
import Derived.Test.YtfikaimmclgajaaGreatDoorVFnSnapsShort
import Derived.Test.YtfikaimmclgajaaGreatDoorVFnSnapsShort8
import Derived.Test.YtfikaimmclgajaaGreatDoorLaid
import Derived.Laws.Cover1
namespace Go.Proofs.YtfikaimmclgajaaGreatDoor.QFnSnaps
open Go.RowKit Go.Proofs.YtfikaimmclgajaaGreatDoorW.PrintWords Go.Proofs.YtfikaimmclgajaaGreatDoorW.PrintLast Go.Proofs.YtfikaimmclgajaaGreatDoorW.PrintMore Go.Proofs.YtfikaimmclgajaaGreatDoor.Short
set_option linter.unusedVariables false
set_option linter.unusedSimpArgs false
set_option maxHeartbeats 8000000
set_option maxRecDepth 100000
variable {p : Prop}
theorem D8x0_ (h : p := by exact ⟨bc z 0, bc z 1, bc z 2, bc M 0, ((hbc HB cg).trans cg), ((hbc HB ch).trans ch), ((hbc HB ci).trans ci)⟩) : p := h
theorem D8x1_ (h : p := by exact ⟨bc z 0, bc z 1, bc z 2⟩) : p := h
theorem D8x2_ (h : p := by exact ⟨⟨B27x8_⟩, Cb M, Cb z, Ce2 HB aH aW⟩) : p := h
theorem D8x3_ (h : p := by exact ⟨Cb B, Cb D, Ce2 HB ai ak⟩) : p := h
section
attribute [local go_sem] max2_int min2_int max_two min_two max_three min_three max_four min_four
-- NOT PRINTED: function 103 (strconv_ParseUint)

-- NOT PRINTED: function 94 (strconv_ParseInt)

-- NOT PRINTED: function 91 (strconv_Atoi_91)

-- NOT PRINTED: function 104 (stringslite_Clone)

-- NOT PRINTED: function 95 (strconv_syntaxError)

-- NOT PRINTED: function 96 (strconv_rangeError)

-- NOT PRINTED: function 105 (errors_New)

-- NOT PRINTED: function 97 (strconv_baseError)

-- NOT PRINTED: function 98 (strconv_bitSizeError)

-- NOT PRINTED: function 92 (strconv_toError)

-- NOT PRINTED: function 82 (strconv_Atoi_82)

theorem B26x10_ (h : p := by first | rfl | (simp [errW_none, errW_some] <;> rfl) | (simp [*, errW_none, errW_some] <;> rfl)) : p := h
theorem B26x17_ (h : p := by have := bq.out; have := b8.out; have := b9.out; have := da.out; omega) : p := h
theorem B26x21_ (h : p := by apply pw_below_drewN; exact bytes_below (Below.refl _ w) (Nat.le_refl _) 5 _) : p := h
theorem B26x22_ (h : p := by have := bq.out; first | omega | exact Nat.le_refl _) : p := h
theorem B26x23_ (h : p := by exact (below_size (Ae2 HB ai ak))) : p := h
def impl_ReadDecimal.f (Y : ByteArray) : Option (Int × Bool) := match Lib.atoi Y.data.toList with
 | none => none
 | some n => if Y.size ≤ 18 ∧ 0 ≤ n ∧ n < 100 then some (if (⟨(Lib.decDigits n.toNat).toArray⟩ : ByteArray).toList = Y.toList then (n, true) else (0, false)) else none
theorem impl_ReadDecimal.calls (Y : ByteArray) (r1 : Int) (r2 : Bool) (w : World) (h : impl_ReadDecimal.f Y = some (r1, r2)) :
  Calls Tryz.prog 66 #[.string Y] w fun e w' => e = .returned (.tuple #[.int .i64 r1, .bool r2]) ∧ Below w.heap.size w w' := by
 unfold impl_ReadDecimal.f at h
 cases ha : Lib.atoi Y.data.toList with
 | none => rw [ha] at h; cases h
 | some n =>
  rw [ha] at h; dsimp only at h
  by_cases hc : Y.size ≤ 18 ∧ 0 ≤ n ∧ n < 100
  rotate_left
  ·rw [if_neg hc] at h; cases h
  rw [if_pos hc] at h; have h := Option.some.inj h; obtain ⟨h1, h2, h3⟩ := hc
  have hw : impl_within.f n 0 1000000000 = some true := by
   unfold impl_within.f
   rw [if_pos (by omega), decide_eq_true (by omega)]
  have hd : impl_Decimal.f n = some (⟨(Lib.decDigits n.toNat).toArray⟩ : ByteArray) := if_pos ⟨h2, h3⟩
  by_cases he : (⟨(Lib.decDigits n.toNat).toArray⟩ : ByteArray).toList = Y.toList
  ·rw [if_pos he] at h; obtain ⟨rfl, rfl⟩ := Prod.mk.inj h
   have hb : ((⟨(Lib.decDigits n.toNat).toArray⟩ : ByteArray).toList != Y.toList) = false := by simp [he]

   go_enter Tryz.func66, Tryz.ntmps66
   go_wp2_with (first | (go_at_call 82; refine (Laid.atoi_ok Y n h1 ha _).mono ?_; rintro e w1 ⟨rfl, t, rfl⟩) | (go_at_call 56; refine (impl_within.calls n 0 1000000000 true _ hw).mono ?_; rintro e w1 ⟨rfl, nd, rfl⟩) | (go_at_call 39; refine (impl_Decimal.calls n _ _ hd).mono ?_; rintro e w1 ⟨rfl, fi, rfl⟩))
   go_ret2
   exact ⟨rfl, B26x21_⟩
  ·rw [if_neg he] at h; obtain ⟨rfl, rfl⟩ := Prod.mk.inj h
   have hb : ((⟨(Lib.decDigits n.toNat).toArray⟩ : ByteArray).toList != Y.toList) = true := bne_iff_ne.mpr he
   have hq : (Lib.decDigits n.toNat == Y.toList) = false := by first | simpa using he | (simp at he; simp [he])
   go_enter Tryz.func66, Tryz.ntmps66
   go_wp2_with (first | (go_at_call 82; refine (Laid.atoi_ok Y n h1 ha _).mono ?_; rintro e w1 ⟨rfl, t, rfl⟩) | (go_at_call 56; refine (impl_within.calls n 0 1000000000 true _ hw).mono ?_; rintro e w1 ⟨rfl, nd, rfl⟩) | (go_at_call 39; refine (impl_Decimal.calls n _ _ hd).mono ?_; rintro e w1 ⟨rfl, fi, rfl⟩))
   go_ret2
   exact ⟨rfl, B26x21_⟩

def impl_numberOf.j0 : Nat → ByteArray → Int → Bool → Option (Int)
 | 0, _, _, _ => none
 | k + 1, x0, x2, ft => if ft = true then (some (-1)) else (if 1 ≤ (x0.size : Int) then ((impl_ReadDecimal.f (x0.extract 1 x0.size)).bind fun dF => (if dF.2 = true then (if dF.1 > x2 then (some (-1)) else (some dF.1)) else (some (-1)))) else (none))
def impl_numberOf.f (k : Nat) (Y : ByteArray) (a1 : ByteArray) (a2 : Int) : Option (Int) := if (Y.size : Int) < 2 then (impl_numberOf.j0 k Y a2 true) else (if 0 ≤ 1 then (if 1 ≤ (Y.size : Int) then (impl_numberOf.j0 k Y a2 ((Y.extract 0 1).toList != a1.toList)) else (none)) else (none))
theorem impl_numberOf.calls (k : Nat) (Y : ByteArray) (a1 : ByteArray) (a2 : Int) (r : Int) (w : World) (h : impl_numberOf.f k Y a1 a2 = some r) :
  Calls Tryz.prog 38 #[.string Y, .string a1, .int .i64 a2] w fun e w' => e = .returned (.int .i64 r) ∧ Below w.heap.size w w' := by
 have HB := am (Below.refl w.heap.size w)
 have ae := h
 clear h
 unfold impl_numberOf.f at ae
 replace ae := am ae
 go_enter Tryz.func38, Tryz.ntmps38
 go_upto_region 1 with (fail)
 go_cut [17] (fun fj wc => ∃ (kq : Nat) (dZ : Bool), fj = .bool dZ ∧ Aside0 (impl_numberOf.j0 kq Y a2 dZ = some r) ∧ Aside0 (kq ≤ k) ∧ Hb w wc)
 case first =>
  replace ae := ae.out
  obtain ⟨c5, U⟩ | ⟨c5, U⟩ := sp ae
  ·have cd := decide_eq_true c5
   have e4 : decide (Y.size < 2) = true := decide_eq_true (by omega)
   clear c5
   (first | rw [cd] | (simp only [i64_w, i32_w]; rw [cd]) | skip)
   replace U := am U; clear ae
   go_wp2
   go_meet
   case rel => exact ⟨_, true, be_, U, ⟨gl_⟩, Ce0 HB⟩
  ·have cd := decide_eq_false c5
   have e4 : decide (Y.size < 2) = false := decide_eq_false (by omega)
   clear c5
   (first | rw [cd] | (simp only [i64_w, i32_w]; rw [cd]) | skip)
   obtain ⟨ef, eg, al⟩ := ye U; obtain ⟨eh, fW, ar⟩ := ye al; replace ar := am ar; clear ae U al
   go_wp2
   go_meet
   case rel => exact ⟨_, (((Y.extract 0 1).toList != a1.toList)), be_, ar, ⟨gl_⟩, Ce0 HB⟩
 case rest =>
  clear ae; obtain ⟨kq, dZ, rfl, aa, bq, HB⟩ := hcut
  cases kq with
  | zero => exact absurd aa.out (by simp [impl_numberOf.j0])
  | succ dP => ?_
  replace aa := aa.out; simp only [impl_numberOf.j0] at aa
  obtain ⟨rfl, aj⟩ | ⟨rfl, aj⟩ := sb aa
  ·obtain rfl := Option.some.inj aj; clear aj aa
   go_wp2
   go_ret; exact ⟨B26x10_, (Ae0 HB)⟩
  ·obtain ⟨ei, fY, au⟩ := ye aj; obtain ⟨⟨cU, gO⟩, b3, ax⟩ := bsi au; (try dsimp only at ax)
   obtain ⟨rfl, aA⟩ | ⟨rfl, aA⟩ := sb ax
   ·obtain ⟨cx, av⟩ | ⟨cx, av⟩ := sp aA
    ·have eX : decide (a2 < cU) = true := decide_eq_true cx
     clear cx; obtain rfl := Option.some.inj av; clear av aa aj au ax aA
     go_wp2_with (first | ((with_reducible refine gate_callee (f := 66) rfl ?_); refine goesL_ (some 21) rfl rfl Tryz.func66 gk_ rfl #[.string (Y.extract 1 Y.size)] rfl gm_ ?_; refine (impl_ReadDecimal.calls (Y.extract 1 Y.size) cU true _ b3.out).mono ?_; rintro e gX ⟨rfl, hb⟩; refine ⟨_, rfl, ?_⟩; replace HB := hA HB hb))
     go_ret; exact ⟨B26x10_, (Ae0 HB)⟩
    ·have eX : decide (a2 < cU) = false := decide_eq_false cx
     clear cx; obtain rfl := Option.some.inj av; clear av aa aj au ax aA
     go_wp2_with (first | ((with_reducible refine gate_callee (f := 66) rfl ?_); refine goesL_ (some 21) rfl rfl Tryz.func66 gk_ rfl #[.string (Y.extract 1 Y.size)] rfl gm_ ?_; refine (impl_ReadDecimal.calls (Y.extract 1 Y.size) cU true _ b3.out).mono ?_; rintro e fo ⟨rfl, hb⟩; refine ⟨_, rfl, ?_⟩; replace HB := hA HB hb))
     go_ret; exact ⟨B26x10_, (Ae0 HB)⟩
   ·obtain rfl := Option.some.inj aA; clear aA aa aj au ax
    go_wp2_with (first | ((with_reducible refine gate_callee (f := 66) rfl ?_); refine goesL_ (some 21) rfl rfl Tryz.func66 gk_ rfl #[.string (Y.extract 1 Y.size)] rfl gm_ ?_; refine (impl_ReadDecimal.calls (Y.extract 1 Y.size) cU false _ b3.out).mono ?_; rintro e gY ⟨rfl, hb⟩; refine ⟨_, rfl, ?_⟩; replace HB := hA HB hb))
    go_ret; exact ⟨B26x10_, (Ae0 HB)⟩

def impl_isSnap.f (k : Nat) (bL : ByteArray) (dd : ByteArray) (de : Int) : Option (Bool) := (impl_numberOf.f k bL (⟨#[115]⟩ : ByteArray) 1000000).bind fun dW => (some (decide (dW ≥ 0)))
theorem impl_isSnap.calls (k : Nat) (bL : ByteArray) (dd : ByteArray) (de : Int) (r : Bool) (w : World) (h : impl_isSnap.f k bL dd de = some r) :
  Calls Tryz.prog 36 #[.agg #[.string bL, .string dd, .int .i64 de]] w fun e w' => e = .returned (.bool r) ∧ Below w.heap.size w w' := by
 have dL := Tryz.underlying57
 have HB := am (Below.refl w.heap.size w)
 have ae := h
 clear h
 unfold impl_isSnap.f at ae
 obtain ⟨dW, A2, U⟩ := bsi ae
 (try dsimp only at U)
 obtain rfl := Option.some.inj U
 clear U ae
 go_enter Tryz.func36, Tryz.ntmps36
 go_wp2_with (first | ((with_reducible refine gate_dst (N := 1) rfl ?_); refine bx (N := 1) (cs := #[.string bL, .string dd, .int .i64 de]) (t := 57) ?_; intro fZ hg w3 hbox hb; have dB := am hbox; have d3 := gA hg HB; replace HB := hA HB hb; clear hb hbox hg; obtain ⟨hE, hF, hG, h0, h4, h5⟩ := cf3 dB) | ((with_reducible refine gate_callee (f := 38) rfl ?_); refine goesL_ (some 5) rfl rfl Tryz.func38 gk_ rfl #[.string bL, .string (⟨#[115]⟩ : ByteArray), .int .i64 1000000] rfl gm_ ?_; refine (impl_numberOf.calls k bL (⟨#[115]⟩ : ByteArray) 1000000 dW _ A2.out).mono ?_; rintro e w5 ⟨rfl, hb⟩; refine ⟨_, rfl, ?_⟩; replace dB := bA dB hb; replace HB := De1 HB d3 hb))
 go_ret
 exact ⟨B26x10_, (Ae1 HB d3)⟩

mutual
def impl_SnapActs.j0 : Nat → ByteArray → Bool → List (S57) → Int → Int → List Int → ByteArray → Option ((List (S74)) × Bool)
 | 0, _, _, _, _, _, _, _ => none
 | k + 1, x6, fu, bo, bX, cj, ck, cl => if fu = true then (some (([] : List (S74)), false)) else ((some (([] : List (S74)) : List (S74))).bind fun b2 => ((impl_hasFile.f k bo (⟨#[115, 43]⟩ : ByteArray)).bind fun dX => (if dX = true then (if b2.length < 2513169434916 then (impl_SnapActs.j1 k x6 (b2 ++ [(⟨4, (⟨#[115, 43]⟩ : ByteArray), (⟨#[]⟩ : ByteArray), (⟨#[]⟩ : ByteArray)⟩ : S74)]) bo bX cj ck cl) else (none)) else (impl_SnapActs.j1 k x6 b2 bo bX cj ck cl))))
def impl_SnapActs.j1 : Nat → ByteArray → List (S74) → List (S57) → Int → Int → List Int → ByteArray → Option ((List (S74)) × Bool)
 | 0, _, _, _, _, _, _, _ => none
 | k + 1, x6, x8, bo, bX, cj, ck, cl => impl_SnapActs.l0 k x6 x8 bo bX cj ck cl
def impl_SnapActs.l0 : Nat → ByteArray → List (S74) → List (S57) → Int → Int → List Int → ByteArray → Option ((List (S74)) × Bool)
 | 0, _, _, _, _, _, _, _ => none
 | k + 1, x6, x8, bo, bX, cj, ck, cl => if x6.toList = ([] : List UInt8) then ((impl_SnapName.f bX).bind fun be => ((some (([(⟨2, (⟨#[115, 43]⟩ : ByteArray), (⟨#[]⟩ : ByteArray), (⟨#[]⟩ : ByteArray)⟩ : S74), (⟨3, (⟨#[115, 43]⟩ : ByteArray), (⟨#[]⟩ : ByteArray), be⟩ : S74)] : List (S74)) : List (S74))).bind fun cm => (if x8.length + cm.length < 2513169434916 then (impl_SnapActs.l1 k (x8 ++ cm) be bo (bo.length : Int) 0) else (none)))) else (if 0 ≤ (mn 60 (x6.size : Int)) then (if (mn 60 (x6.size : Int)) ≤ (x6.size : Int) then (if x8.length < 2513169434916 then (impl_SnapActs.l0 k (x6.extract ((mn 60 (x6.size : Int)) : Int).toNat x6.size) (x8 ++ [(⟨1, (⟨#[115, 43]⟩ : ByteArray), x6.extract 0 ((mn 60 (x6.size : Int)) : Int).toNat, (⟨#[]⟩ : ByteArray)⟩ : S74)]) bo bX cj ck cl) else (none)) else (none)) else (none))
def impl_SnapActs.l1 : Nat → List (S74) → ByteArray → List (S57) → Int → Int → Option ((List (S74)) × Bool)
 | 0, _, _, _, _, _ => none
 | k + 1, x8, dp, bn, dq, bh => if bh < dq then (if 0 ≤ bh then (if bh < (bn.length : Int) then ((impl_isSnap.f k ((rd_T57 bn bh).f0) ((rd_T57 bn bh).f1) ((rd_T57 bn bh).f2)).bind fun er => (if er = true then (if ((rd_T57 bn bh).f0).toList = dp.toList then (impl_SnapActs.l1 k x8 dp bn dq (wrap64 (bh + 1))) else (if x8.length < 2513169434916 then (impl_SnapActs.l1 k (x8 ++ [(⟨4, (rd_T57 bn bh).f0, (⟨#[]⟩ : ByteArray), (⟨#[]⟩ : ByteArray)⟩ : S74)]) dp bn dq (wrap64 (bh + 1))) else (none))) else (impl_SnapActs.l1 k x8 dp bn dq (wrap64 (bh + 1))))) else (none)) else (none)) else (some (x8, true))
end
def impl_SnapActs.f (k : Nat) (j : List (S57)) (ay : Int) (aD : Int) (aw : List Int) (aE : ByteArray) : Option ((List (S74)) × Bool) := (impl_SnapText.f k ay aD aw aE).bind fun dG => ((impl_DiskOk.f k j).bind fun eq => (if eq = true then (impl_SnapActs.j0 k dG.1 (!dG.2) j ay aD aw aE) else (impl_SnapActs.j0 k dG.1 true j ay aD aw aE)))
theorem impl_SnapActs.calls (k : Nat) (ad : Option Addr) (J : Nat) (j : List (S57)) (ay : Int) (aD : Int) (aX : Option Addr) (a3 : Nat) (aw : List Int) (aE : ByteArray) (r1 : List (S74)) (r2 : Bool) (w : World) (a6 : Kd.C k57 w ad j.length j) (a5 : j.length ≤ J) (en : Kd.C (Kd.int .i64) w aX aw.length aw) (ek : aw.length ≤ a3) (h : impl_SnapActs.f k j ay aD aw aE = some (r1, r2)) :
  Calls Tryz.prog 9 #[.agg #[.slice ad j.length J], .agg #[.int .i64 ay, .int .i64 aD, .slice aX aw.length a3, .string aE]] w fun e w' => ∃ cV : Value, e = .returned (.tuple #[cV, .bool r2]) ∧ Kd.R k74 74 w' w.heap.size (fun _ => True) cV r1 ∧ Below w.heap.size w w' := by
 have dK := Tryz.underlying26
 have gJ := Tryz.underlying29
 have gN := Tryz.underlying74
 have dL := Tryz.underlying57
 have aI := am a6
 have b7 := am a5
 clear a6 a5
 have eG := am en
 have eB := am ek
 clear en ek
 have HB := am (Below.refl w.heap.size w)
 have ae := h
 clear h
 unfold impl_SnapActs.f at ae
 obtain ⟨⟨dk, ep⟩, A3, U⟩ := bsi ae
 (try dsimp only at U)
 replace U := am U
 clear ae
 go_enter Tryz.func9, Tryz.ntmps9
 go_upto_region 2 with (first | ((with_reducible refine gate_dst (N := 2) rfl ?_); refine bx (N := 2) (cs := #[.slice ad j.length J]) (t := 26) ?_; intro a4 hg w5 hbox hb; have B := am hbox; have ai := gA hg HB; replace HB := hA HB hb; clear hb hbox hg) | ((with_reducible refine gate_dst (N := 3) rfl ?_); refine bx (N := 3) (cs := #[.int .i64 ay, .int .i64 aD, .slice aX aw.length a3, .string aE]) (t := 29) ?_; intro bM hg w6 hbox hb; have D := am hbox; have ak := gA hg HB; replace HB := De1 HB ai hb; have cp := nA hg B; have cq := mA hg B; replace B := bA B hb; clear hb hbox hg; have fe := cq.out; have fg := cp.out; obtain ⟨fA, fB, fC, fD, fF, fG, fH, fI⟩ := cf4 D) | ((with_reducible refine gate_callee (f := 6) rfl ?_); refine goesL_ (some 15) rfl rfl Tryz.func6 gk_ rfl #[.agg #[.int .i64 ay, .int .i64 aD, .slice aX aw.length a3, .string aE]] rfl gm_ ?_; (with_reducible refine (impl_SnapText.calls k ay aD _ _ aw aE dk ep _ ?z1 ?z2 A3.out).mono ?_); (case z1 => repeat (first | exact (Kd.C_below eG.out HB.out) | (with_reducible refine Kd.C_alloc ?_ _) | (with_reducible refine Kd.C_drewN ?_ _) | (with_reducible refine Kd.C_drew ?_))); (case z2 => exact eB.out); rintro e w9 ⟨rfl, hb⟩; refine ⟨_, rfl, ?_⟩; replace B := bA B hb; replace D := bA D hb; replace HB := De2 HB ai ak hb))
 (try simp only [Act.put, List.setIfInBounds_toArray, List.set_cons_zero, List.set_cons_succ])
 go_cut [24] (fun fk wc => ∃ (kq : Nat) (d0 : Bool), fk = .bool d0 ∧ Aside0 (impl_SnapActs.j0 kq dk d0 j ay aD aw aE = some (r1, r2)) ∧ Aside0 (kq ≤ k) ∧ Hc wc a4 #[(.slice ad j.length J)] 26 ∧ Hc wc bM #[.int .i64 ay, .int .i64 aD, (.slice aX aw.length a3), .string aE] 29 ∧ Hb w wc)
 case first =>
  replace U := U.out; obtain ⟨eq, b3, al⟩ := bsi U; (try dsimp only at al)
  obtain ⟨rfl, ar⟩ | ⟨rfl, ar⟩ := sb al
  ·replace ar := am ar; clear U al; obtain ⟨el, em⟩ := o2_ cp cq
   have hm : w9.cell? ⟨a4, 0, none⟩ = some (.slice ad j.length J) := bc B 0
   have hO := blk_frozen B.out 0
   go_wp2_with (first | ((with_reducible refine gate_callee (f := 34) rfl ?_); refine goesL_ (some 19) rfl rfl Tryz.func34 gk_ rfl #[.agg #[.slice ad j.length J]] rfl gm_ ?_; refine (impl_DiskOk.calls k _ _ j true _ (tc (Kd.C_below aI.out HB.out)) b7.out b3.out).mono ?_; rintro e fo ⟨rfl, hb⟩; refine ⟨_, rfl, ?_⟩; replace B := bA B hb; replace D := bA D hb; replace HB := De2 HB ai ak hb))
   go_meet
   case rel => exact ⟨_, (!ep), be_, ar, ⟨gl_⟩, D8x3_⟩
  ·replace ar := am ar; clear U al; obtain ⟨f6, gq⟩ := o2_ cp cq
   have hp : w9.cell? ⟨a4, 0, none⟩ = some (.slice ad j.length J) := bc B 0
   have hQ := blk_frozen B.out 0
   go_wp2_with (first | ((with_reducible refine gate_callee (f := 34) rfl ?_); refine goesL_ (some 19) rfl rfl Tryz.func34 gk_ rfl #[.agg #[.slice ad j.length J]] rfl gm_ ?_; refine (impl_DiskOk.calls k _ _ j false _ (tc (Kd.C_below aI.out HB.out)) b7.out b3.out).mono ?_; rintro e cX ⟨rfl, hb⟩; refine ⟨_, rfl, ?_⟩; replace B := bA B hb; replace D := bA D hb; replace HB := De2 HB ai ak hb))
   go_meet
   case rel => exact ⟨_, true, be_, ar, ⟨gl_⟩, D8x3_⟩
 case rest =>
  clear U; obtain ⟨kq, d0, rfl, aa, bq, B, D, HB⟩ := hcut
  cases kq with
  | zero => exact absurd aa.out (by simp [impl_SnapActs.j0])
  | succ dP => ?_
  replace aa := aa.out; simp only [impl_SnapActs.j0] at aa
  obtain ⟨rfl, aj⟩ | ⟨rfl, aj⟩ := sb aa
  ·obtain ⟨rfl, rfl⟩ := s2 aj; clear aj aa
   go_wp2
   go_ret2
   exact ⟨_, B26x10_, gn_, (Ae2 HB ai ak)⟩
  ·obtain ⟨b2, cN⟩ : ∃ y_ : List (S74), y_ = (([] : List (S74))) := ⟨_, rfl⟩
   (first | with_reducible replace aj := hq cN aj | rw [← cN] at aj | simp only [← cN] at aj)
   have d8 := am cN; clear cN; obtain ⟨dX, b5, au⟩ := bsi aj; (try dsimp only at au); replace au := am au; clear aa aj
   go_upto_if 27 with (first | ((with_reducible refine gate_dst (N := 25) rfl ?_); refine lL k74 74 25 ([] : List (S74)) [] (Reps.none _ _) ?_; intro fn fq cG hb; (first | rw [← d8.out] at cG | (simp only [Int.reduceToNat] at cG; rw [← d8.out] at cG)); have bF := am (Kd.R_lower cG (below_size (Ae2 HB ai ak))); replace B := bA B hb; replace D := bA D hb; replace HB := De2 HB ai ak hb; clear hb cG; have fd := cp.out; have ff := cq.out; have ht : fq.cell? ⟨a4, 0, none⟩ = some (.slice ad j.length J) := bc B 0; have hS := blk_frozen B.out 0) | ((with_reducible refine gate_callee (f := 35) rfl ?_); refine goesL_ (some 27) rfl rfl Tryz.func35 gk_ rfl #[.agg #[.slice ad j.length J], .string (⟨#[115, 43]⟩ : ByteArray)] rfl gm_ ?_; refine (impl_hasFile.calls dP _ _ j (⟨#[115, 43]⟩ : ByteArray) dX _ (tc (Kd.C_below aI.out HB.out)) b7.out b5.out).mono ?_; rintro e cY ⟨rfl, hb⟩; refine ⟨_, rfl, ?_⟩; replace bF := rA bF hb; replace B := bA B hb; replace D := bA D hb; replace HB := De2 HB ai ak hb))
   (try simp only [Act.put, List.setIfInBounds_toArray, List.set_cons_zero, List.set_cons_succ])
   go_cut [8] (fun v8 wc => ∃ (kq : Nat) (ds : List (S74)), Aside0 (impl_SnapActs.j1 kq dk ds j ay aD aw aE = some (r1, r2)) ∧ Aside0 (kq ≤ dP) ∧ Aside0 (Kd.R k74 74 wc w.heap.size (fun _ => True) v8 ds) ∧ Hc wc a4 #[(.slice ad j.length J)] 26 ∧ Hc wc bM #[.int .i64 ay, .int .i64 aD, (.slice aX aw.length a3), .string aE] 29 ∧ Hb w wc)
   case first =>
    replace au := au.out
    obtain ⟨rfl, ax⟩ | ⟨rfl, ax⟩ := sb au
    ·obtain ⟨eI, aA⟩ := ya ax; obtain ⟨fw, cO⟩ : ∃ y_ : List (S74), y_ = (b2 ++ [(⟨4, (⟨#[115, 43]⟩ : ByteArray), (⟨#[]⟩ : ByteArray), (⟨#[]⟩ : ByteArray)⟩ : S74)]) := ⟨_, rfl⟩
     (first | with_reducible replace aA := hq cO aA | rw [← cO] at aA | simp only [← cO] at aA)
     have eN := am cO; clear cO; replace aA := am aA; clear au ax
     go_wp2_with (first | ((with_reducible refine gate_builtin (b := .append) (xs := #[.tmp 28, .tmp 30]) rfl ?_); at_builtin; refine Kd.R_append k74 (w0 := w) w.heap.size rfl (.tmp 28) (.tmp 30) 37 74 (.agg #[(.int .i64 0), (.string ⟨#[]⟩), (.string ⟨#[]⟩), (.string ⟨#[]⟩)]) 56 rfl Tryz.underlying37 info74 rfl (by decide) (by omega) fn b2 (⟨4, (⟨#[115, 43]⟩ : ByteArray), (⟨#[]⟩ : ByteArray), (⟨#[]⟩ : ByteArray)⟩ : S74) [.int .i64 4, .string (⟨#[115, 43]⟩ : ByteArray), .string (⟨#[]⟩ : ByteArray), .string (⟨#[]⟩ : ByteArray)] (fun _ => True) (fun _ => False) rfl rfl ?aP (fun _ hk => hk.elim) ?aF ?aO ?aB ?aS ?aL ?_; (case aP => exact k74_mkM _ _ _ (⟨4, (⟨#[115, 43]⟩ : ByteArray), (⟨#[]⟩ : ByteArray), (⟨#[]⟩ : ByteArray)⟩ : S74)); (case aB => exact (Ae2 HB ai ak)); (case aF => exact (fun _ _ => trivial)); (case aO => exact (Ar bF)); (case aS => exact B26x23_); (case aL => have := eI.out; omega); intro gP fr ho hb hg hat; rw [← eN.out] at ho; replace B := bg B hg (Kd.R_ne bF.out B.out (by decide)); replace D := bg D hg (Kd.R_ne bF.out D.out (by decide)); replace HB := am hb; have eC := am ho; clear bF; clear ho hb hg hat))
     go_meet
     case rel => exact ⟨_, fw, aA, ⟨B26x22_⟩, Cr eC, D8x3_⟩
    ·replace ax := am ax; clear au
     go_wp2
     go_meet
     case rel => exact ⟨_, b2, ax, ⟨B26x22_⟩, Cr bF, D8x3_⟩
   case rest =>
    clear au
    try clear ea
    obtain ⟨kq, ds, av, b8, ag, B, D, HB⟩ := hcut
    cases kq with
    | zero => exact absurd av.out (by simp [impl_SnapActs.j1])
    | succ eo => ?_
    replace av := av.out; simp only [impl_SnapActs.j1] at av; replace av := am av
    go_wp2
    go_loopg [6, 8] eo (fun kq v6 v8 w' => ∃ (aV : ByteArray) (b0 : List (S74)), v6 = .string aV ∧ Aside0 (impl_SnapActs.l0 kq aV b0 j ay aD aw aE = some (r1, r2)) ∧ Aside0 (kq ≤ eo) ∧ Aside0 (Kd.R k74 74 w' w.heap.size (fun _ => True) v8 b0) ∧ Aside0 (w'.heap[a4]? = some (.cells #[(.slice ad j.length J)] 26 (0, 0))) ∧ Aside0 (w'.heap[bM]? = some (.cells #[.int .i64 ay, .int .i64 aD, (.slice aX aw.length a3), .string aE] 29 (0, 0))) ∧ Aside0 (Below w.heap.size w w'))
    case atStart => exact ⟨(dk), ds, be_, av, ⟨Nat.le_refl _⟩, Cr ag, D8x3_⟩
    case round =>
     clear av
     try clear ea
     obtain ⟨aV, b0, rfl, aJ, b9, ag, B, D, HB⟩ := hrel
     cases gk with
     | zero => exact absurd aJ.out (by simp [impl_SnapActs.l0])
     | succ k3 => ?_
     replace aJ := aJ.out; simp only [impl_SnapActs.l0] at aJ
     obtain ⟨cB, bj⟩ | ⟨cB, bj⟩ := sp aJ
     ·obtain ⟨eb, ec⟩ := yE cB; clear cB; obtain ⟨be, ew, aZ⟩ := bsi bj; (try dsimp only at aZ); obtain ⟨cm, cQ⟩ : ∃ y_ : List (S74), y_ = (([(⟨2, (⟨#[115, 43]⟩ : ByteArray), (⟨#[]⟩ : ByteArray), (⟨#[]⟩ : ByteArray)⟩ : S74), (⟨3, (⟨#[115, 43]⟩ : ByteArray), (⟨#[]⟩ : ByteArray), be⟩ : S74)] : List (S74))) := ⟨_, rfl⟩
      (first | with_reducible replace aZ := hq cQ aZ | rw [← cQ] at aZ | simp only [← cQ] at aZ)
      have d9 := am cQ; clear cQ; obtain ⟨eJ, aK⟩ := ya aZ; obtain ⟨fy, cR⟩ : ∃ y_ : List (S74), y_ = (b0 ++ cm) := ⟨_, rfl⟩
      (first | with_reducible replace aK := hq cR aK | rw [← cR] at aK | simp only [← cR] at aK)
      have eP := am cR; clear cR; replace aK := am aK; clear aJ bj aZ; obtain ⟨gb, gw⟩ := o2_ cq cp; obtain ⟨fA, fB, fC, fD, fF, fG, fH, fI⟩ := cf4 D
      go_wp2_with (first | ((with_reducible refine gate_callee (f := 13) rfl ?_); refine goesL_ (some 49) rfl rfl Tryz.func13 gk_ rfl #[.int .i64 ay] rfl gm_ ?_; refine (impl_SnapName.calls ay be _ ew.out).mono ?_; rintro e w' ⟨rfl, ⟨nd, rfl⟩⟩; refine ⟨_, rfl, ?_⟩) | ((with_reducible refine gate_dst (N := 54) rfl ?_); refine lL k74 74 54 ([(⟨2, (⟨#[115, 43]⟩ : ByteArray), (⟨#[]⟩ : ByteArray), (⟨#[]⟩ : ByteArray)⟩ : S74), (⟨3, (⟨#[115, 43]⟩ : ByteArray), (⟨#[]⟩ : ByteArray), be⟩ : S74)] : List (S74)) [.int .i64 2, .string (⟨#[115, 43]⟩ : ByteArray), .string (⟨#[]⟩ : ByteArray), .string (⟨#[]⟩ : ByteArray), .int .i64 3, .string (⟨#[115, 43]⟩ : ByteArray), .string (⟨#[]⟩ : ByteArray), .string be] (Reps.c4 (show Kd.M k74 _ _ _ (⟨2, (⟨#[115, 43]⟩ : ByteArray), (⟨#[]⟩ : ByteArray), (⟨#[]⟩ : ByteArray)⟩ : S74) [.int .i64 2, .string (⟨#[115, 43]⟩ : ByteArray), .string (⟨#[]⟩ : ByteArray), .string (⟨#[]⟩ : ByteArray)] from (k74_mkM _ _ _ (⟨2, (⟨#[115, 43]⟩ : ByteArray), (⟨#[]⟩ : ByteArray), (⟨#[]⟩ : ByteArray)⟩ : S74) )) (Reps.c4 (show Kd.M k74 _ _ _ (⟨3, (⟨#[115, 43]⟩ : ByteArray), (⟨#[]⟩ : ByteArray), be⟩ : S74) [.int .i64 3, .string (⟨#[115, 43]⟩ : ByteArray), .string (⟨#[]⟩ : ByteArray), .string be] from (k74_mkM _ _ _ (⟨3, (⟨#[115, 43]⟩ : ByteArray), (⟨#[]⟩ : ByteArray), be⟩ : S74) )) (Reps.none _ _))) ?_; intro gR g4 cf hb; (first | rw [← d9.out] at cf | (simp only [Int.reduceToNat] at cf; rw [← d9.out] at cf)); have cn := am (Kd.R_lower (Kd.R_new' cf (Kd.R_lt (Ar ag))) (below_size (Ae2 HB ai ak))); replace ag := am (Kd.R_elder' (Ar ag) (Kd.R_base cf) hb); replace B := bA B hb; replace D := bA D hb; replace HB := De2 HB ai ak hb; clear hb cf; obtain ⟨ez, e7, fc⟩ := Kd.R_slice cn.out; subst fc) | ((with_reducible refine gate_builtin (b := .append) (xs := #[.tmp 50, .tmp 54]) rfl ?_); at_builtin; refine Kd.R_append_rows k74 (w0 := w) w.heap.size rfl (.tmp 50) (.tmp 54) 37 74 (.agg #[(.int .i64 0), (.string ⟨#[]⟩), (.string ⟨#[]⟩), (.string ⟨#[]⟩)]) 56 rfl Tryz.underlying37 info74 rfl (by decide) (by omega) u8 b0 cm _ _ _ (fun k_ => some k_ ≠ (.slice ez cm.length e7 : Value).ownBlock) (fun _ => False) rfl rfl ?aO ?aR (fun _ _ h => h) (fun _ h => h.elim) ?aF ?aB ?aS ?aL ?_; (case aR => repeat (first | exact (Kd.R_reads' cn.out).2.2 | (with_reducible refine Kd.C_alloc ?_ _) | (with_reducible refine Kd.C_drewN ?_ _) | (with_reducible refine Kd.C_drew ?_))); (case aB => exact (Ae2 HB ai ak)); (case aF => exact (fun k_ hk => Kd.fresh' (Kd.R_lt (Ar cn)) k_ hk)); (case aO => (with_reducible repeat (first | apply Kd.R_alloc | apply Kd.R_drewN | apply Kd.R_drew)); exact Kd.R_mono ag.out (fun _ hk => hk.2)); (case aS => exact B26x23_); (case aL => have := eJ.out; omega); intro gU fs ho hb hg hat; rw [← eP.out] at ho; replace B := bg B hg (Kd.R_ne ag.out B.out (by decide)); replace D := bg D hg (Kd.R_ne ag.out D.out (by decide)); replace cn := am (Kd.R_after (ok := (fun _ => True)) (Ar cn) hg hat); replace HB := am hb; have eE := am ho; clear ag; clear ho hb hg hat; have hB : fs.cell? ⟨a4, 0, none⟩ = some (.slice ad j.length J) := bc B 0; have hX := blk_frozen B.out 0))
      go_loopg [8, 59] k3 (fun kq v8 fm w' => ∃ (b1 : List (S74)) (Z : Int), fm = .int .i64 Z ∧ Aside0 (impl_SnapActs.l1 kq b1 be j (j.length : Int) Z = some (r1, r2)) ∧ Aside0 (kq ≤ k3) ∧ Aside0 (Kd.R k74 74 w' w.heap.size (fun _ => True) v8 b1) ∧ Aside0 (w'.heap[a4]? = some (.cells #[(.slice ad j.length J)] 26 (0, 0))) ∧ Aside0 (w'.heap[bM]? = some (.cells #[.int .i64 ay, .int .i64 aD, (.slice aX aw.length a3), .string aE] 29 (0, 0))) ∧ Aside0 (Below w.heap.size w w'))
      case atStart => exact ⟨(fy), 0, be_, aK, ⟨Nat.le_refl _⟩, ⟨(by (with_reducible repeat (first | apply Kd.R_alloc | apply Kd.R_drewN | apply Kd.R_drew)); exact Kd.R_mono eE.out (fun _ hk => trivial))⟩, D8x3_⟩
      case round =>
       clear aK
       try clear ea
       try clear cB
       try clear eb
       try clear ec
       try clear fN
       obtain ⟨b1, Z, rfl, aM, da, ag, B, D, HB⟩ := hrel
       cases gk with
       | zero => exact absurd aM.out (by simp [impl_SnapActs.l1])
       | succ k4 => ?_
       replace aM := aM.out; simp only [impl_SnapActs.l1] at aM
       obtain ⟨e0, bG⟩ | ⟨e0, bG⟩ := sd aM
       ·obtain ⟨fO, db⟩ := yd bG; obtain ⟨fP, dc⟩ := yd db; obtain ⟨er, dz, co⟩ := bsi dc; (try dsimp only at co)
        obtain ⟨rfl, bH⟩ | ⟨rfl, bH⟩ := sb co
        ·obtain ⟨dh, ca⟩ | ⟨dh, ca⟩ := sp bH
         ·obtain ⟨e1, e2⟩ := yE dh; clear dh; replace ca := am ca; clear aM bG db dc co bH
          have ba : 0 ≤ (Z : Int) := dga
          have bd : Z < (j.length : Int) := dga
          obtain ⟨cw, cC, a7, a8, a9⟩ := at_T57 aI.out Z ba bd; cases cC; replace a7 := (hbc HB a7).trans a7; replace a8 := (hbc HB a8).trans a8; replace a9 := (hbc HB a9).trans a9; replace ba := eq_true ba; replace bd := eq_true bd
          go_wp2_with (first | ((with_reducible refine gate_dst (N := 12) rfl ?_); refine bx (N := 12) (cs := #[.string (⟨#[]⟩ : ByteArray), .string (⟨#[]⟩ : ByteArray), .int .i64 0]) (t := 57) ?_; intro cD hg g5 hbox hb; replace ag := rA ag hb; have aC := am hbox; have bi := gA hg HB; replace HB := De2 HB ai ak hb; have br := nA hg B; have cr := mA hg B; replace B := bA B hb; have bu := nA hg D; have ct := mA hg D; replace D := bA D hb; clear hb hbox hg; have gg := cr.out; have gx := br.out; have gh := ct.out; have gy := bu.out; obtain ⟨dt, du, dv, dw, dx, dy⟩ := cf3 aC) | ((with_reducible refine gate_callee (f := 36) rfl ?_); refine goesL_ (some 64) rfl rfl Tryz.func36 gk_ rfl #[.agg #[.string ((rd_T57 j Z).f0), .string ((rd_T57 j Z).f1), .int .i64 ((rd_T57 j Z).f2)]] rfl gm_ ?_; refine (impl_isSnap.calls k4 ((rd_T57 j Z).f0) ((rd_T57 j Z).f1) ((rd_T57 j Z).f2) true _ dz.out).mono ?_; rintro e g6 ⟨rfl, hb⟩; refine ⟨_, rfl, ?_⟩; replace ag := am (Kd.R_below (tfg ag.out aC.out (by decide)) hb); replace B := am (blk_below (g := a4) (o := .cells #[.slice (some cw) j.length J] 26 (0, 0)) (Ap1 B br) hb); replace D := am (blk_below (g := bM) (o := .cells #[.int .i64 ay, .int .i64 aD, .slice aX aw.length a3, .string aE] 29 (0, 0)) (Ap1 D bu) hb); replace aC := am (blk_below (g := cD) (o := .cells #[.string ((rd_T57 j Z).f0), .string ((rd_T57 j Z).f1), .int .i64 ((rd_T57 j Z).f2)] 57 (0, 0)) (Ap0 aC) hb); replace HB := De3 HB ai ak bi hb; obtain ⟨dt, du, dv, dw, dx, dy⟩ := cf3 aC))
          go_roundg k4
          case measure => have := bq.out; have := b8.out; have := b9.out; have := da.out; omega
          case rel => exact ⟨(b1), (wrap64 (Z + 1)), be_, ca, ⟨B26x17_⟩, Cr ag, Cb B, Cb D, Ce3 HB ai ak bi⟩
         ·obtain ⟨e1, e2⟩ := nE dh; obtain ⟨eK, bI⟩ := ya ca; obtain ⟨fz, cS⟩ : ∃ y_ : List (S74), y_ = (b1 ++ [(⟨4, (rd_T57 j Z).f0, (⟨#[]⟩ : ByteArray), (⟨#[]⟩ : ByteArray)⟩ : S74)]) := ⟨_, rfl⟩
          (first | with_reducible replace bI := hq cS bI | rw [← cS] at bI | simp only [← cS] at bI)
          have eQ := am cS; clear cS; replace bI := am bI; clear aM bG db dc co bH ca
          have ba : 0 ≤ (Z : Int) := dga
          have bd : Z < (j.length : Int) := dga
          obtain ⟨cw, cC, a7, a8, a9⟩ := at_T57 aI.out Z ba bd; cases cC; replace a7 := (hbc HB a7).trans a7; replace a8 := (hbc HB a8).trans a8; replace a9 := (hbc HB a9).trans a9; replace ba := eq_true ba; replace bd := eq_true bd
          go_wp2_with (first | ((with_reducible refine gate_dst (N := 12) rfl ?_); refine bx (N := 12) (cs := #[.string (⟨#[]⟩ : ByteArray), .string (⟨#[]⟩ : ByteArray), .int .i64 0]) (t := 57) ?_; intro cD hg g7 hbox hb; replace ag := rA ag hb; have aC := am hbox; have bi := gA hg HB; replace HB := De2 HB ai ak hb; have br := nA hg B; have cr := mA hg B; replace B := bA B hb; have bu := nA hg D; have ct := mA hg D; replace D := bA D hb; clear hb hbox hg; have gi := cr.out; have gB := br.out; have gj := ct.out; have gC := bu.out; obtain ⟨dt, du, dv, dw, dx, dy⟩ := cf3 aC) | ((with_reducible refine gate_callee (f := 36) rfl ?_); refine goesL_ (some 64) rfl rfl Tryz.func36 gk_ rfl #[.agg #[.string ((rd_T57 j Z).f0), .string ((rd_T57 j Z).f1), .int .i64 ((rd_T57 j Z).f2)]] rfl gm_ ?_; refine (impl_isSnap.calls k4 ((rd_T57 j Z).f0) ((rd_T57 j Z).f1) ((rd_T57 j Z).f2) true _ dz.out).mono ?_; rintro e g8 ⟨rfl, hb⟩; refine ⟨_, rfl, ?_⟩; replace ag := am (Kd.R_below (tfg ag.out aC.out (by decide)) hb); replace B := am (blk_below (g := a4) (o := .cells #[.slice (some cw) j.length J] 26 (0, 0)) (Ap1 B br) hb); replace D := am (blk_below (g := bM) (o := .cells #[.int .i64 ay, .int .i64 aD, .slice aX aw.length a3, .string aE] 29 (0, 0)) (Ap1 D bu) hb); replace aC := am (blk_below (g := cD) (o := .cells #[.string ((rd_T57 j Z).f0), .string ((rd_T57 j Z).f1), .int .i64 ((rd_T57 j Z).f2)] 57 (0, 0)) (Ap0 aC) hb); replace HB := De3 HB ai ak bi hb; obtain ⟨dt, du, dv, dw, dx, dy⟩ := cf3 aC) | ((with_reducible refine gate_builtin (b := .append) (xs := #[.tmp 71, .tmp 75]) rfl ?_); at_builtin; refine Kd.R_append k74 (w0 := w) w.heap.size rfl (.tmp 71) (.tmp 75) 37 74 (.agg #[(.int .i64 0), (.string ⟨#[]⟩), (.string ⟨#[]⟩), (.string ⟨#[]⟩)]) 56 rfl Tryz.underlying37 info74 rfl (by decide) (by omega) u8 b1 (⟨4, (rd_T57 j Z).f0, (⟨#[]⟩ : ByteArray), (⟨#[]⟩ : ByteArray)⟩ : S74) [.int .i64 4, .string ((rd_T57 j Z).f0), .string (⟨#[]⟩ : ByteArray), .string (⟨#[]⟩ : ByteArray)] (fun _ => True) (fun _ => False) rfl rfl ?aP (fun _ hk => hk.elim) ?aF ?aO ?aB ?aS ?aL ?_; (case aP => exact k74_mkM _ _ _ (⟨4, (rd_T57 j Z).f0, (⟨#[]⟩ : ByteArray), (⟨#[]⟩ : ByteArray)⟩ : S74)); (case aB => exact (Ae3 HB ai ak bi)); (case aF => exact (fun _ _ => trivial)); (case aO => exact (Ar ag)); (case aS => exact (below_size (Ae3 HB ai ak bi))); (case aL => have := eK.out; omega); intro gV g9 ho hb hg hat; rw [← eQ.out] at ho; replace B := bg B hg (Kd.R_ne ag.out B.out (by decide)); replace D := bg D hg (Kd.R_ne ag.out D.out (by decide)); replace aC := bg aC hg (Kd.R_ne ag.out aC.out (by decide)); replace HB := am hb; have eF := am ho; clear ag; clear ho hb hg hat))
          go_roundg k4
          case measure => have := bq.out; have := b8.out; have := b9.out; have := da.out; omega
          case rel => exact ⟨(fz), (wrap64 (Z + 1)), be_, bI, ⟨B26x17_⟩, Cr eF, Cb B, Cb D, Ce3 HB ai ak bi⟩
        ·replace bH := am bH; clear aM bG db dc co
         have ba : 0 ≤ (Z : Int) := dga
         have bd : Z < (j.length : Int) := dga
         obtain ⟨cw, cC, a7, a8, a9⟩ := at_T57 aI.out Z ba bd; cases cC; replace a7 := (hbc HB a7).trans a7; replace a8 := (hbc HB a8).trans a8; replace a9 := (hbc HB a9).trans a9; replace ba := eq_true ba; replace bd := eq_true bd
         go_wp2_with (first | ((with_reducible refine gate_dst (N := 12) rfl ?_); refine bx (N := 12) (cs := #[.string (⟨#[]⟩ : ByteArray), .string (⟨#[]⟩ : ByteArray), .int .i64 0]) (t := 57) ?_; intro cD hg hf hbox hb; replace ag := rA ag hb; have aC := am hbox; have bi := gA hg HB; replace HB := De2 HB ai ak hb; have br := nA hg B; have cr := mA hg B; replace B := bA B hb; have bu := nA hg D; have ct := mA hg D; replace D := bA D hb; clear hb hbox hg; have gm := cr.out; have gE := br.out; have gn := ct.out; have gF := bu.out; obtain ⟨dt, du, dv, dw, dx, dy⟩ := cf3 aC) | ((with_reducible refine gate_callee (f := 36) rfl ?_); refine goesL_ (some 64) rfl rfl Tryz.func36 gk_ rfl #[.agg #[.string ((rd_T57 j Z).f0), .string ((rd_T57 j Z).f1), .int .i64 ((rd_T57 j Z).f2)]] rfl gm_ ?_; refine (impl_isSnap.calls k4 ((rd_T57 j Z).f0) ((rd_T57 j Z).f1) ((rd_T57 j Z).f2) false _ dz.out).mono ?_; rintro e hh ⟨rfl, hb⟩; refine ⟨_, rfl, ?_⟩; replace ag := am (Kd.R_below (tfg ag.out aC.out (by decide)) hb); replace B := am (blk_below (g := a4) (o := .cells #[.slice (some cw) j.length J] 26 (0, 0)) (Ap1 B br) hb); replace D := am (blk_below (g := bM) (o := .cells #[.int .i64 ay, .int .i64 aD, .slice aX aw.length a3, .string aE] 29 (0, 0)) (Ap1 D bu) hb); replace aC := am (blk_below (g := cD) (o := .cells #[.string ((rd_T57 j Z).f0), .string ((rd_T57 j Z).f1), .int .i64 ((rd_T57 j Z).f2)] 57 (0, 0)) (Ap0 aC) hb); replace HB := De3 HB ai ak bi hb))
         go_roundg k4
         case measure => have := bq.out; have := b8.out; have := b9.out; have := da.out; omega
         case rel => exact ⟨(b1), (wrap64 (Z + 1)), be_, bH, ⟨B26x17_⟩, Cr ag, Cb B, Cb D, Ce3 HB ai ak bi⟩
       ·obtain ⟨rfl, rfl⟩ := s2 bG; clear bG aM
        go_wp2
        go_ret2
        exact ⟨_, B26x10_, (Ar ag), (Ae2 HB ai ak)⟩
     ·obtain ⟨eb, ec⟩ := nE cB; obtain ⟨bC, dj⟩ : ∃ j_ : Int, (mn 60 (aV.size : Int)) = j_ := ⟨_, rfl⟩
      (first | rw [dj] at bj | simp only [dj] at bj)
      have f2 : (if (aV.size : Int) < 60 then (aV.size : Int) else 60) = bC := dj
      obtain ⟨fQ, fR, d6⟩ := ye bj; obtain ⟨fS, fT, d7⟩ := ye d6; obtain ⟨eL, bJ⟩ := ya d7; obtain ⟨fx, cP⟩ : ∃ y_ : List (S74), y_ = (b0 ++ [(⟨1, (⟨#[115, 43]⟩ : ByteArray), aV.extract 0 ((bC) : Int).toNat, (⟨#[]⟩ : ByteArray)⟩ : S74)]) := ⟨_, rfl⟩
      (first | with_reducible replace bJ := hq cP bJ | rw [← cP] at bJ | simp only [← cP] at bJ)
      have eO := am cP; clear cP; have fU := eq_true (dga : 0 ≤ (bC)); have fV := eq_true (dga : (bC) ≤ (aV.size : Int)); replace bJ := am bJ; clear aJ bj d6 d7
      go_wp2_with (first | ((with_reducible refine gate_builtin (b := .append) (xs := #[.tmp 37, .tmp 42]) rfl ?_); at_builtin; refine Kd.R_append k74 (w0 := w) w.heap.size rfl (.tmp 37) (.tmp 42) 37 74 (.agg #[(.int .i64 0), (.string ⟨#[]⟩), (.string ⟨#[]⟩), (.string ⟨#[]⟩)]) 56 rfl Tryz.underlying37 info74 rfl (by decide) (by omega) u8 b0 (⟨1, (⟨#[115, 43]⟩ : ByteArray), aV.extract 0 ((bC) : Int).toNat, (⟨#[]⟩ : ByteArray)⟩ : S74) [.int .i64 1, .string (⟨#[115, 43]⟩ : ByteArray), .string (aV.extract 0 ((bC) : Int).toNat), .string (⟨#[]⟩ : ByteArray)] (fun _ => True) (fun _ => False) rfl rfl ?aP (fun _ hk => hk.elim) ?aF ?aO ?aB ?aS ?aL ?_; (case aP => exact k74_mkM _ _ _ (⟨1, (⟨#[115, 43]⟩ : ByteArray), aV.extract 0 ((bC) : Int).toNat, (⟨#[]⟩ : ByteArray)⟩ : S74)); (case aB => exact (Ae2 HB ai ak)); (case aF => exact (fun _ _ => trivial)); (case aO => exact (Ar ag)); (case aS => exact B26x23_); (case aL => have := eL.out; omega); intro gQ hj ho hb hg hat; rw [← eO.out] at ho; replace B := bg B hg (Kd.R_ne ag.out B.out (by decide)); replace D := bg D hg (Kd.R_ne ag.out D.out (by decide)); replace HB := am hb; have eD := am ho; clear ag; clear ho hb hg hat))
      go_roundg k3
      case measure => have := bq.out; have := b8.out; have := b9.out; omega
      case rel => exact ⟨(aV.extract ((bC) : Int).toNat aV.size), fx, (by first | rfl | (simp; done) | (simp only [← dj] <;> (first | rfl | simp)) | (simp [*]; done)), bJ, ⟨(by have := bq.out; have := b8.out; have := b9.out; omega)⟩, Cr eD, D8x3_⟩

def spec_l03Name.f (Y : ByteArray) : Option (Bool) := (spec_l01In.f (Y.size : Int) 1 8).bind fun dY => (some dY)
theorem spec_l03Name.calls (Y : ByteArray) (r : Bool) (w : World) (h : spec_l03Name.f Y = some r) :
  Calls Tryz.prog 63 #[.string Y] w fun e w' => e = .returned (.bool r) ∧ Drawn0 w w' := by
 have ae := h
 clear h
 unfold spec_l03Name.f at ae
 obtain ⟨dY, A2, U⟩ := bsi ae
 (try dsimp only at U)
 obtain rfl := Option.some.inj U
 clear U ae
 go_enter Tryz.func63, Tryz.ntmps63
 go_wp2_with (first | ((with_reducible refine gate_callee (f := 49) rfl ?_); refine goesL_ (some 5) rfl rfl Tryz.func49 gk_ rfl #[.int .i64 (Y.size : Int), .int .i64 1, .int .i64 8] rfl gm_ ?_; refine (spec_l01In.calls (Y.size : Int) 1 8 dY _ A2.out).mono ?_; rintro e w' ⟨rfl, ⟨nd, rfl⟩⟩; refine ⟨_, rfl, ?_⟩))
 go_ret
 exact ⟨gr_, gd_⟩
theorem B27x8_ (h : p := by have := bm.out; first | omega | exact Nat.le_refl _) : p := h
mutual
def spec_DiskOk.l0 : Nat → Int → List (S57) → Option (Bool)
 | 0, _, _ => none
 | k + 1, x3, aN => if x3 < (aN.length : Int) then (if 0 ≤ x3 then ((spec_l03Name.f ((rd_T57 aN x3).f0)).bind fun et => (if et = true then (if (((rd_T57 aN x3).f1).size : Int) > 20000 then (spec_DiskOk.j1 k x3 true aN) else ((spec_l01In.f ((rd_T57 aN x3).f2) 0 (((rd_T57 aN x3).f1).size : Int)).bind fun eu => (if eu = true then (if x3 > 0 then (if 0 ≤ (wrap64 (x3 - 1)) then (if (wrap64 (x3 - 1)) < (aN.length : Int) then (spec_DiskOk.j1 k x3 (!(Op.bytesLess (((rd_T57 aN (wrap64 (x3 - 1))).f0).toList) (((rd_T57 aN x3).f0).toList))) aN) else (none)) else (none)) else (spec_DiskOk.j1 k x3 false aN)) else (spec_DiskOk.j1 k x3 true aN)))) else (spec_DiskOk.j1 k x3 true aN))) else (none)) else (some true)
def spec_DiskOk.j1 : Nat → Int → Bool → List (S57) → Option (Bool)
 | 0, _, _, _ => none
 | k + 1, x3, fv, aN => if fv = true then (some false) else (spec_DiskOk.l0 k (wrap64 (x3 + 1)) aN)
end
def spec_DiskOk.f (k : Nat) (j : List (S57)) : Option (Bool) := if (j.length : Int) > 30 then (some false) else (spec_DiskOk.l0 k 0 j)
def spec_DiskOk.T7 : Bool × List (List Nat × List Nat) := (true, [([], []), ([0], [0]), ([1], [1]), ([2], [2]), ([3, 2], [3]), ([4], [4]), ([5, 4], [4, 5]), ([6, 4], [4, 6]), ([7, 4], [4, 7]), ([4, 8], [4, 8]), ([9, 4], [9]), ([10], [10]), ([11, 10], [10, 11]), ([10], [10]), ([13, 10], [10, 13]), ([14, 10], [10, 14]), ([12, 15, 10, 10], [10, 12, 15]), ([16, 10], [10, 16]), ([10, 17], [10, 17]), ([18, 16], [18]), ([19], [19]), ([20, 19], [19, 20]), ([21, 19, 19], [19, 21]), ([22], [22]), ([23, 22], [22, 23]), ([22], [22]), ([25, 22], [22, 25]), ([24, 26, 22], [22, 24, 26]), ([27, 22], [22, 27]), ([28, 22], [22, 28]), ([22], [22]), ([30, 22], [22, 30]), ([29, 31, 22], [22, 29, 31]), ([22, 32, 19], [19, 22, 32]), ([19, 33], [19, 33])])
def spec_DiskOk.B7 : List Nat := [0, 1, 3, 7, 15, 31, 63, 127, 255, 511, 1023, 2047, 4095, 2047, 10239, 26623, 65535, 131071, 262143, 524287, 1048575, 2097151, 4194303, 8388607, 16777215, 8388607, 41943039, 134217727, 268435455, 536870911, 8388607, 1082130431, 4294967295, 8589934591, 17179869183]
theorem spec_DiskOk.tab7 : rtab .any (opsOf Tryz.f62 7) = spec_DiskOk.T7 := by kernel_rfl
theorem spec_DiskOk.bits7 : waitsOk spec_DiskOk.T7.2 spec_DiskOk.B7 = true := by kernel_rfl
theorem spec_DiskOk.calls (k : Nat) (ad : Option Addr) (J : Nat) (j : List (S57)) (r : Bool) (w : World) (a6 : Kd.C k57 w ad j.length j) (a5 : j.length ≤ J) (h : spec_DiskOk.f k j = some r) :
  Calls Tryz.prog 62 #[.agg #[.slice ad j.length J]] w fun e w' => e = .returned (.bool r) ∧ Below w.heap.size w w' := by
 have dK := Tryz.underlying26
 have dL := Tryz.underlying57
 have aI := am a6
 have b7 := am a5
 clear a6 a5
 have HB := am (Below.refl w.heap.size w)
 have ae := h
 clear h
 unfold spec_DiskOk.f at ae
 obtain ⟨c2, U⟩ | ⟨c2, U⟩ := sp ae
 ·have ed : decide (30 < (j.length : Int)) = true := decide_eq_true c2
  have ee : decide (30 < j.length) = true := decide_eq_true (by omega)
  clear c2; obtain rfl := Option.some.inj U; clear U ae; go_enter Tryz.func62, Tryz.ntmps62
  go_wp2_with (first | ((with_reducible refine gate_dst (N := 1) rfl ?_); (try (refine gate_guard (by rfl) ?_; dsimp only)); refine bx (N := 1) (cs := #[.slice ad j.length J]) (t := 26) ?_; intro aT hg w3 hbox hb; have M := am hbox; have aH := gA hg HB; replace HB := hA HB hb; clear hb hbox hg; have hC : w3.cell? ⟨aT, 0, none⟩ = some (.slice ad j.length J) := bc M 0; have hY := blk_frozen M.out 0))
  go_ret; exact ⟨B26x10_, (Ae1 HB aH)⟩
 have ed : decide (30 < (j.length : Int)) = false := decide_eq_false c2
 have ee : decide (30 < j.length) = false := decide_eq_false (by omega)
 clear c2
 replace U := am U
 clear ae
 go_enter Tryz.func62, Tryz.ntmps62
 go_wp2_with (first | ((with_reducible refine gate_dst (N := 1) rfl ?_); (try (refine gate_guard (by rfl) ?_; dsimp only)); refine bx (N := 1) (cs := #[.slice ad j.length J]) (t := 26) ?_; intro aT hg w5 hbox hb; have M := am hbox; have aH := gA hg HB; replace HB := hA HB hb; clear hb hbox hg; have hD : w5.cell? ⟨aT, 0, none⟩ = some (.slice ad j.length J) := bc M 0; have hZ := blk_frozen M.out 0))
 go_loopg [3] k (fun kq v3 w' => ∃ (q : Int), v3 = .int .i64 q ∧ Aside0 (spec_DiskOk.l0 kq q j = some r) ∧ Aside0 (kq ≤ k) ∧ Aside0 (w'.heap[aT]? = some (.cells #[(.slice ad j.length J)] 26 (0, 0))) ∧ Aside0 (Below w.heap.size w w'))
 case atStart => exact ⟨(0), be_, U, ⟨Nat.le_refl _⟩, Cb M, Ce1 HB aH⟩
 case round =>
  clear U
  try clear c2
  try clear ed
  try clear ee
  obtain ⟨q, rfl, al, bm, M, HB⟩ := hrel
  cases gk with
  | zero => exact absurd al.out (by simp [spec_DiskOk.l0])
  | succ k1 => ?_
  replace al := al.out; simp only [spec_DiskOk.l0] at al
  obtain ⟨eh, ar⟩ | ⟨eh, ar⟩ := sd al
  ·obtain ⟨fX, aa⟩ := yd ar; replace aa := am aa; clear al ar
   have hl : wr.cell? ⟨aT, 0, none⟩ = some (.slice ad j.length J) := bc M 0
   have hN := blk_frozen M.out 0
   have dQ : 0 ≤ (q : Int) := dga
   have dT : q < (j.length : Int) := dga
   obtain ⟨aQ, e8, dM, dN, dO⟩ := at_T57 aI.out q dQ dT; cases e8; replace dM := (hbc HB dM).trans dM; replace dN := (hbc HB dN).trans dN; replace dO := (hbc HB dO).trans dO; replace dQ := eq_true dQ; replace dT := eq_true dT
   go_upto_region 7 with (first | ((with_reducible refine gate_dst (N := 4) rfl ?_); (try (refine gate_guard (by rfl) ?_; dsimp only)); refine bx (N := 4) (cs := #[.string (⟨#[]⟩ : ByteArray), .string (⟨#[]⟩ : ByteArray), .int .i64 0]) (t := 57) ?_; intro af hg cW hbox hb; have z := am hbox; have aW := gA hg HB; replace HB := De1 HB aH hb; have cc := nA hg M; have eM := mA hg M; replace M := bA M hb; clear hb hbox hg; have el := eM.out; have em := cc.out; obtain ⟨hH, hI, hJ, h6, h7, h8⟩ := cf3 z))
   (try simp only [Act.put, List.setIfInBounds_toArray, List.set_cons_zero, List.set_cons_succ])
   go_cut [55] (fun fl wc => ∃ (kq : Nat) (d1 : Bool), fl = .bool d1 ∧ Aside0 (spec_DiskOk.j1 kq q d1 j = some r) ∧ Aside0 (kq ≤ k1) ∧ Hc wc aT #[(.slice (some aQ) j.length J)] 26 ∧ Hc wc af #[.string ((rd_T57 j q).f0), .string ((rd_T57 j q).f1), .int .i64 ((rd_T57 j q).f2)] 57 ∧ Hb w wc)
   case first =>
    replace aa := aa.out; obtain ⟨et, b4, aj⟩ := bsi aa; (try dsimp only at aj)
    obtain ⟨rfl, au⟩ | ⟨rfl, au⟩ := sb aj
    ·obtain ⟨cy, ax⟩ | ⟨cy, ax⟩ := sp au
     ·have cz : decide (20000 < (((rd_T57 j q).f1).size : Int)) = true := decide_eq_true cy
      have eY : decide (20000 < ((rd_T57 j q).f1).size) = true := decide_eq_true (by omega)
      clear cy
      (first | rw [cz] | (simp only [i64_w, i32_w]; rw [cz]) | skip)
      replace ax := am ax; clear aa aj au
      try go_wp2
      generalize hw : (((cW.setCell ⟨af, 0, none⟩ (.string ((rd_T57 j q).f0))).setCell ⟨af, 1, none⟩ (.string ((rd_T57 j q).f1))).setCell ⟨af, 2, none⟩ (.int .i64 ((rd_T57 j q).f2))) = cX; replace hw := hw.symm
      replace M : Hc cX aT #[.slice (some aQ) j.length J] 26 := ⟨wAp1 M cc⟩
      replace z : Hc cX af #[.string ((rd_T57 j q).f0), .string ((rd_T57 j q).f1), .int .i64 ((rd_T57 j q).f2)] 57 := ⟨wAp0 z⟩
      replace HB : Hb w cX := ⟨wAe2 HB aH aW⟩
      clear hw; replace M := dA M; replace z := dA z; replace HB := bdr HB; refine st_ 35 (fun w' => w'.cell? ⟨af, 0, none⟩ = some (.string ((rd_T57 j q).f0)) ∧ w'.cell? ⟨af, 1, none⟩ = some (.string ((rd_T57 j q).f1)) ∧ w'.cell? ⟨af, 2, none⟩ = some (.int .i64 ((rd_T57 j q).f2))) [] spec_DiskOk.tab7 spec_DiskOk.bits7 D8x1_ (fun ac l ap => ?_); generalize cX.drew = gZ at M z HB ac ⊢; refine pu_ 0 21 l ?_; refine ta_ 1 22 l ap ac ?_; refine on_ 2 (some 23) l (fun K hK => ?_); refine goes_ Tryz.func63 gk_ rfl #[.string ((rd_T57 j q).f0)] (by rfl) rfl rfl gm_ ?_; refine (spec_l03Name.calls ((rd_T57 j q).f0) true _ b4.out).mono ?_; rintro e w' ⟨rfl, ⟨nd, rfl⟩⟩; refine ⟨_, rfl, ?_⟩; refine hK.out _ _ D8x1_ (fun ac => nm_ ?_); clear hK K; refine pu_ 3 24 l ?_; refine pu_ 4 25 l ?_; refine pu_ 5 26 l ?_; refine ta_ 6 27 l ap ac ?_; refine pu_ 7 28 l ?_; refine pu_ 8 29 l ?_; refine pu_ 9 30 l ?_; refine pu_ 10 31 l ?_; refine of_ 11 32 l ?_; refine of_ 12 33 l ?_; refine of_ 13 34 l ?_; refine of_ 14 35 l ?_; refine of_ 15 36 l ?_; refine of_ 16 37 l ?_; refine of_ 17 38 l ?_; refine pu_ 18 39 l ?_; refine pu_ 19 40 l ?_; refine of_ 20 41 l ?_; refine of_ 21 42 l ?_; refine of_ 22 43 l ?_; refine of_ 23 44 l ?_; refine of_ 24 45 l ?_; refine of_ 25 46 l ?_; refine of_ 26 47 l ?_; refine of_ 27 48 l ?_; refine of_ 28 49 l ?_; refine of_ 29 50 l ?_; refine of_ 30 51 l ?_; refine of_ 31 52 l ?_; refine of_ 32 53 l ?_; refine of_ 33 54 l ?_; refine pu_ 34 55 l ?_; refine done_ (done_of l.out gk_) ?_
      try go_wp2
      go_meet
      case rel => exact ⟨_, true, be_, ax, D8x2_⟩
     have cz : decide (20000 < (((rd_T57 j q).f1).size : Int)) = false := decide_eq_false cy
     have eY : decide (20000 < ((rd_T57 j q).f1).size) = false := decide_eq_false (by omega)
     clear cy
     (first | rw [cz] | (simp only [i64_w, i32_w]; rw [cz]) | skip)
     obtain ⟨eu, b5, aA⟩ := bsi ax; (try dsimp only at aA)
     obtain ⟨rfl, av⟩ | ⟨rfl, av⟩ := sb aA
     ·obtain ⟨cA, aJ⟩ | ⟨cA, aJ⟩ := sp av
      ·have eZ : decide (0 < q) = true := decide_eq_true cA
       clear cA; obtain ⟨aU, ce⟩ : ∃ j_ : Int, (wrap64 (q - 1)) = j_ := ⟨_, rfl⟩
       (first | rw [ce] at aJ | simp only [ce] at aJ)
       (try rw [ce] at b4); (try rw [ce] at b5)
       have f1 : (IntKind.i64.wrap (q - 1)) = aU := (i64_w _).trans ce
       obtain ⟨fL, bj⟩ := yd aJ; obtain ⟨fM, aZ⟩ := yd bj; replace aZ := am aZ; clear aa aj au ax aA av aJ bj
       try go_wp2
       generalize hw : (((cW.setCell ⟨af, 0, none⟩ (.string ((rd_T57 j q).f0))).setCell ⟨af, 1, none⟩ (.string ((rd_T57 j q).f1))).setCell ⟨af, 2, none⟩ (.int .i64 ((rd_T57 j q).f2))) = cY; replace hw := hw.symm
       replace M : Hc cY aT #[.slice (some aQ) j.length J] 26 := ⟨wAp1 M cc⟩
       replace z : Hc cY af #[.string ((rd_T57 j q).f0), .string ((rd_T57 j q).f1), .int .i64 ((rd_T57 j q).f2)] 57 := ⟨wAp0 z⟩
       replace HB : Hb w cY := ⟨wAe2 HB aH aW⟩
       clear hw; replace M := dA M; replace z := dA z; replace HB := bdr HB
       have dR : 0 ≤ ((aU) : Int) := dga
       have dU : (aU) < (j.length : Int) := dga
       obtain ⟨eS, e9, cH, cI, cJ⟩ := at_T57 aI.out (aU) dR dU; have ci := cJ; have ch := cI; have cg := cH; obtain rfl : aQ = eS := (by injection e9); replace cH := (hbc HB cH).trans cH; replace cI := (hbc HB cI).trans cI; replace cJ := (hbc HB cJ).trans cJ; replace dR := eq_true dR; replace dU := eq_true dU; refine st_ 35 (fun w' => w'.cell? ⟨af, 0, none⟩ = some (.string ((rd_T57 j q).f0)) ∧ w'.cell? ⟨af, 1, none⟩ = some (.string ((rd_T57 j q).f1)) ∧ w'.cell? ⟨af, 2, none⟩ = some (.int .i64 ((rd_T57 j q).f2)) ∧ w'.cell? ⟨aT, 0, none⟩ = some (.slice (some aQ) j.length J) ∧ w'.cell? (aQ.add (((aU)).toNat * 3)) = some (.string ((rd_T57 j (aU)).f0)) ∧ w'.cell? ⟨(aQ.add (((aU)).toNat * 3)).block, (aQ.add (((aU)).toNat * 3)).off + 1, none⟩ = some (.string ((rd_T57 j (aU)).f1)) ∧ w'.cell? ⟨(aQ.add (((aU)).toNat * 3)).block, (aQ.add (((aU)).toNat * 3)).off + 2, none⟩ = some (.int .i64 ((rd_T57 j (aU)).f2))) [] spec_DiskOk.tab7 spec_DiskOk.bits7 D8x0_ (fun ac l ap => ?_); generalize cY.drew = g1 at M z HB cH cI cJ ac ⊢; refine pu_ 0 21 l ?_; refine ta_ 1 22 l ap ac ?_; refine on_ 2 (some 23) l (fun K hK => ?_); refine goes_ Tryz.func63 gk_ rfl #[.string ((rd_T57 j q).f0)] (by rfl) rfl rfl gm_ ?_; refine (spec_l03Name.calls ((rd_T57 j q).f0) true _ b4.out).mono ?_; rintro e w' ⟨rfl, ⟨nd, rfl⟩⟩; refine ⟨_, rfl, ?_⟩; refine hK.out _ _ D8x0_ (fun ac => nm_ ?_); clear hK K; refine pu_ 3 24 l ?_; refine pu_ 4 25 l ?_; refine pu_ 5 26 l ?_; refine ta_ 6 27 l ap ac ?_; refine pu_ 7 28 l ?_; refine pu_ 8 29 l ?_; refine pu_ 9 30 l ?_; refine pu_ 10 31 l ?_; refine pu_ 11 32 l ?_; refine pu_ 13 34 l ?_; refine ta_ 12 33 l ap ac ?_; refine ta_ 14 35 l ap ac ?_; refine pu_ 15 36 l ?_; refine on_ 16 (some 37) l (fun K hK => ?_); refine goes_ Tryz.func49 gk_ rfl #[.int .i64 ((rd_T57 j q).f2), .int .i64 0, .int .i64 (((rd_T57 j q).f1).size : Int)] (by rfl) rfl rfl gm_ ?_; refine (spec_l01In.calls ((rd_T57 j q).f2) 0 (((rd_T57 j q).f1).size : Int) true _ b5.out).mono ?_; rintro e w' ⟨rfl, ⟨nd, rfl⟩⟩; refine ⟨_, rfl, ?_⟩; refine hK.out _ _ D8x0_ (fun ac => nm_ ?_); clear hK K; refine pu_ 17 38 l ?_; refine pu_ 18 39 l ?_; refine pu_ 19 40 l ?_; refine pu_ 20 41 l ?_; refine pu_ 21 42 l ?_; refine pu_ 22 43 l ?_; refine pu_ 23 44 l ?_; refine pu_ 25 46 l ?_; refine pu_ 26 47 l ?_; refine pu_ 30 51 l ?_; refine ta_ 24 45 l ap ac ?_; refine pu_ 27 48 l ?_; refine pu_ 28 49 l ?_; refine ta_ 29 50 l ap ac ?_; refine ta_ 31 52 l ap ac ?_; refine pu_ 32 53 l ?_; refine pu_ 33 54 l ?_; refine pu_ 34 55 l ?_; refine done_ (done_of l.out gk_) ?_
       try go_wp2
       go_meet
       case rel => exact ⟨_, (!(Op.bytesLess (((rd_T57 j (aU)).f0).toList) (((rd_T57 j q).f0).toList))), (by first | rfl | (simp; done) | (simp only [← ce] <;> (first | rfl | simp)) | (simp [*]; done)), aZ, D8x2_⟩
      have eZ : decide (0 < q) = false := decide_eq_false cA
      clear cA; replace aJ := am aJ; clear aa aj au ax aA av
      try go_wp2
      generalize hw : (((cW.setCell ⟨af, 0, none⟩ (.string ((rd_T57 j q).f0))).setCell ⟨af, 1, none⟩ (.string ((rd_T57 j q).f1))).setCell ⟨af, 2, none⟩ (.int .i64 ((rd_T57 j q).f2))) = dl; replace hw := hw.symm
      replace M : Hc dl aT #[.slice (some aQ) j.length J] 26 := ⟨wAp1 M cc⟩
      replace z : Hc dl af #[.string ((rd_T57 j q).f0), .string ((rd_T57 j q).f1), .int .i64 ((rd_T57 j q).f2)] 57 := ⟨wAp0 z⟩
      replace HB : Hb w dl := ⟨wAe2 HB aH aW⟩
      clear hw; replace M := dA M; replace z := dA z; replace HB := bdr HB; refine st_ 35 (fun w' => w'.cell? ⟨af, 0, none⟩ = some (.string ((rd_T57 j q).f0)) ∧ w'.cell? ⟨af, 1, none⟩ = some (.string ((rd_T57 j q).f1)) ∧ w'.cell? ⟨af, 2, none⟩ = some (.int .i64 ((rd_T57 j q).f2))) [] spec_DiskOk.tab7 spec_DiskOk.bits7 D8x1_ (fun ac l ap => ?_); generalize dl.drew = fr at M z HB ac ⊢; refine pu_ 0 21 l ?_; refine ta_ 1 22 l ap ac ?_; refine on_ 2 (some 23) l (fun K hK => ?_); refine goes_ Tryz.func63 gk_ rfl #[.string ((rd_T57 j q).f0)] (by rfl) rfl rfl gm_ ?_; refine (spec_l03Name.calls ((rd_T57 j q).f0) true _ b4.out).mono ?_; rintro e w' ⟨rfl, ⟨nd, rfl⟩⟩; refine ⟨_, rfl, ?_⟩; refine hK.out _ _ D8x1_ (fun ac => nm_ ?_); clear hK K; refine pu_ 3 24 l ?_; refine pu_ 4 25 l ?_; refine pu_ 5 26 l ?_; refine ta_ 6 27 l ap ac ?_; refine pu_ 7 28 l ?_; refine pu_ 8 29 l ?_; refine pu_ 9 30 l ?_; refine pu_ 10 31 l ?_; refine pu_ 11 32 l ?_; refine pu_ 13 34 l ?_; refine ta_ 12 33 l ap ac ?_; refine ta_ 14 35 l ap ac ?_; refine pu_ 15 36 l ?_; refine on_ 16 (some 37) l (fun K hK => ?_); refine goes_ Tryz.func49 gk_ rfl #[.int .i64 ((rd_T57 j q).f2), .int .i64 0, .int .i64 (((rd_T57 j q).f1).size : Int)] (by rfl) rfl rfl gm_ ?_; refine (spec_l01In.calls ((rd_T57 j q).f2) 0 (((rd_T57 j q).f1).size : Int) true _ b5.out).mono ?_; rintro e w' ⟨rfl, ⟨nd, rfl⟩⟩; refine ⟨_, rfl, ?_⟩; refine hK.out _ _ D8x1_ (fun ac => nm_ ?_); clear hK K; refine pu_ 17 38 l ?_; refine pu_ 18 39 l ?_; refine pu_ 19 40 l ?_; refine pu_ 20 41 l ?_; refine pu_ 21 42 l ?_; refine pu_ 22 43 l ?_; refine of_ 23 44 l ?_; refine of_ 24 45 l ?_; refine of_ 25 46 l ?_; refine of_ 26 47 l ?_; refine of_ 27 48 l ?_; refine of_ 28 49 l ?_; refine of_ 29 50 l ?_; refine of_ 30 51 l ?_; refine of_ 31 52 l ?_; refine of_ 32 53 l ?_; refine pu_ 33 54 l ?_; refine pu_ 34 55 l ?_; refine done_ (done_of l.out gk_) ?_
      try go_wp2
      go_meet
      case rel => exact ⟨_, false, be_, aJ, D8x2_⟩
     replace av := am av; clear aa aj au ax aA
     try go_wp2
     generalize hw : (((cW.setCell ⟨af, 0, none⟩ (.string ((rd_T57 j q).f0))).setCell ⟨af, 1, none⟩ (.string ((rd_T57 j q).f1))).setCell ⟨af, 2, none⟩ (.int .i64 ((rd_T57 j q).f2))) = dm; replace hw := hw.symm
     replace M : Hc dm aT #[.slice (some aQ) j.length J] 26 := ⟨wAp1 M cc⟩
     replace z : Hc dm af #[.string ((rd_T57 j q).f0), .string ((rd_T57 j q).f1), .int .i64 ((rd_T57 j q).f2)] 57 := ⟨wAp0 z⟩
     replace HB : Hb w dm := ⟨wAe2 HB aH aW⟩
     clear hw; replace M := dA M; replace z := dA z; replace HB := bdr HB; refine st_ 35 (fun w' => w'.cell? ⟨af, 0, none⟩ = some (.string ((rd_T57 j q).f0)) ∧ w'.cell? ⟨af, 1, none⟩ = some (.string ((rd_T57 j q).f1)) ∧ w'.cell? ⟨af, 2, none⟩ = some (.int .i64 ((rd_T57 j q).f2))) [] spec_DiskOk.tab7 spec_DiskOk.bits7 D8x1_ (fun ac l ap => ?_); generalize dm.drew = g2 at M z HB ac ⊢; refine pu_ 0 21 l ?_; refine ta_ 1 22 l ap ac ?_; refine on_ 2 (some 23) l (fun K hK => ?_); refine goes_ Tryz.func63 gk_ rfl #[.string ((rd_T57 j q).f0)] (by rfl) rfl rfl gm_ ?_; refine (spec_l03Name.calls ((rd_T57 j q).f0) true _ b4.out).mono ?_; rintro e w' ⟨rfl, ⟨nd, rfl⟩⟩; refine ⟨_, rfl, ?_⟩; refine hK.out _ _ D8x1_ (fun ac => nm_ ?_); clear hK K; refine pu_ 3 24 l ?_; refine pu_ 4 25 l ?_; refine pu_ 5 26 l ?_; refine ta_ 6 27 l ap ac ?_; refine pu_ 7 28 l ?_; refine pu_ 8 29 l ?_; refine pu_ 9 30 l ?_; refine pu_ 10 31 l ?_; refine pu_ 11 32 l ?_; refine pu_ 13 34 l ?_; refine ta_ 12 33 l ap ac ?_; refine ta_ 14 35 l ap ac ?_; refine pu_ 15 36 l ?_; refine on_ 16 (some 37) l (fun K hK => ?_); refine goes_ Tryz.func49 gk_ rfl #[.int .i64 ((rd_T57 j q).f2), .int .i64 0, .int .i64 (((rd_T57 j q).f1).size : Int)] (by rfl) rfl rfl gm_ ?_; refine (spec_l01In.calls ((rd_T57 j q).f2) 0 (((rd_T57 j q).f1).size : Int) false _ b5.out).mono ?_; rintro e w' ⟨rfl, ⟨nd, rfl⟩⟩; refine ⟨_, rfl, ?_⟩; refine hK.out _ _ D8x1_ (fun ac => nm_ ?_); clear hK K; refine pu_ 17 38 l ?_; refine pu_ 18 39 l ?_; refine pu_ 19 40 l ?_; refine of_ 20 41 l ?_; refine of_ 21 42 l ?_; refine of_ 22 43 l ?_; refine of_ 23 44 l ?_; refine of_ 24 45 l ?_; refine of_ 25 46 l ?_; refine of_ 26 47 l ?_; refine of_ 27 48 l ?_; refine of_ 28 49 l ?_; refine of_ 29 50 l ?_; refine of_ 30 51 l ?_; refine of_ 31 52 l ?_; refine of_ 32 53 l ?_; refine of_ 33 54 l ?_; refine pu_ 34 55 l ?_; refine done_ (done_of l.out gk_) ?_
     try go_wp2
     go_meet
     case rel => exact ⟨_, true, be_, av, D8x2_⟩
    replace au := am au; clear aa aj
    try go_wp2
    generalize hw : (((cW.setCell ⟨af, 0, none⟩ (.string ((rd_T57 j q).f0))).setCell ⟨af, 1, none⟩ (.string ((rd_T57 j q).f1))).setCell ⟨af, 2, none⟩ (.int .i64 ((rd_T57 j q).f2))) = dn; replace hw := hw.symm
    replace M : Hc dn aT #[.slice (some aQ) j.length J] 26 := ⟨wAp1 M cc⟩
    replace z : Hc dn af #[.string ((rd_T57 j q).f0), .string ((rd_T57 j q).f1), .int .i64 ((rd_T57 j q).f2)] 57 := ⟨wAp0 z⟩
    replace HB : Hb w dn := ⟨wAe2 HB aH aW⟩
    clear hw; replace M := dA M; replace z := dA z; replace HB := bdr HB; refine st_ 35 (fun w' => w'.cell? ⟨af, 0, none⟩ = some (.string ((rd_T57 j q).f0)) ∧ w'.cell? ⟨af, 1, none⟩ = some (.string ((rd_T57 j q).f1)) ∧ w'.cell? ⟨af, 2, none⟩ = some (.int .i64 ((rd_T57 j q).f2))) [] spec_DiskOk.tab7 spec_DiskOk.bits7 D8x1_ (fun ac l ap => ?_); generalize dn.drew = g3 at M z HB ac ⊢; refine pu_ 0 21 l ?_; refine ta_ 1 22 l ap ac ?_; refine on_ 2 (some 23) l (fun K hK => ?_); refine goes_ Tryz.func63 gk_ rfl #[.string ((rd_T57 j q).f0)] (by rfl) rfl rfl gm_ ?_; refine (spec_l03Name.calls ((rd_T57 j q).f0) false _ b4.out).mono ?_; rintro e w' ⟨rfl, ⟨nd, rfl⟩⟩; refine ⟨_, rfl, ?_⟩; refine hK.out _ _ D8x1_ (fun ac => nm_ ?_); clear hK K; refine pu_ 3 24 l ?_; refine pu_ 4 25 l ?_; refine of_ 5 26 l ?_; refine of_ 6 27 l ?_; refine of_ 7 28 l ?_; refine of_ 8 29 l ?_; refine pu_ 9 30 l ?_; refine pu_ 10 31 l ?_; refine of_ 11 32 l ?_; refine of_ 12 33 l ?_; refine of_ 13 34 l ?_; refine of_ 14 35 l ?_; refine of_ 15 36 l ?_; refine of_ 16 37 l ?_; refine of_ 17 38 l ?_; refine pu_ 18 39 l ?_; refine pu_ 19 40 l ?_; refine of_ 20 41 l ?_; refine of_ 21 42 l ?_; refine of_ 22 43 l ?_; refine of_ 23 44 l ?_; refine of_ 24 45 l ?_; refine of_ 25 46 l ?_; refine of_ 26 47 l ?_; refine of_ 27 48 l ?_; refine of_ 28 49 l ?_; refine of_ 29 50 l ?_; refine of_ 30 51 l ?_; refine of_ 31 52 l ?_; refine of_ 32 53 l ?_; refine of_ 33 54 l ?_; refine pu_ 34 55 l ?_; refine done_ (done_of l.out gk_) ?_
    try go_wp2
    go_meet
    case rel => exact ⟨_, true, be_, au, D8x2_⟩
   clear aa
   try clear c2
   obtain ⟨kq, d1, rfl, aK, d4, M, z, HB⟩ := hcut
   cases kq with
   | zero => exact absurd aK.out (by simp [spec_DiskOk.j1])
   | succ fh => ?_
   replace aK := aK.out; simp only [spec_DiskOk.j1] at aK
   obtain ⟨rfl, aM⟩ | ⟨rfl, aM⟩ := sb aK
   ·obtain rfl := Option.some.inj aM; clear aM aK
    go_wp2
    go_ret; exact ⟨B26x10_, (Ae2 HB aH aW)⟩
   replace aM := am aM; clear aK
   go_wp2
   go_roundg fh
   case measure => have := bm.out; have := d4.out; omega
   case rel => exact ⟨(wrap64 (q + 1)), be_, aM, ⟨(by have := bm.out; have := d4.out; omega)⟩, Cb M, Ce2 HB aH aW⟩
  obtain rfl := Option.some.inj ar; clear ar al
  have hz : wr.cell? ⟨aT, 0, none⟩ = some (.slice ad j.length J) := bc M 0
  have hW := blk_frozen M.out 0
  go_wp2
  go_ret; exact ⟨B26x10_, (Ae1 HB aH)⟩
theorem B28x15_ (h : p := by have := bm.out; omega) : p := h
def spec_l03At.l0 : Nat → ByteArray → Int → List (S57) → Option (Int)
 | 0, _, _, _ => none
 | k + 1, x1, x5, d2 => if x5 < (d2.length : Int) then (if 0 ≤ x5 then (if ((rd_T57 d2 x5).f0).toList = x1.toList then (some x5) else (spec_l03At.l0 k x1 (wrap64 (x5 + 1)) d2)) else (none)) else (some (-1))
def spec_l03At.f (k : Nat) (j : List (S57)) (a1 : ByteArray) : Option (Int) := spec_l03At.l0 k a1 0 j
theorem spec_l03At.calls (k : Nat) (ad : Option Addr) (J : Nat) (j : List (S57)) (a1 : ByteArray) (r : Int) (w : World) (a6 : Kd.C k57 w ad j.length j) (a5 : j.length ≤ J) (h : spec_l03At.f k j a1 = some r) :
  Calls Tryz.prog 64 #[.agg #[.slice ad j.length J], .string a1] w fun e w' => e = .returned (.int .i64 r) ∧ Below w.heap.size w w' := by
 have dK := Tryz.underlying26
 have aI := am a6
 have b7 := am a5
 clear a6 a5
 have HB := am (Below.refl w.heap.size w)
 have ae := h
 clear h
 unfold spec_l03At.f at ae
 replace ae := am ae
 go_enter Tryz.func64, Tryz.ntmps64
 go_wp2_with (first | ((with_reducible refine gate_dst (N := 2) rfl ?_); refine bx (N := 2) (cs := #[.slice ad j.length J]) (t := 26) ?_; intro di hg w3 hbox hb; have bl := am hbox; have cZ := gA hg HB; replace HB := hA HB hb; clear hb hbox hg))
 go_loopg [5] k (fun kq v5 w' => ∃ (bk : Int), v5 = .int .i64 bk ∧ Aside0 (spec_l03At.l0 kq a1 bk j = some r) ∧ Aside0 (kq ≤ k) ∧ Aside0 (w'.heap[di]? = some (.cells #[(.slice ad j.length J)] 26 (0, 0))) ∧ Aside0 (Below w.heap.size w w'))
 case atStart => exact ⟨(0), be_, ae, ⟨Nat.le_refl _⟩, Cb bl, Ce1 HB cZ⟩
 case round =>
  clear ae; obtain ⟨bk, rfl, U, bm, bl, HB⟩ := hrel
  cases gk with
  | zero => exact absurd U.out (by simp [spec_l03At.l0])
  | succ k1 => ?_
  replace U := U.out; simp only [spec_l03At.l0] at U
  obtain ⟨e3, al⟩ | ⟨e3, al⟩ := sd U
  ·obtain ⟨cd, ar⟩ := yd al
   obtain ⟨c6, aa⟩ | ⟨c6, aa⟩ := sp ar
   ·obtain ⟨ef, eg⟩ := yE c6; clear c6; obtain rfl := Option.some.inj aa; clear aa U al ar
    have hL : wr.cell? ⟨di, 0, none⟩ = some (.slice ad j.length J) := bc bl 0
    have h9 := blk_frozen bl.out 0
    have bT : 0 ≤ (bk : Int) := dga
    have bV : bk < (j.length : Int) := dga
    obtain ⟨eT, dH, bN, bO, bP⟩ := at_T57 aI.out bk bT bV; cases dH; replace bN := (hbc HB bN).trans bN; replace bO := (hbc HB bO).trans bO; replace bP := (hbc HB bP).trans bP; replace bT := eq_true bT; replace bV := eq_true bV
    go_wp2
    go_ret; exact ⟨B26x10_, (Ae1 HB cZ)⟩
   ·obtain ⟨ef, eg⟩ := nE c6; replace aa := am aa; clear U al ar
    have fE : wr.cell? ⟨di, 0, none⟩ = some (.slice ad j.length J) := bc bl 0
    have fJ := blk_frozen bl.out 0
    have bT : 0 ≤ (bk : Int) := dga
    have bV : bk < (j.length : Int) := dga
    obtain ⟨eT, dH, bN, bO, bP⟩ := at_T57 aI.out bk bT bV; cases dH; replace bN := (hbc HB bN).trans bN; replace bO := (hbc HB bO).trans bO; replace bP := (hbc HB bP).trans bP; replace bT := eq_true bT; replace bV := eq_true bV
    go_wp2
    go_roundg k1
    case measure => have := bm.out; omega
    case rel => exact ⟨(wrap64 (bk + 1)), be_, aa, ⟨B28x15_⟩, Cb bl, Ce1 HB cZ⟩
  ·obtain rfl := Option.some.inj al; clear al U
   have hM : wr.cell? ⟨di, 0, none⟩ = some (.slice ad j.length J) := bc bl 0
   have ia := blk_frozen bl.out 0
   go_wp2
   go_ret; exact ⟨B26x10_, (Ae1 HB cZ)⟩

def spec_l03Without.l0 : Nat → ByteArray → Int → List (S57) → List (S57) → Option ((List (S57)))
 | 0, _, _, _, _ => none
 | k + 1, x1, x6, bY, dr => if x6 < (bY.length : Int) then (if 0 ≤ x6 then (if ((rd_T57 bY x6).f0).toList = x1.toList then (spec_l03Without.l0 k x1 (wrap64 (x6 + 1)) bY dr) else (if dr.length < 3518437208883 then (spec_l03Without.l0 k x1 (wrap64 (x6 + 1)) bY (dr ++ [(⟨(rd_T57 bY x6).f0, (rd_T57 bY x6).f1, (rd_T57 bY x6).f2⟩ : S57)])) else (none))) else (none)) else (some dr)
def spec_l03Without.f (k : Nat) (j : List (S57)) (a1 : ByteArray) : Option ((List (S57))) := spec_l03Without.l0 k a1 0 j ([] : List (S57))
def spec_l03Without.T6 : Bool × List (List Nat × List Nat) := (true, [([], []), ([0], [0]), ([], []), ([2], [2]), ([], []), ([3, 4], [3, 4]), ([5], [5]), ([6], [6]), ([1, 7], [1, 7]), ([0, 1, 2, 3, 4, 5, 6, 7, 8], []), ([9, 8, 8, 0, 1, 2, 3, 4, 5, 6, 7, 8], [8, 9])])
def spec_l03Without.B6 : List Nat := [0, 1, 0, 4, 0, 28, 60, 124, 255, 511, 1023]
theorem spec_l03Without.tab6 : rtab .any (opsOf Tryz.f65 6) = spec_l03Without.T6 := by kernel_rfl
theorem spec_l03Without.bits6 : waitsOk spec_l03Without.T6.2 spec_l03Without.B6 = true := by kernel_rfl
theorem spec_l03Without.calls (k : Nat) (ad : Option Addr) (J : Nat) (j : List (S57)) (a1 : ByteArray) (r : List (S57)) (w : World) (a6 : Kd.C k57 w ad j.length j) (a5 : j.length ≤ J) (h : spec_l03Without.f k j a1 = some r) :
  Calls Tryz.prog 65 #[.agg #[.slice ad j.length J], .string a1] w fun e w' => ∃ cV : Value, e = .returned (.agg #[cV]) ∧ Kd.R k57 57 w' w.heap.size (fun _ => True) cV r ∧ Below w.heap.size w w' := by
 have dK := Tryz.underlying26
 have dL := Tryz.underlying57
 have aI := am a6
 have b7 := am a5
 clear a6 a5
 have HB := am (Below.refl w.heap.size w)
 have ae := h
 clear h
 unfold spec_l03Without.f at ae
 replace ae := am ae
 go_enter Tryz.func65, Tryz.ntmps65
 go_wp2_with (first | ((with_reducible refine gate_dst (N := 2) rfl ?_); refine bx (N := 2) (cs := #[.slice ad j.length J]) (t := 26) ?_; intro cE hg w3 hbox hb; have ao := am hbox; have bp := gA hg HB; replace HB := hA HB hb; clear hb hbox hg) | ((with_reducible refine gate_dst (N := 4) rfl ?_); refine bx (N := 4) (cs := #[.slice none 0 0]) (t := 26) ?_; intro dJ hg w4 hbox hb; have aG := am hbox; have bE := gA hg HB; replace HB := De1 HB bp hb; have dC := nA hg ao; have dD := mA hg ao; replace ao := bA ao hb; clear hb hbox hg) | ((with_reducible refine gate_dst (N := 5) rfl ?_); refine bx (N := 5) (cs := #[.slice none 0 0]) (t := 26) ?_; intro cF hg w5 hbox hb; have az := am hbox; have b6 := gA hg HB; replace HB := De2 HB bp bE hb; have bK := nA hg ao; have cv := mA hg ao; replace ao := bA ao hb; have cu := nA hg aG; have dE := mA hg aG; replace aG := bA aG hb; clear hb hbox hg; have gl := cv.out; have gD := bK.out; have fe := dE.out; have fg := cu.out; have fE : w5.cell? ⟨cF, 0, none⟩ = some (.slice none 0 0) := bc az 0; have fJ := blk_frozen az.out 0))
 go_loopg [6] k (fun kq v6 w' => ∃ (ah : Int) (bZ : List (S57)) (bD : Value), v6 = .int .i64 ah ∧ Aside0 (spec_l03Without.l0 kq a1 ah j bZ = some r) ∧ Aside0 (kq ≤ k) ∧ Aside0 (Kd.R k57 57 w' w.heap.size (fun _ => True) bD bZ) ∧ Aside0 (w'.heap[cE]? = some (.cells #[(.slice ad j.length J)] 26 (0, 0))) ∧ Aside0 (w'.heap[dJ]? = some (.cells #[(.slice none 0 0)] 26 (0, 0))) ∧ Aside0 (w'.heap[cF]? = some (.cells #[bD] 26 (0, 0))) ∧ Aside0 (Below w.heap.size w w'))
 case atStart => exact ⟨(0), (([] : List (S57))), (.slice none 0 0), be_, ae, ⟨Nat.le_refl _⟩, ⟨gn_⟩, Cp1 ao bK, Cp1 aG cu, Cp0 az, Ce3 HB bp bE b6⟩
 case round =>
  clear ae; obtain ⟨ah, bZ, bD, rfl, U, bm, aY, ao, aG, az, HB⟩ := hrel
  cases gk with
  | zero => exact absurd U.out (by simp [spec_l03Without.l0])
  | succ k1 => ?_
  replace U := U.out; simp only [spec_l03Without.l0] at U
  obtain ⟨ei, al⟩ | ⟨ei, al⟩ := sd U
  ·obtain ⟨fK, ar⟩ := yd al
   obtain ⟨df, aa⟩ | ⟨df, aa⟩ := sp ar
   ·obtain ⟨eV, eW⟩ := yE df; clear df; replace aa := am aa; clear U al ar; obtain ⟨el, em, f5, gp⟩ := o4_ dC dD bK cv
    have hn : wr.cell? ⟨cE, 0, none⟩ = some (.slice ad j.length J) := bc ao 0
    have hP := blk_frozen ao.out 0
    have bU : 0 ≤ (ah : Int) := dga
    have bW : ah < (j.length : Int) := dga
    obtain ⟨bv, dI, bQ, bR, bS⟩ := at_T57 aI.out ah bU bW; cases dI; replace bQ := (hbc HB bQ).trans bQ; replace bR := (hbc HB bR).trans bR; replace bS := (hbc HB bS).trans bS; replace bU := eq_true bU; replace bW := eq_true bW
    go_wp2
    go_roundg k1
    case measure => have := bm.out; omega
    case rel => exact ⟨(wrap64 (ah + 1)), bZ, bD, be_, aa, ⟨B28x15_⟩, Cr aY, Cb ao, Cb aG, Cb az, Ce3 HB bp bE b6⟩
   obtain ⟨eV, eW⟩ := nE df; obtain ⟨eH, aj⟩ := ya aa; obtain ⟨ev, cT⟩ : ∃ y_ : List (S57), y_ = (bZ ++ [(⟨(rd_T57 j ah).f0, (rd_T57 j ah).f1, (rd_T57 j ah).f2⟩ : S57)]) := ⟨_, rfl⟩
   (first | with_reducible replace aj := hq cT aj | rw [← cT] at aj | simp only [← cT] at aj)
   have eR := am cT; clear cT; replace aj := am aj; clear U al ar aa; obtain ⟨f7, gr, f8, gs⟩ := o4_ dC dD bK cv
   have hs : wr.cell? ⟨cE, 0, none⟩ = some (.slice ad j.length J) := bc ao 0
   have hR := blk_frozen ao.out 0
   have bU : 0 ≤ (ah : Int) := dga
   have bW : ah < (j.length : Int) := dga
   obtain ⟨bv, dI, bQ, bR, bS⟩ := at_T57 aI.out ah bU bW; cases dI; replace bQ := (hbc HB bQ).trans bQ; replace bR := (hbc HB bR).trans bR; replace bS := (hbc HB bS).trans bS; replace bU := eq_true bU; replace bW := eq_true bW
   try go_wp2
   replace aY := eA aY; replace ao := dA ao; replace aG := dA aG; replace az := dA az; replace HB := bdr HB
   have dS : 0 ≤ (ah : Int) := dga
   have dV : ah < (j.length : Int) := dga
   obtain ⟨eU, fa, cK, cL, cM⟩ := at_T57 aI.out ah dS dV; have bB := cM; have bz := cL; have bw := cK; obtain rfl : bv = eU := (by injection fa); replace cK := (hbc HB cK).trans cK; replace cL := (hbc HB cL).trans cL; replace cM := (hbc HB cM).trans cM; replace dS := eq_true dS; replace dV := eq_true dV; refine st_ 11 (fun w' => w'.cell? ⟨cF, 0, none⟩ = some (bD) ∧ w'.cell? ⟨cE, 0, none⟩ = some (.slice (some bv) j.length J) ∧ w'.cell? (bv.add ((ah).toNat * 3)) = some (.string ((rd_T57 j ah).f0)) ∧ w'.cell? ⟨(bv.add ((ah).toNat * 3)).block, (bv.add ((ah).toNat * 3)).off + 1, none⟩ = some (.string ((rd_T57 j ah).f1)) ∧ w'.cell? ⟨(bv.add ((ah).toNat * 3)).block, (bv.add ((ah).toNat * 3)).off + 2, none⟩ = some (.int .i64 ((rd_T57 j ah).f2))) [10] spec_l03Without.tab6 spec_l03Without.bits6 ⟨bc az 0, bc ao 0, ((hbc HB bw).trans bw), ((hbc HB bz).trans bz), ((hbc HB bB).trans bB)⟩ (fun ac l ap => ?_); generalize wr.drew = g0 at aY ao aG az HB cK cL cM ac ⊢; refine pu_ 0 23 l ?_; refine pu_ 2 25 l ?_; refine pu_ 4 27 l ?_; refine ta_ 1 24 l ap ac ?_; refine ta_ 3 26 l ap ac ?_; refine pu_ 5 28 l ?_; refine ta_ 6 29 l ap ac ?_; refine on_ 7 (some 30) l (fun K hK => ?_); refine value_ (w1 := ?_) (v := ?_) (by rfl) rfl ?_ ?_
   rotate_left 2
   ·go_simp
    constructor
    ·rfl
    rfl
   refine hK.out _ _ ⟨(blk_cell (blk_alloc az.out _) 0).trans rfl, (blk_cell (blk_alloc ao.out _) 0).trans rfl, (World.cell?_alloc_lt _ _ _ (World.block_lt_of_cell? _ _ (((hbc HB bw).trans bw)))).trans (((hbc HB bw).trans bw)), (World.cell?_alloc_lt _ _ _ (World.block_lt_of_cell? _ _ (((hbc HB bz).trans bz)))).trans (((hbc HB bz).trans bz)), (World.cell?_alloc_lt _ _ _ (World.block_lt_of_cell? _ _ (((hbc HB bB).trans bB)))).trans (((hbc HB bB).trans bB))⟩ (fun ac => nm_ ?_); clear hK K; refine on_ 8 (some 31) l (fun K hK => ?_); refine Kd.R_append_step k57 (w0 := w) w.heap.size (by rfl) (.tmp 24) (.tmp 30) 24 57 (.agg #[(.string ⟨#[]⟩), (.string ⟨#[]⟩), (.int .i64 0)]) 40 rfl Tryz.underlying24 info57 rfl (by decide) (by omega) bD bZ (⟨(rd_T57 j ah).f0, (rd_T57 j ah).f1, (rd_T57 j ah).f2⟩ : S57) [.string ((rd_T57 j ah).f0), .string ((rd_T57 j ah).f1), .int .i64 ((rd_T57 j ah).f2)] (fun _ => True) (fun _ => False) rfl rfl ?aP (fun _ hk => hk.elim) ?aF ?aO ?aB ?aS ?aL ?_
   (case aP => exact k57_mkM _ _ _ (⟨(rd_T57 j ah).f0, (rd_T57 j ah).f1, (rd_T57 j ah).f2⟩ : S57))
   (case aB => exact (Ae3 HB bp bE b6))
   (case aF => exact (fun _ _ => trivial))
   (case aO => exact (Ar aY))
   (case aS => exact (below_size (Ae3 HB bp bE b6)))
   (case aL => have := eH.out; omega)
   intro gW fp ho hb hg hat; rw [← eR.out] at ho; replace ao := bg ao hg (Kd.R_ne aY.out ao.out (by decide)); replace aG := bg aG hg (Kd.R_ne aY.out aG.out (by decide)); replace az := bg az hg (Kd.R_ne aY.out az.out (by decide)); replace HB := am hb; have d5 := am ho; clear aY; clear ho hb hg hat; obtain ⟨ex, e5, ej⟩ := Kd.R_slice d5.out
   (first | subst ej | (injection ej with f1_ f2_ f3_; have f4_ := f1_.symm; have f5_ := f3_.symm; clear f1_ f2_ f3_; subst f4_; subst f5_))
   refine hK.out _ _ ⟨bc az 0, bc ao 0, ((hbc HB bw).trans bw), ((hbc HB bz).trans bz), ((hbc HB bB).trans bB)⟩ (fun ac => nm_ ?_); clear hK K; refine pu_ 9 32 l ?_; refine last_ (i := 10) (N := none) #[true, true, true, true, true, true, true, true, true, true, true] rfl rfl (one_of l.out gk_) (by decide) (fun K hK => ?_)
   have gI : fp.cell? ⟨cF, 0, none⟩ = some (bD) := bc az 0
   have f0 := blk_frozen az.out 0; obtain ⟨gG, gH, f3, f4⟩ := o4_ bK cu cv dE; refine skip_ (w1 := ?_) (by rfl) rfl ?_ ?_; rotate_left
   ·go_simp; rfl
   refine hK.out _ _ ?_; clear hK K; refine done_ (done_of l.out gk_) ?_
   try go_wp2
   go_roundg k1
   case measure => have := bm.out; omega
   case rel => exact ⟨(wrap64 (ah + 1)), ev, (.slice ex ev.length e5), be_, aj, ⟨B28x15_⟩, ⟨tfg d5.out az.out (by decide)⟩, Cp1 ao bK, Cp1 aG cu, Cp0 az, Ce3 HB bp bE b6⟩
  obtain rfl := Option.some.inj al; clear al U; obtain ⟨fd, ff, f9, gu⟩ := o4_ dC dD bK cv
  have hu : wr.cell? ⟨cE, 0, none⟩ = some (.slice ad j.length J) := bc ao 0
  have hT := blk_frozen ao.out 0; obtain ⟨ga, gv⟩ := o2_ dE cu
  have hv : wr.cell? ⟨cF, 0, none⟩ = some (bD) := bc az 0
  have hU := blk_frozen az.out 0; obtain ⟨ey, e6, fb⟩ := Kd.R_slice aY.out; subst fb
  have hx : wr.cell? ⟨dJ, 0, none⟩ = some (.slice none 0 0) := bc aG 0
  have hV := blk_frozen aG.out 0
  go_wp2
  refine bodyPost_ret (results_cell_row rfl _ _ dJ 26 #[.slice ey bZ.length e6] (0, 0) _ rfl (Ap0 aG) Tryz.underlying26 rfl gk_) rfl ?_; exact ⟨_, B26x10_, (tfg aY.out aG.out (by decide)), (Ae3 HB bp bE b6)⟩
end
end Go.Proofs.YtfikaimmclgajaaGreatDoor.QFnSnaps
