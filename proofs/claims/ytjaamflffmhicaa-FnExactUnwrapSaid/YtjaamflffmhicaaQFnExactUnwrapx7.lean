/- Functions that a law reaches, as functions of Lean, and the walks that show that the calls come to their answers. No condition. -/
import Derived.Test.YtjaamflffmhicaaQFnExactUnwrapx0
import Derived.Test.YtjaamflffmhicaaQFnExactUnwrapx5
import Derived.Test.YtjaamflffmhicaaVFnExactUnwraphort3
import Derived.Test.YtjaamflffmhicaaVFnExactUnwraphort2
import Derived.Test.YtjaamflffmhicaaVFnExactUnwraphort
import Derived.Test.YtjaamflffmhicaaVFnExactUnwraphort8
namespace Go.Proofs.Ytjaamflffmhicaa.QFnExactUnwrap
open Go.RowKit Go.Proofs.YtjaamflffmhicaaW.PrintWords Go.Proofs.YtjaamflffmhicaaW.PrintLast Go.Proofs.YtjaamflffmhicaaW.PrintMore Go.Proofs.Ytjaamflffmhicaa.Short
set_option linter.unusedVariables false
set_option linter.unusedSimpArgs false
set_option maxHeartbeats 8000000
set_option maxRecDepth 100000
variable {p : Prop}
theorem D7x0_ (h : p := by exact ⟨B16x7_, (Ae1 HB aC)⟩) : p := h
section
attribute [local go_sem] max2_int min2_int max_two min_two max_three min_three max_four min_four
theorem B16x3_ (h : p := by repeat (first | (with_reducible first | exact U.out | apply IsS69.alloc | apply IsS69.drewN | apply IsS69.drew | apply IsS69.set_0 | apply IsS69.set_1 | apply IsS69.set_2 | refine IsS69.far ?_ bU.out _ | refine IsS69.far ?_ bC.out _) | exact U.out)) : p := h
theorem B16x7_ (h : p := by first | rfl | (simp [errW_none, errW_some] <;> rfl) | (simp [*, errW_none, errW_some] <;> rfl)) : p := h
theorem B16x12_ (h : p := by exact ⟨(Ap1 aP bC), a6.out⟩) : p := h
theorem B16x21_ (h : p := by have := a7.out; first | omega | exact Nat.le_refl _) : p := h
def impl_Bits.l0 : Nat → List S52 → Int → Int → Int → Int → Bool → ByteArray → Int → Option (Int)
 | 0, _, _, _, _, _, _, _, _ => none
 | k + 1, l, d0, d1, d2, d3, d4, d5, j => if j < (l.length : Int) then (if 0 ≤ j then (if ((rd_T52 l j).f0 == d0 && (rd_T52 l j).f1 == d2) = true then (some j) else (impl_Bits.l0 k l d0 d1 d2 d3 d4 d5 (wrap64 (j + 1)))) else (none)) else (some (-1))
def impl_Bits.f (k : Nat) (l0 : List S52) (d0 d1 d2 d3 : Int) (d4 : Bool) (d5 : ByteArray) : Option (Int) := impl_Bits.l0 k l0 d0 d1 d2 d3 d4 d5 0
theorem impl_Bits.asked (g : Nat) (d0 d1 d2 d3 : Int) (d4 : Bool) (d5 : ByteArray) (x0 x1 x4 x5 : Int) (A2 A3 : Option Addr) (n2 n3 c2 c3 : Nat) (w : World) (hb : w.heap[g]? = some (.cells #[.int .i64 d0, .int .i64 d1, .int .i64 d2, .int .i64 d3, .bool d4, .string d5] 44 (0, 0))) :
  Calls Try.prog 51 (#[.agg #[.int .i64 x0, .int .i64 x1, .slice A2 n2 c2, .slice A3 n3 c3, .int .i64 x4, .int .i64 x5]] ++ #[.pointer (some ⟨g, 0, none⟩)]) w fun e w' => e = .returned (.bool (x0 == d0 && x1 == d2)) ∧ Below w.heap.size w w' := by
 have hu52 := Try.underlying52
 have hu44 := Try.underlying44
 have BK := am hb
 clear hb
 cases h0 : (x0 == d0) with
 | false =>
  go_enter Try.func51, Try.ntmps51
  go_wp2_with (first | ((with_reducible refine gate_dst (N := 2) rfl ?_); refine bx (N := 2) (cs := #[.int .i64 x0, .int .i64 x1, .slice A2 n2 c2, .slice A3 n3 c3, .int .i64 x4, .int .i64 x5]) (t := 52) ?_; intro gb hg w2 hbox hb; replace BK := am (blk_below BK.out hb); have BX := am hbox; have HB := am hb; clear hb hbox hg; have hc0 := bc BX 0; have hc1 := bc BX 1; have hd0 := bc BK 0; have hd2 := bc BK 2))
  go_ret; exact ⟨rfl, HB.out⟩
 | true =>
  go_enter Try.func51, Try.ntmps51
  go_wp2_with (first | ((with_reducible refine gate_dst (N := 2) rfl ?_); refine bx (N := 2) (cs := #[.int .i64 x0, .int .i64 x1, .slice A2 n2 c2, .slice A3 n3 c3, .int .i64 x4, .int .i64 x5]) (t := 52) ?_; intro gb hg w2 hbox hb; replace BK := am (blk_below BK.out hb); have BX := am hbox; have HB := am hb; clear hb hbox hg; have hc0 := bc BX 0; have hc1 := bc BX 1; have hd0 := bc BK 0; have hd2 := bc BK 2))
  go_ret; exact ⟨rfl, HB.out⟩
theorem impl_Bits.calls (k : Nat) (A0 : Option Addr) (c0 : Nat) (l0 : List S52) (g : Nat) (d0 d1 d2 d3 : Int) (d4 : Bool) (d5 : ByteArray) (r : Int) (w : World) (bl : Kd.C k52 w A0 l0.length l0) (bk : l0.length ≤ c0) (hb : w.heap[g]? = some (.cells #[.int .i64 d0, .int .i64 d1, .int .i64 d2, .int .i64 d3, .bool d4, .string d5] 44 (0, 0))) (h : impl_Bits.f k l0 d0 d1 d2 d3 d4 d5 = some r) :
  Calls Try.prog 50 #[.slice A0 l0.length c0, .func (.func 51) #[] #[.pointer (some ⟨g, 0, none⟩)]] w fun e w' => e = .returned (.int .i64 r) ∧ Below w.heap.size w w' := by
 have dm := Try.underlying52
 have bT := am bl
 have cq := am bk
 have BK := am hb
 clear bl bk hb
 have H := am (show impl_Bits.l0 k l0 d0 d1 d2 d3 d4 d5 0 = some r from h)
 clear h
 go_enter Try.func50, Try.ntmps50
 go_wp2
 go_loopg [8] k (fun kq v8 w' => ∃ (j : Int), v8 = .int .i64 j ∧ Aside0 (impl_Bits.l0 kq l0 d0 d1 d2 d3 d4 d5 j = some r) ∧ Aside0 (kq ≤ k) ∧ Aside0 (Below w.heap.size w w'))
 case atStart => exact ⟨0, be_, H, ⟨Nat.le_refl _⟩, ⟨Below.refl _ _⟩⟩
 case round =>
  clear H; obtain ⟨j, rfl, J, a7, HB⟩ := hrel
  cases gk with
  | zero => exact absurd J.out (by simp [impl_Bits.l0])
  | succ k1 => ?_
  replace J := J.out; simp only [impl_Bits.l0] at J
  obtain ⟨c1, D⟩ | ⟨c1, D⟩ := sp J
  ·obtain ⟨c2, M⟩ := yn D; obtain ⟨ad, A2, c2', A3, c3', e1, dP, dQ, dR, dS, dT, dU, hl2, hg2, hl3, hg3⟩ := at_T52 (Kd.C_below bT.out HB.out) j c2 c1; clear hl2 hg2 hl3 hg3; subst e1; have c1b := eq_true c1; have c2b := eq_true c2; clear c1 c2
   obtain ⟨c3, K⟩ | ⟨c3, K⟩ := sp M
   ·obtain rfl := Option.some.inj K; clear K J D M; have hq := am c3; clear c3
    go_wp2_with (go_at_call 51; refine (impl_Bits.asked g d0 d1 d2 d3 d4 d5 _ _ _ _ _ _ _ _ _ _ _ (blk_below BK.out HB.out)).mono ?_; rintro e w2 ⟨rfl, hb⟩; rw [hq.out]; replace HB := am (below_step HB.out hb); clear hb)
    go_ret; exact ⟨rfl, HB.out⟩
   ·have hq := am (Bool.eq_false_iff.mpr c3); clear c3; replace K := am K; clear J D M
    go_wp2_with (go_at_call 51; refine (impl_Bits.asked g d0 d1 d2 d3 d4 d5 _ _ _ _ _ _ _ _ _ _ _ (blk_below BK.out HB.out)).mono ?_; rintro e w2 ⟨rfl, hb⟩; rw [hq.out]; replace HB := am (below_step HB.out hb); clear hb)
    go_roundg k1
    case measure => have := a7.out; omega
    case rel => exact ⟨wrap64 (j + 1), be_, K, ⟨(by have := a7.out; omega)⟩, ⟨HB.out⟩⟩
  ·obtain rfl := Option.some.inj D; clear D J; have c1b := eq_false c1; clear c1
   go_wp2
   go_ret; exact ⟨rfl, HB.out⟩

def slices_Index_int_int.l0 : Nat → List Int → Int → Int → Int → Option (Int)
 | 0, _, _, _, _ => none
 | k + 1, x0, x1, x7, x8 => if x8 < x7 then (if 0 ≤ x8 then (if x8 < (x0.length : Int) then (if x1 = (rd x0 x8) then (some x8) else (slices_Index_int_int.l0 k x0 x1 x7 (wrap64 (x8 + 1)))) else (none)) else (none)) else (some (-1))
def slices_Index_int_int.f (k : Nat) (l0 : List Int) (a1 : Int) : Option (Int) := slices_Index_int_int.l0 k l0 a1 (l0.length : Int) 0
theorem slices_Index_int_int.calls (k : Nat) (A0 : Option Addr) (c0 : Nat) (l0 : List Int) (a1 : Int) (r : Int) (w : World) (bl : Kd.C (Kd.int .i64) w A0 l0.length l0) (bk : l0.length ≤ c0) (h : slices_Index_int_int.f k l0 a1 = some r) :
  Calls Try.prog 71 #[.slice A0 l0.length c0, .int .i64 a1] w fun e w' => e = .returned (.int .i64 r) ∧ Drawn0 w w' := by
 have bT := am bl
 have cq := am bk
 clear bl bk
 have J := h
 clear h
 unfold slices_Index_int_int.f at J
 replace J := am J
 go_enter Try.func71, Try.ntmps71
 go_wp2
 go_loopg [8] k (fun kq v8 w' => ∃ (a5 : Int), v8 = .int .i64 a5 ∧ Aside0 (slices_Index_int_int.l0 kq l0 a1 (l0.length : Int) a5 = some r) ∧ Aside0 (kq ≤ k) ∧ Drawn0 w w')
 case atStart => exact ⟨(0), be_, J, ⟨Nat.le_refl _⟩, gd_⟩
 case round =>
  clear J; obtain ⟨a5, rfl, D, a7, ⟨m1, rfl⟩⟩ := hrel
  cases gk with
  | zero => exact absurd D.out (by simp [slices_Index_int_int.l0])
  | succ k1 => ?_
  replace D := D.out; simp only [slices_Index_int_int.l0] at D
  obtain ⟨de, M⟩ | ⟨de, M⟩ := sd D
  ·obtain ⟨bV, K⟩ := yd M; obtain ⟨du, aa⟩ := yd K
   obtain ⟨c6, ac⟩ | ⟨c6, ac⟩ := sp aa
   ·obtain ⟨df, dh⟩ := yE c6; clear c6; obtain rfl := Option.some.inj ac; clear ac D M K aa
    have bF : 0 ≤ (a5 : Int) := dga
    have bG : a5 < (l0.length : Int) := dga
    obtain ⟨cS, ct, dn⟩ := Kd.at_int bT.out a5 bF bG; cases ct; replace bF := eq_true bF; replace bG := eq_true bG
    go_wp2
    go_ret; exact ⟨gr_, gd_⟩
   ·obtain ⟨df, dh⟩ := nE c6; replace ac := am ac; clear D M K aa
    have bF : 0 ≤ (a5 : Int) := dga
    have bG : a5 < (l0.length : Int) := dga
    obtain ⟨cS, ct, dn⟩ := Kd.at_int bT.out a5 bF bG; cases ct; replace bF := eq_true bF; replace bG := eq_true bG
    go_wp2
    go_roundg k1
    case measure => have := a7.out; omega
    case rel => exact ⟨(wrap64 (a5 + 1)), be_, ac, ⟨(by have := a7.out; omega)⟩, gd_⟩
  ·obtain rfl := Option.some.inj M; clear M D
   go_wp2
   go_ret; exact ⟨gr_, gd_⟩

def slices_Contains_int_int.f (k : Nat) (l0 : List Int) (a1 : Int) : Option (Bool) := (slices_Index_int_int.f k l0 a1).bind fun cu => (some (decide (cu ≥ 0)))
theorem slices_Contains_int_int.calls (k : Nat) (A0 : Option Addr) (c0 : Nat) (l0 : List Int) (a1 : Int) (r : Bool) (w : World) (bl : Kd.C (Kd.int .i64) w A0 l0.length l0) (bk : l0.length ≤ c0) (h : slices_Contains_int_int.f k l0 a1 = some r) :
  Calls Try.prog 52 #[.slice A0 l0.length c0, .int .i64 a1] w fun e w' => e = .returned (.bool r) ∧ Drawn0 w w' := by
 have bT := am bl
 have cq := am bk
 clear bl bk
 have J := h
 clear h
 unfold slices_Contains_int_int.f at J
 obtain ⟨cu, A3, D⟩ := bsi J
 (try dsimp only at D)
 obtain rfl := Option.some.inj D
 clear D J
 go_enter Try.func52, Try.ntmps52
 go_wp2_with (first | ((with_reducible refine gate_callee (f := 71) rfl ?_); refine gL (some 7) Try.func71 #[.slice A0 l0.length c0, .int .i64 a1] ?_; (with_reducible refine (slices_Index_int_int.calls k _ _ l0 a1 cu _ ?z1 ?z2 A3.out).mono ?_); (case z1 => repeat (first | exact bT.out | (with_reducible refine Kd.C_alloc ?_ _) | (with_reducible refine Kd.C_drewN ?_ _) | (with_reducible refine Kd.C_drew ?_))); (case z2 => exact cq.out); rintro e w' ⟨rfl, ⟨nd, rfl⟩⟩; refine ⟨_, rfl, ?_⟩))
 go_ret
 exact ⟨gr_, gd_⟩

mutual
def impl_whole.l0 : Nat → ByteArray → Int → Int → List ByteArray → List Int → Int → Int → Option (ByteArray × Bool)
 | 0, _, _, _, _, _, _, _ => none
 | k + 1, x4, cn, co, be, ci, bm, cp => if bm > 0 then (impl_whole.j1 k x4 (decide ((x4.size : Int) < bm)) cn co be ci bm cp) else (impl_whole.j1 k x4 false cn co be ci bm cp)
def impl_whole.j1 : Nat → ByteArray → Bool → Int → Int → List ByteArray → List Int → Int → Int → Option (ByteArray × Bool)
 | 0, _, _, _, _, _, _, _, _ => none
 | k + 1, x4, dq, cn, co, be, ci, bm, cp => if dq = true then ((slices_Index_int_int.f k ci (x4.size : Int)).bind fun B => (if B < 0 then (some ((⟨#[]⟩ : ByteArray), false)) else (if B ≥ (be.length : Int) then (some ((⟨#[]⟩ : ByteArray), false)) else (if 0 ≤ B then (if B < (be.length : Int) then (if (rdOf ByteArray.empty be B).toList = ([] : List UInt8) then (some ((⟨#[]⟩ : ByteArray), false)) else (if x4.size + (rdOf ByteArray.empty be B).size ≤ 9223372036854775807 then (impl_whole.l0 k (x4 ++ (rdOf ByteArray.empty be B)) cn co be ci bm cp) else (none))) else (none)) else (none))))) else (if bm > 0 then (some (x4, ((x4.size : Int) == bm))) else (some (x4, false)))
end
def impl_whole.f (k : Nat) (Z : Int) (Y : Int) (af : List ByteArray) (ag : List Int) (aO : Int) (aX : Int) : Option (ByteArray × Bool) := impl_whole.l0 k (⟨#[]⟩ : ByteArray) Z Y af ag aO aX
theorem impl_whole.calls (k : Nat) (Z : Int) (Y : Int) (bz : Option Addr) (bD : Nat) (af : List ByteArray) (bB : Option Addr) (bE : Nat) (ag : List Int) (aO : Int) (aX : Int) (r1 : ByteArray) (r2 : Bool) (w : World) (cE : Kd.C Kd.string w bz af.length af) (cC : af.length ≤ bD) (cF : Kd.C (Kd.int .i64) w bB ag.length ag) (cD : ag.length ≤ bE) (h : impl_whole.f k Z Y af ag aO aX = some (r1, r2)) :
  Calls Try.prog 53 #[.agg #[.int .i64 Z, .int .i64 Y, .slice bz af.length bD, .slice bB ag.length bE, .int .i64 aO, .int .i64 aX]] w fun e w' => e = .returned (.tuple #[.string r1, .bool r2]) ∧ Below w.heap.size w w' := by
 have dm := Try.underlying52
 have a8 := am cE
 have dr := am cC
 clear cE cC
 have aT := am cF
 have aS := am cD
 clear cF cD
 have HB := am (Below.refl w.heap.size w)
 have J := h
 clear h
 unfold impl_whole.f at J
 replace J := am J
 go_enter Try.func53, Try.ntmps53
 go_wp2_with (first | ((with_reducible refine gate_dst (N := 1) rfl ?_); (try (refine gate_guard (by rfl) ?_; dsimp only)); refine bx (N := 1) (cs := #[.int .i64 Z, .int .i64 Y, .slice bz af.length bD, .slice bB ag.length bE, .int .i64 aO, .int .i64 aX]) (t := 52) ?_; intro cm hg w2 hbox hb; have aN := am hbox; have aW := gA hg HB; replace HB := hA HB hb; clear hb hbox hg))
 repeat (go_quiet (first | ((with_reducible refine gate_dst (N := 1) rfl ?_); (try (refine gate_guard (by rfl) ?_; dsimp only)); refine bx (N := 1) (cs := #[.int .i64 Z, .int .i64 Y, .slice bz af.length bD, .slice bB ag.length bE, .int .i64 aO, .int .i64 aX]) (t := 52) ?_; intro cm hg w2 hbox hb; have aN := am hbox; have aW := gA hg HB; replace HB := hA HB hb; clear hb hbox hg)); try go_wp2_with (first | ((with_reducible refine gate_dst (N := 1) rfl ?_); (try (refine gate_guard (by rfl) ?_; dsimp only)); refine bx (N := 1) (cs := #[.int .i64 Z, .int .i64 Y, .slice bz af.length bD, .slice bB ag.length bE, .int .i64 aO, .int .i64 aX]) (t := 52) ?_; intro cm hg w2 hbox hb; have aN := am hbox; have aW := gA hg HB; replace HB := hA HB hb; clear hb hbox hg)))
 go_loopg [4] k (fun kq v4 w' => ∃ (ax : ByteArray), v4 = .string ax ∧ Aside0 (impl_whole.l0 kq ax Z Y af ag aO aX = some (r1, r2)) ∧ Aside0 (kq ≤ k) ∧ Aside0 (w'.heap[cm]? = some (.cells #[.int .i64 Z, .int .i64 Y, (.slice bz af.length bD), (.slice bB ag.length bE), .int .i64 aO, .int .i64 aX] 52 (0, 0))) ∧ Aside0 (Below w.heap.size w w'))
 case atStart => exact ⟨((⟨#[]⟩ : ByteArray)), be_, J, ⟨Nat.le_refl _⟩, Cb aN, Ce1 HB aW⟩
 case round =>
  clear J; obtain ⟨ax, rfl, D, a7, aN, HB⟩ := hrel
  cases gk with
  | zero => exact absurd D.out (by simp [impl_whole.l0])
  | succ k1 => ?_
  replace D := D.out; simp only [impl_whole.l0] at D; replace D := am D
  go_upto_region 2 with (fail)
  repeat (go_quiet (fail); go_upto_region 2 with (fail))
  go_cut [15] (fun dp wc => ∃ (kq : Nat) (cy : Bool), dp = .bool cy ∧ Aside0 (impl_whole.j1 kq ax cy Z Y af ag aO aX = some (r1, r2)) ∧ Aside0 (kq ≤ k1) ∧ Hc wc cm #[.int .i64 Z, .int .i64 Y, (.slice bz af.length bD), (.slice bB ag.length bE), .int .i64 aO, .int .i64 aX] 52 ∧ Hb w wc)
  case first =>
   replace D := D.out
   obtain ⟨c4, M⟩ | ⟨c4, M⟩ := sp D
   ·have bV : decide (0 < aO) = true := decide_eq_true c4
    clear c4
    (first | rw [bV] | (simp only [i64_w, i32_w]; rw [bV]) | skip)
    replace M := am M; clear D; obtain ⟨bH, bI, bJ, bK, bL, bM, bN, bO, bP, bQ, bR, bS⟩ := cf6 aN
    go_wp2
    repeat (go_quiet (fail); try go_wp2)
    go_meet
    case rel => exact ⟨_, (decide ((ax.size : Int) < aO)), be_, M, ⟨B16x21_⟩, Cb aN, Ce1 HB aW⟩
   ·have bV : decide (0 < aO) = false := decide_eq_false c4
    clear c4
    (first | rw [bV] | (simp only [i64_w, i32_w]; rw [bV]) | skip)
    replace M := am M; clear D; obtain ⟨bH, bI, bJ, bK, bL, bM, bN, bO, bP, bQ, bR, bS⟩ := cf6 aN
    go_wp2
    repeat (go_quiet (fail); try go_wp2)
    go_meet
    case rel => exact ⟨_, false, be_, M, ⟨B16x21_⟩, Cb aN, Ce1 HB aW⟩
  case rest =>
   clear D; obtain ⟨kq, cy, rfl, K, cz, aN, HB⟩ := hcut
   cases kq with
   | zero => exact absurd K.out (by simp [impl_whole.j1])
   | succ aR => ?_
   replace K := K.out; simp only [impl_whole.j1] at K
   obtain ⟨rfl, aa⟩ | ⟨rfl, aa⟩ := sb K
   ·obtain ⟨B, A8, ac⟩ := bsi aa; (try dsimp only at ac)
    obtain ⟨dk, ah⟩ | ⟨dk, ah⟩ := sd ac
    ·obtain ⟨rfl, rfl⟩ := s2 ah; clear ah K aa ac; obtain ⟨bH, bI, bJ, bK, bL, bM, bN, bO, bP, bQ, bR, bS⟩ := cf6 aN
     go_wp2_with (first | (go_at_call 71; refine (slices_Index_int_int.calls aR _ _ ag (ax.size : Int) B _ (tc (Kd.C_below aT.out HB.out)) aS.out A8.out).mono ?_; rintro e w' ⟨rfl, ⟨nd, rfl⟩⟩; (try first | exact ⟨rfl, _, World.drewN_drewN _ _ _⟩ | exact ⟨rfl, _, Eq.trans (World.drewN_drewN _ _ _) (congrArg (World.drewN _) (Nat.add_assoc _ _ _))⟩)))
     repeat (go_quiet (first | (go_at_call 71; (with_reducible refine (slices_Index_int_int.calls aR _ _ ag (ax.size : Int) B _ ?z1 ?z2 A8.out).mono ?_); (case z1 => exact (tc (Kd.C_below aT.out HB.out))); (case z2 => exact aS.out); rintro e w' ⟨rfl, ⟨nd, rfl⟩⟩; (try first | exact ⟨rfl, _, World.drewN_drewN _ _ _⟩ | exact ⟨rfl, _, Eq.trans (World.drewN_drewN _ _ _) (congrArg (World.drewN _) (Nat.add_assoc _ _ _))⟩))); try go_wp2_with (first | (go_at_call 71; (with_reducible refine (slices_Index_int_int.calls aR _ _ ag (ax.size : Int) B _ ?z1 ?z2 A8.out).mono ?_); (case z1 => exact (tc (Kd.C_below aT.out HB.out))); (case z2 => exact aS.out); rintro e w' ⟨rfl, ⟨nd, rfl⟩⟩; (try first | exact ⟨rfl, _, World.drewN_drewN _ _ _⟩ | exact ⟨rfl, _, Eq.trans (World.drewN_drewN _ _ _) (congrArg (World.drewN _) (Nat.add_assoc _ _ _))⟩))))
     go_ret2
     exact ⟨B16x7_, (Ae1 HB aW)⟩
    ·obtain ⟨a4, ap⟩ | ⟨a4, ap⟩ := sp ah
     ·have cr : decide ((af.length : Int) ≤ B) = true := decide_eq_true a4
      clear a4; obtain ⟨rfl, rfl⟩ := s2 ap; clear ap K aa ac ah; obtain ⟨bH, bI, bJ, bK, bL, bM, bN, bO, bP, bQ, bR, bS⟩ := cf6 aN
      go_wp2_with (first | (go_at_call 71; refine (slices_Index_int_int.calls aR _ _ ag (ax.size : Int) B _ (tc (Kd.C_below aT.out HB.out)) aS.out A8.out).mono ?_; rintro e w' ⟨rfl, ⟨nd, rfl⟩⟩; (try first | exact ⟨rfl, _, World.drewN_drewN _ _ _⟩ | exact ⟨rfl, _, Eq.trans (World.drewN_drewN _ _ _) (congrArg (World.drewN _) (Nat.add_assoc _ _ _))⟩)))
      repeat (go_quiet (first | (go_at_call 71; (with_reducible refine (slices_Index_int_int.calls aR _ _ ag (ax.size : Int) B _ ?z1 ?z2 A8.out).mono ?_); (case z1 => exact (tc (Kd.C_below aT.out HB.out))); (case z2 => exact aS.out); rintro e w' ⟨rfl, ⟨nd, rfl⟩⟩; (try first | exact ⟨rfl, _, World.drewN_drewN _ _ _⟩ | exact ⟨rfl, _, Eq.trans (World.drewN_drewN _ _ _) (congrArg (World.drewN _) (Nat.add_assoc _ _ _))⟩))); try go_wp2_with (first | (go_at_call 71; (with_reducible refine (slices_Index_int_int.calls aR _ _ ag (ax.size : Int) B _ ?z1 ?z2 A8.out).mono ?_); (case z1 => exact (tc (Kd.C_below aT.out HB.out))); (case z2 => exact aS.out); rintro e w' ⟨rfl, ⟨nd, rfl⟩⟩; (try first | exact ⟨rfl, _, World.drewN_drewN _ _ _⟩ | exact ⟨rfl, _, Eq.trans (World.drewN_drewN _ _ _) (congrArg (World.drewN _) (Nat.add_assoc _ _ _))⟩))))
      go_ret2
      exact ⟨B16x7_, (Ae1 HB aW)⟩
     ·have cr : decide ((af.length : Int) ≤ B) = false := decide_eq_false a4
      clear a4; obtain ⟨ds, ay⟩ := yd ap; obtain ⟨dt, a9⟩ := yd ay
      obtain ⟨ck, aU⟩ | ⟨ck, aU⟩ := sp a9
      ·obtain ⟨cX, cY⟩ := yE ck; clear ck; obtain ⟨rfl, rfl⟩ := s2 aU; clear aU K aa ac ah ap ay a9; obtain ⟨bH, bI, bJ, bK, bL, bM, bN, bO, bP, bQ, bR, bS⟩ := cf6 aN
       go_wp2_with (first | (go_at_call 71; refine (slices_Index_int_int.calls aR _ _ ag (ax.size : Int) B _ (tc (Kd.C_below aT.out HB.out)) aS.out A8.out).mono ?_; rintro e w' ⟨rfl, ⟨nd, rfl⟩⟩; (try first | exact ⟨rfl, _, World.drewN_drewN _ _ _⟩ | exact ⟨rfl, _, Eq.trans (World.drewN_drewN _ _ _) (congrArg (World.drewN _) (Nat.add_assoc _ _ _))⟩); have ak : 0 ≤ (B : Int) := dga; have al : B < (af.length : Int) := dga; obtain ⟨bh, aY, aj⟩ := Kd.at_string a8.out B ak al; cases aY; replace aj := (hbc HB aj).trans aj; replace ak := eq_true ak; replace al := eq_true al))
       repeat (go_quiet (first | (go_at_call 71; (with_reducible refine (slices_Index_int_int.calls aR _ _ ag (ax.size : Int) B _ ?z1 ?z2 A8.out).mono ?_); (case z1 => exact (tc (Kd.C_below aT.out HB.out))); (case z2 => exact aS.out); rintro e w' ⟨rfl, ⟨nd, rfl⟩⟩; (try first | exact ⟨rfl, _, World.drewN_drewN _ _ _⟩ | exact ⟨rfl, _, Eq.trans (World.drewN_drewN _ _ _) (congrArg (World.drewN _) (Nat.add_assoc _ _ _))⟩); have ak : 0 ≤ (B : Int) := dga; have al : B < (af.length : Int) := dga; obtain ⟨bh, aY, aj⟩ := Kd.at_string a8.out B ak al; cases aY; replace aj := (hbc HB aj).trans aj; replace ak := eq_true ak; replace al := eq_true al)); try go_wp2_with (first | (go_at_call 71; (with_reducible refine (slices_Index_int_int.calls aR _ _ ag (ax.size : Int) B _ ?z1 ?z2 A8.out).mono ?_); (case z1 => exact (tc (Kd.C_below aT.out HB.out))); (case z2 => exact aS.out); rintro e w' ⟨rfl, ⟨nd, rfl⟩⟩; (try first | exact ⟨rfl, _, World.drewN_drewN _ _ _⟩ | exact ⟨rfl, _, Eq.trans (World.drewN_drewN _ _ _) (congrArg (World.drewN _) (Nat.add_assoc _ _ _))⟩); have ak : 0 ≤ (B : Int) := dga; have al : B < (af.length : Int) := dga; obtain ⟨bh, aY, aj⟩ := Kd.at_string a8.out B ak al; cases aY; replace aj := (hbc HB aj).trans aj; replace ak := eq_true ak; replace al := eq_true al)))
       go_ret2
       exact ⟨B16x7_, (Ae1 HB aW)⟩
      ·obtain ⟨cX, cY⟩ := nE ck; obtain ⟨bi, ba⟩ := yn aU; have cA := eq_true bi; have cB := decide_eq_true bi
       try have cZ : (9223372036854775807 < ax.size + (rdOf ByteArray.empty af B).size) = False := eq_false (Nat.not_lt.2 bi)
       try (have da := cZ; simp only [ByteArray.size_append] at da)
       replace ba := am ba; clear K aa ac ah ap ay a9 aU; obtain ⟨bH, bI, bJ, bK, bL, bM, bN, bO, bP, bQ, bR, bS⟩ := cf6 aN
       go_wp2_with (first | (go_at_call 71; refine (slices_Index_int_int.calls aR _ _ ag (ax.size : Int) B _ (tc (Kd.C_below aT.out HB.out)) aS.out A8.out).mono ?_; rintro e w' ⟨rfl, ⟨nd, rfl⟩⟩; (try first | exact ⟨rfl, _, World.drewN_drewN _ _ _⟩ | exact ⟨rfl, _, Eq.trans (World.drewN_drewN _ _ _) (congrArg (World.drewN _) (Nat.add_assoc _ _ _))⟩); have ak : 0 ≤ (B : Int) := dga; have al : B < (af.length : Int) := dga; obtain ⟨bh, aY, aj⟩ := Kd.at_string a8.out B ak al; cases aY; replace aj := (hbc HB aj).trans aj; replace ak := eq_true ak; replace al := eq_true al; have a2 : 0 ≤ (B : Int) := dga; have a3 : B < (af.length : Int) := dga; obtain ⟨ca, ch, aZ⟩ := Kd.at_string a8.out B a2 a3; obtain rfl : bh = ca := (by injection ch); replace aZ := (hbc HB aZ).trans aZ; replace a2 := eq_true a2; replace a3 := eq_true a3))
       repeat (go_quiet (first | (go_at_call 71; (with_reducible refine (slices_Index_int_int.calls aR _ _ ag (ax.size : Int) B _ ?z1 ?z2 A8.out).mono ?_); (case z1 => exact (tc (Kd.C_below aT.out HB.out))); (case z2 => exact aS.out); rintro e w' ⟨rfl, ⟨nd, rfl⟩⟩; (try first | exact ⟨rfl, _, World.drewN_drewN _ _ _⟩ | exact ⟨rfl, _, Eq.trans (World.drewN_drewN _ _ _) (congrArg (World.drewN _) (Nat.add_assoc _ _ _))⟩); have ak : 0 ≤ (B : Int) := dga; have al : B < (af.length : Int) := dga; obtain ⟨bh, aY, aj⟩ := Kd.at_string a8.out B ak al; cases aY; replace aj := (hbc HB aj).trans aj; replace ak := eq_true ak; replace al := eq_true al; have a2 : 0 ≤ (B : Int) := dga; have a3 : B < (af.length : Int) := dga; obtain ⟨ca, ch, aZ⟩ := Kd.at_string a8.out B a2 a3; obtain rfl : bh = ca := (by injection ch); replace aZ := (hbc HB aZ).trans aZ; replace a2 := eq_true a2; replace a3 := eq_true a3)); try go_wp2_with (first | (go_at_call 71; (with_reducible refine (slices_Index_int_int.calls aR _ _ ag (ax.size : Int) B _ ?z1 ?z2 A8.out).mono ?_); (case z1 => exact (tc (Kd.C_below aT.out HB.out))); (case z2 => exact aS.out); rintro e w' ⟨rfl, ⟨nd, rfl⟩⟩; (try first | exact ⟨rfl, _, World.drewN_drewN _ _ _⟩ | exact ⟨rfl, _, Eq.trans (World.drewN_drewN _ _ _) (congrArg (World.drewN _) (Nat.add_assoc _ _ _))⟩); have ak : 0 ≤ (B : Int) := dga; have al : B < (af.length : Int) := dga; obtain ⟨bh, aY, aj⟩ := Kd.at_string a8.out B ak al; cases aY; replace aj := (hbc HB aj).trans aj; replace ak := eq_true ak; replace al := eq_true al; have a2 : 0 ≤ (B : Int) := dga; have a3 : B < (af.length : Int) := dga; obtain ⟨ca, ch, aZ⟩ := Kd.at_string a8.out B a2 a3; obtain rfl : bh = ca := (by injection ch); replace aZ := (hbc HB aZ).trans aZ; replace a2 := eq_true a2; replace a3 := eq_true a3)))
       go_roundg aR
       case measure => have := a7.out; have := cz.out; omega
       case rel => exact ⟨(ax ++ (rdOf ByteArray.empty af B)), be_, ba, ⟨(by have := a7.out; have := cz.out; omega)⟩, Cb aN, Ce1 HB aW⟩
   ·obtain ⟨cg, b8⟩ | ⟨cg, b8⟩ := sp aa
    ·have dd : decide (0 < aO) = true := decide_eq_true cg
     clear cg; obtain ⟨rfl, rfl⟩ := s2 b8; clear b8 K aa; obtain ⟨bH, bI, bJ, bK, bL, bM, bN, bO, bP, bQ, bR, bS⟩ := cf6 aN
     go_wp2
     repeat (go_quiet (fail); try go_wp2)
     go_ret2
     exact ⟨B16x7_, (Ae1 HB aW)⟩
    ·have dd : decide (0 < aO) = false := decide_eq_false cg
     clear cg; obtain ⟨rfl, rfl⟩ := s2 b8; clear b8 K aa; obtain ⟨bH, bI, bJ, bK, bL, bM, bN, bO, bP, bQ, bR, bS⟩ := cf6 aN
     go_wp2
     repeat (go_quiet (fail); try go_wp2)
     go_ret2
     exact ⟨B16x7_, (Ae1 HB aW)⟩

-- BY HAND: impl_JoinBits

def impl_SegOk.f (Z : Int) (Y : Int) (ai : Int) (az : ByteArray) : Option (Bool) := (impl_isWord.f Z).bind fun cG => (if cG = true then ((impl_isWord.f Y).bind fun cH => (if cH = true then ((impl_within.f ai 0 7).bind fun cI => (if cI = true then (if (az.size : Int) > 8 then (some false) else (if az.toList = ([] : List UInt8) then (if Y = 0 then (some true) else (some ((Go.bits .and .i64 ai 2) != 0))) else (if (Go.bits .and .i64 ai 1) = 0 then (if Y = 0 then (some true) else (some ((Go.bits .and .i64 ai 2) != 0))) else (some false)))) else (some false))) else (some false))) else (some false))
theorem impl_SegOk.calls (Z : Int) (Y : Int) (ai : Int) (az : ByteArray) (r : Bool) (w : World) (h : impl_SegOk.f Z Y ai az = some r) :
  Calls Try.prog 54 #[.agg #[.int .i64 Z, .int .i64 Y, .int .i64 ai, .string az]] w fun e w' => e = .returned (.bool r) ∧ Below w.heap.size w w' := by
 have dl := Try.underlying26
 have HB := am (Below.refl w.heap.size w)
 have J := h
 clear h
 unfold impl_SegOk.f at J
 obtain ⟨cG, A2, D⟩ := bsi J
 (try dsimp only at D)
 obtain ⟨rfl, M⟩ | ⟨rfl, M⟩ := sb D
 ·obtain ⟨cH, A4, K⟩ := bsi M; (try dsimp only at K)
  obtain ⟨rfl, aa⟩ | ⟨rfl, aa⟩ := sb K
  ·obtain ⟨cI, A6, ac⟩ := bsi aa; (try dsimp only at ac)
   obtain ⟨rfl, ah⟩ | ⟨rfl, ah⟩ := sb ac
   ·obtain ⟨c8, ap⟩ | ⟨c8, ap⟩ := sp ah
    ·have di : decide (8 < (az.size : Int)) = true := decide_eq_true c8
     have dj : decide (8 < az.size) = true := decide_eq_true (by omega)
     clear c8; obtain rfl := Option.some.inj ap; clear ap J D M K aa ac ah; go_enter Try.func54, Try.ntmps54
     go_wp2_with (first | ((with_reducible refine gate_dst (N := 1) rfl ?_); (try (refine gate_guard (by rfl) ?_; dsimp only)); refine bx (N := 1) (cs := #[.int .i64 Z, .int .i64 Y, .int .i64 ai, .string az]) (t := 26) ?_; intro bj hg w9 hbox hb; have aB := am hbox; have aC := gA hg HB; replace HB := hA HB hb; clear hb hbox hg; obtain ⟨bn, bo, bp, bq, br, bu, bv, bw⟩ := cf4 aB) | ((with_reducible refine gate_callee (f := 70) rfl ?_); refine gM (some 5) Try.func70 (impl_isWord.calls Z true _ A2.out) ?_; rintro w' ⟨nd, rfl⟩) | (go_at_call 70; refine (impl_isWord.calls Y true _ A4.out).mono ?_; rintro e w' ⟨rfl, ⟨nd, rfl⟩⟩) | (go_at_call 49; refine (impl_within.calls ai 0 7 true _ A6.out).mono ?_; rintro e w' ⟨rfl, ⟨nd, rfl⟩⟩))
     go_ret; exact D7x0_
    ·have di : decide (8 < (az.size : Int)) = false := decide_eq_false c8
     have dj : decide (8 < az.size) = false := decide_eq_false (by omega)
     clear c8
     obtain ⟨a4, ay⟩ | ⟨a4, ay⟩ := sp ap
     ·obtain ⟨cr, cU⟩ := yE a4; clear a4
      obtain ⟨cj, a9⟩ | ⟨cj, a9⟩ := sp ay
      ·obtain ⟨cV, cW⟩ := yE cj; clear cj; obtain rfl := Option.some.inj a9; clear a9 J D M K aa ac ah ap ay; go_enter Try.func54, Try.ntmps54
       go_wp2_with (first | ((with_reducible refine gate_dst (N := 1) rfl ?_); (try (refine gate_guard (by rfl) ?_; dsimp only)); refine bx (N := 1) (cs := #[.int .i64 Z, .int .i64 Y, .int .i64 ai, .string az]) (t := 26) ?_; intro bj hg dZ hbox hb; have aB := am hbox; have aC := gA hg HB; replace HB := hA HB hb; clear hb hbox hg; obtain ⟨bn, bo, bp, bq, br, bu, bv, bw⟩ := cf4 aB) | ((with_reducible refine gate_callee (f := 70) rfl ?_); refine gM (some 5) Try.func70 (impl_isWord.calls Z true _ A2.out) ?_; rintro w' ⟨nd, rfl⟩) | (go_at_call 70; refine (impl_isWord.calls Y true _ A4.out).mono ?_; rintro e w' ⟨rfl, ⟨nd, rfl⟩⟩) | (go_at_call 49; refine (impl_within.calls ai 0 7 true _ A6.out).mono ?_; rintro e w' ⟨rfl, ⟨nd, rfl⟩⟩))
       go_ret; exact D7x0_
      ·obtain ⟨cV, cW⟩ := nE cj; obtain rfl := Option.some.inj a9; clear a9 J D M K aa ac ah ap ay; go_enter Try.func54, Try.ntmps54
       go_wp2_with (first | ((with_reducible refine gate_dst (N := 1) rfl ?_); (try (refine gate_guard (by rfl) ?_; dsimp only)); refine bx (N := 1) (cs := #[.int .i64 Z, .int .i64 Y, .int .i64 ai, .string az]) (t := 26) ?_; intro bj hg d6 hbox hb; have aB := am hbox; have aC := gA hg HB; replace HB := hA HB hb; clear hb hbox hg; obtain ⟨bn, bo, bp, bq, br, bu, bv, bw⟩ := cf4 aB) | ((with_reducible refine gate_callee (f := 70) rfl ?_); refine gM (some 5) Try.func70 (impl_isWord.calls Z true _ A2.out) ?_; rintro w' ⟨nd, rfl⟩) | (go_at_call 70; refine (impl_isWord.calls Y true _ A4.out).mono ?_; rintro e w' ⟨rfl, ⟨nd, rfl⟩⟩) | (go_at_call 49; refine (impl_within.calls ai 0 7 true _ A6.out).mono ?_; rintro e w' ⟨rfl, ⟨nd, rfl⟩⟩))
       go_ret; exact D7x0_
     ·obtain ⟨cr, cU⟩ := nE a4
      obtain ⟨bi, aU⟩ | ⟨bi, aU⟩ := sp ay
      ·obtain ⟨cA, cB⟩ := yE bi; clear bi
       obtain ⟨cl, ba⟩ | ⟨cl, ba⟩ := sp aU
       ·obtain ⟨db, dc⟩ := yE cl; clear cl; obtain rfl := Option.some.inj ba; clear ba J D M K aa ac ah ap ay aU; go_enter Try.func54, Try.ntmps54
        go_wp2_with (first | ((with_reducible refine gate_dst (N := 1) rfl ?_); (try (refine gate_guard (by rfl) ?_; dsimp only)); refine bx (N := 1) (cs := #[.int .i64 Z, .int .i64 Y, .int .i64 ai, .string az]) (t := 26) ?_; intro bj hg d9 hbox hb; have aB := am hbox; have aC := gA hg HB; replace HB := hA HB hb; clear hb hbox hg; obtain ⟨bn, bo, bp, bq, br, bu, bv, bw⟩ := cf4 aB) | ((with_reducible refine gate_callee (f := 70) rfl ?_); refine gM (some 5) Try.func70 (impl_isWord.calls Z true _ A2.out) ?_; rintro w' ⟨nd, rfl⟩) | (go_at_call 70; refine (impl_isWord.calls Y true _ A4.out).mono ?_; rintro e w' ⟨rfl, ⟨nd, rfl⟩⟩) | (go_at_call 49; refine (impl_within.calls ai 0 7 true _ A6.out).mono ?_; rintro e w' ⟨rfl, ⟨nd, rfl⟩⟩))
        go_ret; exact D7x0_
       ·obtain ⟨db, dc⟩ := nE cl; obtain rfl := Option.some.inj ba; clear ba J D M K aa ac ah ap ay aU; go_enter Try.func54, Try.ntmps54
        go_wp2_with (first | ((with_reducible refine gate_dst (N := 1) rfl ?_); (try (refine gate_guard (by rfl) ?_; dsimp only)); refine bx (N := 1) (cs := #[.int .i64 Z, .int .i64 Y, .int .i64 ai, .string az]) (t := 26) ?_; intro bj hg eb hbox hb; have aB := am hbox; have aC := gA hg HB; replace HB := hA HB hb; clear hb hbox hg; obtain ⟨bn, bo, bp, bq, br, bu, bv, bw⟩ := cf4 aB) | ((with_reducible refine gate_callee (f := 70) rfl ?_); refine gM (some 5) Try.func70 (impl_isWord.calls Z true _ A2.out) ?_; rintro w' ⟨nd, rfl⟩) | (go_at_call 70; refine (impl_isWord.calls Y true _ A4.out).mono ?_; rintro e w' ⟨rfl, ⟨nd, rfl⟩⟩) | (go_at_call 49; refine (impl_within.calls ai 0 7 true _ A6.out).mono ?_; rintro e w' ⟨rfl, ⟨nd, rfl⟩⟩))
        go_ret; exact D7x0_
      ·obtain ⟨cA, cB⟩ := nE bi; obtain rfl := Option.some.inj aU; clear aU J D M K aa ac ah ap ay; go_enter Try.func54, Try.ntmps54
       go_wp2_with (first | ((with_reducible refine gate_dst (N := 1) rfl ?_); (try (refine gate_guard (by rfl) ?_; dsimp only)); refine bx (N := 1) (cs := #[.int .i64 Z, .int .i64 Y, .int .i64 ai, .string az]) (t := 26) ?_; intro bj hg ed hbox hb; have aB := am hbox; have aC := gA hg HB; replace HB := hA HB hb; clear hb hbox hg; obtain ⟨bn, bo, bp, bq, br, bu, bv, bw⟩ := cf4 aB) | ((with_reducible refine gate_callee (f := 70) rfl ?_); refine gM (some 5) Try.func70 (impl_isWord.calls Z true _ A2.out) ?_; rintro w' ⟨nd, rfl⟩) | (go_at_call 70; refine (impl_isWord.calls Y true _ A4.out).mono ?_; rintro e w' ⟨rfl, ⟨nd, rfl⟩⟩) | (go_at_call 49; refine (impl_within.calls ai 0 7 true _ A6.out).mono ?_; rintro e w' ⟨rfl, ⟨nd, rfl⟩⟩))
       go_ret; exact D7x0_
   ·obtain rfl := Option.some.inj ah; clear ah J D M K aa ac; go_enter Try.func54, Try.ntmps54
    go_wp2_with (first | ((with_reducible refine gate_dst (N := 1) rfl ?_); (try (refine gate_guard (by rfl) ?_; dsimp only)); refine bx (N := 1) (cs := #[.int .i64 Z, .int .i64 Y, .int .i64 ai, .string az]) (t := 26) ?_; intro bj hg ef hbox hb; have aB := am hbox; have aC := gA hg HB; replace HB := hA HB hb; clear hb hbox hg; obtain ⟨bn, bo, bp, bq, br, bu, bv, bw⟩ := cf4 aB) | ((with_reducible refine gate_callee (f := 70) rfl ?_); refine gM (some 5) Try.func70 (impl_isWord.calls Z true _ A2.out) ?_; rintro w' ⟨nd, rfl⟩) | (go_at_call 70; refine (impl_isWord.calls Y true _ A4.out).mono ?_; rintro e w' ⟨rfl, ⟨nd, rfl⟩⟩) | (go_at_call 49; refine (impl_within.calls ai 0 7 false _ A6.out).mono ?_; rintro e w' ⟨rfl, ⟨nd, rfl⟩⟩))
    go_ret; exact D7x0_
  ·obtain rfl := Option.some.inj aa; clear aa J D M K; go_enter Try.func54, Try.ntmps54
   go_wp2_with (first | ((with_reducible refine gate_dst (N := 1) rfl ?_); (try (refine gate_guard (by rfl) ?_; dsimp only)); refine bx (N := 1) (cs := #[.int .i64 Z, .int .i64 Y, .int .i64 ai, .string az]) (t := 26) ?_; intro bj hg eh hbox hb; have aB := am hbox; have aC := gA hg HB; replace HB := hA HB hb; clear hb hbox hg; obtain ⟨bn, bo, bp, bq, br, bu, bv, bw⟩ := cf4 aB) | ((with_reducible refine gate_callee (f := 70) rfl ?_); refine gM (some 5) Try.func70 (impl_isWord.calls Z true _ A2.out) ?_; rintro w' ⟨nd, rfl⟩) | (go_at_call 70; refine (impl_isWord.calls Y false _ A4.out).mono ?_; rintro e w' ⟨rfl, ⟨nd, rfl⟩⟩))
   go_ret; exact D7x0_
 ·obtain rfl := Option.some.inj M; clear M J D; go_enter Try.func54, Try.ntmps54
  go_wp2_with (first | ((with_reducible refine gate_dst (N := 1) rfl ?_); (try (refine gate_guard (by rfl) ?_; dsimp only)); refine bx (N := 1) (cs := #[.int .i64 Z, .int .i64 Y, .int .i64 ai, .string az]) (t := 26) ?_; intro bj hg ei hbox hb; have aB := am hbox; have aC := gA hg HB; replace HB := hA HB hb; clear hb hbox hg; obtain ⟨bn, bo, bp, bq, br, bu, bv, bw⟩ := cf4 aB) | ((with_reducible refine gate_callee (f := 70) rfl ?_); refine gM (some 5) Try.func70 (impl_isWord.calls Z false _ A2.out) ?_; rintro w' ⟨nd, rfl⟩))
  go_ret; exact D7x0_

def impl_ReadSeg.f (a0 : ByteArray) : Option (Int × Int × Int × ByteArray × Bool) := (impl_scan_word.f a0 0 false).bind fun cc => ((impl_scan_word.f cc.2.1 cc.2.2.1 cc.2.2.2).bind fun cd => ((impl_scan_one.f cd.2.1 cd.2.2.1 cd.2.2.2).bind fun ce => ((impl_scan_rest.f ce.2.1 ce.2.2.1 ce.2.2.2).bind fun cf => ((impl_scan_done.f cf.2.1 cf.2.2.1 cf.2.2.2).bind fun cT => (if cT.1 = true then ((impl_SegOk.f cc.1 cd.1 ce.1 cf.1).bind fun cJ => (if cJ = true then (some (cc.1, cd.1, ce.1, cf.1, true)) else (some (0, 0, 0, (⟨#[]⟩ : ByteArray), false)))) else (some (0, 0, 0, (⟨#[]⟩ : ByteArray), false)))))))
theorem impl_ReadSeg.calls (a0 : ByteArray) (r1 : Int) (r2 : Int) (r3 : Int) (r4 : ByteArray) (r5 : Bool) (w : World) (h : impl_ReadSeg.f a0 = some (r1, r2, r3, r4, r5)) :
  Calls Try.prog 23 #[.string a0] w fun e w' => e = .returned (.tuple #[.agg #[.int .i64 r1, .int .i64 r2, .int .i64 r3, .string r4], .bool r5]) ∧ Below w.heap.size w w' := by
 have dl := Try.underlying26
 have dO := Try.underlying69
 have HB := am (Below.refl w.heap.size w)
 have J := h
 clear h
 unfold impl_ReadSeg.f at J
 obtain ⟨⟨aA, bW, bX, bY⟩, A2, D⟩ := bsi J
 (try dsimp only at D)
 obtain ⟨⟨aQ, bZ, b0, b1⟩, A3, M⟩ := bsi D
 (try dsimp only at M)
 obtain ⟨⟨aV, b2, b3, b4⟩, A4, K⟩ := bsi M
 (try dsimp only at K)
 obtain ⟨⟨bd, b5, b6, b7⟩, A5, aa⟩ := bsi K
 (try dsimp only at aa)
 obtain ⟨⟨dV, cv, cw, cx⟩, A6, ac⟩ := bsi aa
 (try dsimp only at ac)
 obtain ⟨rfl, ah⟩ | ⟨rfl, ah⟩ := sb ac
 ·obtain ⟨cJ, A8, ap⟩ := bsi ah; (try dsimp only at ap)
  obtain ⟨rfl, ay⟩ | ⟨rfl, ay⟩ := sb ap
  ·obtain ⟨rfl, rfl, rfl, rfl, rfl⟩ := s5 ay; clear ay J D M K aa ac ah ap; go_enter Try.func23, Try.ntmps23
   go_wp2_with (first | ((with_reducible refine gate_dst (N := 2) rfl ?_); refine bx (N := 2) (cs := #[.int .i64 0, .int .i64 0, .int .i64 0, .string (⟨#[]⟩ : ByteArray)]) (t := 26) ?_; intro aw hg dW hbox hb; have q := am hbox; have ae := gA hg HB; replace HB := hA HB hb; clear hb hbox hg) | ((with_reducible refine gate_dst (N := 8) rfl ?_); refine bx (N := 8) (cs := #[.string a0, .int .i64 0, .bool false]) (t := 69) ?_; intro aD hg dX hbox hb; have aP := am hbox; have a6 := gA hg HB; replace HB := De1 HB ae hb; have ar := nA hg q; have bU := mA hg q; replace q := bA q hb; clear hb hbox hg) | ((with_reducible refine gate_dst (N := 5) rfl ?_); refine bx (N := 5) (cs := #[.int .i64 0, .int .i64 0, .int .i64 0, .string (⟨#[]⟩ : ByteArray)]) (t := 26) ?_; intro aE hg dY hbox hb; have z := am hbox; have ao := gA hg HB; replace HB := De2 HB ae a6 hb; have au := nA hg q; have b9 := mA hg q; replace q := bA q hb; have bC := nA hg aP; have av := mA hg aP; replace aP := bA aP hb; clear hb hbox hg; have dv := b9.out; have dF := au.out; have dw := av.out; have dG := bC.out; obtain ⟨aF, aG, aH, aI, aJ, aK, aL, aM⟩ := cf4 z) | ((with_reducible refine gate_callee (f := 46) rfl ?_); refine gM (some 11) Try.func46 (impl_scan_word.calls aD a0 0 false aA bW bX bY w _ B16x12_ (Ae3 HB ae a6 ao) A2.out) ?_; rintro d7 ⟨hi, hb, hk⟩; replace q := am (KeepBut.blk hk (g' := aw) (o := .cells #[.int .i64 0, .int .i64 0, .int .i64 0, .string (⟨#[]⟩ : ByteArray)] 26 (0, 0)) (Ap1 q au) ar.out (by simp)); replace z := am (KeepBut.blk hk (g' := aE) (o := .cells #[.int .i64 0, .int .i64 0, .int .i64 0, .string (⟨#[]⟩ : ByteArray)] 26 (0, 0)) (Ap0 z) av.out (by simp)); replace HB := am hb; have U := am hi; obtain ⟨aF, aG, aH, aI, aJ, aK, aL, aM⟩ := cf4 z) | ((with_reducible refine gate_callee (f := 46) rfl ?_); refine gM (some 14) Try.func46 (impl_scan_word.calls aD bW bX bY aQ bZ b0 b1 w _ B16x3_ (Ae3 HB (IsS69.gf U) ae ao) A3.out) ?_; rintro d8 ⟨hi, hb, hk⟩; replace q := am (KeepBut.blk hk (g' := aw) (o := .cells #[.int .i64 0, .int .i64 0, .int .i64 0, .string (⟨#[]⟩ : ByteArray)] 26 (0, 0)) (Ap1 q au) ar.out (by simp)); replace z := am (KeepBut.blk hk (g' := aE) (o := .cells #[.int .i64 aA, .int .i64 0, .int .i64 0, .string (⟨#[]⟩ : ByteArray)] 26 (0, 0)) (Ap0 z) av.out (by simp)); replace HB := am hb; replace U := am hi; obtain ⟨aF, aG, aH, aI, aJ, aK, aL, aM⟩ := cf4 z) | ((with_reducible refine gate_callee (f := 41) rfl ?_); refine gM (some 17) Try.func41 (impl_scan_one.calls aD bZ b0 b1 aV b2 b3 b4 w _ B16x3_ (Ae3 HB (IsS69.gf U) ae ao) A4.out) ?_; rintro ea ⟨hi, hb, hk⟩; replace q := am (KeepBut.blk hk (g' := aw) (o := .cells #[.int .i64 0, .int .i64 0, .int .i64 0, .string (⟨#[]⟩ : ByteArray)] 26 (0, 0)) (Ap1 q au) ar.out (by simp)); replace z := am (KeepBut.blk hk (g' := aE) (o := .cells #[.int .i64 aA, .int .i64 aQ, .int .i64 0, .string (⟨#[]⟩ : ByteArray)] 26 (0, 0)) (Ap0 z) av.out (by simp)); replace HB := am hb; replace U := am hi; obtain ⟨aF, aG, aH, aI, aJ, aK, aL, aM⟩ := cf4 z) | ((with_reducible refine gate_callee (f := 42) rfl ?_); refine gM (some 20) Try.func42 (impl_scan_rest.calls aD b2 b3 b4 bd b5 b6 b7 w _ B16x3_ (Ae3 HB (IsS69.gf U) ae ao) A5.out) ?_; rintro ec ⟨hi, hb, hk⟩; replace q := am (KeepBut.blk hk (g' := aw) (o := .cells #[.int .i64 0, .int .i64 0, .int .i64 0, .string (⟨#[]⟩ : ByteArray)] 26 (0, 0)) (Ap1 q au) ar.out (by simp)); replace z := am (KeepBut.blk hk (g' := aE) (o := .cells #[.int .i64 aA, .int .i64 aQ, .int .i64 aV, .string (⟨#[]⟩ : ByteArray)] 26 (0, 0)) (Ap0 z) av.out (by simp)); replace HB := am hb; replace U := am hi; obtain ⟨aF, aG, aH, aI, aJ, aK, aL, aM⟩ := cf4 z) | ((with_reducible refine gate_callee (f := 43) rfl ?_); refine gM (some 23) Try.func43 (impl_scan_done.calls aD b5 b6 b7 true cv cw cx w _ B16x3_ (Ae3 HB (IsS69.gf U) ae ao) A6.out) ?_; rintro ee ⟨hi, hb, hk⟩; replace q := am (KeepBut.blk hk (g' := aw) (o := .cells #[.int .i64 0, .int .i64 0, .int .i64 0, .string (⟨#[]⟩ : ByteArray)] 26 (0, 0)) (Ap1 q au) ar.out (by simp)); replace z := am (KeepBut.blk hk (g' := aE) (o := .cells #[.int .i64 aA, .int .i64 aQ, .int .i64 aV, .string bd] 26 (0, 0)) (Ap0 z) av.out (by simp)); replace HB := am hb; replace U := am hi; obtain ⟨aF, aG, aH, aI, aJ, aK, aL, aM⟩ := cf4 z) | (go_at_call 54; refine (impl_SegOk.calls aA aQ aV bd true _ A8.out).mono ?_; rintro e eg ⟨rfl, hb⟩; replace q := bA q hb; replace z := bA z hb; replace HB := De3 HB (IsS69.gf U) ae ao hb; replace U := am (IsS69.below B16x3_ hb); obtain ⟨aF, aG, aH, aI, aJ, aK, aL, aM⟩ := cf4 z; have dx := ar.out; have dH := bU.out; obtain ⟨cK, cL, cM, cN, cO, cP, cQ, cR⟩ := cf4 q))
   refine bodyPost_ret (results_ct rfl _ _ aw 26 #[.int .i64 aA, .int .i64 aQ, .int .i64 aV, .string bd] (0, 0) _ rfl (Ap0 q) Try.underlying26 rfl gk_) rfl ?_; exact ⟨B16x7_, (Ae3 HB (IsS69.gf U) ae ao)⟩
  obtain ⟨rfl, rfl, rfl, rfl, rfl⟩ := s5 ay; clear ay J D M K aa ac ah ap; go_enter Try.func23, Try.ntmps23
  go_wp2_with (first | ((with_reducible refine gate_dst (N := 2) rfl ?_); refine bx (N := 2) (cs := #[.int .i64 0, .int .i64 0, .int .i64 0, .string (⟨#[]⟩ : ByteArray)]) (t := 26) ?_; intro aw hg ej hbox hb; have q := am hbox; have ae := gA hg HB; replace HB := hA HB hb; clear hb hbox hg) | ((with_reducible refine gate_dst (N := 8) rfl ?_); refine bx (N := 8) (cs := #[.string a0, .int .i64 0, .bool false]) (t := 69) ?_; intro aD hg ek hbox hb; have aP := am hbox; have a6 := gA hg HB; replace HB := De1 HB ae hb; have ar := nA hg q; have bU := mA hg q; replace q := bA q hb; clear hb hbox hg) | ((with_reducible refine gate_dst (N := 5) rfl ?_); refine bx (N := 5) (cs := #[.int .i64 0, .int .i64 0, .int .i64 0, .string (⟨#[]⟩ : ByteArray)]) (t := 26) ?_; intro aE hg el hbox hb; have z := am hbox; have ao := gA hg HB; replace HB := De2 HB ae a6 hb; have au := nA hg q; have b9 := mA hg q; replace q := bA q hb; have bC := nA hg aP; have av := mA hg aP; replace aP := bA aP hb; clear hb hbox hg; have dy := b9.out; have dI := au.out; have dz := av.out; have dJ := bC.out; obtain ⟨aF, aG, aH, aI, aJ, aK, aL, aM⟩ := cf4 z) | ((with_reducible refine gate_callee (f := 46) rfl ?_); refine gM (some 11) Try.func46 (impl_scan_word.calls aD a0 0 false aA bW bX bY w _ B16x12_ (Ae3 HB ae a6 ao) A2.out) ?_; rintro em ⟨hi, hb, hk⟩; replace q := am (KeepBut.blk hk (g' := aw) (o := .cells #[.int .i64 0, .int .i64 0, .int .i64 0, .string (⟨#[]⟩ : ByteArray)] 26 (0, 0)) (Ap1 q au) ar.out (by simp)); replace z := am (KeepBut.blk hk (g' := aE) (o := .cells #[.int .i64 0, .int .i64 0, .int .i64 0, .string (⟨#[]⟩ : ByteArray)] 26 (0, 0)) (Ap0 z) av.out (by simp)); replace HB := am hb; have U := am hi; obtain ⟨aF, aG, aH, aI, aJ, aK, aL, aM⟩ := cf4 z) | ((with_reducible refine gate_callee (f := 46) rfl ?_); refine gM (some 14) Try.func46 (impl_scan_word.calls aD bW bX bY aQ bZ b0 b1 w _ B16x3_ (Ae3 HB (IsS69.gf U) ae ao) A3.out) ?_; rintro en ⟨hi, hb, hk⟩; replace q := am (KeepBut.blk hk (g' := aw) (o := .cells #[.int .i64 0, .int .i64 0, .int .i64 0, .string (⟨#[]⟩ : ByteArray)] 26 (0, 0)) (Ap1 q au) ar.out (by simp)); replace z := am (KeepBut.blk hk (g' := aE) (o := .cells #[.int .i64 aA, .int .i64 0, .int .i64 0, .string (⟨#[]⟩ : ByteArray)] 26 (0, 0)) (Ap0 z) av.out (by simp)); replace HB := am hb; replace U := am hi; obtain ⟨aF, aG, aH, aI, aJ, aK, aL, aM⟩ := cf4 z) | ((with_reducible refine gate_callee (f := 41) rfl ?_); refine gM (some 17) Try.func41 (impl_scan_one.calls aD bZ b0 b1 aV b2 b3 b4 w _ B16x3_ (Ae3 HB (IsS69.gf U) ae ao) A4.out) ?_; rintro eo ⟨hi, hb, hk⟩; replace q := am (KeepBut.blk hk (g' := aw) (o := .cells #[.int .i64 0, .int .i64 0, .int .i64 0, .string (⟨#[]⟩ : ByteArray)] 26 (0, 0)) (Ap1 q au) ar.out (by simp)); replace z := am (KeepBut.blk hk (g' := aE) (o := .cells #[.int .i64 aA, .int .i64 aQ, .int .i64 0, .string (⟨#[]⟩ : ByteArray)] 26 (0, 0)) (Ap0 z) av.out (by simp)); replace HB := am hb; replace U := am hi; obtain ⟨aF, aG, aH, aI, aJ, aK, aL, aM⟩ := cf4 z) | ((with_reducible refine gate_callee (f := 42) rfl ?_); refine gM (some 20) Try.func42 (impl_scan_rest.calls aD b2 b3 b4 bd b5 b6 b7 w _ B16x3_ (Ae3 HB (IsS69.gf U) ae ao) A5.out) ?_; rintro ep ⟨hi, hb, hk⟩; replace q := am (KeepBut.blk hk (g' := aw) (o := .cells #[.int .i64 0, .int .i64 0, .int .i64 0, .string (⟨#[]⟩ : ByteArray)] 26 (0, 0)) (Ap1 q au) ar.out (by simp)); replace z := am (KeepBut.blk hk (g' := aE) (o := .cells #[.int .i64 aA, .int .i64 aQ, .int .i64 aV, .string (⟨#[]⟩ : ByteArray)] 26 (0, 0)) (Ap0 z) av.out (by simp)); replace HB := am hb; replace U := am hi; obtain ⟨aF, aG, aH, aI, aJ, aK, aL, aM⟩ := cf4 z) | ((with_reducible refine gate_callee (f := 43) rfl ?_); refine gM (some 23) Try.func43 (impl_scan_done.calls aD b5 b6 b7 true cv cw cx w _ B16x3_ (Ae3 HB (IsS69.gf U) ae ao) A6.out) ?_; rintro eq ⟨hi, hb, hk⟩; replace q := am (KeepBut.blk hk (g' := aw) (o := .cells #[.int .i64 0, .int .i64 0, .int .i64 0, .string (⟨#[]⟩ : ByteArray)] 26 (0, 0)) (Ap1 q au) ar.out (by simp)); replace z := am (KeepBut.blk hk (g' := aE) (o := .cells #[.int .i64 aA, .int .i64 aQ, .int .i64 aV, .string bd] 26 (0, 0)) (Ap0 z) av.out (by simp)); replace HB := am hb; replace U := am hi; obtain ⟨aF, aG, aH, aI, aJ, aK, aL, aM⟩ := cf4 z) | (go_at_call 54; refine (impl_SegOk.calls aA aQ aV bd false _ A8.out).mono ?_; rintro e er ⟨rfl, hb⟩; replace q := bA q hb; replace z := bA z hb; replace HB := De3 HB (IsS69.gf U) ae ao hb; replace U := am (IsS69.below B16x3_ hb); have dB := ar.out; have dK := bU.out; obtain ⟨cK, cL, cM, cN, cO, cP, cQ, cR⟩ := cf4 q))
  refine bodyPost_ret (results_ct rfl _ _ aw 26 #[.int .i64 0, .int .i64 0, .int .i64 0, .string (⟨#[]⟩ : ByteArray)] (0, 0) _ rfl (Ap0 q) Try.underlying26 rfl gk_) rfl ?_; exact ⟨B16x7_, (Ae3 HB (IsS69.gf U) ae ao)⟩
 obtain ⟨rfl, rfl, rfl, rfl, rfl⟩ := s5 ah
 clear ah J D M K aa ac
 go_enter Try.func23, Try.ntmps23
 go_wp2_with (first | ((with_reducible refine gate_dst (N := 2) rfl ?_); refine bx (N := 2) (cs := #[.int .i64 0, .int .i64 0, .int .i64 0, .string (⟨#[]⟩ : ByteArray)]) (t := 26) ?_; intro aw hg et hbox hb; have q := am hbox; have ae := gA hg HB; replace HB := hA HB hb; clear hb hbox hg) | ((with_reducible refine gate_dst (N := 8) rfl ?_); refine bx (N := 8) (cs := #[.string a0, .int .i64 0, .bool false]) (t := 69) ?_; intro aD hg eu hbox hb; have aP := am hbox; have a6 := gA hg HB; replace HB := De1 HB ae hb; have ar := nA hg q; have bU := mA hg q; replace q := bA q hb; clear hb hbox hg) | ((with_reducible refine gate_dst (N := 5) rfl ?_); refine bx (N := 5) (cs := #[.int .i64 0, .int .i64 0, .int .i64 0, .string (⟨#[]⟩ : ByteArray)]) (t := 26) ?_; intro aE hg ev hbox hb; have z := am hbox; have ao := gA hg HB; replace HB := De2 HB ae a6 hb; have au := nA hg q; have b9 := mA hg q; replace q := bA q hb; have bC := nA hg aP; have av := mA hg aP; replace aP := bA aP hb; clear hb hbox hg; have dC := b9.out; have dL := au.out; have dD := av.out; have dM := bC.out; obtain ⟨aF, aG, aH, aI, aJ, aK, aL, aM⟩ := cf4 z) | ((with_reducible refine gate_callee (f := 46) rfl ?_); refine gM (some 11) Try.func46 (impl_scan_word.calls aD a0 0 false aA bW bX bY w _ B16x12_ (Ae3 HB ae a6 ao) A2.out) ?_; rintro ew ⟨hi, hb, hk⟩; replace q := am (KeepBut.blk hk (g' := aw) (o := .cells #[.int .i64 0, .int .i64 0, .int .i64 0, .string (⟨#[]⟩ : ByteArray)] 26 (0, 0)) (Ap1 q au) ar.out (by simp)); replace z := am (KeepBut.blk hk (g' := aE) (o := .cells #[.int .i64 0, .int .i64 0, .int .i64 0, .string (⟨#[]⟩ : ByteArray)] 26 (0, 0)) (Ap0 z) av.out (by simp)); replace HB := am hb; have U := am hi; obtain ⟨aF, aG, aH, aI, aJ, aK, aL, aM⟩ := cf4 z) | ((with_reducible refine gate_callee (f := 46) rfl ?_); refine gM (some 14) Try.func46 (impl_scan_word.calls aD bW bX bY aQ bZ b0 b1 w _ B16x3_ (Ae3 HB (IsS69.gf U) ae ao) A3.out) ?_; rintro ex ⟨hi, hb, hk⟩; replace q := am (KeepBut.blk hk (g' := aw) (o := .cells #[.int .i64 0, .int .i64 0, .int .i64 0, .string (⟨#[]⟩ : ByteArray)] 26 (0, 0)) (Ap1 q au) ar.out (by simp)); replace z := am (KeepBut.blk hk (g' := aE) (o := .cells #[.int .i64 aA, .int .i64 0, .int .i64 0, .string (⟨#[]⟩ : ByteArray)] 26 (0, 0)) (Ap0 z) av.out (by simp)); replace HB := am hb; replace U := am hi; obtain ⟨aF, aG, aH, aI, aJ, aK, aL, aM⟩ := cf4 z) | ((with_reducible refine gate_callee (f := 41) rfl ?_); refine gM (some 17) Try.func41 (impl_scan_one.calls aD bZ b0 b1 aV b2 b3 b4 w _ B16x3_ (Ae3 HB (IsS69.gf U) ae ao) A4.out) ?_; rintro ey ⟨hi, hb, hk⟩; replace q := am (KeepBut.blk hk (g' := aw) (o := .cells #[.int .i64 0, .int .i64 0, .int .i64 0, .string (⟨#[]⟩ : ByteArray)] 26 (0, 0)) (Ap1 q au) ar.out (by simp)); replace z := am (KeepBut.blk hk (g' := aE) (o := .cells #[.int .i64 aA, .int .i64 aQ, .int .i64 0, .string (⟨#[]⟩ : ByteArray)] 26 (0, 0)) (Ap0 z) av.out (by simp)); replace HB := am hb; replace U := am hi; obtain ⟨aF, aG, aH, aI, aJ, aK, aL, aM⟩ := cf4 z) | ((with_reducible refine gate_callee (f := 42) rfl ?_); refine gM (some 20) Try.func42 (impl_scan_rest.calls aD b2 b3 b4 bd b5 b6 b7 w _ B16x3_ (Ae3 HB (IsS69.gf U) ae ao) A5.out) ?_; rintro ez ⟨hi, hb, hk⟩; replace q := am (KeepBut.blk hk (g' := aw) (o := .cells #[.int .i64 0, .int .i64 0, .int .i64 0, .string (⟨#[]⟩ : ByteArray)] 26 (0, 0)) (Ap1 q au) ar.out (by simp)); replace z := am (KeepBut.blk hk (g' := aE) (o := .cells #[.int .i64 aA, .int .i64 aQ, .int .i64 aV, .string (⟨#[]⟩ : ByteArray)] 26 (0, 0)) (Ap0 z) av.out (by simp)); replace HB := am hb; replace U := am hi; obtain ⟨aF, aG, aH, aI, aJ, aK, aL, aM⟩ := cf4 z) | ((with_reducible refine gate_callee (f := 43) rfl ?_); refine gM (some 23) Try.func43 (impl_scan_done.calls aD b5 b6 b7 false cv cw cx w _ B16x3_ (Ae3 HB (IsS69.gf U) ae ao) A6.out) ?_; rintro eB ⟨hi, hb, hk⟩; replace q := am (KeepBut.blk hk (g' := aw) (o := .cells #[.int .i64 0, .int .i64 0, .int .i64 0, .string (⟨#[]⟩ : ByteArray)] 26 (0, 0)) (Ap1 q au) ar.out (by simp)); replace z := am (KeepBut.blk hk (g' := aE) (o := .cells #[.int .i64 aA, .int .i64 aQ, .int .i64 aV, .string bd] 26 (0, 0)) (Ap0 z) av.out (by simp)); replace HB := am hb; replace U := am hi; have dE := ar.out; have dN := bU.out; obtain ⟨cK, cL, cM, cN, cO, cP, cQ, cR⟩ := cf4 q))
 refine bodyPost_ret (results_ct rfl _ _ aw 26 #[.int .i64 0, .int .i64 0, .int .i64 0, .string (⟨#[]⟩ : ByteArray)] (0, 0) _ rfl (Ap0 q) Try.underlying26 rfl gk_) rfl ?_
 exact ⟨B16x7_, (Ae3 HB (IsS69.gf U) ae ao)⟩
end
end Go.Proofs.Ytjaamflffmhicaa.QFnExactUnwrap
