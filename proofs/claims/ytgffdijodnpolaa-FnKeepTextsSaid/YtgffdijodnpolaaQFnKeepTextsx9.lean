/- Functions that a law reaches, as functions of Lean, and the walks that show that the calls come to their answers. No condition. -/
import Derived.Test.YtgffdijodnpolaaQFnKeepTextsx0
import Derived.Test.YtgffdijodnpolaaQFnKeepTextsx6
import Derived.Test.YtgffdijodnpolaaQFnKeepTextsx8
import Derived.Test.YtgffdijodnpolaaVFnKeepTextsShort2
import Derived.Test.YtgffdijodnpolaaVFnKeepTextsShort
import Derived.Test.YtgffdijodnpolaaVFnKeepTextshort8
import Derived.Test.YtgffdijodnpolaaVFnKeepTextshort3
namespace Go.Proofs.Ytgffdijodnpolaa.QFnKeepTexts
open Go.RowKit Go.Proofs.YtgffdijodnpolaaW.PrintWords Go.Proofs.YtgffdijodnpolaaW.PrintLast Go.Proofs.YtgffdijodnpolaaW.PrintMore Go.Proofs.Ytgffdijodnpolaa.Short
set_option linter.unusedVariables false
set_option linter.unusedSimpArgs false
set_option maxHeartbeats 8000000
set_option maxRecDepth 100000
variable {p : Prop}
theorem D9x0_ (h : p := by exact ⟨(blk_cell l.out.1 0).trans rfl, (blk_cell l.out.1 1).trans rfl, (blk_cell l.out.1 2).trans rfl⟩) : p := h
theorem D9x1_ (h : p := by exact ⟨Cb B, Cb J, ⟨B32x0_⟩, Ce3 HB (IsS101.gf D) aj ak⟩) : p := h
theorem D9x2_ (h : p := by exact ⟨B28x6_, B30x0_, (Ae1 HB (IsS101.gf l)), (Ak0 HK)⟩) : p := h
theorem D9x3_ (h : p := by exact ⟨⟨B28x0_⟩, Ck0 HK, Ce1 HB (IsS107.gf l)⟩) : p := h
theorem D9x4_ (h : p := by exact ⟨B28x0_, (Ae1 HB (IsS107.gf l)), (Ak0 HK)⟩) : p := h
theorem D9x5_ (h : p := by exact ⟨⟨B32x22_⟩, Cr aa, Cr al, Cb B, Cb J, Ce3 HB (IsS101.gf D) aj ak⟩) : p := h
section
attribute [local go_sem] max2_int min2_int max_two min_two max_three min_three max_four min_four
theorem B28x0_ (h : p := by repeat (first | (with_reducible first | exact l.out | apply IsS107.alloc | apply IsS107.drewN | apply IsS107.drew | apply IsS107.set_1 | apply IsS107.set_2) | exact l.out)) : p := h
theorem B28x5_ (h : p := by repeat (first | (with_reducible first | exact a6.out | apply IsS107.alloc | apply IsS107.drewN | apply IsS107.drew | apply IsS107.set_1 | apply IsS107.set_2) | exact a6.out)) : p := h
theorem B28x6_ (h : p := by first | rfl | (simp [errW_none, errW_some] <;> rfl) | (simp [*, errW_none, errW_some] <;> rfl)) : p := h
mutual
def spec_l01Text.j0 : Nat → Int → List Int → Int → Int → Option (ByteArray × Int × Int)
 | 0, _, _, _, _ => none
 | k + 1, x1, bZ, bL, bM => spec_l01Text.l0 k x1 (([] : List Int)) 0 bZ bL bM
def spec_l01Text.l0 : Nat → Int → List Int → Int → List Int → Int → Int → Option (ByteArray × Int × Int)
 | 0, _, _, _, _, _, _ => none
 | k + 1, x1, x5, x6, bZ, bL, bM => if x6 < x1 then ((spec_l01Byte.f bZ bL bM).bind fun dB => (if x5.length < 140737488355328 then (spec_l01Text.l0 k x1 (x5 ++ [(dB.1) % 256]) (wrap64 (x6 + 1)) bZ dB.2.1 dB.2.2) else (none))) else (some (strOfNums x5, bL, bM))
end
def spec_l01Text.f (k : Nat) (M : List Int) (ae : Int) (ap : Int) (Z : Int) : Option (ByteArray × Int × Int) := if Z > 5000 then (spec_l01Text.j0 k 5000 M ae ap) else (spec_l01Text.j0 k Z M ae ap)
theorem spec_l01Text.calls (k : Nat) (g : Nat) (M : List Int) (ae : Int) (ap : Int) (Z : Int) (r1 : ByteArray) (r2 : Int) (r3 : Int) (w0 w : World) (hI : IsS107 w0 w g M ae ap) (hB : Below w0.heap.size w0 w) (h : spec_l01Text.f k M ae ap Z = some (r1, r2, r3)) :
  Calls Try.prog 96 #[.pointer (some ⟨g, 0, none⟩), .int .i64 Z] w fun e w' => e = .returned (.string r1) ∧ IsS107 w0 w' g M r2 r3 ∧ Below w0.heap.size w0 w' ∧ KeepBut w w' g none := by
 have l := am hI
 have HK := am (KeepBut.refl w g none)
 have HL := am hB.size
 clear hI
 have du := am hB.size
 have HB := am hB
 clear hB
 have ac := h
 clear h
 unfold spec_l01Text.f at ac
 replace ac := am ac
 go_enter Try.func96, Try.ntmps96
 go_upto_if 8 with (fail)
 go_cut [1] (fun v1 wc => ∃ (kq : Nat) (dq : Int), v1 = .int .i64 dq ∧ Aside0 (spec_l01Text.j0 kq dq M ae ap = some (r1, r2, r3)) ∧ Aside0 (kq ≤ k) ∧ Aside0 (IsS107 w0 wc g M ae ap) ∧ Hk w wc g ∧ Hb w0 wc)
 case first =>
  replace ac := ac.out
  obtain ⟨c4, ad⟩ | ⟨c4, ad⟩ := sp ac
  ·have bG : decide (5000 < Z) = true := decide_eq_true c4
   clear c4
   (first | rw [bG] | (simp only [i64_w, i32_w]; rw [bG]) | skip)
   replace ad := am ad; clear ac
   go_wp2
   go_meet
   case rel => exact ⟨_, 5000, be_, ad, ⟨gl_⟩, D9x3_⟩
  ·have bG : decide (5000 < Z) = false := decide_eq_false c4
   clear c4
   (first | rw [bG] | (simp only [i64_w, i32_w]; rw [bG]) | skip)
   replace ad := am ad; clear ac
   go_wp2
   go_meet
   case rel => exact ⟨_, Z, be_, ad, ⟨gl_⟩, D9x3_⟩
 case rest =>
  clear ac; obtain ⟨kq, dq, rfl, z, ea, l, HK, HB⟩ := hcut
  cases kq with
  | zero => exact absurd z.out (by simp [spec_l01Text.j0])
  | succ eo => ?_
  replace z := z.out; simp only [spec_l01Text.j0] at z; obtain ⟨gN, cu⟩ : ∃ y_ : List Int, y_ = (([] : List Int)) := ⟨_, rfl⟩
  (first | with_reducible replace z := hq cu z | rw [← cu] at z | simp only [← cu] at z)
  have ef := am cu; clear cu; replace z := am z
  go_wp2_with (first | ((with_reducible refine gate_dst (N := 9) rfl ?_); refine Kd.R_lit (Kd.int .u8) _ 5 ?hg (N := 9) ?hd (xs := ([] : List Int)) (inner := []) (ok := fun _ => True) (okp := fun _ => True) ?hr ?hp (fun _ hk => hk) trivial (Below.refl _ _) (Nat.le_refl _) (by simp) ?_; (case hd => rfl); (case hg => rfl); (case hr => first | (go_simp; done) | (go_simp; rfl)); (case hp => exact (Reps.none _ _)); intro iy w5 ct hb hg_ hnew_; clear hg_ hnew_; (first | rw [← ef.out] at ct | (simp only [Int.reduceToNat] at ct; rw [← ef.out] at ct)); have fn := am (Kd.R_lower ct (keep_size (w := w) (g := g) (row := none) (Ak0 HK))); replace HK := Ek0 HK hb; replace HB := De1 HB (IsS107.gf l) hb; replace l := am (IsS107.below B28x0_ hb); clear hb ct))
  go_loopg [5, 6] eo (fun kq v5 v6 w' => ∃ (cD : List Int) (dr : Int) (cB : Int) (cC : Int), v6 = .int .i64 dr ∧ Aside0 (spec_l01Text.l0 kq dq cD dr M cB cC = some (r1, r2, r3)) ∧ Aside0 (kq ≤ eo) ∧ Aside0 (Kd.R (Kd.int .u8) 5 w' w.heap.size (fun _ => True) v5 cD) ∧ Aside0 (IsS107 w0 w' g M cB cC) ∧ Aside0 (KeepBut w w' g none) ∧ Aside0 (Below w0.heap.size w0 w'))
  case atStart => exact ⟨(gN), 0, ae, ap, be_, z, ⟨Nat.le_refl _⟩, Cr fn, D9x3_⟩
  case round =>
   clear z; obtain ⟨cD, dr, cB, cC, rfl, Y, ec, bR, l, HK, HB⟩ := hrel
   cases gk with
   | zero => exact absurd Y.out (by simp [spec_l01Text.l0])
   | succ k2 => ?_
   replace Y := Y.out; simp only [spec_l01Text.l0] at Y
   obtain ⟨dG, ai⟩ | ⟨dG, ai⟩ := sd Y
   ·obtain ⟨⟨de, ep, eq⟩, A8, ag⟩ := bsi ai; (try dsimp only at ag); obtain ⟨ft, ao⟩ := ya ag; obtain ⟨gO, cv⟩ : ∃ y_ : List Int, y_ = (cD ++ [(de) % 256]) := ⟨_, rfl⟩
    (first | with_reducible replace ao := hq cv ao | rw [← cv] at ao | simp only [← cv] at ao)
    have fy := am cv; clear cv; replace ao := am ao; clear Y ai ag
    go_wp2_with (first | ((with_reducible refine gate_callee (f := 52) rfl ?_); refine gM (some 17) Try.func52 (spec_l01Byte.calls g M cB cC de ep eq w0 _ B28x0_ (Ae1 HB (IsS107.gf l)) A8.out) ?_; rintro gy ⟨hi, hb, hk⟩; replace bR := am (Kd.R_mono (Kd.R_keep (IsS107.apart (show IsS107 w0 _ g M cB cC from B28x0_) (Ar bR) (by decide)) hk (fun _ h => h.2)) (fun _ h => h.1)); replace HK := Dk0 HK hk; replace HB := am hb; replace l := am hi) | ((with_reducible refine gate_builtin (b := .append) (xs := #[.tmp 15, .tmp 19]) rfl ?_); at_builtin; refine Kd.R_append (Kd.int .u8) w.heap.size rfl (.tmp 15) (.tmp 19) 22 5 (.int .u8 0) 1 rfl Try.underlying22 info5 rfl (by decide) (by omega) u5 cD ((de) % 256) [.int .u8 ((de) % 256)] (fun _ => True) (fun _ => False) rfl rfl ?aP (fun _ hk => hk.elim) ?aF ?aO (Below.refl _ _) ?aS ?aL ?_; (case aP => exact rfl); (case aF => exact (fun _ _ => trivial)); (case aO => exact (Ar bR)); (case aS => exact (keep_size (w := w) (g := g) (row := none) (Ak0 HK))); (case aL => have := ft.out; omega); intro iz d2 ho hb hg hat; rw [← fy.out] at ho; replace HB := am (below_weaken (Ae1 HB (IsS107.gf l)) HL.out hb); replace l := am (IsS107.grown B28x0_ hg (IsS107.own_ne l.out bR.out (by decide))); replace HK := am (KeepBut.trans (Ak0 HK) (KeepBut.of_grown hg g) (Kd.R_base2 bR.out)); have fo := am ho; clear bR; clear ho hb hg hat))
    go_roundg k2
    case measure => have := ea.out; have := ec.out; omega
    case rel => exact ⟨(gO), (wrap64 (dr + 1)), ep, eq, be_, ao, ⟨(by have := ea.out; have := ec.out; omega)⟩, Cr fo, D9x3_⟩
   ·obtain ⟨rfl, rfl, rfl⟩ := s3 ai; clear ai Y; have hP := own_string (P := Try.prog) Try.underlying22 Try.underlying5 Try.underlying9 (Kd.own_of_R bR.out)
    go_wp2
    go_ret; exact ⟨B28x6_, D9x4_⟩

def spec_l02Spoilt.j0 : Nat → ByteArray → Bool → List Int → Int → Int → Option (ByteArray × Int × Int)
 | 0, _, _, _, _, _ => none
 | k + 1, x1, gG, bZ, bL, bM => if gG = true then (if (x1.size : Int) > 0 then ((spec_l01Below.f bZ bL bM (x1.size : Int)).bind fun a7 => (if 0 ≤ a7.1 then (if a7.1 ≤ (x1.size : Int) then ((spec_l01Text.f k bZ a7.2.1 a7.2.2 1).bind fun cn => (if (x1.extract 0 (a7.1 : Int).toNat).size + cn.1.size ≤ 9223372036854775807 then (if 0 ≤ (wrap64 (a7.1 + 1)) then (if (wrap64 (a7.1 + 1)) ≤ (x1.size : Int) then (if ((x1.extract 0 (a7.1 : Int).toNat) ++ cn.1).size + (x1.extract ((wrap64 (a7.1 + 1)) : Int).toNat x1.size).size ≤ 9223372036854775807 then (some (((x1.extract 0 (a7.1 : Int).toNat) ++ cn.1) ++ (x1.extract ((wrap64 (a7.1 + 1)) : Int).toNat x1.size), cn.2.1, cn.2.2)) else (none)) else (none)) else (none)) else (none))) else (none)) else (none))) else (some (x1, bL, bM))) else (some (x1, bL, bM))
def spec_l02Spoilt.f (k : Nat) (M : List Int) (ae : Int) (ap : Int) (Z : ByteArray) : Option (ByteArray × Int × Int) := (spec_l01Below.f M ae ap 12).bind fun aV => (if aV.1 = 0 then ((spec_l01Text.f k M aV.2.1 aV.2.2 1).bind fun cN => (if Z.size + cN.1.size ≤ 9223372036854775807 then (some (Z ++ cN.1, cN.2.1, cN.2.2)) else (none))) else (if aV.1 = 1 then ((spec_l01Below.f M aV.2.1 aV.2.2 (wrap64 ((Z.size : Int) + 1))).bind fun cm => (if 0 ≤ cm.1 then (if cm.1 ≤ (Z.size : Int) then (some (Z.extract 0 (cm.1 : Int).toNat, cm.2.1, cm.2.2)) else (none)) else (none))) else (if aV.1 = 2 then (spec_l02Spoilt.j0 k Z (aV.1 == 2) M aV.2.1 aV.2.2) else (spec_l02Spoilt.j0 k Z (aV.1 == 3) M aV.2.1 aV.2.2))))
def spec_l02Spoilt.T10 : Bool × List (List Nat × List Nat) := (true, [([], []), ([], []), ([0, 1], [0, 1]), ([], []), ([3], [3]), ([2, 4], [2, 4]), ([], []), ([], []), ([7], [7]), ([6, 8], [6, 8]), ([5, 9], [5, 9]), ([10, 4, 0, 1, 2, 3, 4, 5, 6, 7, 8, 9, 10], [10])])
def spec_l02Spoilt.B10 : List Nat := [0, 0, 3, 0, 8, 31, 0, 0, 128, 448, 1023, 2047]
theorem spec_l02Spoilt.tab10 : rtab .any (opsOf Try.f71 10) = spec_l02Spoilt.T10 := by kernel_rfl
theorem spec_l02Spoilt.bits10 : waitsOk spec_l02Spoilt.T10.2 spec_l02Spoilt.B10 = true := by kernel_rfl
theorem spec_l02Spoilt.calls (k : Nat) (g : Nat) (M : List Int) (ae : Int) (ap : Int) (Z : ByteArray) (r1 : ByteArray) (r2 : Int) (r3 : Int) (w0 w : World) (hI : IsS107 w0 w g M ae ap) (hB : Below w0.heap.size w0 w) (h : spec_l02Spoilt.f k M ae ap Z = some (r1, r2, r3)) :
  Calls Try.prog 71 #[.pointer (some ⟨g, 0, none⟩), .string Z] w fun e w' => e = .returned (.string r1) ∧ IsS107 w0 w' g M r2 r3 ∧ Below w0.heap.size w0 w' ∧ KeepBut w w' g none := by
 have l := am hI
 have HK := am (KeepBut.refl w g none)
 have HL := am hB.size
 clear hI
 have du := am hB.size
 have HB := am hB
 clear hB
 have ac := h
 clear h
 unfold spec_l02Spoilt.f at ac
 obtain ⟨⟨cy, bH, bI⟩, A3, ad⟩ := bsi ac
 (try dsimp only at ad)
 obtain ⟨c4, z⟩ | ⟨c4, z⟩ := sp ad
 ·obtain ⟨bG, el⟩ := yE c4; clear c4; obtain ⟨⟨er, f8, f9⟩, A5, Y⟩ := bsi z; (try dsimp only at Y); obtain ⟨c6, ai⟩ := yn Y; have b5 := eq_true c6; have hN := decide_eq_true c6
  try have fL : (9223372036854775807 < Z.size + er.size) = False := eq_false (Nat.not_lt.2 c6)
  try (have fM := fL; simp only [ByteArray.size_append] at fM)
  obtain ⟨rfl, rfl, rfl⟩ := s3 ai; clear ai ac ad z Y; go_enter Try.func71, Try.ntmps71
  go_wp2_with (first | ((with_reducible refine gate_callee (f := 41) rfl ?_); refine gM (some 7) Try.func41 (spec_l01Below.calls g M ae ap 12 cy bH bI w0 _ B28x0_ (Ae1 HB (IsS107.gf l)) A3.out) ?_; rintro w7 ⟨hi, hb, hk⟩; replace HK := Dk0 HK hk; replace HB := am hb; replace l := am hi) | ((with_reducible refine gate_callee (f := 96) rfl ?_); refine gM (some 12) Try.func96 (spec_l01Text.calls k g M bH bI 1 er f8 f9 w0 _ B28x0_ (Ae1 HB (IsS107.gf l)) A5.out) ?_; rintro w8 ⟨hi, hb, hk⟩; replace HK := Dk0 HK hk; replace HB := am hb; replace l := am hi))
  go_ret; exact ⟨B28x6_, D9x4_⟩
 ·obtain ⟨bG, el⟩ := nE c4
  obtain ⟨c9, ag⟩ | ⟨c9, ag⟩ := sp z
  ·obtain ⟨db, dH⟩ := yE c9; clear c9; obtain ⟨⟨ga, gb, gg⟩, fa, ao⟩ := bsi ag; (try dsimp only at ao); obtain ⟨bV, fD, aI⟩ := ye ao; obtain ⟨cY, he, aW⟩ := ye aI; obtain ⟨rfl, rfl, rfl⟩ := s3 aW; clear aW ac ad z ag ao aI; go_enter Try.func71, Try.ntmps71
   go_wp2_with (first | ((with_reducible refine gate_callee (f := 41) rfl ?_); refine gM (some 7) Try.func41 (spec_l01Below.calls g M ae ap 12 cy bH bI w0 _ B28x0_ (Ae1 HB (IsS107.gf l)) A3.out) ?_; rintro gB ⟨hi, hb, hk⟩; replace HK := Dk0 HK hk; replace HB := am hb; replace l := am hi) | ((with_reducible refine gate_callee (f := 41) rfl ?_); refine gM (some 21) Try.func41 (spec_l01Below.calls g M bH bI (wrap64 ((Z.size : Int) + 1)) ga gb gg w0 _ B28x0_ (Ae1 HB (IsS107.gf l)) fa.out) ?_; rintro gC ⟨hi, hb, hk⟩; replace HK := Dk0 HK hk; replace HB := am hb; replace l := am hi))
   go_ret; exact ⟨B28x6_, D9x4_⟩
  ·obtain ⟨db, dH⟩ := nE c9; replace ag := am ag; clear ac ad z; go_enter Try.func71, Try.ntmps71
   go_upto_if 23 with (first | ((with_reducible refine gate_callee (f := 41) rfl ?_); refine gM (some 7) Try.func41 (spec_l01Below.calls g M ae ap 12 cy bH bI w0 _ B28x0_ (Ae1 HB (IsS107.gf l)) A3.out) ?_; rintro iE ⟨hi, hb, hk⟩; replace HK := Dk0 HK hk; replace HB := am hb; replace l := am hi))
   (try simp only [Act.put, List.setIfInBounds_toArray, List.set_cons_zero, List.set_cons_succ])
   go_cut [23] (fun gu wc => ∃ (kq : Nat) (d4 : Bool), gu = .bool d4 ∧ Aside0 (spec_l02Spoilt.j0 kq Z d4 M bH bI = some (r1, r2, r3)) ∧ Aside0 (kq ≤ k) ∧ Aside0 (IsS107 w0 wc g M bH bI) ∧ Hk w wc g ∧ Hb w0 wc)
   case first =>
    replace ag := ag.out
    obtain ⟨bW, ax⟩ | ⟨bW, ax⟩ := sp ag
    ·obtain ⟨b4, ej⟩ := yE bW; clear bW
     (first | rw [b4] | (simp only [i64_w, i32_w]; rw [b4]) | skip)
     replace ax := am ax; clear ag
     go_wp2
     go_meet
     case rel => exact ⟨_, ((cy == 2)), be_, ax, ⟨gl_⟩, D9x3_⟩
    ·obtain ⟨b4, ej⟩ := nE bW
     (first | rw [b4] | (simp only [i64_w, i32_w]; rw [b4]) | skip)
     replace ax := am ax; clear ag
     go_wp2
     go_meet
     case rel => exact ⟨_, ((cy == 3)), be_, ax, ⟨gl_⟩, D9x3_⟩
   case rest =>
    clear ag
    try clear c4
    try clear bG
    try clear el
    try clear c9
    try clear db
    try clear dH
    obtain ⟨kq, d4, rfl, ar, g7, l, HK, HB⟩ := hcut
    cases kq with
    | zero => exact absurd ar.out (by simp [spec_l02Spoilt.j0])
    | succ f7 => ?_
    replace ar := ar.out; simp only [spec_l02Spoilt.j0] at ar
    obtain ⟨rfl, aC⟩ | ⟨rfl, aC⟩ := sb ar
    ·obtain ⟨bk, au⟩ | ⟨bk, au⟩ := sp aC
     ·have dE : decide (0 < (Z.size : Int)) = true := decide_eq_true bk
      have dF : decide (0 < Z.size) = true := decide_eq_true (by omega)
      clear bk; obtain ⟨⟨bY, et, eu⟩, d8, aH⟩ := bsi au; (try dsimp only at aH); obtain ⟨hn, hs, aN⟩ := ye aH; obtain ⟨hu, hv, aE⟩ := ye aN; obtain ⟨⟨cz, gh, gi⟩, d9, bq⟩ := bsi aE; (try dsimp only at bq); obtain ⟨cZ, bD⟩ := yn bq; have hx := eq_true cZ; have hz := decide_eq_true cZ
      try have fF : (9223372036854775807 < (Z.extract 0 (bY : Int).toNat).size + cz.size) = False := eq_false (Nat.not_lt.2 cZ)
      try have hC : (9223372036854775807 < bY.toNat + cz.size) = False := eq_false (by have h_ := cZ; simp only [ByteArray.size_append, ByteArray.size_extract, decide_eq_true_eq, decide_eq_false_iff_not] at *; omega)
      try (have fG := fF; simp only [ByteArray.size_append] at fG)
      obtain ⟨dM, b6⟩ : ∃ j_ : Int, (wrap64 (bY + 1)) = j_ := ⟨_, rfl⟩
      (first | rw [b6] at bD | simp only [b6] at bD)
      (try rw [b6] at d8); (try rw [b6] at d9)
      have hQ : (IntKind.i64.wrap (bY + 1)) = dM := (i64_w _).trans b6
      obtain ⟨hD, hE, b1⟩ := ye bD; obtain ⟨hF, hG, b2⟩ := ye b1; obtain ⟨da, bi⟩ := yn b2; have hH := eq_true da; have hJ := decide_eq_true da
      try have fH : (9223372036854775807 < ((Z.extract 0 (bY : Int).toNat) ++ cz).size + (Z.extract ((dM) : Int).toNat Z.size).size) = False := eq_false (Nat.not_lt.2 da)
      try have hL : (9223372036854775807 < bY.toNat + cz.size + (Z.size - dM.toNat)) = False := eq_false (by have h_ := da; simp only [ByteArray.size_append, ByteArray.size_extract, decide_eq_true_eq, decide_eq_false_iff_not] at *; omega)
      try (have fI := fH; simp only [ByteArray.size_append] at fI)
      obtain ⟨rfl, rfl, rfl⟩ := s3 bi; clear bi ar aC au aH aN aE bq bD b1 b2
      try go_wp2_with (first | ((with_reducible refine gate_callee (f := 41) rfl ?_); refine gM (some 32) Try.func41 (spec_l01Below.calls g M bH bI (Z.size : Int) bY et eu w0 _ B28x0_ (Ae1 HB (IsS107.gf l)) d8.out) ?_; rintro gE ⟨hi, hb, hk⟩; replace HK := Dk0 HK hk; replace HB := am hb; replace l := am hi))
      replace l := am (IsS107.drew l.out); replace HK := kdr HK; replace HB := bdr HB; refine st_ 12 (fun w' => True) [] spec_l02Spoilt.tab10 spec_l02Spoilt.bits10 trivial (fun af j aw => ?_); generalize gE.drew = iL at l HK HB af ⊢; refine pu_ 0 33 j ?_; refine pu_ 1 34 j ?_; refine pu_ 2 35 j ?_; refine pu_ 3 36 j ?_; refine pu_ 6 39 j ?_; refine pu_ 7 40 j ?_; refine pu_ 8 41 j ?_; refine pu_ 9 42 j ?_; refine on_ 4 (some 37) j (fun K hK => ?_); refine gT Try.func96 (spec_l01Text.calls f7 g M et eu 1 cz gh gi w0 _ B28x0_ (Ae1 HB (IsS107.gf l)) d9.out) ?_; rintro iM ⟨hi, hb, hk⟩; replace HK := Dk0 HK hk; replace HB := am hb; replace l := am hi; refine hK.out _ _ trivial (fun af => nm_ ?_); clear hK K; refine pu_ 5 38 j ?_; refine pu_ 10 43 j ?_; refine pu_ 11 4 j ?_; refine done_ (done_of j.out gk_) ?_
      try go_wp2
      go_ret
      exact ⟨(by first | rfl | (simp [errW_none, errW_some] <;> rfl) | (simp only [← b6]; first | rfl | (simp [errW_none, errW_some] <;> rfl)) | (simp [*, errW_none, errW_some] <;> rfl)), D9x4_⟩
     ·have dE : decide (0 < (Z.size : Int)) = false := decide_eq_false bk
      have dF : decide (0 < Z.size) = false := decide_eq_false (by omega)
      clear bk; obtain ⟨rfl, rfl, rfl⟩ := s3 au; clear au ar aC
      go_wp2
      go_ret; exact ⟨B28x6_, D9x4_⟩
    ·obtain ⟨rfl, rfl, rfl⟩ := s3 aC; clear aC ar
     go_wp2
     go_ret; exact ⟨B28x6_, D9x4_⟩

def spec_DrawReadKeep.f (k : Nat) (l0 : List Int) : Option (ByteArray) := (spec_l01New.f k l0).bind fun cO => ((spec_l15Any.f k cO.1 cO.2.1 cO.2.2).bind fun cP => ((spec_KeepText.f k cP.1 cP.2.1).bind fun fB => ((spec_l02Spoilt.f k cO.1 cP.2.2.1 cP.2.2.2 fB.1).bind fun fC => (some fC.1))))
theorem spec_DrawReadKeep.calls (k : Nat) (A0 : Option Addr) (c0 : Nat) (l0 : List Int) (r : ByteArray) (w : World) (en : Kd.C (Kd.int .u8) w A0 l0.length l0) (em : l0.length ≤ c0) (h : spec_DrawReadKeep.f k l0 = some r) :
  Calls Try.prog 29 #[.slice A0 l0.length c0] w fun e w' => e = .returned (.string r) ∧ Below w.heap.size w w' := by
 have fp := am en
 have fm := am em
 clear en em
 have HB := am (Below.refl w.heap.size w)
 have ac := h
 clear h
 unfold spec_DrawReadKeep.f at ac
 obtain ⟨⟨cA, ev, ew⟩, A2, ad⟩ := bsi ac
 (try dsimp only at ad)
 obtain ⟨⟨dO, dP, df, dh⟩, A3, z⟩ := bsi ad
 (try dsimp only at z)
 obtain ⟨⟨ex, gj⟩, A4, Y⟩ := bsi z
 (try dsimp only at Y)
 obtain ⟨⟨gl, gm, gn⟩, A5, ai⟩ := bsi Y
 (try dsimp only at ai)
 obtain rfl := Option.some.inj ai
 clear ai ac ad z Y
 go_enter Try.func29, Try.ntmps29
 go_wp2_with (first | ((with_reducible refine gate_callee (f := 37) rfl ?_); refine gL (some 7) Try.func37 #[.slice A0 l0.length c0] ?_; (with_reducible refine (spec_l01New.calls k _ _ l0 cA ev ew w _ ?z1 ?z2 ?z3 A2.out).mono ?_); (case z1 => repeat (first | (with_reducible first | exact HB.out | apply below_alloc | apply pw_below_drewN | apply below_drew1) | exact HB.out)); (case z2 => exact fp.out); (case z3 => exact fm.out); rintro e w6 ⟨cq, rfl, hi, hb, fX⟩; refine ⟨_, rfl, ?_⟩; replace HB := am hb; have a6 := am hi) | ((with_reducible refine gate_callee (f := 57) rfl ?_); refine gL (some 10) Try.func57 #[.pointer (some ⟨cq, 0, none⟩)] ?_; refine (spec_l15Any.calls k cq cA ev ew dO dP df dh w _ B28x5_ (Ae1 HB (IsS107.gf a6)) A3.out).mono ?_; rintro e w7 ⟨iA, iB, rfl, f5, f6, hi, hb, hk⟩; refine ⟨_, rfl, ?_⟩; have bP := am (Kd.R_lower f5 (below_size (Ae1 HB (IsS107.gf a6)))); have bQ := am (Kd.R_lower f6 (below_size (Ae1 HB (IsS107.gf a6)))); replace HB := am hb; replace a6 := am hi; obtain ⟨fk, fP, fV⟩ := Kd.R_slice bP.out; subst fV; obtain ⟨fl, fQ, fW⟩ := Kd.R_slice bQ.out; subst fW) | ((with_reducible refine gate_callee (f := 22) rfl ?_); refine gL (some 11) Try.func22 #[.agg #[.slice fk dO.length fP, .slice fl dP.length fQ]] ?_; (with_reducible refine (spec_KeepText.calls k _ _ dO _ _ dP ex gj _ ?z1 ?z2 ?z3 ?z4 A4.out).mono ?_); (case z1 => repeat (first | exact (Kd.R_reads' bP.out).2.2 | (with_reducible refine Kd.C_alloc ?_ _) | (with_reducible refine Kd.C_drewN ?_ _) | (with_reducible refine Kd.C_drew ?_))); (case z2 => exact (Kd.R_reads' bP.out).2.1); (case z3 => repeat (first | exact (Kd.R_reads' bQ.out).2.2 | (with_reducible refine Kd.C_alloc ?_ _) | (with_reducible refine Kd.C_drewN ?_ _) | (with_reducible refine Kd.C_drew ?_))); (case z4 => exact (Kd.R_reads' bQ.out).2.1); rintro e gy ⟨rfl, hb⟩; refine ⟨_, rfl, ?_⟩; replace bP := rA bP hb; replace bQ := rA bQ hb; replace HB := De1 HB (IsS107.gf a6) hb; replace a6 := am (IsS107.below B28x5_ hb)) | ((with_reducible refine gate_callee (f := 71) rfl ?_); refine gM (some 16) Try.func71 (spec_l02Spoilt.calls k cq cA df dh ex gl gm gn w _ B28x5_ (Ae1 HB (IsS107.gf a6)) A5.out) ?_; rintro d2 ⟨hi, hb, hk⟩; replace bP := am (Kd.R_mono (Kd.R_keep (IsS107.apart (show IsS107 w _ cq cA df dh from B28x5_) (Ar bP) (by decide)) hk (fun _ h => h.2)) (fun _ h => h.1)); replace bQ := am (Kd.R_mono (Kd.R_keep (IsS107.apart (show IsS107 w _ cq cA df dh from B28x5_) (Ar bQ) (by decide)) hk (fun _ h => h.2)) (fun _ h => h.1)); replace HB := am hb; replace a6 := am hi))
 go_ret
 exact ⟨B28x6_, (Ae1 HB (IsS107.gf a6))⟩
theorem B29x5_ (h : p := by have := bh.out; first | omega | exact Nat.le_refl _) : p := h
mutual
def spec_ReadVar.l0 : Nat → ByteArray → Int → Int → Int → Int → Option (Int × Int × Bool)
 | 0, _, _, _, _, _ => none
 | k + 1, x0, x1, x7, x8, x9 => if x9 < (x0.size : Int) then (spec_ReadVar.j1 k x0 x1 x7 x8 x9 (decide (x9 < (wrap64 (x1 + 5))))) else (spec_ReadVar.j1 k x0 x1 x7 x8 x9 false)
def spec_ReadVar.j1 : Nat → ByteArray → Int → Int → Int → Int → Bool → Option (Int × Int × Bool)
 | 0, _, _, _, _, _, _ => none
 | k + 1, x0, x1, x7, x8, x9, gH => if gH = true then (if 0 ≤ x9 then (if x9 < (x0.size : Int) then (if (bt x0 x9) < 128 then (if (wrap64 (x7 + (wrap64 ((Int.tmod (wrap64 (bt x0 x9)) 128) * x8)))) > 1000000000 then (some (0, 0, false)) else ((spec_l01Var.f k (wrap64 (x7 + (wrap64 ((Int.tmod (wrap64 (bt x0 x9)) 128) * x8))))).bind fun di => (if 0 ≤ x1 then (if x1 ≤ (wrap64 (x9 + 1)) then (if (wrap64 (x9 + 1)) ≤ (x0.size : Int) then (if di.toList = (x0.extract (x1 : Int).toNat ((wrap64 (x9 + 1)) : Int).toNat).toList then (some (wrap64 (x7 + (wrap64 ((Int.tmod (wrap64 (bt x0 x9)) 128) * x8))), wrap64 (x9 + 1), true)) else (some (0, 0, false))) else (none)) else (none)) else (none)))) else (spec_ReadVar.l0 k x0 x1 (wrap64 (x7 + (wrap64 ((Int.tmod (wrap64 (bt x0 x9)) 128) * x8)))) (wrap64 (x8 * 128)) (wrap64 (x9 + 1)))) else (none)) else (none)) else (some (0, 0, false))
end
def spec_ReadVar.f (k : Nat) (U : ByteArray) (Z : Int) : Option (Int × Int × Bool) := (spec_l01In.f Z 0 (U.size : Int)).bind fun ey => (if ey = true then (spec_ReadVar.l0 k U Z 0 1 Z) else (some (0, 0, false)))
def spec_ReadVar.T11 : Bool × List (List Nat × List Nat) := (true, [([], []), ([0], [0]), ([1], [1]), ([2], [2]), ([3, 2, 2], [2, 3]), ([2], [2]), ([2], [2]), ([2], [2]), ([7, 2], [2, 7]), ([5, 6, 8, 2], [2, 5, 6, 8]), ([4, 9, 2], [2, 4, 9]), ([2, 10], [2, 10])])
def spec_ReadVar.B11 : List Nat := [0, 1, 3, 7, 15, 7, 7, 7, 135, 487, 1023, 2047]
theorem spec_ReadVar.tab11 : rtab .any (opsOf Try.f97 11) = spec_ReadVar.T11 := by kernel_rfl
theorem spec_ReadVar.bits11 : waitsOk spec_ReadVar.T11.2 spec_ReadVar.B11 = true := by kernel_rfl
theorem spec_ReadVar.calls (k : Nat) (U : ByteArray) (Z : Int) (r1 : Int) (r2 : Int) (r3 : Bool) (w : World) (h : spec_ReadVar.f k U Z = some (r1, r2, r3)) :
  Calls Try.prog 97 #[.string U, .int .i64 Z] w fun e w' => e = .returned (.tuple #[.int .i64 r1, .int .i64 r2, .bool r3]) ∧ Below w.heap.size w w' := by
 have HB := am (Below.refl w.heap.size w)
 have ac := h
 clear h
 unfold spec_ReadVar.f at ac
 obtain ⟨ey, A3, ad⟩ := bsi ac
 (try dsimp only at ad)
 obtain ⟨rfl, z⟩ | ⟨rfl, z⟩ := sb ad
 ·replace z := am z; clear ac ad; go_enter Try.func97, Try.ntmps97
  go_wp2_with (first | ((with_reducible refine gate_callee (f := 47) rfl ?_); refine gM (some 13) Try.func47 (spec_l01In.calls Z 0 (U.size : Int) true _ A3.out) ?_; rintro w' ⟨nd, rfl⟩))
  go_loopg [7, 8, 9] k (fun kq v7 v8 v9 w' => ∃ (aM : Int) (bp : Int) (ah : Int), v7 = .int .i64 aM ∧ v8 = .int .i64 bp ∧ v9 = .int .i64 ah ∧ Aside0 (spec_ReadVar.l0 kq U Z aM bp ah = some (r1, r2, r3)) ∧ Aside0 (kq ≤ k) ∧ Aside0 (Below w.heap.size w w'))
  case atStart => exact ⟨(0), 1, Z, be_, be_, be_, z, ⟨Nat.le_refl _⟩, Ce0 HB⟩
  case round =>
   clear z
   try clear c4
   obtain ⟨aM, bp, ah, rfl, rfl, rfl, Y, bh, HB⟩ := hrel
   cases gk with
   | zero => exact absurd Y.out (by simp [spec_ReadVar.l0])
   | succ k1 => ?_
   replace Y := Y.out; simp only [spec_ReadVar.l0] at Y; replace Y := am Y
   go_upto_region 6 with (fail)
   go_cut [25] (fun gv wc => ∃ (kq : Nat) (d5 : Bool), gv = .bool d5 ∧ Aside0 (spec_ReadVar.j1 kq U Z aM bp ah d5 = some (r1, r2, r3)) ∧ Aside0 (kq ≤ k1) ∧ Hb w wc)
   case first =>
    replace Y := Y.out
    obtain ⟨b5, ai⟩ | ⟨b5, ai⟩ := sd Y
    ·(first | rw [b5] | (simp only [i64_w, i32_w]; rw [b5]) | skip)
     replace ai := am ai; clear Y
     go_wp2
     go_meet
     case rel => exact ⟨_, (decide (ah < (wrap64 (Z + 5)))), be_, ai, ⟨B29x5_⟩, Ce0 HB⟩
    (first | rw [b5] | (simp only [i64_w, i32_w]; rw [b5]) | skip)
    replace ai := am ai; clear Y
    go_wp2
    go_meet
    case rel => exact ⟨_, false, be_, ai, ⟨B29x5_⟩, Ce0 HB⟩
   clear Y
   try clear c4
   obtain ⟨kq, d5, rfl, ag, eb, HB⟩ := hcut
   cases kq with
   | zero => exact absurd ag.out (by simp [spec_ReadVar.j1])
   | succ dN => ?_
   replace ag := ag.out; simp only [spec_ReadVar.j1] at ag
   obtain ⟨rfl, ao⟩ | ⟨rfl, ao⟩ := sb ag
   ·obtain ⟨hO, aI⟩ := yd ao; obtain ⟨db, aW⟩ := yd aI
    obtain ⟨cY, ax⟩ | ⟨cY, ax⟩ := sd aW
    ·obtain ⟨co, ar⟩ | ⟨co, ar⟩ := sp ax
     ·have fE : decide (1000000000 < (wrap64 (aM + (wrap64 ((Int.tmod (wrap64 (bt U ah)) 128) * bp))))) = true := decide_eq_true co
      clear co; obtain ⟨rfl, rfl, rfl⟩ := s3 ar; clear ar ag ao aI aW ax
      have a8 : 0 ≤ (ah : Int) := dga
      have ba : ah < (U.size : Int) := dga
      have dK := bt_at U ah; replace a8 := eq_true a8; replace ba := eq_true ba
      have a9 : 0 ≤ (ah : Int) := dga
      have bd : ah < (U.size : Int) := dga
      have dL := bt_at U ah; replace a9 := eq_true a9; replace bd := eq_true bd
      try go_wp2
      replace HB := bdr HB; refine st_ 12 (fun w' => True) [] spec_ReadVar.tab11 spec_ReadVar.bits11 trivial (fun af j aw => ?_); generalize wc.drew = gC at HB af ⊢; refine pu_ 0 43 j ?_; refine pu_ 1 44 j ?_; refine pu_ 2 45 j ?_; refine of_ 3 46 j ?_; refine of_ 4 47 j ?_; refine of_ 5 48 j ?_; refine of_ 6 49 j ?_; refine of_ 7 50 j ?_; refine of_ 8 51 j ?_; refine of_ 9 52 j ?_; refine of_ 10 53 j ?_; refine pu_ 11 54 j ?_; refine done_ (done_of j.out gk_) ?_
      try go_wp2
      go_ret3
      exact ⟨B28x6_, (Ae0 HB)⟩
     have fE : decide (1000000000 < (wrap64 (aM + (wrap64 ((Int.tmod (wrap64 (bt U ah)) 128) * bp))))) = false := decide_eq_false co
     clear co; obtain ⟨di, cF, aC⟩ := bsi ar; (try dsimp only at aC); obtain ⟨hf, hh, au⟩ := ye aC; obtain ⟨bW, aH⟩ := yn au; have b4 := eq_true bW; have ej := decide_eq_true bW; obtain ⟨ek, aN⟩ := yn aH; have hj := eq_true ek; have hm := decide_eq_true ek
     obtain ⟨bk, aE⟩ | ⟨bk, aE⟩ := sp aN
     ·obtain ⟨dE, dF⟩ := yE bk; clear bk; obtain ⟨rfl, rfl, rfl⟩ := s3 aE; clear aE ag ao aI aW ax ar aC au aH aN
      have a8 : 0 ≤ (ah : Int) := dga
      have ba : ah < (U.size : Int) := dga
      have dK := bt_at U ah; replace a8 := eq_true a8; replace ba := eq_true ba
      have a9 : 0 ≤ (ah : Int) := dga
      have bd : ah < (U.size : Int) := dga
      have dL := bt_at U ah; replace a9 := eq_true a9; replace bd := eq_true bd
      try go_wp2
      replace HB := bdr HB; refine st_ 12 (fun w' => True) [] spec_ReadVar.tab11 spec_ReadVar.bits11 trivial (fun af j aw => ?_); generalize wc.drew = gD at HB af ⊢; refine pu_ 0 43 j ?_; refine pu_ 1 44 j ?_; refine pu_ 2 45 j ?_; refine pu_ 3 46 j ?_; refine pu_ 5 48 j ?_; refine pu_ 6 49 j ?_; refine pu_ 7 50 j ?_; refine pu_ 8 51 j ?_; refine pu_ 9 52 j ?_; refine on_ 4 (some 47) j (fun K hK => ?_); refine gT Try.func59 (spec_l01Var.calls dN (wrap64 (aM + (wrap64 ((Int.tmod (wrap64 (bt U ah)) 128) * bp)))) di _ cF.out) ?_; rintro iG hb; replace HB := hA HB hb; refine hK.out _ _ trivial (fun af => nm_ ?_); clear hK K; refine pu_ 10 53 j ?_; refine pu_ 11 54 j ?_; refine done_ (done_of j.out gk_) ?_
      try go_wp2
      go_ret3
      exact ⟨B28x6_, (Ae0 HB)⟩
     obtain ⟨dE, dF⟩ := nE bk; obtain ⟨rfl, rfl, rfl⟩ := s3 aE; clear aE ag ao aI aW ax ar aC au aH aN
     have a8 : 0 ≤ (ah : Int) := dga
     have ba : ah < (U.size : Int) := dga
     have dK := bt_at U ah; replace a8 := eq_true a8; replace ba := eq_true ba
     have a9 : 0 ≤ (ah : Int) := dga
     have bd : ah < (U.size : Int) := dga
     have dL := bt_at U ah; replace a9 := eq_true a9; replace bd := eq_true bd
     try go_wp2
     replace HB := bdr HB; refine st_ 12 (fun w' => True) [] spec_ReadVar.tab11 spec_ReadVar.bits11 trivial (fun af j aw => ?_); generalize wc.drew = iH at HB af ⊢; refine pu_ 0 43 j ?_; refine pu_ 1 44 j ?_; refine pu_ 2 45 j ?_; refine pu_ 3 46 j ?_; refine pu_ 5 48 j ?_; refine pu_ 6 49 j ?_; refine pu_ 7 50 j ?_; refine pu_ 8 51 j ?_; refine pu_ 9 52 j ?_; refine on_ 4 (some 47) j (fun K hK => ?_); refine gT Try.func59 (spec_l01Var.calls dN (wrap64 (aM + (wrap64 ((Int.tmod (wrap64 (bt U ah)) 128) * bp)))) di _ cF.out) ?_; rintro iI hb; replace HB := hA HB hb; refine hK.out _ _ trivial (fun af => nm_ ?_); clear hK K; refine pu_ 10 53 j ?_; refine pu_ 11 54 j ?_; refine done_ (done_of j.out gk_) ?_
     try go_wp2
     go_ret3
     exact ⟨B28x6_, (Ae0 HB)⟩
    replace ax := am ax; clear ag ao aI aW
    have a8 : 0 ≤ (ah : Int) := dga
    have ba : ah < (U.size : Int) := dga
    have dK := bt_at U ah; replace a8 := eq_true a8; replace ba := eq_true ba
    have a9 : 0 ≤ (ah : Int) := dga
    have bd : ah < (U.size : Int) := dga
    have dL := bt_at U ah; replace a9 := eq_true a9; replace bd := eq_true bd
    go_wp2
    go_roundg dN
    case measure => have := bh.out; have := eb.out; omega
    case rel => exact ⟨(wrap64 (aM + (wrap64 ((Int.tmod (wrap64 (bt U ah)) 128) * bp)))), (wrap64 (bp * 128)), (wrap64 (ah + 1)), be_, be_, be_, ax, ⟨(by have := bh.out; have := eb.out; omega)⟩, Ce0 HB⟩
   obtain ⟨rfl, rfl, rfl⟩ := s3 ao; clear ao ag
   go_wp2
   go_ret3
   exact ⟨B28x6_, (Ae0 HB)⟩
 obtain ⟨rfl, rfl, rfl⟩ := s3 z
 clear z ac ad
 go_enter Try.func97, Try.ntmps97
 go_wp2_with (first | ((with_reducible refine gate_callee (f := 47) rfl ?_); refine gM (some 13) Try.func47 (spec_l01In.calls Z 0 (U.size : Int) false _ A3.out) ?_; rintro w' ⟨nd, rfl⟩))
 go_ret3
 exact ⟨B28x6_, (Ae0 HB)⟩
/-- A state of type 101 at block g of W; what its slices lead to came in by w0. -/
theorem B30x0_ (h : p := by repeat (first | (with_reducible first | exact l.out | apply IsS101.alloc | apply IsS101.drewN | apply IsS101.drew | apply IsS101.set_0 | apply IsS101.set_1 | apply IsS101.set_2) | exact l.out)) : p := h
def IsS101 (w0 W : World) (g : Nat) (f0 : ByteArray) (f1 : Int) (f2 : Bool) : Prop := W.heap[g]? = some (.cells #[.string f0, .int .i64 f1, .bool f2] 101 (0, 0)) ∧ w0.heap.size ≤ g
theorem IsS101.grown {w0 W : World} {g : Nat} {f0 : ByteArray} {f1 : Int} {f2 : Bool} {W1 : World} {row : Option Nat} (h : IsS101 w0 W g f0 f1 f2) (hw : W.grownBy W1 row) (hne : some g ≠ row) : IsS101 w0 W1 g f0 f1 f2 := by
 obtain ⟨hb, hg⟩ := h
 exact ⟨blk_grown hb hw hne, hg⟩
theorem IsS101.own_neN {w0 W : World} {g : Nat} {f0 : ByteArray} {f1 : Int} {f2 : Bool} {α : Type} {d : Kd α} {e : Nat} {base : Nat} {ok : Nat → Prop} {v : Value} {xs : List α} (h : IsS101 w0 W g f0 f1 f2) (ho : Kd.N d e W base ok v xs) (ht : e ≠ 101) : some g ≠ v.ownBlock := by
 obtain ⟨hb, hg⟩ := h
 exact Kd.N_ne ho hb ht
theorem IsS101.fresh {w0 W : World} {g : Nat} {f0 : ByteArray} {f1 : Int} {f2 : Bool} (h : IsS101 w0 W g f0 f1 f2) : ∀ k, W.heap.size ≤ k → k ≠ g := by
 obtain ⟨hb, hg⟩ := h
 exact Kd.freshB hb
theorem IsS101.kept {w0 W : World} {g : Nat} {f0 : ByteArray} {f1 : Int} {f2 : Bool} {W1 : World} {S : Nat → Prop} (h : IsS101 w0 W g f0 f1 f2) (hk : Kept W W1 S) (hne : ¬ S g) : IsS101 w0 W1 g f0 f1 f2 := by
 obtain ⟨hb, hg⟩ := h
 exact ⟨blk_kept hb hk hne, hg⟩
theorem IsS101.below {w0 W : World} {g : Nat} {f0 : ByteArray} {f1 : Int} {f2 : Bool} {W1 : World} (h : IsS101 w0 W g f0 f1 f2) (hw : Below W.heap.size W W1) : IsS101 w0 W1 g f0 f1 f2 := h.grown (grown_of_below hw none) (by simp)
theorem IsS101.alloc {w0 W : World} {g : Nat} {f0 : ByteArray} {f1 : Int} {f2 : Bool} (h : IsS101 w0 W g f0 f1 f2) (o : Obj) : IsS101 w0 (W.alloc o) g f0 f1 f2 := h.below (below_alloc (Below.refl _ _) o)
theorem IsS101.drewN {w0 W : World} {g : Nat} {f0 : ByteArray} {f1 : Int} {f2 : Bool} (h : IsS101 w0 W g f0 f1 f2) (m : Nat) : IsS101 w0 (W.drewN m) g f0 f1 f2 := h
theorem IsS101.drew {w0 W : World} {g : Nat} {f0 : ByteArray} {f1 : Int} {f2 : Bool} (h : IsS101 w0 W g f0 f1 f2) : IsS101 w0 W.drew g f0 f1 f2 := h
theorem IsS101.at_ {w0 W : World} {g : Nat} {f0 : ByteArray} {f1 : Int} {f2 : Bool} {w' : World} {m : Nat} (hq : W.drewN m = w') (h : IsS101 w0 W g f0 f1 f2) : IsS101 w0 w' g f0 f1 f2 := by subst hq; exact IsS101.drewN h m
theorem IsS101.apart {w0 W : World} {g : Nat} {f0 : ByteArray} {f1 : Int} {f2 : Bool} {α : Type} {d : Kd α} {e : Nat} {base : Nat} {ok : Nat → Prop} {v : Value} {xs : List α} (h : IsS101 w0 W g f0 f1 f2) (ho : d.R e W base ok v xs) (ht : ∀ q, q ∈ e :: d.E → q ≠ 101) : d.R e W base (fun k => ok k ∧ k ≠ g) v xs := by
 obtain ⟨hb, hg⟩ := h
 exact Kd.R_types ho hb ht
theorem IsS101.own_ne {w0 W : World} {g : Nat} {f0 : ByteArray} {f1 : Int} {f2 : Bool} {α : Type} {d : Kd α} {e : Nat} {base : Nat} {ok : Nat → Prop} {v : Value} {xs : List α} (h : IsS101 w0 W g f0 f1 f2) (ho : d.R e W base ok v xs) (ht : e ≠ 101) : some g ≠ v.ownBlock := by
 obtain ⟨hb, hg⟩ := h
 exact Kd.R_ne ho hb ht
theorem IsS101.apartQ {w0 W : World} {g : Nat} {f0 : ByteArray} {f1 : Int} {f2 : Bool} {α : Type} {d : Kd α} {e : Nat} {base : Nat} {ok : Nat → Prop} {v : Value} {xs : List α} (h : IsS101 w0 W g f0 f1 f2) (ho : d.Q e W base ok v xs) (ht : ∀ q, q ∈ e :: d.E → q ≠ 101) : d.Q e W base (fun k => ok k ∧ k ≠ g) v xs := by
 obtain ⟨hb, hg⟩ := h
 exact Kd.Q_types ho hb ht
theorem IsS101.own_neQ {w0 W : World} {g : Nat} {f0 : ByteArray} {f1 : Int} {f2 : Bool} {α : Type} {d : Kd α} {e : Nat} {base : Nat} {ok : Nat → Prop} {v : Value} {xs : List α} (h : IsS101 w0 W g f0 f1 f2) (ho : d.Q e W base ok v xs) (ht : e ≠ 101) : some g ≠ v.ownBlock := by
 obtain ⟨hb, hg⟩ := h
 exact Kd.Q_ne ho hb ht
theorem IsS101.apartS {w0 W : World} {g : Nat} {f0 : ByteArray} {f1 : Int} {f2 : Bool} {α : Type} {d : Kd α} {e : Nat} {base : Nat} {ok : Nat → Prop} {v : Value} {xs : List α} (h : IsS101 w0 W g f0 f1 f2) (ho : d.S e W base ok v xs) (ht : ∀ q, q ∈ e :: d.E → q ≠ 101) : d.S e W base (fun k => ok k ∧ k ≠ g) v xs := by
 obtain ⟨hb, hg⟩ := h
 exact Kd.S_types ho hb ht
theorem IsS101.own_neS {w0 W : World} {g : Nat} {f0 : ByteArray} {f1 : Int} {f2 : Bool} {α : Type} {d : Kd α} {e : Nat} {base : Nat} {ok : Nat → Prop} {v : Value} {xs : List α} (h : IsS101 w0 W g f0 f1 f2) (ho : d.S e W base ok v xs) (ht : e ≠ 101) : some g ≠ v.ownBlock := by
 obtain ⟨hb, hg⟩ := h
 exact Kd.S_ne ho hb ht
theorem IsS101.lt {w0 W : World} {g : Nat} {f0 : ByteArray} {f1 : Int} {f2 : Bool} (h : IsS101 w0 W g f0 f1 f2) : g < W.heap.size := by
 obtain ⟨hb, hg⟩ := h
 exact blk_lt hb
theorem IsS101.ge {w0 W : World} {g : Nat} {f0 : ByteArray} {f1 : Int} {f2 : Bool} (h : IsS101 w0 W g f0 f1 f2) : w0.heap.size ≤ g := by
 obtain ⟨hb, hg⟩ := h
 exact hg
theorem IsS101.gf {w0 W : World} {g : Nat} {f0 : ByteArray} {f1 : Int} {f2 : Bool} (h : Aside0 (IsS101 w0 W g f0 f1 f2)) : Aside0 (w0.heap.size ≤ g) := ⟨h.out.ge⟩
theorem IsS101.ne_blk {w0 W : World} {g : Nat} {f0 : ByteArray} {f1 : Int} {f2 : Bool} {a : Nat} {cs : Array Value} {t : TypeId} {fr : Nat × Nat} (h : IsS101 w0 W g f0 f1 f2) (hb2 : W.heap[a]? = some (.cells cs t fr)) (ht : t ≠ 101) : g ≠ a := by
 obtain ⟨hb, hg⟩ := h
 rintro rfl
 rw [hb] at hb2
 injection hb2 with hb2
 injection hb2 with _ ht2
 exact ht ht2.symm
theorem IsS101.far {w0 W : World} {g : Nat} {f0 : ByteArray} {f1 : Int} {f2 : Bool} {p : Addr} (h : IsS101 w0 W g f0 f1 f2) (hne : g ≠ p.block) (u : Value) : IsS101 w0 (W.setCell p u) g f0 f1 f2 := by
 obtain ⟨hb, hg⟩ := h
 exact ⟨blk_far hb hne u, hg⟩
theorem cellS101_0 {W : World} {g : Nat} {f0 : ByteArray} {f1 : Int} {f2 : Bool} (h : W.heap[g]? = some (.cells #[.string f0, .int .i64 f1, .bool f2] 101 (0, 0))) : W.cell? ⟨g, 0, none⟩ = some (.string f0) := (blk_cell h 0).trans rfl
theorem IsS101.set_0 {w0 W : World} {g : Nat} {f0 : ByteArray} {f1 : Int} {f2 : Bool} (h : IsS101 w0 W g f0 f1 f2) (x : ByteArray) : IsS101 w0 (W.setCell ⟨g, 0, none⟩ (.string x)) g x f1 f2 := by
 obtain ⟨hb, hg⟩ := h
 exact ⟨(by simpa using blk_set hb 0 (.string x)), hg⟩
theorem cellS101_1 {W : World} {g : Nat} {f0 : ByteArray} {f1 : Int} {f2 : Bool} (h : W.heap[g]? = some (.cells #[.string f0, .int .i64 f1, .bool f2] 101 (0, 0))) : W.cell? ⟨g, 1, none⟩ = some (.int .i64 f1) := (blk_cell h 1).trans rfl
theorem IsS101.set_1 {w0 W : World} {g : Nat} {f0 : ByteArray} {f1 : Int} {f2 : Bool} (h : IsS101 w0 W g f0 f1 f2) (x : Int) : IsS101 w0 (W.setCell ⟨g, 1, none⟩ (.int .i64 x)) g f0 x f2 := by
 obtain ⟨hb, hg⟩ := h
 exact ⟨(by simpa using blk_set hb 1 (.int .i64 x)), hg⟩
theorem cellS101_2 {W : World} {g : Nat} {f0 : ByteArray} {f1 : Int} {f2 : Bool} (h : W.heap[g]? = some (.cells #[.string f0, .int .i64 f1, .bool f2] 101 (0, 0))) : W.cell? ⟨g, 2, none⟩ = some (.bool f2) := (blk_cell h 2).trans rfl
theorem IsS101.set_2 {w0 W : World} {g : Nat} {f0 : ByteArray} {f1 : Int} {f2 : Bool} (h : IsS101 w0 W g f0 f1 f2) (x : Bool) : IsS101 w0 (W.setCell ⟨g, 2, none⟩ (.bool x)) g f0 f1 x := by
 obtain ⟨hb, hg⟩ := h
 exact ⟨(by simpa using blk_set hb 2 (.bool x)), hg⟩
theorem IsS101.new (w0 W : World) (f0 : ByteArray) (f1 : Int) (f2 : Bool) (hB : Below w0.heap.size w0 W) : IsS101 w0 (W.alloc (.cells #[.string f0, .int .i64 f1, .bool f2] 101)) W.heap.size f0 f1 f2 := ⟨(by simpa using heap_alloc_new W _), hB.size⟩

def spec_l16Var.f (k : Nat) (M : ByteArray) (ae : Int) (ap : Bool) : Option (Int × ByteArray × Int × Bool) := (spec_ReadVar.f k M ae).bind fun dC => (if ap = true then (some (0, M, ae, true)) else (if dC.2.2 = true then (some (dC.1, M, dC.2.1, ap)) else (some (0, M, ae, true))))
def spec_l16Var.T1 : Bool × List (List Nat × List Nat) := (true, [([], []), ([0], [0]), ([1], [1]), ([2], [2]), ([], []), ([4], [4]), ([5], [5]), ([6], [6]), ([3, 7], [3, 7]), ([8], [8]), ([9], [9]), ([9], [9]), ([9], [9]), ([10, 8, 0, 1, 2, 3, 4, 5, 6, 7, 8, 9, 10], [10]), ([11, 13, 0, 1, 2, 3, 4, 5, 6, 7, 8, 9, 10, 11, 13], [11]), ([12, 14, 0, 1, 2, 3, 4, 5, 6, 7, 8, 9, 10, 11, 12, 13, 14], [12])])
def spec_l16Var.B1 : List Nat := [0, 1, 3, 7, 0, 16, 48, 112, 255, 511, 1023, 1023, 1023, 2047, 12287, 32767]
theorem spec_l16Var.tab1 : rtab .any (opsOf Try.f72 1) = spec_l16Var.T1 := by kernel_rfl
theorem spec_l16Var.bits1 : waitsOk spec_l16Var.T1.2 spec_l16Var.B1 = true := by kernel_rfl
theorem spec_l16Var.calls (k : Nat) (g : Nat) (M : ByteArray) (ae : Int) (ap : Bool) (r1 : Int) (r2 : ByteArray) (r3 : Int) (r4 : Bool) (w0 w : World) (hI : IsS101 w0 w g M ae ap) (hB : Below w0.heap.size w0 w) (h : spec_l16Var.f k M ae ap = some (r1, r2, r3, r4)) :
  Calls Try.prog 72 #[.pointer (some ⟨g, 0, none⟩)] w fun e w' => e = .returned (.int .i64 r1) ∧ IsS101 w0 w' g r2 r3 r4 ∧ Below w0.heap.size w0 w' ∧ KeepBut w w' g none := by
 have l := am hI
 have HK := am (KeepBut.refl w g none)
 have HL := am hB.size
 clear hI
 have du := am hB.size
 have HB := am hB
 clear hB
 have ac := h
 clear h
 unfold spec_l16Var.f at ac
 obtain ⟨⟨dQ, dR, gp⟩, A2, ad⟩ := bsi ac
 (try dsimp only at ad)
 obtain ⟨rfl, z⟩ | ⟨rfl, z⟩ := sb ad
 ·obtain ⟨rfl, rfl, rfl, rfl⟩ := s4 z; clear z ac ad; go_enter Try.func72, Try.ntmps72
  try go_wp2
  replace l := am (IsS101.drew l.out); replace HK := kdr HK; replace HB := bdr HB; refine st_ 16 (fun w' => w'.cell? ⟨g, 0, none⟩ = some (.string M) ∧ w'.cell? ⟨g, 1, none⟩ = some (.int .i64 ae) ∧ w'.cell? ⟨g, 2, none⟩ = some (.bool true)) [] spec_l16Var.tab1 spec_l16Var.bits1 D9x0_ (fun af j aw => ?_); generalize w.drew = w4 at l HK HB af ⊢; refine pu_ 0 7 j ?_; refine pu_ 1 8 j ?_; refine pu_ 2 9 j ?_; refine pu_ 4 11 j ?_; refine pu_ 5 12 j ?_; refine pu_ 6 13 j ?_; refine ta_ 3 10 j aw af ?_; refine ta_ 7 14 j aw af ?_; refine on_ 8 (some 15) j (fun K hK => ?_); refine gT Try.func97 (spec_ReadVar.calls k M ae dQ dR gp _ A2.out) ?_; rintro w5 hb; replace HK := Ek0 HK hb; replace HB := De1 HB (IsS101.gf l) hb; replace l := am (IsS101.below B30x0_ hb); refine hK.out _ _ D9x0_ (fun af => nm_ ?_); clear hK K; refine pu_ 9 6 j ?_; refine pu_ 10 16 j ?_; refine pu_ 11 17 j ?_; refine pu_ 12 18 j ?_; refine pu_ 13 3 j ?_; refine pu_ 14 4 j ?_; refine pu_ 15 5 j ?_; refine done_ (done_of j.out gk_) ?_; obtain ⟨a5, dJ⟩ := l.out; have gW := cellS101_0 a5; have gX := cellS101_1 a5; have gY := cellS101_2 a5; obtain ⟨g4, g5, g6⟩ := fr3 a5; clear a5 dJ
  try go_wp2
  go_ret; exact D9x2_
 ·obtain ⟨rfl, Y⟩ | ⟨rfl, Y⟩ := sb z
  ·obtain ⟨rfl, rfl, rfl, rfl⟩ := s4 Y; clear Y ac ad z; go_enter Try.func72, Try.ntmps72
   try go_wp2
   replace l := am (IsS101.drew l.out); replace HK := kdr HK; replace HB := bdr HB; refine st_ 16 (fun w' => w'.cell? ⟨g, 0, none⟩ = some (.string M) ∧ w'.cell? ⟨g, 1, none⟩ = some (.int .i64 ae) ∧ w'.cell? ⟨g, 2, none⟩ = some (.bool false)) [] spec_l16Var.tab1 spec_l16Var.bits1 D9x0_ (fun af j aw => ?_); generalize w.drew = w8 at l HK HB af ⊢; refine pu_ 0 7 j ?_; refine pu_ 1 8 j ?_; refine pu_ 2 9 j ?_; refine pu_ 4 11 j ?_; refine pu_ 5 12 j ?_; refine pu_ 6 13 j ?_; refine ta_ 3 10 j aw af ?_; refine ta_ 7 14 j aw af ?_; refine on_ 8 (some 15) j (fun K hK => ?_); refine gT Try.func97 (spec_ReadVar.calls k M ae dQ dR true _ A2.out) ?_; rintro w9 hb; replace HK := Ek0 HK hb; replace HB := De1 HB (IsS101.gf l) hb; replace l := am (IsS101.below B30x0_ hb); refine hK.out _ _ D9x0_ (fun af => nm_ ?_); clear hK K; refine pu_ 9 6 j ?_; refine pu_ 10 16 j ?_; refine pu_ 11 17 j ?_; refine pu_ 12 18 j ?_; refine pu_ 13 3 j ?_; refine pu_ 14 4 j ?_; refine pu_ 15 5 j ?_; refine done_ (done_of j.out gk_) ?_; obtain ⟨a4, dI⟩ := l.out; have gP := cellS101_0 a4; have gQ := cellS101_1 a4; have gR := cellS101_2 a4; obtain ⟨gZ, g0, g1⟩ := fr3 a4; clear a4 dI
   try go_wp2
   go_ret; exact D9x2_
  ·obtain ⟨rfl, rfl, rfl, rfl⟩ := s4 Y; clear Y ac ad z; go_enter Try.func72, Try.ntmps72
   try go_wp2
   replace l := am (IsS101.drew l.out); replace HK := kdr HK; replace HB := bdr HB; refine st_ 16 (fun w' => w'.cell? ⟨g, 0, none⟩ = some (.string M) ∧ w'.cell? ⟨g, 1, none⟩ = some (.int .i64 ae) ∧ w'.cell? ⟨g, 2, none⟩ = some (.bool false)) [] spec_l16Var.tab1 spec_l16Var.bits1 D9x0_ (fun af j aw => ?_); generalize w.drew = d2 at l HK HB af ⊢; refine pu_ 0 7 j ?_; refine pu_ 1 8 j ?_; refine pu_ 2 9 j ?_; refine pu_ 4 11 j ?_; refine pu_ 5 12 j ?_; refine pu_ 6 13 j ?_; refine ta_ 3 10 j aw af ?_; refine ta_ 7 14 j aw af ?_; refine on_ 8 (some 15) j (fun K hK => ?_); refine gT Try.func97 (spec_ReadVar.calls k M ae dQ dR false _ A2.out) ?_; rintro eP hb; replace HK := Ek0 HK hb; replace HB := De1 HB (IsS101.gf l) hb; replace l := am (IsS101.below B30x0_ hb); refine hK.out _ _ D9x0_ (fun af => nm_ ?_); clear hK K; refine pu_ 9 6 j ?_; refine pu_ 10 16 j ?_; refine pu_ 11 17 j ?_; refine pu_ 12 18 j ?_; refine pu_ 13 3 j ?_; refine pu_ 14 4 j ?_; refine pu_ 15 5 j ?_; refine done_ (done_of j.out gk_) ?_; obtain ⟨aA, cr⟩ := l.out; have eS := cellS101_0 aA; have eT := cellS101_1 aA; have eU := cellS101_2 aA; obtain ⟨e1, e2, e3⟩ := fr3 aA; clear aA cr
   try go_wp2
   go_ret; exact D9x2_

def spec_ReadShort.f (k : Nat) (U : ByteArray) (Z : Int) : Option (ByteArray × Int × Bool) := (spec_ReadVar.f k U Z).bind fun aJ => (if aJ.2.2 = true then (if aJ.1 > 20000 then (some ((⟨#[]⟩ : ByteArray), 0, false)) else (if aJ.1 > (wrap64 ((U.size : Int) - aJ.2.1)) then (some ((⟨#[]⟩ : ByteArray), 0, false)) else (if 0 ≤ aJ.2.1 then (if aJ.2.1 ≤ (wrap64 (aJ.2.1 + aJ.1)) then (if (wrap64 (aJ.2.1 + aJ.1)) ≤ (U.size : Int) then (some (U.extract (aJ.2.1 : Int).toNat ((wrap64 (aJ.2.1 + aJ.1)) : Int).toNat, wrap64 (aJ.2.1 + aJ.1), true)) else (none)) else (none)) else (none)))) else (some ((⟨#[]⟩ : ByteArray), 0, false)))
theorem spec_ReadShort.calls (k : Nat) (U : ByteArray) (Z : Int) (r1 : ByteArray) (r2 : Int) (r3 : Bool) (w : World) (h : spec_ReadShort.f k U Z = some (r1, r2, r3)) :
  Calls Try.prog 98 #[.string U, .int .i64 Z] w fun e w' => e = .returned (.tuple #[.string r1, .int .i64 r2, .bool r3]) ∧ Below w.heap.size w w' := by
 have HB := am (Below.refl w.heap.size w)
 have ac := h
 clear h
 unfold spec_ReadShort.f at ac
 obtain ⟨⟨bJ, b8, ix⟩, A3, ad⟩ := bsi ac
 (try dsimp only at ad)
 obtain ⟨rfl, z⟩ | ⟨rfl, z⟩ := sb ad
 ·obtain ⟨c5, Y⟩ | ⟨c5, Y⟩ := sp z
  ·have fK : decide (20000 < bJ) = true := decide_eq_true c5
   clear c5; obtain ⟨rfl, rfl, rfl⟩ := s3 Y; clear Y ac ad z; go_enter Try.func98, Try.ntmps98
   go_wp2_with (first | ((with_reducible refine gate_callee (f := 97) rfl ?_); refine gM (some 13) Try.func97 (spec_ReadVar.calls k U Z bJ b8 true _ A3.out) ?_; rintro w6 hb; replace HB := hA HB hb))
   go_ret3
   exact ⟨B28x6_, (Ae0 HB)⟩
  have fK : decide (20000 < bJ) = false := decide_eq_false c5
  clear c5
  obtain ⟨c7, ai⟩ | ⟨c7, ai⟩ := sp Y
  ·have dG : decide ((wrap64 ((U.size : Int) - b8)) < bJ) = true := decide_eq_true c7
   clear c7; obtain ⟨rfl, rfl, rfl⟩ := s3 ai; clear ai ac ad z Y; go_enter Try.func98, Try.ntmps98
   go_wp2_with (first | ((with_reducible refine gate_callee (f := 97) rfl ?_); refine gM (some 13) Try.func97 (spec_ReadVar.calls k U Z bJ b8 true _ A3.out) ?_; rintro w8 hb; replace HB := hA HB hb))
   go_ret3
   exact ⟨B28x6_, (Ae0 HB)⟩
  have dG : decide ((wrap64 ((U.size : Int) - b8)) < bJ) = false := decide_eq_false c7
  clear c7; obtain ⟨db, dH, ag⟩ := ye ai; obtain ⟨c10, ao⟩ := yn ag; have g9 := eq_true c10; have ha := decide_eq_true c10; obtain ⟨eh, aI⟩ := yn ao; have bV := eq_true eh; have fD := decide_eq_true eh; obtain ⟨rfl, rfl, rfl⟩ := s3 aI; clear aI ac ad z Y ai ag ao; go_enter Try.func98, Try.ntmps98
  go_wp2_with (first | ((with_reducible refine gate_callee (f := 97) rfl ?_); refine gM (some 13) Try.func97 (spec_ReadVar.calls k U Z bJ b8 true _ A3.out) ?_; rintro eP hb; replace HB := hA HB hb))
  go_ret3
  exact ⟨B28x6_, (Ae0 HB)⟩
 obtain ⟨rfl, rfl, rfl⟩ := s3 z
 clear z ac ad
 go_enter Try.func98, Try.ntmps98
 go_wp2_with (first | ((with_reducible refine gate_callee (f := 97) rfl ?_); refine gM (some 13) Try.func97 (spec_ReadVar.calls k U Z bJ b8 false _ A3.out) ?_; rintro gB hb; replace HB := hA HB hb))
 go_ret3
 exact ⟨B28x6_, (Ae0 HB)⟩
def spec_l16ReadShort.f (k : Nat) (M : ByteArray) (ae : Int) (ap : Bool) : Option (ByteArray × ByteArray × Int × Bool) := (spec_ReadShort.f k M ae).bind fun dD => (if ap = true then (some ((⟨#[]⟩ : ByteArray), M, ae, true)) else (if dD.2.2 = true then (some (dD.1, M, dD.2.1, ap)) else (some ((⟨#[]⟩ : ByteArray), M, ae, true))))
def spec_l16ReadShort.T1 : Bool × List (List Nat × List Nat) := (true, [([], []), ([0], [0]), ([1], [1]), ([2], [2]), ([], []), ([4], [4]), ([5], [5]), ([6], [6]), ([3, 7], [3, 7]), ([8], [8]), ([9], [9]), ([9], [9]), ([9], [9]), ([10, 8, 0, 1, 2, 3, 4, 5, 6, 7, 8, 9, 10], [10]), ([11, 13, 0, 1, 2, 3, 4, 5, 6, 7, 8, 9, 10, 11, 13], [11]), ([12, 14, 0, 1, 2, 3, 4, 5, 6, 7, 8, 9, 10, 11, 12, 13, 14], [12])])
def spec_l16ReadShort.B1 : List Nat := [0, 1, 3, 7, 0, 16, 48, 112, 255, 511, 1023, 1023, 1023, 2047, 12287, 32767]
theorem spec_l16ReadShort.tab1 : rtab .any (opsOf Try.f73 1) = spec_l16ReadShort.T1 := by kernel_rfl
theorem spec_l16ReadShort.bits1 : waitsOk spec_l16ReadShort.T1.2 spec_l16ReadShort.B1 = true := by kernel_rfl
theorem spec_l16ReadShort.calls (k : Nat) (g : Nat) (M : ByteArray) (ae : Int) (ap : Bool) (r1 : ByteArray) (r2 : ByteArray) (r3 : Int) (r4 : Bool) (w0 w : World) (hI : IsS101 w0 w g M ae ap) (hB : Below w0.heap.size w0 w) (h : spec_l16ReadShort.f k M ae ap = some (r1, r2, r3, r4)) :
  Calls Try.prog 73 #[.pointer (some ⟨g, 0, none⟩)] w fun e w' => e = .returned (.string r1) ∧ IsS101 w0 w' g r2 r3 r4 ∧ Below w0.heap.size w0 w' ∧ KeepBut w w' g none := by
 have l := am hI
 have HK := am (KeepBut.refl w g none)
 have HL := am hB.size
 clear hI
 have du := am hB.size
 have HB := am hB
 clear hB
 have ac := h
 clear h
 unfold spec_l16ReadShort.f at ac
 obtain ⟨⟨dS, dT, gq⟩, A2, ad⟩ := bsi ac
 (try dsimp only at ad)
 obtain ⟨rfl, z⟩ | ⟨rfl, z⟩ := sb ad
 ·obtain ⟨rfl, rfl, rfl, rfl⟩ := s4 z; clear z ac ad; go_enter Try.func73, Try.ntmps73
  try go_wp2
  replace l := am (IsS101.drew l.out); replace HK := kdr HK; replace HB := bdr HB; refine st_ 16 (fun w' => w'.cell? ⟨g, 0, none⟩ = some (.string M) ∧ w'.cell? ⟨g, 1, none⟩ = some (.int .i64 ae) ∧ w'.cell? ⟨g, 2, none⟩ = some (.bool true)) [] spec_l16ReadShort.tab1 spec_l16ReadShort.bits1 D9x0_ (fun af j aw => ?_); generalize w.drew = w4 at l HK HB af ⊢; refine pu_ 0 7 j ?_; refine pu_ 1 8 j ?_; refine pu_ 2 9 j ?_; refine pu_ 4 11 j ?_; refine pu_ 5 12 j ?_; refine pu_ 6 13 j ?_; refine ta_ 3 10 j aw af ?_; refine ta_ 7 14 j aw af ?_; refine on_ 8 (some 15) j (fun K hK => ?_); refine gT Try.func98 (spec_ReadShort.calls k M ae dS dT gq _ A2.out) ?_; rintro w5 hb; replace HK := Ek0 HK hb; replace HB := De1 HB (IsS101.gf l) hb; replace l := am (IsS101.below B30x0_ hb); refine hK.out _ _ D9x0_ (fun af => nm_ ?_); clear hK K; refine pu_ 9 6 j ?_; refine pu_ 10 16 j ?_; refine pu_ 11 17 j ?_; refine pu_ 12 18 j ?_; refine pu_ 13 3 j ?_; refine pu_ 14 4 j ?_; refine pu_ 15 5 j ?_; refine done_ (done_of j.out gk_) ?_; obtain ⟨a5, dJ⟩ := l.out; have gW := cellS101_0 a5; have gX := cellS101_1 a5; have gY := cellS101_2 a5; obtain ⟨g4, g5, g6⟩ := fr3 a5; clear a5 dJ
  try go_wp2
  go_ret; exact D9x2_
 obtain ⟨rfl, Y⟩ | ⟨rfl, Y⟩ := sb z
 ·obtain ⟨rfl, rfl, rfl, rfl⟩ := s4 Y; clear Y ac ad z; go_enter Try.func73, Try.ntmps73
  try go_wp2
  replace l := am (IsS101.drew l.out); replace HK := kdr HK; replace HB := bdr HB; refine st_ 16 (fun w' => w'.cell? ⟨g, 0, none⟩ = some (.string M) ∧ w'.cell? ⟨g, 1, none⟩ = some (.int .i64 ae) ∧ w'.cell? ⟨g, 2, none⟩ = some (.bool false)) [] spec_l16ReadShort.tab1 spec_l16ReadShort.bits1 D9x0_ (fun af j aw => ?_); generalize w.drew = w8 at l HK HB af ⊢; refine pu_ 0 7 j ?_; refine pu_ 1 8 j ?_; refine pu_ 2 9 j ?_; refine pu_ 4 11 j ?_; refine pu_ 5 12 j ?_; refine pu_ 6 13 j ?_; refine ta_ 3 10 j aw af ?_; refine ta_ 7 14 j aw af ?_; refine on_ 8 (some 15) j (fun K hK => ?_); refine gT Try.func98 (spec_ReadShort.calls k M ae dS dT true _ A2.out) ?_; rintro w9 hb; replace HK := Ek0 HK hb; replace HB := De1 HB (IsS101.gf l) hb; replace l := am (IsS101.below B30x0_ hb); refine hK.out _ _ D9x0_ (fun af => nm_ ?_); clear hK K; refine pu_ 9 6 j ?_; refine pu_ 10 16 j ?_; refine pu_ 11 17 j ?_; refine pu_ 12 18 j ?_; refine pu_ 13 3 j ?_; refine pu_ 14 4 j ?_; refine pu_ 15 5 j ?_; refine done_ (done_of j.out gk_) ?_; obtain ⟨a4, dI⟩ := l.out; have gP := cellS101_0 a4; have gQ := cellS101_1 a4; have gR := cellS101_2 a4; obtain ⟨gZ, g0, g1⟩ := fr3 a4; clear a4 dI
  try go_wp2
  go_ret; exact D9x2_
 obtain ⟨rfl, rfl, rfl, rfl⟩ := s4 Y
 clear Y ac ad z
 go_enter Try.func73, Try.ntmps73
 try go_wp2
 replace l := am (IsS101.drew l.out)
 replace HK := kdr HK
 replace HB := bdr HB
 refine st_ 16 (fun w' => w'.cell? ⟨g, 0, none⟩ = some (.string M) ∧ w'.cell? ⟨g, 1, none⟩ = some (.int .i64 ae) ∧ w'.cell? ⟨g, 2, none⟩ = some (.bool false)) [] spec_l16ReadShort.tab1 spec_l16ReadShort.bits1 D9x0_ (fun af j aw => ?_)
 generalize w.drew = d2 at l HK HB af ⊢
 refine pu_ 0 7 j ?_
 refine pu_ 1 8 j ?_
 refine pu_ 2 9 j ?_
 refine pu_ 4 11 j ?_
 refine pu_ 5 12 j ?_
 refine pu_ 6 13 j ?_
 refine ta_ 3 10 j aw af ?_
 refine ta_ 7 14 j aw af ?_
 refine on_ 8 (some 15) j (fun K hK => ?_)
 refine gT Try.func98 (spec_ReadShort.calls k M ae dS dT false _ A2.out) ?_
 rintro eP hb
 replace HK := Ek0 HK hb
 replace HB := De1 HB (IsS101.gf l) hb
 replace l := am (IsS101.below B30x0_ hb)
 (try clear hb)
 (try clear fX)
 (try clear hk)
 (try clear hi)
 (try clear hl)
 refine hK.out _ _ D9x0_ (fun af => nm_ ?_)
 clear hK K
 refine pu_ 9 6 j ?_
 refine pu_ 10 16 j ?_
 refine pu_ 11 17 j ?_
 refine pu_ 12 18 j ?_
 refine pu_ 13 3 j ?_
 refine pu_ 14 4 j ?_
 refine pu_ 15 5 j ?_
 refine done_ (done_of j.out gk_) ?_
 obtain ⟨aA, cr⟩ := l.out
 have eS := cellS101_0 aA
 have eT := cellS101_1 aA
 have eU := cellS101_2 aA
 obtain ⟨e1, e2, e3⟩ := fr3 aA
 clear aA cr
 try go_wp2
 go_ret
 exact D9x2_
theorem B32x0_ (h : p := by repeat (first | (with_reducible first | exact D.out | apply IsS101.alloc | apply IsS101.drewN | apply IsS101.drew | apply IsS101.set_0 | apply IsS101.set_1 | apply IsS101.set_2 | refine IsS101.far ?_ dv.out _ | refine IsS101.far ?_ bF.out _) | exact D.out)) : p := h
theorem B32x2_ (h : p := by repeat (first | (with_reducible first | exact D.out | apply IsS101.alloc | apply IsS101.drewN | apply IsS101.drew | apply IsS101.set_0 | apply IsS101.set_1 | apply IsS101.set_2 | refine IsS101.far ?_ dv.out _ | refine IsS101.far ?_ bF.out _ | refine IsS101.far ?_ dx.out _) | exact D.out)) : p := h
theorem B32x4_ (h : p := by repeat (first | (with_reducible first | exact D.out | apply IsS101.alloc | apply IsS101.drewN | apply IsS101.drew | apply IsS101.set_0 | apply IsS101.set_1 | apply IsS101.set_2 | refine IsS101.far ?_ dv.out _ | refine IsS101.far ?_ bF.out _ | refine IsS101.far ?_ dw.out _) | exact D.out)) : p := h
theorem B32x22_ (h : p := by have := bh.out; have := b0.out; have := cI.out; have := dt.out; first | omega | exact Nat.le_refl _) : p := h
theorem B32x24_ (h : p := by have := bh.out; have := b0.out; have := cI.out; first | omega | exact Nat.le_refl _) : p := h
mutual
def spec_ReadKeep.l0 : Nat → ByteArray → Int → Int → ByteArray → Int → Bool → List (S83) → Option ((List (S83)) × (List (S81)) × Bool)
 | 0, _, _, _, _, _, _, _ => none
 | k + 1, x0, x6, x7, aZ, a2, aK, ay => if x7 < x6 then (if x7 < 50 then (spec_ReadKeep.j1 k x0 x6 x7 (!aK) aZ a2 aK ay) else (spec_ReadKeep.j1 k x0 x6 x7 false aZ a2 aK ay)) else (spec_ReadKeep.j1 k x0 x6 x7 false aZ a2 aK ay)
def spec_ReadKeep.j1 : Nat → ByteArray → Int → Int → Bool → ByteArray → Int → Bool → List (S83) → Option ((List (S83)) × (List (S81)) × Bool)
 | 0, _, _, _, _, _, _, _, _ => none
 | k + 1, x0, x6, x7, gI, aZ, a2, aK, ay => if gI = true then ((spec_l16Var.f k aZ a2 aK).bind fun cR => ((spec_l16Var.f k cR.2.1 cR.2.2.1 cR.2.2.2).bind fun cS => ((spec_l16ReadShort.f k cS.2.1 cS.2.2.1 cS.2.2.2).bind fun cT => (if ay.length < 4398046511104 then (spec_ReadKeep.l0 k x0 x6 (wrap64 (x7 + 1)) cT.2.1 cT.2.2.1 cT.2.2.2 (ay ++ [(⟨cR.1, cS.1, cT.1⟩ : S83)])) else (none))))) else ((spec_l16Var.f k aZ a2 aK).bind fun cU => (spec_ReadKeep.l1 k x0 cU.1 0 cU.2.1 cU.2.2.1 cU.2.2.2 ay ([] : List (S81))))
def spec_ReadKeep.l1 : Nat → ByteArray → Int → Int → ByteArray → Int → Bool → List (S83) → List (S81) → Option ((List (S83)) × (List (S81)) × Bool)
 | 0, _, _, _, _, _, _, _, _ => none
 | k + 1, x0, x6, x9, aZ, a2, aK, ay, a3 => if x9 < x6 then (if x9 < 50 then (spec_ReadKeep.j3 k x0 x6 x9 (!aK) aZ a2 aK ay a3) else (spec_ReadKeep.j3 k x0 x6 x9 false aZ a2 aK ay a3)) else (spec_ReadKeep.j3 k x0 x6 x9 false aZ a2 aK ay a3)
def spec_ReadKeep.j3 : Nat → ByteArray → Int → Int → Bool → ByteArray → Int → Bool → List (S83) → List (S81) → Option ((List (S83)) × (List (S81)) × Bool)
 | 0, _, _, _, _, _, _, _, _, _ => none
 | k + 1, x0, x6, x9, gJ, aZ, a2, aK, ay, a3 => if gJ = true then ((spec_l16ReadShort.f k aZ a2 aK).bind fun cV => ((spec_l16ReadShort.f k cV.2.1 cV.2.2.1 cV.2.2.2).bind fun cW => ((spec_l16Var.f k cW.2.1 cW.2.2.1 cW.2.2.2).bind fun cX => (if a3.length < 3518437208883 then (spec_ReadKeep.l1 k x0 x6 (wrap64 (x9 + 1)) cX.2.1 cX.2.2.1 cX.2.2.2 ay (a3 ++ [(⟨cV.1, cW.1, cX.1⟩ : S81)])) else (none))))) else ((spec_KeepText.f k ay a3).bind fun eg => (if aK = true then (spec_ReadKeep.j4 k true ay a3) else (if eg.2 = true then (spec_ReadKeep.j4 k (eg.1.toList != x0.toList) ay a3) else (spec_ReadKeep.j4 k true ay a3))))
def spec_ReadKeep.j4 : Nat → Bool → List (S83) → List (S81) → Option ((List (S83)) × (List (S81)) × Bool)
 | 0, _, _, _ => none
 | k + 1, gF, ay, a3 => if gF = true then (some (([] : List (S83)), ([] : List (S81)), false)) else (some (ay, a3, true))
end
def spec_ReadKeep.f (k : Nat) (U : ByteArray) : Option ((List (S83)) × (List (S81)) × Bool) := (spec_l16Var.f k U 0 false).bind fun cQ => (spec_ReadKeep.l0 k U cQ.1 0 cQ.2.1 cQ.2.2.1 cQ.2.2.2 ([] : List (S83)))
theorem spec_ReadKeep.calls (k : Nat) (U : ByteArray) (r1 : List (S83)) (r2 : List (S81)) (r3 : Bool) (w : World) (h : spec_ReadKeep.f k U = some (r1, r2, r3)) :
  Calls Try.prog 30 #[.string U] w fun e w' => ∃ eN eO : Value, e = .returned (.tuple #[.agg #[eN, eO], .bool r3]) ∧ Kd.R k83 83 w' w.heap.size (fun _ => True) eN r1 ∧ Kd.R k81 81 w' w.heap.size (fun _ => True) eO r2 ∧ Below w.heap.size w w' := by
 have ir := Try.underlying47
 have iq := Try.underlying101
 have iv := Try.underlying83
 have iu := Try.underlying81
 have HB := am (Below.refl w.heap.size w)
 have ac := h
 clear h
 unfold spec_ReadKeep.f at ac
 obtain ⟨⟨dU, ez, eB, eC⟩, A2, ad⟩ := bsi ac
 (try dsimp only at ad)
 replace ad := am ad
 clear ac
 go_enter Try.func30, Try.ntmps30
 go_wp2_with (first | ((with_reducible refine gate_dst (N := 2) rfl ?_); refine bx (N := 2) (cs := #[.slice none 0 0, .slice none 0 0]) (t := 47) ?_; intro aQ hg w3 hbox hb; have B := am hbox; have aj := gA hg HB; replace HB := hA HB hb; clear hb hbox hg) | ((with_reducible refine gate_dst (N := 15) rfl ?_); refine bx (N := 15) (cs := #[.string U, .int .i64 0, .bool false]) (t := 101) ?_; intro av hg w4 hbox hb; have ce := am hbox; have ds := gA hg HB; replace HB := De1 HB aj hb; have bE := nA hg B; have dv := mA hg B; replace B := bA B hb; clear hb hbox hg) | ((with_reducible refine gate_dst (N := 5) rfl ?_); refine bx (N := 5) (cs := #[.slice none 0 0, .slice none 0 0]) (t := 47) ?_; intro aY hg w5 hbox hb; have J := am hbox; have ak := gA hg HB; replace HB := De2 HB aj ds hb; have br := nA hg B; have b3 := mA hg B; replace B := bA B hb; have bF := nA hg ce; have aX := mA hg ce; replace ce := bA ce hb; clear hb hbox hg; have h1 := b3.out; have ij := br.out; have h4 := aX.out; have im := bF.out; obtain ⟨b9, ca, cc, cd⟩ := cf2 J) | ((with_reducible refine gate_callee (f := 72) rfl ?_); refine gL (some 18) Try.func72 #[.pointer (some ⟨av, 0, none⟩)] ?_; (with_reducible refine (spec_l16Var.calls k av U 0 false dU ez eB eC w _ ?z1 ?z2 A2.out).mono ?_); (case z1 => exact ⟨(Ap1 ce bF), ds.out⟩); (case z2 => repeat (first | (with_reducible first | exact HB.out | apply below_alloc | apply pw_below_drewN | apply below_drew1 | refine below_set ?_ aj.out | refine below_set ?_ ds.out | refine below_set ?_ ak.out) | exact HB.out)); rintro e w9 ⟨rfl, hi, hb, hk⟩; refine ⟨_, rfl, ?_⟩; replace B := am (KeepBut.blk hk (g' := aQ) (o := .cells #[.slice none 0 0, .slice none 0 0] 47 (0, 0)) (Ap1 B br) bE.out (by simp)); replace J := am (KeepBut.blk hk (g' := aY) (o := .cells #[.slice none 0 0, .slice none 0 0] 47 (0, 0)) (Ap0 J) aX.out (by simp)); replace HB := am hb; have D := am hi))
 go_loopg [7] k (fun kq v7 w' => ∃ (aM : Int) (bz : ByteArray) (bB : Int) (bo : Bool) (az : List (S83)) (aG : Value), v7 = .int .i64 aM ∧ Aside0 (spec_ReadKeep.l0 kq U dU aM bz bB bo az = some (r1, r2, r3)) ∧ Aside0 (kq ≤ k) ∧ Aside0 (Kd.R k83 83 w' w.heap.size (fun _ => True) aG az) ∧ Aside0 (w'.heap[aQ]? = some (.cells #[(.slice none 0 0), (.slice none 0 0)] 47 (0, 0))) ∧ Aside0 (w'.heap[aY]? = some (.cells #[aG, (.slice none 0 0)] 47 (0, 0))) ∧ Aside0 (IsS101 w w' av bz bB bo) ∧ Aside0 (Below w.heap.size w w'))
 case atStart => exact ⟨(0), ez, eB, eC, (([] : List (S83))), (.slice none 0 0), be_, ad, ⟨Nat.le_refl _⟩, ⟨gn_⟩, D9x1_⟩
 case round =>
  clear ad; obtain ⟨aM, bz, bB, bo, az, aG, rfl, z, bh, aa, B, J, D, HB⟩ := hrel
  cases gk with
  | zero => exact absurd z.out (by simp [spec_ReadKeep.l0])
  | succ k1 => ?_
  replace z := z.out; simp only [spec_ReadKeep.l0] at z; replace z := am z
  go_upto_region 5 with (fail)
  go_cut [32] (fun gw wc => ∃ (kq : Nat) (d6 : Bool), gw = .bool d6 ∧ Aside0 (spec_ReadKeep.j1 kq U dU aM d6 bz bB bo az = some (r1, r2, r3)) ∧ Aside0 (kq ≤ k1) ∧ Aside0 (Kd.R k83 83 wc w.heap.size (fun _ => True) aG az) ∧ Hc wc aQ #[(.slice none 0 0), (.slice none 0 0)] 47 ∧ Hc wc aY #[aG, (.slice none 0 0)] 47 ∧ Aside0 (IsS101 w wc av bz bB bo) ∧ Hb w wc)
  case first =>
   replace z := z.out
   obtain ⟨bV, Y⟩ | ⟨bV, Y⟩ := sd z
   ·(first | rw [bV] | (simp only [i64_w, i32_w]; rw [bV]) | skip)
    obtain ⟨cY, ai⟩ | ⟨cY, ai⟩ := sd Y
    ·replace ai := am ai; clear z Y; obtain ⟨aA, cr⟩ := D.out; have eS := cellS101_0 aA; have eT := cellS101_1 aA; have eU := cellS101_2 aA; obtain ⟨e1, e2, e3⟩ := fr3 aA; clear aA cr
     go_wp2
     go_meet
     case rel => exact ⟨_, (!bo), be_, ai, ⟨B29x5_⟩, Cr aa, D9x1_⟩
    replace ai := am ai; clear z Y
    go_wp2
    go_meet
    case rel => exact ⟨_, false, be_, ai, ⟨B29x5_⟩, Cr aa, D9x1_⟩
   (first | rw [bV] | (simp only [i64_w, i32_w]; rw [bV]) | skip)
   replace Y := am Y; clear z
   go_wp2
   go_meet
   case rel => exact ⟨_, false, be_, Y, ⟨B29x5_⟩, Cr aa, D9x1_⟩
  clear z; obtain ⟨kq, d6, rfl, ag, b0, aa, B, J, D, HB⟩ := hcut
  cases kq with
  | zero => exact absurd ag.out (by simp [spec_ReadKeep.j1])
  | succ bX => ?_
  replace ag := ag.out; simp only [spec_ReadKeep.j1] at ag
  obtain ⟨rfl, ao⟩ | ⟨rfl, ao⟩ := sb ag
  ·obtain ⟨⟨bl, dV, dW, dX⟩, cF, aI⟩ := bsi ao; (try dsimp only at aI); obtain ⟨⟨bu, dY, dZ, d0⟩, fb, aW⟩ := bsi aI; (try dsimp only at aW); obtain ⟨⟨bK, eD, eE, eF⟩, fc, ax⟩ := bsi aW; (try dsimp only at ax); obtain ⟨fq, ar⟩ := ya ax; obtain ⟨eQ, cw⟩ : ∃ y_ : List (S83), y_ = (az ++ [(⟨bl, bu, bK⟩ : S83)]) := ⟨_, rfl⟩
   (first | with_reducible replace ar := hq cw ar | rw [← cw] at ar | simp only [← cw] at ar)
   have fz := am cw; clear cw; replace ar := am ar; clear ag ao aI aW ax
   go_wp2_with (first | ((with_reducible refine gate_callee (f := 72) rfl ?_); refine gM (some 36) Try.func72 (spec_l16Var.calls bX av bz bB bo bl dV dW dX w _ B32x0_ (Ae3 HB (IsS101.gf D) aj ak) cF.out) ?_; rintro iF ⟨hi, hb, hk⟩; replace aa := am (Kd.R_mono (Kd.R_keep (IsS101.apart (show IsS101 w _ av bz bB bo from B32x0_) (Ar aa) (by decide)) hk (fun _ h => h.2)) (fun _ h => h.1)); replace B := kA hk B bE; replace J := kA hk J aX; replace HB := am hb; replace D := am hi) | ((with_reducible refine gate_dst (N := 8) rfl ?_); refine bx (N := 8) (cs := #[.int .i64 0, .int .i64 0, .string (⟨#[]⟩ : ByteArray)]) (t := 83) ?_; intro aR hg gD hbox hb; replace aa := am (Kd.R_below (Kd.R_elderB (Ar aa) aR (Nat.le_of_eq hg.symm)) hb); have be := am hbox; have cf := gA hg HB; replace HB := De3 HB (IsS101.gf D) aj ak hb; have cJ := nA hg B; have fu := mA hg B; replace B := bA B hb; have cL := nA hg J; have fv := mA hg J; replace J := bA J hb; have dw := am (nl hg (IsS101.lt D.out)); have dy := am (ng hg (IsS101.lt D.out)); replace D := am (IsS101.below B32x0_ hb); clear hb hbox hg; have hR := fu.out; have h7 := cJ.out; have hS := fv.out; have h8 := cL.out; have hT := dy.out; have h9 := dw.out; obtain ⟨eV, eW, eX, e4, e5, e6⟩ := cf3 be) | ((with_reducible refine gate_callee (f := 72) rfl ?_); refine gM (some 39) Try.func72 (spec_l16Var.calls bX av dV dW dX bu dY dZ d0 w _ B32x4_ (Ae4 HB (IsS101.gf D) aj ak cf) fb.out) ?_; rintro iJ ⟨hi, hb, hk⟩; replace aa := am (Kd.R_mono (Kd.R_keep (IsS101.apart (show IsS101 w _ av dV dW dX from B32x4_) (by (with_reducible repeat (first | apply Kd.R_alloc | apply Kd.R_drewN | apply Kd.R_drew)); exact (Kd.R_mono (Kd.R_far (p := ⟨aR, 2, none⟩) (Kd.R_far (p := ⟨aR, 1, none⟩) (Kd.R_far (p := ⟨aR, 0, none⟩) (Kd.R_mono aa.out (fun k_ hk => (⟨hk, hk.2⟩ : _ ∧ k_ ≠ aR))) (fun _ hk => hk.2) (.int .i64 bl)) (fun _ hk => hk.2) (.int .i64 0)) (fun _ hk => hk.2) (.string (⟨#[]⟩ : ByteArray))) (fun _ h_ => h_.1))) (by decide)) hk (fun _ h => h.2)) (fun _ h => h.1)); replace B := am (KeepBut.blk hk (g' := aQ) (o := .cells #[.slice none 0 0, .slice none 0 0] 47 (0, 0)) (Ap1 B cJ) bE.out (by simp)); replace J := am (KeepBut.blk hk (g' := aY) (o := .cells #[aG, .slice none 0 0] 47 (0, 0)) (Ap1 J cL) aX.out (by simp)); replace be := am (KeepBut.blk hk (g' := aR) (o := .cells #[.int .i64 bl, .int .i64 0, .string (⟨#[]⟩ : ByteArray)] 83 (0, 0)) (Ap0 be) dy.out (by simp)); replace HB := am hb; replace D := am hi; obtain ⟨eV, eW, eX, e4, e5, e6⟩ := cf3 be) | ((with_reducible refine gate_callee (f := 73) rfl ?_); refine gM (some 42) Try.func73 (spec_l16ReadShort.calls bX av dY dZ d0 bK eD eE eF w _ B32x4_ (Ae4 HB (IsS101.gf D) aj ak cf) fc.out) ?_; rintro iK ⟨hi, hb, hk⟩; replace aa := am (Kd.R_mono (Kd.R_keep (IsS101.apart (show IsS101 w _ av dY dZ d0 from B32x4_) (by (with_reducible repeat (first | apply Kd.R_alloc | apply Kd.R_drewN | apply Kd.R_drew)); exact (Kd.R_mono (Kd.R_far (p := ⟨aR, 1, none⟩) (Kd.R_mono aa.out (fun k_ hk => (⟨hk, hk.2⟩ : _ ∧ k_ ≠ aR))) (fun _ hk => hk.2) (.int .i64 bu)) (fun _ h_ => h_.1))) (by decide)) hk (fun _ h => h.2)) (fun _ h => h.1)); replace B := am (KeepBut.blk hk (g' := aQ) (o := .cells #[.slice none 0 0, .slice none 0 0] 47 (0, 0)) (Ap1 B cJ) bE.out (by simp)); replace J := am (KeepBut.blk hk (g' := aY) (o := .cells #[aG, .slice none 0 0] 47 (0, 0)) (Ap1 J cL) aX.out (by simp)); replace be := am (KeepBut.blk hk (g' := aR) (o := .cells #[.int .i64 bl, .int .i64 bu, .string (⟨#[]⟩ : ByteArray)] 83 (0, 0)) (Ap0 be) dy.out (by simp)); replace HB := am hb; replace D := am hi; obtain ⟨eV, eW, eX, e4, e5, e6⟩ := cf3 be; have hU := b3.out; have ia := br.out; have hV := aX.out; have ib := bF.out; obtain ⟨b9, ca, cc, cd⟩ := cf2 J) | ((with_reducible refine gate_builtin (b := .append) (xs := #[.tmp 45, .tmp 47]) rfl ?_); at_builtin; refine Kd.R_append k83 (w0 := w) w.heap.size rfl (.tmp 45) (.tmp 47) 44 83 (.agg #[(.int .i64 0), (.int .i64 0), (.string ⟨#[]⟩)]) 32 rfl Try.underlying44 info83 rfl (by decide) (by omega) aG az (⟨bl, bu, bK⟩ : S83) [.int .i64 bl, .int .i64 bu, .string bK] (fun k_ => k_ ≠ aR) (fun _ => False) rfl gs_ ?aP (fun _ hk => hk.elim) ?aF ?aO ?aB ?aS ?aL ?_; (case aP => exact k83_mkM _ _ _ (⟨bl, bu, bK⟩ : S83)); (case aB => exact (Ae4 HB (IsS101.gf D) aj ak cf)); (case aF => exact (fun k_ hk => Kd.freshB (g := aR) (o := .cells #[.int .i64 bl, .int .i64 bu, .string bK] 83 (0, 0)) (Ap0 be) k_ hk)); (case aO => (with_reducible repeat (first | apply Kd.R_alloc | apply Kd.R_drewN | apply Kd.R_drew)); exact Kd.R_mono (Kd.R_far (p := ⟨aR, 2, none⟩) (Kd.R_mono aa.out (fun k_ hk => (⟨hk, hk.2⟩ : _ ∧ k_ ≠ aR))) (fun _ hk => hk.2) (.string bK)) (fun _ hk => hk.1.2)); (case aS => exact (below_size (Ae4 HB (IsS101.gf D) aj ak cf))); (case aL => have := fq.out; omega); intro iC iN ho hb hg hat; rw [← fz.out] at ho; replace B := am (blk_grown (g := aQ) (o := .cells #[.slice none 0 0, .slice none 0 0] 47 (0, 0)) (Ap1 B cJ) hg (Kd.R_ne aa.out B.out (by decide))); replace J := am (blk_grown (g := aY) (o := .cells #[aG, .slice none 0 0] 47 (0, 0)) (Ap1 J cL) hg (Kd.R_ne aa.out J.out (by decide))); replace D := am (IsS101.grown (IsS101.far D.out dw.out _) hg (IsS101.own_ne D.out aa.out (by decide))); replace be := am (blk_grown (g := aR) (o := .cells #[.int .i64 bl, .int .i64 bu, .string bK] 83 (0, 0)) (Ap0 be) hg (Kd.R_away aa.out (fun _ hk => hk.2))); replace HB := am hb; have ed := am ho; clear aa; clear ho hb hg hat; obtain ⟨fi, fN, fR⟩ := Kd.R_slice ed.out; subst fR; obtain ⟨b9, ca, cc, cd⟩ := cf2 J))
   go_roundg bX
   case measure => have := bh.out; have := b0.out; omega
   case rel => exact ⟨(wrap64 (aM + 1)), eD, eE, eF, eQ, (.slice fi eQ.length fN), be_, ar, ⟨(by have := bh.out; have := b0.out; omega)⟩, ⟨tfg ed.out J.out (by decide)⟩, Cp1 B br, Cp0 J, ⟨B32x4_⟩, Ce4 HB (IsS101.gf D) aj ak cf⟩
  obtain ⟨⟨d1, eG, eH, eI⟩, fd, aC⟩ := bsi ao; (try dsimp only at aC); replace aC := am aC; clear ag ao
  go_wp2_with (first | ((with_reducible refine gate_callee (f := 72) rfl ?_); refine gM (some 51) Try.func72 (spec_l16Var.calls bX av bz bB bo d1 eG eH eI w _ B32x0_ (Ae3 HB (IsS101.gf D) aj ak) fd.out) ?_; rintro iO ⟨hi, hb, hk⟩; replace aa := am (Kd.R_mono (Kd.R_keep (IsS101.apart (show IsS101 w _ av bz bB bo from B32x0_) (Ar aa) (by decide)) hk (fun _ h => h.2)) (fun _ h => h.1)); replace B := kA hk B bE; replace J := kA hk J aX; replace HB := am hb; replace D := am hi))
  go_loopg [9] bX (fun kq v9 w' => ∃ (cE : Int) (bN : ByteArray) (bO : Int) (bC : Bool) (aT : List (S81)) (bw : Value), v9 = .int .i64 cE ∧ Aside0 (spec_ReadKeep.l1 kq U d1 cE bN bO bC az aT = some (r1, r2, r3)) ∧ Aside0 (kq ≤ bX) ∧ Aside0 (Kd.R k83 83 w' w.heap.size (fun _ => True) aG az) ∧ Aside0 (Kd.R k81 81 w' w.heap.size (fun _ => True) bw aT) ∧ Aside0 (w'.heap[aQ]? = some (.cells #[(.slice none 0 0), (.slice none 0 0)] 47 (0, 0))) ∧ Aside0 (w'.heap[aY]? = some (.cells #[aG, bw] 47 (0, 0))) ∧ Aside0 (IsS101 w w' av bN bO bC) ∧ Aside0 (Below w.heap.size w w'))
  case atStart => exact ⟨(0), eG, eH, eI, (([] : List (S81))), (.slice none 0 0), be_, aC, ⟨Nat.le_refl _⟩, Cr aa, ⟨gn_⟩, D9x1_⟩
  case round =>
   clear aC
   try clear ei
   obtain ⟨cE, bN, bO, bC, aT, bw, rfl, au, cI, aa, al, B, J, D, HB⟩ := hrel
   cases gk with
   | zero => exact absurd au.out (by simp [spec_ReadKeep.l1])
   | succ k3 => ?_
   replace au := au.out; simp only [spec_ReadKeep.l1] at au; replace au := am au
   go_upto_region 13 with (fail)
   go_cut [65] (fun gx wc => ∃ (kq : Nat) (d7 : Bool), gx = .bool d7 ∧ Aside0 (spec_ReadKeep.j3 kq U d1 cE d7 bN bO bC az aT = some (r1, r2, r3)) ∧ Aside0 (kq ≤ k3) ∧ Aside0 (Kd.R k83 83 wc w.heap.size (fun _ => True) aG az) ∧ Aside0 (Kd.R k81 81 wc w.heap.size (fun _ => True) bw aT) ∧ Hc wc aQ #[(.slice none 0 0), (.slice none 0 0)] 47 ∧ Hc wc aY #[aG, bw] 47 ∧ Aside0 (IsS101 w wc av bN bO bC) ∧ Hb w wc)
   case first =>
    replace au := au.out
    obtain ⟨cp, aH⟩ | ⟨cp, aH⟩ := sd au
    ·(first | rw [cp] | (simp only [i64_w, i32_w]; rw [cp]) | skip)
     obtain ⟨fJ, aN⟩ | ⟨fJ, aN⟩ := sd aH
     ·replace aN := am aN; clear au aH; obtain ⟨ch, fY⟩ := D.out; have iV := cellS101_0 ch; have iW := cellS101_1 ch; have iX := cellS101_2 ch; obtain ⟨i7, i9, ja⟩ := fr3 ch; clear ch fY
      go_wp2
      go_meet
      case rel => exact ⟨_, (!bC), be_, aN, ⟨B32x24_⟩, Cr aa, Cr al, D9x1_⟩
     replace aN := am aN; clear au aH
     go_wp2
     go_meet
     case rel => exact ⟨_, false, be_, aN, ⟨B32x24_⟩, Cr aa, Cr al, D9x1_⟩
    (first | rw [cp] | (simp only [i64_w, i32_w]; rw [cp]) | skip)
    replace aH := am aH; clear au
    go_wp2
    go_meet
    case rel => exact ⟨_, false, be_, aH, ⟨B32x24_⟩, Cr aa, Cr al, D9x1_⟩
   clear au
   try clear ei
   obtain ⟨kq, d7, rfl, aE, dt, aa, al, B, J, D, HB⟩ := hcut
   cases kq with
   | zero => exact absurd aE.out (by simp [spec_ReadKeep.j3])
   | succ b7 => ?_
   replace aE := aE.out; simp only [spec_ReadKeep.j3] at aE
   obtain ⟨rfl, bq⟩ | ⟨rfl, bq⟩ := sb aE
   ·obtain ⟨⟨bm, dj, dk, dl⟩, fe, bD⟩ := bsi bq; (try dsimp only at bD); obtain ⟨⟨bn, dm, dn, dp⟩, ff, b1⟩ := bsi bD; (try dsimp only at b1); obtain ⟨⟨bv, eJ, eK, eL⟩, fg, b2⟩ := bsi b1; (try dsimp only at b2); obtain ⟨fs, bi⟩ := ya b2; obtain ⟨eR, cx⟩ : ∃ y_ : List (S81), y_ = (aT ++ [(⟨bm, bn, bv⟩ : S81)]) := ⟨_, rfl⟩
    (first | with_reducible replace bi := hq cx bi | rw [← cx] at bi | simp only [← cx] at bi)
    have fA := am cx; clear cx; replace bi := am bi; clear aE bq bD b1 b2
    go_wp2_with (first | ((with_reducible refine gate_callee (f := 73) rfl ?_); refine gM (some 69) Try.func73 (spec_l16ReadShort.calls b7 av bN bO bC bm dj dk dl w _ B32x0_ (Ae3 HB (IsS101.gf D) aj ak) fe.out) ?_; rintro iP ⟨hi, hb, hk⟩; replace aa := am (Kd.R_mono (Kd.R_keep (IsS101.apart (show IsS101 w _ av bN bO bC from B32x0_) (Ar aa) (by decide)) hk (fun _ h => h.2)) (fun _ h => h.1)); replace al := am (Kd.R_mono (Kd.R_keep (IsS101.apart (show IsS101 w _ av bN bO bC from B32x0_) (Ar al) (by decide)) hk (fun _ h => h.2)) (fun _ h => h.1)); replace B := kA hk B bE; replace J := kA hk J aX; replace HB := am hb; replace D := am hi) | ((with_reducible refine gate_dst (N := 10) rfl ?_); refine bx (N := 10) (cs := #[.string (⟨#[]⟩ : ByteArray), .string (⟨#[]⟩ : ByteArray), .int .i64 0]) (t := 81) ?_; intro aD hg iQ hbox hb; replace aa := rA aa hb; replace al := am (Kd.R_below (Kd.R_elderB (Ar al) aD (Nat.le_of_eq hg.symm)) hb); have aU := am hbox; have cg := gA hg HB; replace HB := De3 HB (IsS101.gf D) aj ak hb; have cK := nA hg B; have fw := mA hg B; replace B := bA B hb; have cM := nA hg J; have fx := mA hg J; replace J := bA J hb; have dx := am (nl hg (IsS101.lt D.out)); have dz := am (ng hg (IsS101.lt D.out)); replace D := am (IsS101.below B32x0_ hb); clear hb hbox hg; have hW := fw.out; have ic := cK.out; have hX := fx.out; have ie := cM.out; have hY := dz.out; have ig := dx.out; obtain ⟨eY, eZ, e0, e7, e8, e9⟩ := cf3 aU) | ((with_reducible refine gate_callee (f := 73) rfl ?_); refine gM (some 72) Try.func73 (spec_l16ReadShort.calls b7 av dj dk dl bn dm dn dp w _ B32x2_ (Ae4 HB (IsS101.gf D) aj ak cg) ff.out) ?_; rintro iR ⟨hi, hb, hk⟩; replace aa := am (Kd.R_mono (Kd.R_keep (IsS101.apart (show IsS101 w _ av dj dk dl from B32x2_) (tfr aa.out aU.out (by decide)) (by decide)) hk (fun _ h => h.2)) (fun _ h => h.1)); replace al := am (Kd.R_mono (Kd.R_keep (IsS101.apart (show IsS101 w _ av dj dk dl from B32x2_) (by (with_reducible repeat (first | apply Kd.R_alloc | apply Kd.R_drewN | apply Kd.R_drew)); exact (Kd.R_mono (Kd.R_far (p := ⟨aD, 2, none⟩) (Kd.R_far (p := ⟨aD, 1, none⟩) (Kd.R_far (p := ⟨aD, 0, none⟩) (Kd.R_mono al.out (fun k_ hk => (⟨hk, hk.2⟩ : _ ∧ k_ ≠ aD))) (fun _ hk => hk.2) (.string bm)) (fun _ hk => hk.2) (.string (⟨#[]⟩ : ByteArray))) (fun _ hk => hk.2) (.int .i64 0)) (fun _ h_ => h_.1))) (by decide)) hk (fun _ h => h.2)) (fun _ h => h.1)); replace B := am (KeepBut.blk hk (g' := aQ) (o := .cells #[.slice none 0 0, .slice none 0 0] 47 (0, 0)) (Ap1 B cK) bE.out (by simp)); replace J := am (KeepBut.blk hk (g' := aY) (o := .cells #[aG, bw] 47 (0, 0)) (Ap1 J cM) aX.out (by simp)); replace aU := am (KeepBut.blk hk (g' := aD) (o := .cells #[.string bm, .string (⟨#[]⟩ : ByteArray), .int .i64 0] 81 (0, 0)) (Ap0 aU) dz.out (by simp)); replace HB := am hb; replace D := am hi; obtain ⟨eY, eZ, e0, e7, e8, e9⟩ := cf3 aU) | ((with_reducible refine gate_callee (f := 72) rfl ?_); refine gM (some 75) Try.func72 (spec_l16Var.calls b7 av dm dn dp bv eJ eK eL w _ B32x2_ (Ae4 HB (IsS101.gf D) aj ak cg) fg.out) ?_; rintro iS ⟨hi, hb, hk⟩; replace aa := am (Kd.R_mono (Kd.R_keep (IsS101.apart (show IsS101 w _ av dm dn dp from B32x2_) (tr (Kd.R_mono (Kd.R_far (p := ⟨aD, 1, none⟩) (Kd.R_types aa.out aU.out (by decide)) (fun _ hk => hk.2) (.string bn)) (fun _ h_ => h_.1))) (by decide)) hk (fun _ h => h.2)) (fun _ h => h.1)); replace al := am (Kd.R_mono (Kd.R_keep (IsS101.apart (show IsS101 w _ av dm dn dp from B32x2_) (by (with_reducible repeat (first | apply Kd.R_alloc | apply Kd.R_drewN | apply Kd.R_drew)); exact (Kd.R_mono (Kd.R_far (p := ⟨aD, 1, none⟩) (Kd.R_mono al.out (fun k_ hk => (⟨hk, hk.2⟩ : _ ∧ k_ ≠ aD))) (fun _ hk => hk.2) (.string bn)) (fun _ h_ => h_.1))) (by decide)) hk (fun _ h => h.2)) (fun _ h => h.1)); replace B := am (KeepBut.blk hk (g' := aQ) (o := .cells #[.slice none 0 0, .slice none 0 0] 47 (0, 0)) (Ap1 B cK) bE.out (by simp)); replace J := am (KeepBut.blk hk (g' := aY) (o := .cells #[aG, bw] 47 (0, 0)) (Ap1 J cM) aX.out (by simp)); replace aU := am (KeepBut.blk hk (g' := aD) (o := .cells #[.string bm, .string bn, .int .i64 0] 81 (0, 0)) (Ap0 aU) dz.out (by simp)); replace HB := am hb; replace D := am hi; obtain ⟨eY, eZ, e0, e7, e8, e9⟩ := cf3 aU; have hZ := b3.out; have ih := br.out; have h0 := aX.out; have ii := bF.out; obtain ⟨b9, ca, cc, cd⟩ := cf2 J) | ((with_reducible refine gate_builtin (b := .append) (xs := #[.tmp 78, .tmp 80]) rfl ?_); at_builtin; refine Kd.R_append k81 (w0 := w) w.heap.size rfl (.tmp 78) (.tmp 80) 45 81 (.agg #[(.string ⟨#[]⟩), (.string ⟨#[]⟩), (.int .i64 0)]) 40 rfl Try.underlying45 info81 rfl (by decide) (by omega) bw aT (⟨bm, bn, bv⟩ : S81) [.string bm, .string bn, .int .i64 bv] (fun k_ => k_ ≠ aD) (fun _ => False) rfl gs_ ?aP (fun _ hk => hk.elim) ?aF ?aO ?aB ?aS ?aL ?_; (case aP => exact k81_mkM _ _ _ (⟨bm, bn, bv⟩ : S81)); (case aB => exact (Ae4 HB (IsS101.gf D) aj ak cg)); (case aF => exact (fun k_ hk => Kd.freshB (g := aD) (o := .cells #[.string bm, .string bn, .int .i64 bv] 81 (0, 0)) (Ap0 aU) k_ hk)); (case aO => (with_reducible repeat (first | apply Kd.R_alloc | apply Kd.R_drewN | apply Kd.R_drew)); exact Kd.R_mono (Kd.R_far (p := ⟨aD, 2, none⟩) (Kd.R_mono al.out (fun k_ hk => (⟨hk, hk.2⟩ : _ ∧ k_ ≠ aD))) (fun _ hk => hk.2) (.int .i64 bv)) (fun _ hk => hk.1.2)); (case aS => exact (below_size (Ae4 HB (IsS101.gf D) aj ak cg))); (case aL => have := fs.out; omega); intro iD iT ho hb hg hat; rw [← fA.out] at ho; replace aa := am (Kd.R_over' (tfg aa.out aU.out (by decide)) (Kd.R_typed (by (with_reducible repeat (first | apply Kd.R_alloc | apply Kd.R_drewN | apply Kd.R_drew)); exact (Kd.R_mono (Kd.R_far (p := ⟨aD, 2, none⟩) (Kd.R_mono al.out (fun k_ hk => (⟨hk, hk.2⟩ : _ ∧ k_ ≠ aD))) (fun _ hk => hk.2) (.int .i64 bv)) (fun _ h_ => h_.1)))) (by decide) hg); replace B := am (blk_grown (g := aQ) (o := .cells #[.slice none 0 0, .slice none 0 0] 47 (0, 0)) (Ap1 B cK) hg (Kd.R_ne al.out B.out (by decide))); replace J := am (blk_grown (g := aY) (o := .cells #[aG, bw] 47 (0, 0)) (Ap1 J cM) hg (Kd.R_ne al.out J.out (by decide))); replace D := am (IsS101.grown (IsS101.far D.out dx.out _) hg (IsS101.own_ne D.out al.out (by decide))); replace aU := am (blk_grown (g := aD) (o := .cells #[.string bm, .string bn, .int .i64 bv] 81 (0, 0)) (Ap0 aU) hg (Kd.R_away al.out (fun _ hk => hk.2))); replace HB := am hb; have ee := am ho; clear al; clear ho hb hg hat; obtain ⟨fj, fO, fS⟩ := Kd.R_slice ee.out; subst fS; obtain ⟨b9, ca, cc, cd⟩ := cf2 J))
    go_roundg b7
    case measure => have := bh.out; have := b0.out; have := cI.out; have := dt.out; omega
    case rel => exact ⟨(wrap64 (cE + 1)), eJ, eK, eL, eR, (.slice fj eR.length fO), be_, bi, ⟨(by have := bh.out; have := b0.out; have := cI.out; have := dt.out; omega)⟩, ⟨tfg aa.out J.out (by decide)⟩, ⟨tfg ee.out J.out (by decide)⟩, Cp1 B br, Cp0 J, ⟨B32x2_⟩, Ce4 HB (IsS101.gf D) aj ak cg⟩
   obtain ⟨⟨eM, gr⟩, fh, bj⟩ := bsi bq; (try dsimp only at bj); replace bj := am bj; clear aE bq; obtain ⟨h2, ik, h3, il⟩ := o4_ b3 br aX bF; obtain ⟨b9, ca, cc, cd⟩ := cf2 J; obtain ⟨cG, dc, fT⟩ := Kd.R_slice aa.out; subst fT; obtain ⟨cH, dd, fU⟩ := Kd.R_slice al.out; subst fU
   go_upto_region 20 with (first | ((with_reducible refine gate_callee (f := 22) rfl ?_); refine gL (some 85) Try.func22 #[.agg #[.slice cG az.length dc, .slice cH aT.length dd]] ?_; (with_reducible refine (spec_KeepText.calls b7 _ _ az _ _ aT eM gr _ ?z1 ?z2 ?z3 ?z4 fh.out).mono ?_); (case z1 => repeat (first | exact (Kd.R_reads' aa.out).2.2 | (with_reducible refine Kd.C_alloc ?_ _) | (with_reducible refine Kd.C_drewN ?_ _) | (with_reducible refine Kd.C_drew ?_))); (case z2 => exact (Kd.R_reads' aa.out).2.1); (case z3 => repeat (first | exact (Kd.R_reads' al.out).2.2 | (with_reducible refine Kd.C_alloc ?_ _) | (with_reducible refine Kd.C_drewN ?_ _) | (with_reducible refine Kd.C_drew ?_))); (case z4 => exact (Kd.R_reads' al.out).2.1); rintro e iU ⟨rfl, hb⟩; refine ⟨_, rfl, ?_⟩; replace aa := rA aa hb; replace al := rA al hb; replace B := bA B hb; replace J := bA J hb; replace HB := De3 HB (IsS101.gf D) aj ak hb; replace D := am (IsS101.below B32x0_ hb)))
   (try simp only [Act.put, List.setIfInBounds_toArray, List.set_cons_zero, List.set_cons_succ])
   go_cut [100] (fun gs wc => ∃ (kq : Nat) (d3 : Bool), gs = .bool d3 ∧ Aside0 (spec_ReadKeep.j4 kq d3 az aT = some (r1, r2, r3)) ∧ Aside0 (kq ≤ b7) ∧ Aside0 (Kd.R k83 83 wc w.heap.size (fun _ => True) (.slice cG az.length dc) az) ∧ Aside0 (Kd.R k81 81 wc w.heap.size (fun _ => True) (.slice cH aT.length dd) aT) ∧ Hc wc aQ #[(.slice none 0 0), (.slice none 0 0)] 47 ∧ Hc wc aY #[(.slice cG az.length dc), (.slice cH aT.length dd)] 47 ∧ Hb w wc)
   case first =>
    replace bj := bj.out
    obtain ⟨rfl, bS⟩ | ⟨rfl, bS⟩ := sb bj
    ·replace bS := am bS; clear bj; obtain ⟨ci, fZ⟩ := D.out; have iY := cellS101_0 ci; have iZ := cellS101_1 ci; have i0 := cellS101_2 ci; obtain ⟨jb, jc, jd⟩ := fr3 ci; clear ci fZ
     go_wp2
     go_meet
     case rel => exact ⟨_, true, be_, bS, D9x5_⟩
    obtain ⟨rfl, bT⟩ | ⟨rfl, bT⟩ := sb bS
    ·replace bT := am bT; clear bj bS; obtain ⟨cj, f3⟩ := D.out; have i1 := cellS101_0 cj; have i2 := cellS101_1 cj; have i3 := cellS101_2 cj; obtain ⟨je, jf, jg⟩ := fr3 cj; clear cj f3
     go_wp2
     go_meet
     case rel => exact ⟨_, ((eM.toList != U.toList)), be_, bT, D9x5_⟩
    replace bT := am bT; clear bj bS; obtain ⟨ck, f4⟩ := D.out; have i4 := cellS101_0 ck; have i5 := cellS101_1 ck; have i6 := cellS101_2 ck; obtain ⟨jh, ji, jj⟩ := fr3 ck; clear ck f4
    go_wp2
    go_meet
    case rel => exact ⟨_, true, be_, bT, D9x5_⟩
   clear bj
   try clear ei
   try clear hM
   obtain ⟨kq, d3, rfl, bU, g8, aa, al, B, J, HB⟩ := hcut
   cases kq with
   | zero => exact absurd bU.out (by simp [spec_ReadKeep.j4])
   | succ iw => ?_
   replace bU := bU.out; simp only [spec_ReadKeep.j4] at bU
   obtain ⟨rfl, cl⟩ | ⟨rfl, cl⟩ := sb bU
   ·obtain ⟨rfl, rfl, rfl⟩ := s3 cl; clear cl bU; obtain ⟨h5, io⟩ := o2_ br b3; obtain ⟨gU, gV, g2, g3⟩ := cf2 B
    go_wp2
    refine bodyPost_ret (results_ct rfl _ _ aQ 47 #[.slice none 0 0, .slice none 0 0] (0, 0) _ rfl (Ap0 B) Try.underlying47 rfl gk_) rfl ?_; exact ⟨_, _, B28x6_, gn_, gn_, (Ae2 HB aj ak)⟩
   obtain ⟨rfl, rfl, rfl⟩ := s3 cl; clear cl bU; obtain ⟨h6, ip⟩ := o2_ b3 br; obtain ⟨b9, ca, cc, cd⟩ := cf2 J; obtain ⟨gU, gV, g2, g3⟩ := cf2 B
   go_wp2
   refine bodyPost_ret (results_ct rfl _ _ aQ 47 #[.slice cG az.length dc, .slice cH aT.length dd] (0, 0) _ rfl (Ap0 B) Try.underlying47 rfl gk_) rfl ?_; exact ⟨_, _, B28x6_, (tfg aa.out B.out (by decide)), (tfg al.out B.out (by decide)), (Ae2 HB aj ak)⟩
end
end Go.Proofs.Ytgffdijodnpolaa.QFnKeepTexts
