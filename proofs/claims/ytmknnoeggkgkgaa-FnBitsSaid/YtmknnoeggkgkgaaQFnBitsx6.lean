/- Functions that a law reaches, as functions of Lean, and the walks that show that the calls come to their answers: written by a program of this project out of the translation. No condition. -/
import Derived.Test.YtmknnoeggkgkgaaQFnBitsx0
import Derived.Test.YtmknnoeggkgkgaaVFnBitshort4
import Derived.Test.YtmknnoeggkgkgaaVFnBitshort3
import Derived.Test.YtmknnoeggkgkgaaVFnBitsShort2
import Derived.Test.YtmknnoeggkgkgaaVFnBitsShort
import Derived.Test.YtmknnoeggkgkgaaVFnBitshort8
namespace Go.Proofs.Ytmknnoeggkgkgaa.QFnBits
open Go.RowKit Go.Proofs.YtmknnoeggkgkgaaW.PrintWords Go.Proofs.YtmknnoeggkgkgaaW.PrintLast Go.Proofs.YtmknnoeggkgkgaaW.PrintMore Go.Proofs.Ytmknnoeggkgkgaa.Short
attribute [local go_sem] max2_int min2_int max_two min_two max_three min_three max_four min_four   -- for this text's walks alone
set_option linter.unusedVariables false
set_option linter.unusedSimpArgs false

theorem B6x4_ {p : Prop} (h : p := by have := HK1.out; have := HJ2.out; have := HK3.out; omega) : p := h
theorem B6x5_ {p : Prop} (h : p := by first | rfl | (simp [errW_none, errW_some] <;> rfl) | (simp [*, errW_none, errW_some] <;> rfl)) : p := h
theorem B6x7_ {p : Prop} (h : p := by have := HK1.out; first | omega | exact Nat.le_refl _) : p := h
/-! ### spec_l11Whole: function 113 -/
mutual
def spec_l11Whole.l0 : Nat → ByteArray → Int → Int → Int → List ByteArray → List Int → Int → Int → Option (ByteArray × Bool)
 | 0, _, _, _, _, _, _, _, _ => none
 | k + 1, x4, x5, x256000, x256001, x256002, x256003, x256004, x256005 => if x5 ≤ (x256003.length : Int) then (spec_l11Whole.j1 k x4 x5 (decide ((x4.size : Int) < x256004)) x256000 x256001 x256002 x256003 x256004 x256005) else (spec_l11Whole.j1 k x4 x5 false x256000 x256001 x256002 x256003 x256004 x256005)
def spec_l11Whole.j1 : Nat → ByteArray → Int → Bool → Int → Int → List ByteArray → List Int → Int → Int → Option (ByteArray × Bool)
 | 0, _, _, _, _, _, _, _, _, _ => none
 | k + 1, x4, x5, x18, x256000, x256001, x256002, x256003, x256004, x256005 => if x18 = true then (spec_l11Whole.l1 k x4 x5 0 x256000 x256001 x256002 x256003 x256004 x256005) else (if x256004 > 0 then (some (x4, ((x4.size : Int) == x256004))) else (some (x4, false)))
def spec_l11Whole.l1 : Nat → ByteArray → Int → Int → Int → Int → List ByteArray → List Int → Int → Int → Option (ByteArray × Bool)
 | 0, _, _, _, _, _, _, _, _, _ => none
 | k + 1, x4, x5, x6, x256000, x256001, x256002, x256003, x256004, x256005 => if x6 < (x256003.length : Int) then (if 0 ≤ x6 then (if (rd x256003 x6) = (x4.size : Int) then (if x6 < (x256002.length : Int) then (if x4.size + (rdOf ByteArray.empty x256002 x6).size ≤ 9223372036854775807 then (spec_l11Whole.l1 k (x4 ++ (rdOf ByteArray.empty x256002 x6)) x5 (wrap64 ((x256003.length : Int) + 1)) x256000 x256001 x256002 x256003 x256004 x256005) else (none)) else (spec_l11Whole.l1 k x4 x5 (wrap64 (x6 + 1)) x256000 x256001 x256002 x256003 x256004 x256005)) else (spec_l11Whole.l1 k x4 x5 (wrap64 (x6 + 1)) x256000 x256001 x256002 x256003 x256004 x256005)) else (none)) else (spec_l11Whole.l0 k x4 (wrap64 (x5 + 1)) x256000 x256001 x256002 x256003 x256004 x256005)
end
def spec_l11Whole.f (k : Nat) (a0_0 : Int) (a0_1 : Int) (l0_2 : List ByteArray) (l0_3 : List Int) (a0_4 : Int) (a0_5 : Int) : Option (ByteArray × Bool) := spec_l11Whole.l0 k (⟨#[]⟩ : ByteArray) 0 a0_0 a0_1 l0_2 l0_3 a0_4 a0_5
set_option maxHeartbeats 8000000 in
set_option maxRecDepth 100000 in
theorem spec_l11Whole.calls (k : Nat) (a0_0 : Int) (a0_1 : Int) (A0_2 : Option Addr) (c0_2 : Nat) (l0_2 : List ByteArray) (A0_3 : Option Addr) (c0_3 : Nat) (l0_3 : List Int) (a0_4 : Int) (a0_5 : Int) (r1 : ByteArray) (r2 : Bool) (w : World) (hr0_2 : Kd.C Kd.string w A0_2 l0_2.length l0_2) (hc0_2 : l0_2.length ≤ c0_2) (hr0_3 : Kd.C (Kd.int .i64) w A0_3 l0_3.length l0_3) (hc0_3 : l0_3.length ≤ c0_3) (h : spec_l11Whole.f k a0_0 a0_1 l0_2 l0_3 a0_4 a0_5 = some (r1, r2)) :
  Calls Try.prog 113 #[.agg #[.int .i64 a0_0, .int .i64 a0_1, .slice A0_2 l0_2.length c0_2, .slice A0_3 l0_3.length c0_3, .int .i64 a0_4, .int .i64 a0_5]] w fun e w' => e = .returned (.tuple #[.string r1, .bool r2]) ∧ Below w.heap.size w w' := by
 have hu82 := Try.underlying82
 have HR0_2 := am hr0_2
 have HC0_2 := am hc0_2
 clear hr0_2 hc0_2
 have HR0_3 := am hr0_3
 have HC0_3 := am hc0_3
 clear hr0_3 hc0_3
 have HB := am (Below.refl w.heap.size w)
 have HZ1 := h
 clear h
 unfold spec_l11Whole.f at HZ1
 replace HZ1 := am HZ1
 go_enter Try.func113, Try.ntmps113
 go_wp2_with (first | ((with_reducible refine gate_dst (N := 1) rfl ?_); (try (refine gate_guard (by rfl) ?_; dsimp only)); refine bx (N := 1) (cs := #[.int .i64 a0_0, .int .i64 a0_1, .slice A0_2 l0_2.length c0_2, .slice A0_3 l0_3.length c0_3, .int .i64 a0_4, .int .i64 a0_5]) (t := 82) ?_; intro gb255 hg w2 hbox hb; have BK255 := am (hbox); have GE255 := gA hg HB; replace HB := hA HB hb; clear hb hbox hg))
 repeat (go_quiet (first | ((with_reducible refine gate_dst (N := 1) rfl ?_); (try (refine gate_guard (by rfl) ?_; dsimp only)); refine bx (N := 1) (cs := #[.int .i64 a0_0, .int .i64 a0_1, .slice A0_2 l0_2.length c0_2, .slice A0_3 l0_3.length c0_3, .int .i64 a0_4, .int .i64 a0_5]) (t := 82) ?_; intro gb255 hg w2 hbox hb; have BK255 := am (hbox); have GE255 := gA hg HB; replace HB := hA HB hb; clear hb hbox hg)); try go_wp2_with (first | ((with_reducible refine gate_dst (N := 1) rfl ?_); (try (refine gate_guard (by rfl) ?_; dsimp only)); refine bx (N := 1) (cs := #[.int .i64 a0_0, .int .i64 a0_1, .slice A0_2 l0_2.length c0_2, .slice A0_3 l0_3.length c0_3, .int .i64 a0_4, .int .i64 a0_5]) (t := 82) ?_; intro gb255 hg w2 hbox hb; have BK255 := am (hbox); have GE255 := gA hg HB; replace HB := hA HB hb; clear hb hbox hg)))
 go_loopg [4, 5] k (fun kq v4 v5 w' => ∃ (x4_1 : ByteArray) (x5_1 : Int), v4 = .string x4_1 ∧ v5 = .int .i64 x5_1 ∧ Aside0 (spec_l11Whole.l0 kq x4_1 x5_1 a0_0 a0_1 l0_2 l0_3 a0_4 a0_5 = some (r1, r2)) ∧ Aside0 (kq ≤ k) ∧ Aside0 (w'.heap[gb255]? = some (.cells #[.int .i64 a0_0, .int .i64 a0_1, (.slice A0_2 l0_2.length c0_2), (.slice A0_3 l0_3.length c0_3), .int .i64 a0_4, .int .i64 a0_5] 82 (0, 0))) ∧ Aside0 (Below w.heap.size w w'))
 case atStart => exact ⟨((⟨#[]⟩ : ByteArray)), (0), (be_), (be_), HZ1, ⟨Nat.le_refl _⟩, ⟨(Ab BK255)⟩, ⟨(Ae1 HB GE255)⟩⟩
 case round =>
  clear HZ1; obtain ⟨x4_1, x5_1, rfl, rfl, HZ2, HK1, BK255, HB⟩ := hrel
  cases gk with
  | zero => exact absurd HZ2.out (by simp [spec_l11Whole.l0])
  | succ k1 => ?_
  replace HZ2 := HZ2.out; simp only [spec_l11Whole.l0] at HZ2; replace HZ2 := am HZ2
  go_upto_region 3 with (fail)
  repeat (go_quiet (fail); go_upto_region 3 with (fail))
  go_cut [18] (fun v18 wc => ∃ (kq : Nat) (x18_2 : Bool), v18 = .bool x18_2 ∧ Aside0 (spec_l11Whole.j1 kq x4_1 x5_1 x18_2 a0_0 a0_1 l0_2 l0_3 a0_4 a0_5 = some (r1, r2)) ∧ Aside0 (kq ≤ k1) ∧ Aside0 (wc.heap[gb255]? = some (.cells #[.int .i64 a0_0, .int .i64 a0_1, (.slice A0_2 l0_2.length c0_2), (.slice A0_3 l0_3.length c0_3), .int .i64 a0_4, .int .i64 a0_5] 82 (0, 0))) ∧ Aside0 (Below w.heap.size w wc))
  case first =>
   replace HZ2 := HZ2.out
   obtain ⟨c4b0, HZ3⟩ | ⟨c4b0, HZ3⟩ := sd HZ2
   ·(first | rw [c4b0] | (simp only [i64_w, i32_w]; rw [c4b0]) | skip)
    replace HZ3 := am HZ3; clear HZ2; obtain ⟨zc255_0, zc255_1, zc255_2, zc255_3, zc255_4, zc255_5, zf255_0, zf255_1, zf255_2, zf255_3, zf255_4, zf255_5⟩ := cf6 BK255
    go_wp2
    repeat (go_quiet (fail); try go_wp2)
    go_meet
    case rel => exact ⟨_, (decide ((x4_1.size : Int) < a0_4)), (be_), HZ3, ⟨B6x7_⟩, ⟨(Ab BK255)⟩, ⟨(Ae1 HB GE255)⟩⟩
   (first | rw [c4b0] | (simp only [i64_w, i32_w]; rw [c4b0]) | skip)
   replace HZ3 := am HZ3; clear HZ2; obtain ⟨zc255_0, zc255_1, zc255_2, zc255_3, zc255_4, zc255_5, zf255_0, zf255_1, zf255_2, zf255_3, zf255_4, zf255_5⟩ := cf6 BK255
   go_wp2
   repeat (go_quiet (fail); try go_wp2)
   go_meet
   case rel => exact ⟨_, (false), (be_), HZ3, ⟨B6x7_⟩, ⟨(Ab BK255)⟩, ⟨(Ae1 HB GE255)⟩⟩
  clear HZ2; obtain ⟨kq, x18_2, rfl, HZ4, HJ2, BK255, HB⟩ := hcut
  cases kq with
  | zero => exact absurd HZ4.out (by simp [spec_l11Whole.j1])
  | succ kj2 => ?_
  replace HZ4 := HZ4.out; simp only [spec_l11Whole.j1] at HZ4
  obtain ⟨rfl, HZ5⟩ | ⟨rfl, HZ5⟩ := sb HZ4
  ·replace HZ5 := am HZ5; clear HZ4
   go_wp2
   repeat (go_quiet (fail); try go_wp2)
   go_loopg [4, 6] kj2 (fun kq v4 v6 w' => ∃ (x4_3 : ByteArray) (x6_3 : Int), v4 = .string x4_3 ∧ v6 = .int .i64 x6_3 ∧ Aside0 (spec_l11Whole.l1 kq x4_3 x5_1 x6_3 a0_0 a0_1 l0_2 l0_3 a0_4 a0_5 = some (r1, r2)) ∧ Aside0 (kq ≤ kj2) ∧ Aside0 (w'.heap[gb255]? = some (.cells #[.int .i64 a0_0, .int .i64 a0_1, (.slice A0_2 l0_2.length c0_2), (.slice A0_3 l0_3.length c0_3), .int .i64 a0_4, .int .i64 a0_5] 82 (0, 0))) ∧ Aside0 (Below w.heap.size w w'))
   case atStart => exact ⟨(x4_1), (0), (be_), (be_), HZ5, ⟨Nat.le_refl _⟩, ⟨(Ab BK255)⟩, ⟨(Ae1 HB GE255)⟩⟩
   case round =>
    clear HZ5
    try clear c7
    obtain ⟨x4_3, x6_3, rfl, rfl, HZ6, HK3, BK255, HB⟩ := hrel
    cases gk with
    | zero => exact absurd HZ6.out (by simp [spec_l11Whole.l1])
    | succ k3 => ?_
    replace HZ6 := HZ6.out; simp only [spec_l11Whole.l1] at HZ6
    obtain ⟨c8b0, HZ7⟩ | ⟨c8b0, HZ7⟩ := sd HZ6
    ·obtain ⟨c9b0, HZ8⟩ := yd HZ7
     obtain ⟨c10, HZ9⟩ | ⟨c10, HZ9⟩ := sp HZ8
     ·obtain ⟨c10b0, c10b1⟩ := yE c10; clear c10
      obtain ⟨c11b0, HZ10⟩ | ⟨c11b0, HZ10⟩ := sd HZ9
      ·obtain ⟨c12, HZ11⟩ := yn HZ10; have c12b0 := eq_true c12; have c12b1 := decide_eq_true c12
       try have c12b2 : (9223372036854775807 < x4_3.size + (rdOf ByteArray.empty l0_2 x6_3).size) = False := eq_false (Nat.not_lt.2 c12)
       try (have c12b9 := c12b2; simp only [ByteArray.size_append] at c12b9)
       replace HZ11 := am HZ11; clear HZ6 HZ7 HZ8 HZ9 HZ10; obtain ⟨zc255_0, zc255_1, zc255_2, zc255_3, zc255_4, zc255_5, zf255_0, zf255_1, zf255_2, zf255_3, zf255_4, zf255_5⟩ := cf6 BK255
       have p256 : 0 ≤ (x6_3 : Int) := dga
       have q256 : x6_3 < (l0_3.length : Int) := dga
       obtain ⟨ad256, e256, hx256_0⟩ := Kd.at_int HR0_3.out x6_3 p256 q256; cases e256; replace hx256_0 := (hbc HB hx256_0).trans hx256_0; replace p256 := eq_true p256; replace q256 := eq_true q256
       have p257 : 0 ≤ (x6_3 : Int) := dga
       have q257 : x6_3 < (l0_2.length : Int) := dga
       obtain ⟨ad257, e257, hx257_0⟩ := Kd.at_string HR0_2.out x6_3 p257 q257; cases e257; replace hx257_0 := (hbc HB hx257_0).trans hx257_0; replace p257 := eq_true p257; replace q257 := eq_true q257
       go_wp2
       repeat (go_quiet (fail); try go_wp2)
       go_roundg k3
       case measure => have := HK1.out; have := HJ2.out; have := HK3.out; omega
       case rel => exact ⟨(x4_3 ++ (rdOf ByteArray.empty l0_2 x6_3)), (wrap64 ((l0_3.length : Int) + 1)), (be_), (be_), HZ11, ⟨B6x4_⟩, ⟨(Ab BK255)⟩, ⟨(Ae1 HB GE255)⟩⟩
      replace HZ10 := am HZ10; clear HZ6 HZ7 HZ8 HZ9; obtain ⟨zc255_0, zc255_1, zc255_2, zc255_3, zc255_4, zc255_5, zf255_0, zf255_1, zf255_2, zf255_3, zf255_4, zf255_5⟩ := cf6 BK255
      have p256 : 0 ≤ (x6_3 : Int) := dga
      have q256 : x6_3 < (l0_3.length : Int) := dga
      obtain ⟨ad256, e256, hx256_0⟩ := Kd.at_int HR0_3.out x6_3 p256 q256; cases e256; replace hx256_0 := (hbc HB hx256_0).trans hx256_0; replace p256 := eq_true p256; replace q256 := eq_true q256
      go_wp2
      repeat (go_quiet (fail); try go_wp2)
      go_roundg k3
      case measure => have := HK1.out; have := HJ2.out; have := HK3.out; omega
      case rel => exact ⟨(x4_3), (wrap64 (x6_3 + 1)), (be_), (be_), HZ10, ⟨B6x4_⟩, ⟨(Ab BK255)⟩, ⟨(Ae1 HB GE255)⟩⟩
     obtain ⟨c10b0, c10b1⟩ := nE c10; replace HZ9 := am HZ9; clear HZ6 HZ7 HZ8; obtain ⟨zc255_0, zc255_1, zc255_2, zc255_3, zc255_4, zc255_5, zf255_0, zf255_1, zf255_2, zf255_3, zf255_4, zf255_5⟩ := cf6 BK255
     have p256 : 0 ≤ (x6_3 : Int) := dga
     have q256 : x6_3 < (l0_3.length : Int) := dga
     obtain ⟨ad256, e256, hx256_0⟩ := Kd.at_int HR0_3.out x6_3 p256 q256; cases e256; replace hx256_0 := (hbc HB hx256_0).trans hx256_0; replace p256 := eq_true p256; replace q256 := eq_true q256
     go_wp2
     repeat (go_quiet (fail); try go_wp2)
     go_roundg k3
     case measure => have := HK1.out; have := HJ2.out; have := HK3.out; omega
     case rel => exact ⟨(x4_3), (wrap64 (x6_3 + 1)), (be_), (be_), HZ9, ⟨B6x4_⟩, ⟨(Ab BK255)⟩, ⟨(Ae1 HB GE255)⟩⟩
    replace HZ7 := am HZ7; clear HZ6; obtain ⟨zc255_0, zc255_1, zc255_2, zc255_3, zc255_4, zc255_5, zf255_0, zf255_1, zf255_2, zf255_3, zf255_4, zf255_5⟩ := cf6 BK255
    go_wp2
    repeat (go_quiet (fail); try go_wp2)
    go_roundg k3
    case measure => have := HK1.out; have := HJ2.out; have := HK3.out; omega
    case rel => exact ⟨(x4_3), (wrap64 (x5_1 + 1)), (be_), (be_), HZ7, ⟨B6x4_⟩, ⟨(Ab BK255)⟩, ⟨(Ae1 HB GE255)⟩⟩
  obtain ⟨c17, HZ12⟩ | ⟨c17, HZ12⟩ := sp HZ5
  ·have c17b0 : decide (0 < a0_4) = true := decide_eq_true c17
   clear c17; obtain ⟨rfl, rfl⟩ := s2 HZ12; clear HZ12 HZ4 HZ5; obtain ⟨zc255_0, zc255_1, zc255_2, zc255_3, zc255_4, zc255_5, zf255_0, zf255_1, zf255_2, zf255_3, zf255_4, zf255_5⟩ := cf6 BK255
   go_wp2
   repeat (go_quiet (fail); try go_wp2)
   go_ret2
   exact ⟨B6x5_, (Ae1 HB GE255)⟩
  have c17b0 : decide (0 < a0_4) = false := decide_eq_false c17
  clear c17; obtain ⟨rfl, rfl⟩ := s2 HZ12; clear HZ12 HZ4 HZ5; obtain ⟨zc255_0, zc255_1, zc255_2, zc255_3, zc255_4, zc255_5, zf255_0, zf255_1, zf255_2, zf255_3, zf255_4, zf255_5⟩ := cf6 BK255
  go_wp2
  repeat (go_quiet (fail); try go_wp2)
  go_ret2
  exact ⟨B6x5_, (Ae1 HB GE255)⟩

end Go.Proofs.Ytmknnoeggkgkgaa.QFnBits
