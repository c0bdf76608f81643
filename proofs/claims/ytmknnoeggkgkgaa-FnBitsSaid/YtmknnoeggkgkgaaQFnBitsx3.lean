/- Functions that a law reaches, as functions of Lean, and the walks that show that the calls come to their answers: written by a program of this project out of the translation. No condition. -/
import Derived.Test.YtmknnoeggkgkgaaQFnBitsx0
import Derived.Test.YtmknnoeggkgkgaaVFnBitshort4
import Derived.Test.YtmknnoeggkgkgaaVFnBitshort3
import Derived.Test.YtmknnoeggkgkgaaVFnBitsShort2
import Derived.Test.YtmknnoeggkgkgaaVFnBitsShort
import Derived.Test.YtmknnoeggkgkgaaVFnBitshort8
namespace Go.Proofs.Ytmknnoeggkgkgaa.QFnBits
open Go.RowKit Go.Proofs.YtmknnoeggkgkgaaW.PrintWords Go.Proofs.YtmknnoeggkgkgaaW.PrintLast Go.Proofs.YtmknnoeggkgkgaaW.PrintMore Go.Proofs.Ytmknnoeggkgkgaa.Short
attribute [local go_sem] max2_int min2_int max_two min_two max_three min_three max_four min_four   -- for this text's walks alone
set_option linter.unusedVariables false
set_option linter.unusedSimpArgs false

theorem B3x4_ {p : Prop} (h : p := by first | rfl | (simp [errW_none, errW_some] <;> rfl) | (simp [*, errW_none, errW_some] <;> rfl)) : p := h
theorem B3x12_ {p : Prop} (h : p := by have := HK1.out; first | omega | exact Nat.le_refl _) : p := h
/-! ### slices_Index_int_int: function 139 -/
def slices_Index_int_int.l0 : Nat → List Int → Int → Int → Int → Option (Int)
 | 0, _, _, _, _ => none
 | k + 1, x0, x1, x7, x8 => if x8 < x7 then (if 0 ≤ x8 then (if x8 < (x0.length : Int) then (if x1 = (rd x0 x8) then (some x8) else (slices_Index_int_int.l0 k x0 x1 x7 (wrap64 (x8 + 1)))) else (none)) else (none)) else (some (-1))
def slices_Index_int_int.f (k : Nat) (l0 : List Int) (a1 : Int) : Option (Int) := slices_Index_int_int.l0 k l0 a1 (l0.length : Int) 0
set_option maxHeartbeats 8000000 in
set_option maxRecDepth 100000 in
theorem slices_Index_int_int.calls (k : Nat) (A0 : Option Addr) (c0 : Nat) (l0 : List Int) (a1 : Int) (r : Int) (w : World) (hr0 : Kd.C (Kd.int .i64) w A0 l0.length l0) (hc0 : l0.length ≤ c0) (h : slices_Index_int_int.f k l0 a1 = some r) :
  Calls Try.prog 139 #[.slice A0 l0.length c0, .int .i64 a1] w fun e w' => e = .returned (.int .i64 r) ∧ Drawn0 w w' := by
 have HR0 := am hr0
 have HC0 := am hc0
 clear hr0 hc0
 have HZ1 := h
 clear h
 unfold slices_Index_int_int.f at HZ1
 replace HZ1 := am HZ1
 go_enter Try.func139, Try.ntmps139
 go_wp2
 go_loopg [8] k (fun kq v8 w' => ∃ (x8_1 : Int), v8 = .int .i64 x8_1 ∧ Aside0 (slices_Index_int_int.l0 kq l0 a1 (l0.length : Int) x8_1 = some r) ∧ Aside0 (kq ≤ k) ∧ Drawn0 w w')
 case atStart => exact ⟨(0), (be_), HZ1, ⟨Nat.le_refl _⟩, gd_⟩
 case round =>
  clear HZ1; obtain ⟨x8_1, rfl, HZ2, HK1, ⟨m1, rfl⟩⟩ := hrel
  cases gk with
  | zero => exact absurd HZ2.out (by simp [slices_Index_int_int.l0])
  | succ k1 => ?_
  replace HZ2 := HZ2.out; simp only [slices_Index_int_int.l0] at HZ2
  obtain ⟨c3b0, HZ3⟩ | ⟨c3b0, HZ3⟩ := sd HZ2
  ·obtain ⟨c4b0, HZ4⟩ := yd HZ3; obtain ⟨c5b0, HZ5⟩ := yd HZ4
   obtain ⟨c6, HZ6⟩ | ⟨c6, HZ6⟩ := sp HZ5
   ·obtain ⟨c6b0, c6b1⟩ := yE c6; clear c6; obtain rfl := Option.some.inj HZ6; clear HZ6 HZ2 HZ3 HZ4 HZ5
    have p138 : 0 ≤ (x8_1 : Int) := dga
    have q138 : x8_1 < (l0.length : Int) := dga
    obtain ⟨ad138, e138, hx138_0⟩ := Kd.at_int HR0.out x8_1 p138 q138; cases e138; replace p138 := eq_true p138; replace q138 := eq_true q138
    go_wp2
    go_ret; exact ⟨gr_, gd_⟩
   ·obtain ⟨c6b0, c6b1⟩ := nE c6; replace HZ6 := am HZ6; clear HZ2 HZ3 HZ4 HZ5
    have p138 : 0 ≤ (x8_1 : Int) := dga
    have q138 : x8_1 < (l0.length : Int) := dga
    obtain ⟨ad138, e138, hx138_0⟩ := Kd.at_int HR0.out x8_1 p138 q138; cases e138; replace p138 := eq_true p138; replace q138 := eq_true q138
    go_wp2
    go_roundg k1
    case measure => have := HK1.out; omega
    case rel => exact ⟨(wrap64 (x8_1 + 1)), (be_), HZ6, ⟨(by have := HK1.out; omega)⟩, gd_⟩
  ·obtain rfl := Option.some.inj HZ3; clear HZ3 HZ2
   go_wp2
   go_ret; exact ⟨gr_, gd_⟩

/-! ### slices_Contains_int_int: function 101 -/
def slices_Contains_int_int.f (k : Nat) (l0 : List Int) (a1 : Int) : Option (Bool) := (slices_Index_int_int.f k l0 a1).bind fun t139 => (some (decide (t139 ≥ 0)))
set_option maxHeartbeats 8000000 in
set_option maxRecDepth 100000 in
theorem slices_Contains_int_int.calls (k : Nat) (A0 : Option Addr) (c0 : Nat) (l0 : List Int) (a1 : Int) (r : Bool) (w : World) (hr0 : Kd.C (Kd.int .i64) w A0 l0.length l0) (hc0 : l0.length ≤ c0) (h : slices_Contains_int_int.f k l0 a1 = some r) :
  Calls Try.prog 101 #[.slice A0 l0.length c0, .int .i64 a1] w fun e w' => e = .returned (.bool r) ∧ Drawn0 w w' := by
 have HR0 := am hr0
 have HC0 := am hc0
 clear hr0 hc0
 have HZ1 := h
 clear h
 unfold slices_Contains_int_int.f at HZ1
 obtain ⟨t139, A3, HZ2⟩ := bsi HZ1
 (try dsimp only at HZ2)
 obtain rfl := Option.some.inj HZ2
 clear HZ2 HZ1
 go_enter Try.func101, Try.ntmps101
 go_wp2_with (first | ((with_reducible refine gate_callee (f := 139) rfl ?_); refine gL (some 7) Try.func139 #[.slice A0 l0.length c0, .int .i64 a1] ?_; (with_reducible refine (slices_Index_int_int.calls k _ _ l0 a1 t139 _ ?z1 ?z2 A3.out).mono ?_); (case z1 => repeat (first | exact HR0.out | (with_reducible refine Kd.C_alloc ?_ _) | (with_reducible refine Kd.C_drewN ?_ _) | (with_reducible refine Kd.C_drew ?_))); (case z2 => exact HC0.out); rintro e w' ⟨rfl, ⟨nd, rfl⟩⟩; refine ⟨_, rfl, ?_⟩))
 go_ret
 exact ⟨gr_, gd_⟩

/-! ### impl_whole: function 102 -/
mutual
def impl_whole.l0 : Nat → ByteArray → Int → Int → List ByteArray → List Int → Int → Int → Option (ByteArray × Bool)
 | 0, _, _, _, _, _, _, _ => none
 | k + 1, x4, x141000, x141001, x141002, x141003, x141004, x141005 => if x141004 > 0 then (impl_whole.j1 k x4 (decide ((x4.size : Int) < x141004)) x141000 x141001 x141002 x141003 x141004 x141005) else (impl_whole.j1 k x4 false x141000 x141001 x141002 x141003 x141004 x141005)
def impl_whole.j1 : Nat → ByteArray → Bool → Int → Int → List ByteArray → List Int → Int → Int → Option (ByteArray × Bool)
 | 0, _, _, _, _, _, _, _, _ => none
 | k + 1, x4, x15, x141000, x141001, x141002, x141003, x141004, x141005 => if x15 = true then ((slices_Index_int_int.f k x141003 (x4.size : Int)).bind fun t141 => (if t141 < 0 then (some ((⟨#[]⟩ : ByteArray), false)) else (if t141 ≥ (x141002.length : Int) then (some ((⟨#[]⟩ : ByteArray), false)) else (if 0 ≤ t141 then (if t141 < (x141002.length : Int) then (if (rdOf ByteArray.empty x141002 t141).toList = ([] : List UInt8) then (some ((⟨#[]⟩ : ByteArray), false)) else (if x4.size + (rdOf ByteArray.empty x141002 t141).size ≤ 9223372036854775807 then (impl_whole.l0 k (x4 ++ (rdOf ByteArray.empty x141002 t141)) x141000 x141001 x141002 x141003 x141004 x141005) else (none))) else (none)) else (none))))) else (if x141004 > 0 then (some (x4, ((x4.size : Int) == x141004))) else (some (x4, false)))
end
def impl_whole.f (k : Nat) (a0_0 : Int) (a0_1 : Int) (l0_2 : List ByteArray) (l0_3 : List Int) (a0_4 : Int) (a0_5 : Int) : Option (ByteArray × Bool) := impl_whole.l0 k (⟨#[]⟩ : ByteArray) a0_0 a0_1 l0_2 l0_3 a0_4 a0_5
set_option maxHeartbeats 8000000 in
set_option maxRecDepth 100000 in
theorem impl_whole.calls (k : Nat) (a0_0 : Int) (a0_1 : Int) (A0_2 : Option Addr) (c0_2 : Nat) (l0_2 : List ByteArray) (A0_3 : Option Addr) (c0_3 : Nat) (l0_3 : List Int) (a0_4 : Int) (a0_5 : Int) (r1 : ByteArray) (r2 : Bool) (w : World) (hr0_2 : Kd.C Kd.string w A0_2 l0_2.length l0_2) (hc0_2 : l0_2.length ≤ c0_2) (hr0_3 : Kd.C (Kd.int .i64) w A0_3 l0_3.length l0_3) (hc0_3 : l0_3.length ≤ c0_3) (h : impl_whole.f k a0_0 a0_1 l0_2 l0_3 a0_4 a0_5 = some (r1, r2)) :
  Calls Try.prog 102 #[.agg #[.int .i64 a0_0, .int .i64 a0_1, .slice A0_2 l0_2.length c0_2, .slice A0_3 l0_3.length c0_3, .int .i64 a0_4, .int .i64 a0_5]] w fun e w' => e = .returned (.tuple #[.string r1, .bool r2]) ∧ Below w.heap.size w w' := by
 have hu82 := Try.underlying82
 have HR0_2 := am hr0_2
 have HC0_2 := am hc0_2
 clear hr0_2 hc0_2
 have HR0_3 := am hr0_3
 have HC0_3 := am hc0_3
 clear hr0_3 hc0_3
 have HB := am (Below.refl w.heap.size w)
 have HZ1 := h
 clear h
 unfold impl_whole.f at HZ1
 replace HZ1 := am HZ1
 go_enter Try.func102, Try.ntmps102
 go_wp2_with (first | ((with_reducible refine gate_dst (N := 1) rfl ?_); (try (refine gate_guard (by rfl) ?_; dsimp only)); refine bx (N := 1) (cs := #[.int .i64 a0_0, .int .i64 a0_1, .slice A0_2 l0_2.length c0_2, .slice A0_3 l0_3.length c0_3, .int .i64 a0_4, .int .i64 a0_5]) (t := 82) ?_; intro gb140 hg w2 hbox hb; have BK140 := am (hbox); have GE140 := gA hg HB; replace HB := hA HB hb; clear hb hbox hg))
 repeat (go_quiet (first | ((with_reducible refine gate_dst (N := 1) rfl ?_); (try (refine gate_guard (by rfl) ?_; dsimp only)); refine bx (N := 1) (cs := #[.int .i64 a0_0, .int .i64 a0_1, .slice A0_2 l0_2.length c0_2, .slice A0_3 l0_3.length c0_3, .int .i64 a0_4, .int .i64 a0_5]) (t := 82) ?_; intro gb140 hg w2 hbox hb; have BK140 := am (hbox); have GE140 := gA hg HB; replace HB := hA HB hb; clear hb hbox hg)); try go_wp2_with (first | ((with_reducible refine gate_dst (N := 1) rfl ?_); (try (refine gate_guard (by rfl) ?_; dsimp only)); refine bx (N := 1) (cs := #[.int .i64 a0_0, .int .i64 a0_1, .slice A0_2 l0_2.length c0_2, .slice A0_3 l0_3.length c0_3, .int .i64 a0_4, .int .i64 a0_5]) (t := 82) ?_; intro gb140 hg w2 hbox hb; have BK140 := am (hbox); have GE140 := gA hg HB; replace HB := hA HB hb; clear hb hbox hg)))
 go_loopg [4] k (fun kq v4 w' => ∃ (x4_1 : ByteArray), v4 = .string x4_1 ∧ Aside0 (impl_whole.l0 kq x4_1 a0_0 a0_1 l0_2 l0_3 a0_4 a0_5 = some (r1, r2)) ∧ Aside0 (kq ≤ k) ∧ Aside0 (w'.heap[gb140]? = some (.cells #[.int .i64 a0_0, .int .i64 a0_1, (.slice A0_2 l0_2.length c0_2), (.slice A0_3 l0_3.length c0_3), .int .i64 a0_4, .int .i64 a0_5] 82 (0, 0))) ∧ Aside0 (Below w.heap.size w w'))
 case atStart => exact ⟨((⟨#[]⟩ : ByteArray)), (be_), HZ1, ⟨Nat.le_refl _⟩, ⟨(Ab BK140)⟩, ⟨(Ae1 HB GE140)⟩⟩
 case round =>
  clear HZ1; obtain ⟨x4_1, rfl, HZ2, HK1, BK140, HB⟩ := hrel
  cases gk with
  | zero => exact absurd HZ2.out (by simp [impl_whole.l0])
  | succ k1 => ?_
  replace HZ2 := HZ2.out; simp only [impl_whole.l0] at HZ2; replace HZ2 := am HZ2
  go_upto_region 2 with (fail)
  repeat (go_quiet (fail); go_upto_region 2 with (fail))
  go_cut [15] (fun v15 wc => ∃ (kq : Nat) (x15_2 : Bool), v15 = .bool x15_2 ∧ Aside0 (impl_whole.j1 kq x4_1 x15_2 a0_0 a0_1 l0_2 l0_3 a0_4 a0_5 = some (r1, r2)) ∧ Aside0 (kq ≤ k1) ∧ Aside0 (wc.heap[gb140]? = some (.cells #[.int .i64 a0_0, .int .i64 a0_1, (.slice A0_2 l0_2.length c0_2), (.slice A0_3 l0_3.length c0_3), .int .i64 a0_4, .int .i64 a0_5] 82 (0, 0))) ∧ Aside0 (Below w.heap.size w wc))
  case first =>
   replace HZ2 := HZ2.out
   obtain ⟨c4, HZ3⟩ | ⟨c4, HZ3⟩ := sp HZ2
   ·have c4b0 : decide (0 < a0_4) = true := decide_eq_true c4
    clear c4
    (first | rw [c4b0] | (simp only [i64_w, i32_w]; rw [c4b0]) | skip)
    replace HZ3 := am HZ3; clear HZ2; obtain ⟨zc140_0, zc140_1, zc140_2, zc140_3, zc140_4, zc140_5, zf140_0, zf140_1, zf140_2, zf140_3, zf140_4, zf140_5⟩ := cf6 BK140
    go_wp2
    repeat (go_quiet (fail); try go_wp2)
    go_meet
    case rel => exact ⟨_, (decide ((x4_1.size : Int) < a0_4)), (be_), HZ3, ⟨B3x12_⟩, ⟨(Ab BK140)⟩, ⟨(Ae1 HB GE140)⟩⟩
   ·have c4b0 : decide (0 < a0_4) = false := decide_eq_false c4
    clear c4
    (first | rw [c4b0] | (simp only [i64_w, i32_w]; rw [c4b0]) | skip)
    replace HZ3 := am HZ3; clear HZ2; obtain ⟨zc140_0, zc140_1, zc140_2, zc140_3, zc140_4, zc140_5, zf140_0, zf140_1, zf140_2, zf140_3, zf140_4, zf140_5⟩ := cf6 BK140
    go_wp2
    repeat (go_quiet (fail); try go_wp2)
    go_meet
    case rel => exact ⟨_, (false), (be_), HZ3, ⟨B3x12_⟩, ⟨(Ab BK140)⟩, ⟨(Ae1 HB GE140)⟩⟩
  case rest =>
   clear HZ2; obtain ⟨kq, x15_2, rfl, HZ4, HJ2, BK140, HB⟩ := hcut
   cases kq with
   | zero => exact absurd HZ4.out (by simp [impl_whole.j1])
   | succ kj2 => ?_
   replace HZ4 := HZ4.out; simp only [impl_whole.j1] at HZ4
   obtain ⟨rfl, HZ5⟩ | ⟨rfl, HZ5⟩ := sb HZ4
   ·obtain ⟨t141, A8, HZ6⟩ := bsi HZ5; (try dsimp only at HZ6)
    obtain ⟨c9b0, HZ7⟩ | ⟨c9b0, HZ7⟩ := sd HZ6
    ·obtain ⟨rfl, rfl⟩ := s2 HZ7; clear HZ7 HZ4 HZ5 HZ6; obtain ⟨zc140_0, zc140_1, zc140_2, zc140_3, zc140_4, zc140_5, zf140_0, zf140_1, zf140_2, zf140_3, zf140_4, zf140_5⟩ := cf6 BK140
     go_wp2_with (first | (go_at_call 139; refine (slices_Index_int_int.calls kj2 _ _ l0_3 (x4_1.size : Int) t141 _ (tc (Kd.C_below HR0_3.out HB.out)) HC0_3.out A8.out).mono ?_; rintro e w' ⟨rfl, ⟨nd, rfl⟩⟩; (try first | exact ⟨rfl, _, World.drewN_drewN _ _ _⟩ | exact ⟨rfl, _, Eq.trans (World.drewN_drewN _ _ _) (congrArg (World.drewN _) (Nat.add_assoc _ _ _))⟩)))
     repeat (go_quiet (first | (go_at_call 139; (with_reducible refine (slices_Index_int_int.calls kj2 _ _ l0_3 (x4_1.size : Int) t141 _ ?z1 ?z2 A8.out).mono ?_); (case z1 => exact (tc (Kd.C_below HR0_3.out HB.out))); (case z2 => exact HC0_3.out); rintro e w' ⟨rfl, ⟨nd, rfl⟩⟩; (try first | exact ⟨rfl, _, World.drewN_drewN _ _ _⟩ | exact ⟨rfl, _, Eq.trans (World.drewN_drewN _ _ _) (congrArg (World.drewN _) (Nat.add_assoc _ _ _))⟩))); try go_wp2_with (first | (go_at_call 139; (with_reducible refine (slices_Index_int_int.calls kj2 _ _ l0_3 (x4_1.size : Int) t141 _ ?z1 ?z2 A8.out).mono ?_); (case z1 => exact (tc (Kd.C_below HR0_3.out HB.out))); (case z2 => exact HC0_3.out); rintro e w' ⟨rfl, ⟨nd, rfl⟩⟩; (try first | exact ⟨rfl, _, World.drewN_drewN _ _ _⟩ | exact ⟨rfl, _, Eq.trans (World.drewN_drewN _ _ _) (congrArg (World.drewN _) (Nat.add_assoc _ _ _))⟩))))
     go_ret2
     exact ⟨B3x4_, (Ae1 HB GE140)⟩
    ·obtain ⟨c11, HZ8⟩ | ⟨c11, HZ8⟩ := sp HZ7
     ·have c11b0 : decide ((l0_2.length : Int) ≤ t141) = true := decide_eq_true c11
      clear c11; obtain ⟨rfl, rfl⟩ := s2 HZ8; clear HZ8 HZ4 HZ5 HZ6 HZ7; obtain ⟨zc140_0, zc140_1, zc140_2, zc140_3, zc140_4, zc140_5, zf140_0, zf140_1, zf140_2, zf140_3, zf140_4, zf140_5⟩ := cf6 BK140
      go_wp2_with (first | (go_at_call 139; refine (slices_Index_int_int.calls kj2 _ _ l0_3 (x4_1.size : Int) t141 _ (tc (Kd.C_below HR0_3.out HB.out)) HC0_3.out A8.out).mono ?_; rintro e w' ⟨rfl, ⟨nd, rfl⟩⟩; (try first | exact ⟨rfl, _, World.drewN_drewN _ _ _⟩ | exact ⟨rfl, _, Eq.trans (World.drewN_drewN _ _ _) (congrArg (World.drewN _) (Nat.add_assoc _ _ _))⟩)))
      repeat (go_quiet (first | (go_at_call 139; (with_reducible refine (slices_Index_int_int.calls kj2 _ _ l0_3 (x4_1.size : Int) t141 _ ?z1 ?z2 A8.out).mono ?_); (case z1 => exact (tc (Kd.C_below HR0_3.out HB.out))); (case z2 => exact HC0_3.out); rintro e w' ⟨rfl, ⟨nd, rfl⟩⟩; (try first | exact ⟨rfl, _, World.drewN_drewN _ _ _⟩ | exact ⟨rfl, _, Eq.trans (World.drewN_drewN _ _ _) (congrArg (World.drewN _) (Nat.add_assoc _ _ _))⟩))); try go_wp2_with (first | (go_at_call 139; (with_reducible refine (slices_Index_int_int.calls kj2 _ _ l0_3 (x4_1.size : Int) t141 _ ?z1 ?z2 A8.out).mono ?_); (case z1 => exact (tc (Kd.C_below HR0_3.out HB.out))); (case z2 => exact HC0_3.out); rintro e w' ⟨rfl, ⟨nd, rfl⟩⟩; (try first | exact ⟨rfl, _, World.drewN_drewN _ _ _⟩ | exact ⟨rfl, _, Eq.trans (World.drewN_drewN _ _ _) (congrArg (World.drewN _) (Nat.add_assoc _ _ _))⟩))))
      go_ret2
      exact ⟨B3x4_, (Ae1 HB GE140)⟩
     ·have c11b0 : decide ((l0_2.length : Int) ≤ t141) = false := decide_eq_false c11
      clear c11; obtain ⟨c13b0, HZ9⟩ := yd HZ8; obtain ⟨c14b0, HZ10⟩ := yd HZ9
      obtain ⟨c15, HZ11⟩ | ⟨c15, HZ11⟩ := sp HZ10
      ·obtain ⟨c15b0, c15b1⟩ := yE c15; clear c15; obtain ⟨rfl, rfl⟩ := s2 HZ11; clear HZ11 HZ4 HZ5 HZ6 HZ7 HZ8 HZ9 HZ10; obtain ⟨zc140_0, zc140_1, zc140_2, zc140_3, zc140_4, zc140_5, zf140_0, zf140_1, zf140_2, zf140_3, zf140_4, zf140_5⟩ := cf6 BK140
       go_wp2_with (first | (go_at_call 139; refine (slices_Index_int_int.calls kj2 _ _ l0_3 (x4_1.size : Int) t141 _ (tc (Kd.C_below HR0_3.out HB.out)) HC0_3.out A8.out).mono ?_; rintro e w' ⟨rfl, ⟨nd, rfl⟩⟩; (try first | exact ⟨rfl, _, World.drewN_drewN _ _ _⟩ | exact ⟨rfl, _, Eq.trans (World.drewN_drewN _ _ _) (congrArg (World.drewN _) (Nat.add_assoc _ _ _))⟩); have p142 : 0 ≤ (t141 : Int) := dga; have q142 : t141 < (l0_2.length : Int) := dga; obtain ⟨ad142, e142, hx142_0⟩ := Kd.at_string HR0_2.out t141 p142 q142; cases e142; replace hx142_0 := (hbc HB hx142_0).trans hx142_0; replace p142 := eq_true p142; replace q142 := eq_true q142))
       repeat (go_quiet (first | (go_at_call 139; (with_reducible refine (slices_Index_int_int.calls kj2 _ _ l0_3 (x4_1.size : Int) t141 _ ?z1 ?z2 A8.out).mono ?_); (case z1 => exact (tc (Kd.C_below HR0_3.out HB.out))); (case z2 => exact HC0_3.out); rintro e w' ⟨rfl, ⟨nd, rfl⟩⟩; (try first | exact ⟨rfl, _, World.drewN_drewN _ _ _⟩ | exact ⟨rfl, _, Eq.trans (World.drewN_drewN _ _ _) (congrArg (World.drewN _) (Nat.add_assoc _ _ _))⟩); have p142 : 0 ≤ (t141 : Int) := dga; have q142 : t141 < (l0_2.length : Int) := dga; obtain ⟨ad142, e142, hx142_0⟩ := Kd.at_string HR0_2.out t141 p142 q142; cases e142; replace hx142_0 := (hbc HB hx142_0).trans hx142_0; replace p142 := eq_true p142; replace q142 := eq_true q142)); try go_wp2_with (first | (go_at_call 139; (with_reducible refine (slices_Index_int_int.calls kj2 _ _ l0_3 (x4_1.size : Int) t141 _ ?z1 ?z2 A8.out).mono ?_); (case z1 => exact (tc (Kd.C_below HR0_3.out HB.out))); (case z2 => exact HC0_3.out); rintro e w' ⟨rfl, ⟨nd, rfl⟩⟩; (try first | exact ⟨rfl, _, World.drewN_drewN _ _ _⟩ | exact ⟨rfl, _, Eq.trans (World.drewN_drewN _ _ _) (congrArg (World.drewN _) (Nat.add_assoc _ _ _))⟩); have p142 : 0 ≤ (t141 : Int) := dga; have q142 : t141 < (l0_2.length : Int) := dga; obtain ⟨ad142, e142, hx142_0⟩ := Kd.at_string HR0_2.out t141 p142 q142; cases e142; replace hx142_0 := (hbc HB hx142_0).trans hx142_0; replace p142 := eq_true p142; replace q142 := eq_true q142)))
       go_ret2
       exact ⟨B3x4_, (Ae1 HB GE140)⟩
      ·obtain ⟨c15b0, c15b1⟩ := nE c15; obtain ⟨c17, HZ12⟩ := yn HZ11; have c17b0 := eq_true c17; have c17b1 := decide_eq_true c17
       try have c17b2 : (9223372036854775807 < x4_1.size + (rdOf ByteArray.empty l0_2 t141).size) = False := eq_false (Nat.not_lt.2 c17)
       try (have c17b9 := c17b2; simp only [ByteArray.size_append] at c17b9)
       replace HZ12 := am HZ12; clear HZ4 HZ5 HZ6 HZ7 HZ8 HZ9 HZ10 HZ11; obtain ⟨zc140_0, zc140_1, zc140_2, zc140_3, zc140_4, zc140_5, zf140_0, zf140_1, zf140_2, zf140_3, zf140_4, zf140_5⟩ := cf6 BK140
       go_wp2_with (first | (go_at_call 139; refine (slices_Index_int_int.calls kj2 _ _ l0_3 (x4_1.size : Int) t141 _ (tc (Kd.C_below HR0_3.out HB.out)) HC0_3.out A8.out).mono ?_; rintro e w' ⟨rfl, ⟨nd, rfl⟩⟩; (try first | exact ⟨rfl, _, World.drewN_drewN _ _ _⟩ | exact ⟨rfl, _, Eq.trans (World.drewN_drewN _ _ _) (congrArg (World.drewN _) (Nat.add_assoc _ _ _))⟩); have p142 : 0 ≤ (t141 : Int) := dga; have q142 : t141 < (l0_2.length : Int) := dga; obtain ⟨ad142, e142, hx142_0⟩ := Kd.at_string HR0_2.out t141 p142 q142; cases e142; replace hx142_0 := (hbc HB hx142_0).trans hx142_0; replace p142 := eq_true p142; replace q142 := eq_true q142; have p143 : 0 ≤ (t141 : Int) := dga; have q143 : t141 < (l0_2.length : Int) := dga; obtain ⟨ad143, e143, hx143_0⟩ := Kd.at_string HR0_2.out t141 p143 q143; obtain rfl : ad142 = ad143 := (by injection e143); replace hx143_0 := (hbc HB hx143_0).trans hx143_0; replace p143 := eq_true p143; replace q143 := eq_true q143))
       repeat (go_quiet (first | (go_at_call 139; (with_reducible refine (slices_Index_int_int.calls kj2 _ _ l0_3 (x4_1.size : Int) t141 _ ?z1 ?z2 A8.out).mono ?_); (case z1 => exact (tc (Kd.C_below HR0_3.out HB.out))); (case z2 => exact HC0_3.out); rintro e w' ⟨rfl, ⟨nd, rfl⟩⟩; (try first | exact ⟨rfl, _, World.drewN_drewN _ _ _⟩ | exact ⟨rfl, _, Eq.trans (World.drewN_drewN _ _ _) (congrArg (World.drewN _) (Nat.add_assoc _ _ _))⟩); have p142 : 0 ≤ (t141 : Int) := dga; have q142 : t141 < (l0_2.length : Int) := dga; obtain ⟨ad142, e142, hx142_0⟩ := Kd.at_string HR0_2.out t141 p142 q142; cases e142; replace hx142_0 := (hbc HB hx142_0).trans hx142_0; replace p142 := eq_true p142; replace q142 := eq_true q142; have p143 : 0 ≤ (t141 : Int) := dga; have q143 : t141 < (l0_2.length : Int) := dga; obtain ⟨ad143, e143, hx143_0⟩ := Kd.at_string HR0_2.out t141 p143 q143; obtain rfl : ad142 = ad143 := (by injection e143); replace hx143_0 := (hbc HB hx143_0).trans hx143_0; replace p143 := eq_true p143; replace q143 := eq_true q143)); try go_wp2_with (first | (go_at_call 139; (with_reducible refine (slices_Index_int_int.calls kj2 _ _ l0_3 (x4_1.size : Int) t141 _ ?z1 ?z2 A8.out).mono ?_); (case z1 => exact (tc (Kd.C_below HR0_3.out HB.out))); (case z2 => exact HC0_3.out); rintro e w' ⟨rfl, ⟨nd, rfl⟩⟩; (try first | exact ⟨rfl, _, World.drewN_drewN _ _ _⟩ | exact ⟨rfl, _, Eq.trans (World.drewN_drewN _ _ _) (congrArg (World.drewN _) (Nat.add_assoc _ _ _))⟩); have p142 : 0 ≤ (t141 : Int) := dga; have q142 : t141 < (l0_2.length : Int) := dga; obtain ⟨ad142, e142, hx142_0⟩ := Kd.at_string HR0_2.out t141 p142 q142; cases e142; replace hx142_0 := (hbc HB hx142_0).trans hx142_0; replace p142 := eq_true p142; replace q142 := eq_true q142; have p143 : 0 ≤ (t141 : Int) := dga; have q143 : t141 < (l0_2.length : Int) := dga; obtain ⟨ad143, e143, hx143_0⟩ := Kd.at_string HR0_2.out t141 p143 q143; obtain rfl : ad142 = ad143 := (by injection e143); replace hx143_0 := (hbc HB hx143_0).trans hx143_0; replace p143 := eq_true p143; replace q143 := eq_true q143)))
       go_roundg kj2
       case measure => have := HK1.out; have := HJ2.out; omega
       case rel => exact ⟨(x4_1 ++ (rdOf ByteArray.empty l0_2 t141)), (be_), HZ12, ⟨(by have := HK1.out; have := HJ2.out; omega)⟩, ⟨(Ab BK140)⟩, ⟨(Ae1 HB GE140)⟩⟩
   ·obtain ⟨c19, HZ13⟩ | ⟨c19, HZ13⟩ := sp HZ5
    ·have c19b0 : decide (0 < a0_4) = true := decide_eq_true c19
     clear c19; obtain ⟨rfl, rfl⟩ := s2 HZ13; clear HZ13 HZ4 HZ5; obtain ⟨zc140_0, zc140_1, zc140_2, zc140_3, zc140_4, zc140_5, zf140_0, zf140_1, zf140_2, zf140_3, zf140_4, zf140_5⟩ := cf6 BK140
     go_wp2
     repeat (go_quiet (fail); try go_wp2)
     go_ret2
     exact ⟨B3x4_, (Ae1 HB GE140)⟩
    ·have c19b0 : decide (0 < a0_4) = false := decide_eq_false c19
     clear c19; obtain ⟨rfl, rfl⟩ := s2 HZ13; clear HZ13 HZ4 HZ5; obtain ⟨zc140_0, zc140_1, zc140_2, zc140_3, zc140_4, zc140_5, zf140_0, zf140_1, zf140_2, zf140_3, zf140_4, zf140_5⟩ := cf6 BK140
     go_wp2
     repeat (go_quiet (fail); try go_wp2)
     go_ret2
     exact ⟨B3x4_, (Ae1 HB GE140)⟩

/-! ### impl_JoinBits: function 39 -/
-- BY HAND: impl_JoinBits

-- NOT PRINTED: function 106 (impl_Bits_106)

/-! ### impl_TidyBits: function 43 -/
-- BY HAND: impl_TidyBits

/-! ### spec_l01In: function 69 -/
def spec_l01In.f (a0 : Int) (a1 : Int) (a2 : Int) : Option (Bool) := if a0 ≥ a1 then (some (decide (a0 ≤ a2))) else (some false)
set_option maxHeartbeats 8000000 in
set_option maxRecDepth 100000 in
theorem spec_l01In.calls (a0 : Int) (a1 : Int) (a2 : Int) (r : Bool) (w : World) (h : spec_l01In.f a0 a1 a2 = some r) :
  Calls Try.prog 69 #[.int .i64 a0, .int .i64 a1, .int .i64 a2] w fun e w' => e = .returned (.bool r) ∧ Drawn0 w w' := by
 have HZ1 := h
 clear h
 unfold spec_l01In.f at HZ1
 obtain ⟨c4, HZ2⟩ | ⟨c4, HZ2⟩ := sp HZ1
 ·have c4b0 : decide (a1 ≤ a0) = true := decide_eq_true c4
  clear c4; obtain rfl := Option.some.inj HZ2; clear HZ2 HZ1; go_enter Try.func69, Try.ntmps69
  go_wp2
  go_ret; exact ⟨gr_, gd_⟩
 ·have c4b0 : decide (a1 ≤ a0) = false := decide_eq_false c4
  clear c4; obtain rfl := Option.some.inj HZ2; clear HZ2 HZ1; go_enter Try.func69, Try.ntmps69
  go_wp2
  go_ret; exact ⟨gr_, gd_⟩

/-! ### spec_DgramOk: function 95 -/
def spec_DgramOk.f (a0_0 : Int) (a0_1 : Int) (a0_2 : Int) (a0_3 : Int) (a0_4 : Bool) (a0_5 : ByteArray) : Option (Bool) := (spec_l01In.f a0_0 1 99).bind fun t148 => (if t148 = true then ((spec_l01In.f a0_1 1 99).bind fun t149 => (if t149 = true then ((spec_l01In.f a0_2 0 65535).bind fun t150 => (if t150 = true then ((spec_l01In.f a0_3 0 160).bind fun t151 => (if t151 = true then (if (Int.tmod a0_3 8) = 0 then ((spec_l01In.f (a0_5.size : Int) 1 (wrap64 (160 - a0_3))).bind fun t152 => (if t152 = true then (if a0_4 = true then (some (((a0_5.size : Int) % 8) == 0)) else (some true)) else (some false))) else (some false)) else (some false))) else (some false))) else (some false))) else (some false))
set_option maxHeartbeats 8000000 in
set_option maxRecDepth 100000 in
theorem spec_DgramOk.calls (a0_0 : Int) (a0_1 : Int) (a0_2 : Int) (a0_3 : Int) (a0_4 : Bool) (a0_5 : ByteArray) (r : Bool) (w : World) (h : spec_DgramOk.f a0_0 a0_1 a0_2 a0_3 a0_4 a0_5 = some r) :
  Calls Try.prog 95 #[.agg #[.int .i64 a0_0, .int .i64 a0_1, .int .i64 a0_2, .int .i64 a0_3, .bool a0_4, .string a0_5]] w fun e w' => e = .returned (.bool r) ∧ Below w.heap.size w w' := by
 have hu62 := Try.underlying62
 have HB := am (Below.refl w.heap.size w)
 have HZ1 := h
 clear h
 unfold spec_DgramOk.f at HZ1
 obtain ⟨t148, A2, HZ2⟩ := bsi HZ1
 (try dsimp only at HZ2)
 obtain ⟨rfl, HZ3⟩ | ⟨rfl, HZ3⟩ := sb HZ2
 ·obtain ⟨t149, A4, HZ4⟩ := bsi HZ3; (try dsimp only at HZ4)
  obtain ⟨rfl, HZ5⟩ | ⟨rfl, HZ5⟩ := sb HZ4
  ·obtain ⟨t150, A6, HZ6⟩ := bsi HZ5; (try dsimp only at HZ6)
   obtain ⟨rfl, HZ7⟩ | ⟨rfl, HZ7⟩ := sb HZ6
   ·obtain ⟨t151, A8, HZ8⟩ := bsi HZ7; (try dsimp only at HZ8)
    obtain ⟨rfl, HZ9⟩ | ⟨rfl, HZ9⟩ := sb HZ8
    ·obtain ⟨c10, HZ10⟩ | ⟨c10, HZ10⟩ := sp HZ9
     ·obtain ⟨c10b0, c10b1⟩ := yE c10; clear c10; obtain ⟨t152, A11, HZ11⟩ := bsi HZ10; (try dsimp only at HZ11)
      obtain ⟨rfl, HZ12⟩ | ⟨rfl, HZ12⟩ := sb HZ11
      ·obtain ⟨rfl, HZ13⟩ | ⟨rfl, HZ13⟩ := sb HZ12
       ·obtain rfl := Option.some.inj HZ13; clear HZ13 HZ1 HZ2 HZ3 HZ4 HZ5 HZ6 HZ7 HZ8 HZ9 HZ10 HZ11 HZ12; go_enter Try.func95, Try.ntmps95
        go_wp2_with (first | ((with_reducible refine gate_dst (N := 1) rfl ?_); (try (refine gate_guard (by rfl) ?_; dsimp only)); refine bx (N := 1) (cs := #[.int .i64 a0_0, .int .i64 a0_1, .int .i64 a0_2, .int .i64 a0_3, .bool true, .string a0_5]) (t := 62) ?_; intro gb147 hg w14 hbox hb; have BK147 := am (hbox); have GE147 := gA hg HB; replace HB := hA HB hb; clear hb hbox hg; obtain ⟨zc147_0, zc147_1, zc147_2, zc147_3, zc147_4, zc147_5, zf147_0, zf147_1, zf147_2, zf147_3, zf147_4, zf147_5⟩ := cf6 BK147) | ((with_reducible refine gate_callee (f := 69) rfl ?_); refine gM (some 5) Try.func69 (spec_l01In.calls a0_0 1 99 true _ A2.out) ?_; rintro w' ⟨nd, rfl⟩) | (go_at_call 69; (with_reducible refine (spec_l01In.calls a0_1 1 99 true _ A4.out).mono ?_); rintro e w' ⟨rfl, ⟨nd, rfl⟩⟩) | (go_at_call 69; (with_reducible refine (spec_l01In.calls a0_2 0 65535 true _ A6.out).mono ?_); rintro e w' ⟨rfl, ⟨nd, rfl⟩⟩) | (go_at_call 69; (with_reducible refine (spec_l01In.calls a0_3 0 160 true _ A8.out).mono ?_); rintro e w' ⟨rfl, ⟨nd, rfl⟩⟩) | (go_at_call 69; (with_reducible refine (spec_l01In.calls (a0_5.size : Int) 1 (wrap64 (160 - a0_3)) true _ A11.out).mono ?_); rintro e w' ⟨rfl, ⟨nd, rfl⟩⟩))
        go_ret; exact ⟨B3x4_, (Ae1 HB GE147)⟩
       obtain rfl := Option.some.inj HZ13; clear HZ13 HZ1 HZ2 HZ3 HZ4 HZ5 HZ6 HZ7 HZ8 HZ9 HZ10 HZ11 HZ12; go_enter Try.func95, Try.ntmps95
       go_wp2_with (first | ((with_reducible refine gate_dst (N := 1) rfl ?_); (try (refine gate_guard (by rfl) ?_; dsimp only)); refine bx (N := 1) (cs := #[.int .i64 a0_0, .int .i64 a0_1, .int .i64 a0_2, .int .i64 a0_3, .bool false, .string a0_5]) (t := 62) ?_; intro gb147 hg w16 hbox hb; have BK147 := am (hbox); have GE147 := gA hg HB; replace HB := hA HB hb; clear hb hbox hg; obtain ⟨zc147_0, zc147_1, zc147_2, zc147_3, zc147_4, zc147_5, zf147_0, zf147_1, zf147_2, zf147_3, zf147_4, zf147_5⟩ := cf6 BK147) | ((with_reducible refine gate_callee (f := 69) rfl ?_); refine gM (some 5) Try.func69 (spec_l01In.calls a0_0 1 99 true _ A2.out) ?_; rintro w' ⟨nd, rfl⟩) | (go_at_call 69; (with_reducible refine (spec_l01In.calls a0_1 1 99 true _ A4.out).mono ?_); rintro e w' ⟨rfl, ⟨nd, rfl⟩⟩) | (go_at_call 69; (with_reducible refine (spec_l01In.calls a0_2 0 65535 true _ A6.out).mono ?_); rintro e w' ⟨rfl, ⟨nd, rfl⟩⟩) | (go_at_call 69; (with_reducible refine (spec_l01In.calls a0_3 0 160 true _ A8.out).mono ?_); rintro e w' ⟨rfl, ⟨nd, rfl⟩⟩) | (go_at_call 69; (with_reducible refine (spec_l01In.calls (a0_5.size : Int) 1 (wrap64 (160 - a0_3)) true _ A11.out).mono ?_); rintro e w' ⟨rfl, ⟨nd, rfl⟩⟩))
       go_ret; exact ⟨B3x4_, (Ae1 HB GE147)⟩
      obtain rfl := Option.some.inj HZ12; clear HZ12 HZ1 HZ2 HZ3 HZ4 HZ5 HZ6 HZ7 HZ8 HZ9 HZ10 HZ11; go_enter Try.func95, Try.ntmps95
      go_wp2_with (first | ((with_reducible refine gate_dst (N := 1) rfl ?_); (try (refine gate_guard (by rfl) ?_; dsimp only)); refine bx (N := 1) (cs := #[.int .i64 a0_0, .int .i64 a0_1, .int .i64 a0_2, .int .i64 a0_3, .bool a0_4, .string a0_5]) (t := 62) ?_; intro gb147 hg w18 hbox hb; have BK147 := am (hbox); have GE147 := gA hg HB; replace HB := hA HB hb; clear hb hbox hg; obtain ⟨zc147_0, zc147_1, zc147_2, zc147_3, zc147_4, zc147_5, zf147_0, zf147_1, zf147_2, zf147_3, zf147_4, zf147_5⟩ := cf6 BK147) | ((with_reducible refine gate_callee (f := 69) rfl ?_); refine gM (some 5) Try.func69 (spec_l01In.calls a0_0 1 99 true _ A2.out) ?_; rintro w' ⟨nd, rfl⟩) | (go_at_call 69; (with_reducible refine (spec_l01In.calls a0_1 1 99 true _ A4.out).mono ?_); rintro e w' ⟨rfl, ⟨nd, rfl⟩⟩) | (go_at_call 69; (with_reducible refine (spec_l01In.calls a0_2 0 65535 true _ A6.out).mono ?_); rintro e w' ⟨rfl, ⟨nd, rfl⟩⟩) | (go_at_call 69; (with_reducible refine (spec_l01In.calls a0_3 0 160 true _ A8.out).mono ?_); rintro e w' ⟨rfl, ⟨nd, rfl⟩⟩) | (go_at_call 69; (with_reducible refine (spec_l01In.calls (a0_5.size : Int) 1 (wrap64 (160 - a0_3)) false _ A11.out).mono ?_); rintro e w' ⟨rfl, ⟨nd, rfl⟩⟩))
      go_ret; exact ⟨B3x4_, (Ae1 HB GE147)⟩
     obtain ⟨c10b0, c10b1⟩ := nE c10; obtain rfl := Option.some.inj HZ10; clear HZ10 HZ1 HZ2 HZ3 HZ4 HZ5 HZ6 HZ7 HZ8 HZ9; go_enter Try.func95, Try.ntmps95
     go_wp2_with (first | ((with_reducible refine gate_dst (N := 1) rfl ?_); (try (refine gate_guard (by rfl) ?_; dsimp only)); refine bx (N := 1) (cs := #[.int .i64 a0_0, .int .i64 a0_1, .int .i64 a0_2, .int .i64 a0_3, .bool a0_4, .string a0_5]) (t := 62) ?_; intro gb147 hg w20 hbox hb; have BK147 := am (hbox); have GE147 := gA hg HB; replace HB := hA HB hb; clear hb hbox hg; obtain ⟨zc147_0, zc147_1, zc147_2, zc147_3, zc147_4, zc147_5, zf147_0, zf147_1, zf147_2, zf147_3, zf147_4, zf147_5⟩ := cf6 BK147) | ((with_reducible refine gate_callee (f := 69) rfl ?_); refine gM (some 5) Try.func69 (spec_l01In.calls a0_0 1 99 true _ A2.out) ?_; rintro w' ⟨nd, rfl⟩) | (go_at_call 69; (with_reducible refine (spec_l01In.calls a0_1 1 99 true _ A4.out).mono ?_); rintro e w' ⟨rfl, ⟨nd, rfl⟩⟩) | (go_at_call 69; (with_reducible refine (spec_l01In.calls a0_2 0 65535 true _ A6.out).mono ?_); rintro e w' ⟨rfl, ⟨nd, rfl⟩⟩) | (go_at_call 69; (with_reducible refine (spec_l01In.calls a0_3 0 160 true _ A8.out).mono ?_); rintro e w' ⟨rfl, ⟨nd, rfl⟩⟩))
     go_ret; exact ⟨B3x4_, (Ae1 HB GE147)⟩
    obtain rfl := Option.some.inj HZ9; clear HZ9 HZ1 HZ2 HZ3 HZ4 HZ5 HZ6 HZ7 HZ8; go_enter Try.func95, Try.ntmps95
    go_wp2_with (first | ((with_reducible refine gate_dst (N := 1) rfl ?_); (try (refine gate_guard (by rfl) ?_; dsimp only)); refine bx (N := 1) (cs := #[.int .i64 a0_0, .int .i64 a0_1, .int .i64 a0_2, .int .i64 a0_3, .bool a0_4, .string a0_5]) (t := 62) ?_; intro gb147 hg w22 hbox hb; have BK147 := am (hbox); have GE147 := gA hg HB; replace HB := hA HB hb; clear hb hbox hg; obtain ⟨zc147_0, zc147_1, zc147_2, zc147_3, zc147_4, zc147_5, zf147_0, zf147_1, zf147_2, zf147_3, zf147_4, zf147_5⟩ := cf6 BK147) | ((with_reducible refine gate_callee (f := 69) rfl ?_); refine gM (some 5) Try.func69 (spec_l01In.calls a0_0 1 99 true _ A2.out) ?_; rintro w' ⟨nd, rfl⟩) | (go_at_call 69; (with_reducible refine (spec_l01In.calls a0_1 1 99 true _ A4.out).mono ?_); rintro e w' ⟨rfl, ⟨nd, rfl⟩⟩) | (go_at_call 69; (with_reducible refine (spec_l01In.calls a0_2 0 65535 true _ A6.out).mono ?_); rintro e w' ⟨rfl, ⟨nd, rfl⟩⟩) | (go_at_call 69; (with_reducible refine (spec_l01In.calls a0_3 0 160 false _ A8.out).mono ?_); rintro e w' ⟨rfl, ⟨nd, rfl⟩⟩))
    go_ret; exact ⟨B3x4_, (Ae1 HB GE147)⟩
   obtain rfl := Option.some.inj HZ7; clear HZ7 HZ1 HZ2 HZ3 HZ4 HZ5 HZ6; go_enter Try.func95, Try.ntmps95
   go_wp2_with (first | ((with_reducible refine gate_dst (N := 1) rfl ?_); (try (refine gate_guard (by rfl) ?_; dsimp only)); refine bx (N := 1) (cs := #[.int .i64 a0_0, .int .i64 a0_1, .int .i64 a0_2, .int .i64 a0_3, .bool a0_4, .string a0_5]) (t := 62) ?_; intro gb147 hg w24 hbox hb; have BK147 := am (hbox); have GE147 := gA hg HB; replace HB := hA HB hb; clear hb hbox hg; obtain ⟨zc147_0, zc147_1, zc147_2, zc147_3, zc147_4, zc147_5, zf147_0, zf147_1, zf147_2, zf147_3, zf147_4, zf147_5⟩ := cf6 BK147) | ((with_reducible refine gate_callee (f := 69) rfl ?_); refine gM (some 5) Try.func69 (spec_l01In.calls a0_0 1 99 true _ A2.out) ?_; rintro w' ⟨nd, rfl⟩) | (go_at_call 69; (with_reducible refine (spec_l01In.calls a0_1 1 99 true _ A4.out).mono ?_); rintro e w' ⟨rfl, ⟨nd, rfl⟩⟩) | (go_at_call 69; (with_reducible refine (spec_l01In.calls a0_2 0 65535 false _ A6.out).mono ?_); rintro e w' ⟨rfl, ⟨nd, rfl⟩⟩))
   go_ret; exact ⟨B3x4_, (Ae1 HB GE147)⟩
  obtain rfl := Option.some.inj HZ5; clear HZ5 HZ1 HZ2 HZ3 HZ4; go_enter Try.func95, Try.ntmps95
  go_wp2_with (first | ((with_reducible refine gate_dst (N := 1) rfl ?_); (try (refine gate_guard (by rfl) ?_; dsimp only)); refine bx (N := 1) (cs := #[.int .i64 a0_0, .int .i64 a0_1, .int .i64 a0_2, .int .i64 a0_3, .bool a0_4, .string a0_5]) (t := 62) ?_; intro gb147 hg w26 hbox hb; have BK147 := am (hbox); have GE147 := gA hg HB; replace HB := hA HB hb; clear hb hbox hg; obtain ⟨zc147_0, zc147_1, zc147_2, zc147_3, zc147_4, zc147_5, zf147_0, zf147_1, zf147_2, zf147_3, zf147_4, zf147_5⟩ := cf6 BK147) | ((with_reducible refine gate_callee (f := 69) rfl ?_); refine gM (some 5) Try.func69 (spec_l01In.calls a0_0 1 99 true _ A2.out) ?_; rintro w' ⟨nd, rfl⟩) | (go_at_call 69; refine (spec_l01In.calls a0_1 1 99 false _ A4.out).mono ?_; rintro e w' ⟨rfl, ⟨nd, rfl⟩⟩))
  go_ret; exact ⟨B3x4_, (Ae1 HB GE147)⟩
 obtain rfl := Option.some.inj HZ3
 clear HZ3 HZ1 HZ2
 go_enter Try.func95, Try.ntmps95
 go_wp2_with (first | ((with_reducible refine gate_dst (N := 1) rfl ?_); (try (refine gate_guard (by rfl) ?_; dsimp only)); refine bx (N := 1) (cs := #[.int .i64 a0_0, .int .i64 a0_1, .int .i64 a0_2, .int .i64 a0_3, .bool a0_4, .string a0_5]) (t := 62) ?_; intro gb147 hg w28 hbox hb; have BK147 := am (hbox); have GE147 := gA hg HB; replace HB := hA HB hb; clear hb hbox hg; obtain ⟨zc147_0, zc147_1, zc147_2, zc147_3, zc147_4, zc147_5, zf147_0, zf147_1, zf147_2, zf147_3, zf147_4, zf147_5⟩ := cf6 BK147) | ((with_reducible refine gate_callee (f := 69) rfl ?_); refine gM (some 5) Try.func69 (spec_l01In.calls a0_0 1 99 false _ A2.out) ?_; rintro w' ⟨nd, rfl⟩))
 go_ret
 exact ⟨B3x4_, (Ae1 HB GE147)⟩

end Go.Proofs.Ytmknnoeggkgkgaa.QFnBits
