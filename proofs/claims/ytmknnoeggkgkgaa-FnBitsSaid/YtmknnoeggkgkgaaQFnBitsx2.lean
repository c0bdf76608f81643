/- Functions that a law reaches, as functions of Lean, and the walks that show that the calls come to their answers: written by a program of this project out of the translation. No condition. -/
import Derived.Test.YtmknnoeggkgkgaaQFnBitsx0
import Derived.Test.YtmknnoeggkgkgaaVFnBitshort4
import Derived.Test.YtmknnoeggkgkgaaVFnBitshort3
import Derived.Test.YtmknnoeggkgkgaaVFnBitsShort2
import Derived.Test.YtmknnoeggkgkgaaVFnBitsShort
import Derived.Test.YtmknnoeggkgkgaaVFnBitshort8
namespace Go.Proofs.Ytmknnoeggkgkgaa.QFnBits
open Go.RowKit Go.Proofs.YtmknnoeggkgkgaaW.PrintWords Go.Proofs.YtmknnoeggkgkgaaW.PrintLast Go.Proofs.YtmknnoeggkgkgaaW.PrintMore Go.Proofs.Ytmknnoeggkgkgaa.Short
attribute [local go_sem] max2_int min2_int max_two min_two max_three min_three max_four min_four   -- for this text's walks alone
set_option linter.unusedVariables false
set_option linter.unusedSimpArgs false

theorem B2x4_ {p : Prop} (h : p := by first | rfl | (simp [errW_none, errW_some] <;> rfl) | (simp [*, errW_none, errW_some] <;> rfl)) : p := h
/-! ### laws_big: function 33 -/
def laws_big.f (l0 : List Int) : Option (Bool) := some (decide ((l0.length : Int) > 1048576))
set_option maxHeartbeats 8000000 in
set_option maxRecDepth 100000 in
theorem laws_big.calls (A0 : Option Addr) (c0 : Nat) (l0 : List Int) (r : Bool) (w : World) (hr0 : Kd.C (Kd.int .u8) w A0 l0.length l0) (hc0 : l0.length ≤ c0) (h : laws_big.f l0 = some r) :
  Calls Try.prog 33 #[.slice A0 l0.length c0] w fun e w' => e = .returned (.bool r) ∧ Drawn0 w w' := by
 have HR0 := am hr0
 have HC0 := am hc0
 clear hr0 hc0
 have HZ1 := h
 clear h
 unfold laws_big.f at HZ1
 obtain rfl := Option.some.inj HZ1
 clear HZ1
 go_enter Try.func33, Try.ntmps33
 go_wp2
 go_ret
 exact ⟨gr_, gd_⟩

/-! ### impl_within: function 74 -/
def impl_within.f (a0 : Int) (a1 : Int) (a2 : Int) : Option (Bool) := if a0 ≥ a1 then (some (decide (a0 ≤ a2))) else (some false)
set_option maxHeartbeats 8000000 in
set_option maxRecDepth 100000 in
theorem impl_within.calls (a0 : Int) (a1 : Int) (a2 : Int) (r : Bool) (w : World) (h : impl_within.f a0 a1 a2 = some r) :
  Calls Try.prog 74 #[.int .i64 a0, .int .i64 a1, .int .i64 a2] w fun e w' => e = .returned (.bool r) ∧ Drawn0 w w' := by
 have HZ1 := h
 clear h
 unfold impl_within.f at HZ1
 obtain ⟨c4, HZ2⟩ | ⟨c4, HZ2⟩ := sp HZ1
 ·have c4b0 : decide (a1 ≤ a0) = true := decide_eq_true c4
  clear c4; obtain rfl := Option.some.inj HZ2; clear HZ2 HZ1; go_enter Try.func74, Try.ntmps74
  go_wp2
  go_ret; exact ⟨gr_, gd_⟩
 ·have c4b0 : decide (a1 ≤ a0) = false := decide_eq_false c4
  clear c4; obtain rfl := Option.some.inj HZ2; clear HZ2 HZ1; go_enter Try.func74, Try.ntmps74
  go_wp2
  go_ret; exact ⟨gr_, gd_⟩

/-! ### impl_isAddr: function 96 -/
def impl_isAddr.f (a0 : Int) : Option (Bool) := (impl_within.f a0 1 99).bind fun t101 => (some t101)
set_option maxHeartbeats 8000000 in
set_option maxRecDepth 100000 in
theorem impl_isAddr.calls (a0 : Int) (r : Bool) (w : World) (h : impl_isAddr.f a0 = some r) :
  Calls Try.prog 96 #[.int .i64 a0] w fun e w' => e = .returned (.bool r) ∧ Drawn0 w w' := by
 have HZ1 := h
 clear h
 unfold impl_isAddr.f at HZ1
 obtain ⟨t101, A2, HZ2⟩ := bsi HZ1
 (try dsimp only at HZ2)
 obtain rfl := Option.some.inj HZ2
 clear HZ2 HZ1
 go_enter Try.func96, Try.ntmps96
 go_wp2_with (first | ((with_reducible refine gate_callee (f := 74) rfl ?_); refine gM (some 4) Try.func74 (impl_within.calls a0 1 99 t101 _ A2.out) ?_; rintro w' ⟨nd, rfl⟩))
 go_ret
 exact ⟨gr_, gd_⟩

/-! ### impl_isWord: function 97 -/
def impl_isWord.f (a0 : Int) : Option (Bool) := (impl_within.f a0 0 65535).bind fun t102 => (some t102)
set_option maxHeartbeats 8000000 in
set_option maxRecDepth 100000 in
theorem impl_isWord.calls (a0 : Int) (r : Bool) (w : World) (h : impl_isWord.f a0 = some r) :
  Calls Try.prog 97 #[.int .i64 a0] w fun e w' => e = .returned (.bool r) ∧ Drawn0 w w' := by
 have HZ1 := h
 clear h
 unfold impl_isWord.f at HZ1
 obtain ⟨t102, A2, HZ2⟩ := bsi HZ1
 (try dsimp only at HZ2)
 obtain rfl := Option.some.inj HZ2
 clear HZ2 HZ1
 go_enter Try.func97, Try.ntmps97
 go_wp2_with (first | ((with_reducible refine gate_callee (f := 74) rfl ?_); refine gM (some 4) Try.func74 (impl_within.calls a0 0 65535 t102 _ A2.out) ?_; rintro w' ⟨nd, rfl⟩))
 go_ret
 exact ⟨gr_, gd_⟩

/-! ### impl_DgramOk: function 38 -/
def impl_DgramOk.f (a0_0 : Int) (a0_1 : Int) (a0_2 : Int) (a0_3 : Int) (a0_4 : Bool) (a0_5 : ByteArray) : Option (Bool) := (impl_within.f a0_3 0 160).bind fun t104 => (if t104 = true then (if (Int.tmod a0_3 8) = 0 then ((impl_within.f (a0_5.size : Int) 1 (wrap64 (160 - a0_3))).bind fun t105 => ((impl_isAddr.f a0_0).bind fun t106 => (if t106 = true then ((impl_isAddr.f a0_1).bind fun t107 => (if t107 = true then ((impl_isWord.f a0_2).bind fun t108 => (if t108 = true then (if t105 = true then (if a0_4 = true then (some (((a0_5.size : Int) % 8) == 0)) else (some true)) else (some false)) else (some false))) else (some false))) else (some false)))) else ((impl_isAddr.f a0_0).bind fun t109 => (if t109 = true then ((impl_isAddr.f a0_1).bind fun t110 => (if t110 = true then ((impl_isWord.f a0_2).bind fun t111 => (if t111 = true then (some false) else (some false))) else (some false))) else (some false)))) else ((impl_isAddr.f a0_0).bind fun t112 => (if t112 = true then ((impl_isAddr.f a0_1).bind fun t113 => (if t113 = true then ((impl_isWord.f a0_2).bind fun t114 => (if t114 = true then (some false) else (some false))) else (some false))) else (some false))))
set_option maxHeartbeats 8000000 in
set_option maxRecDepth 100000 in
theorem impl_DgramOk.calls (a0_0 : Int) (a0_1 : Int) (a0_2 : Int) (a0_3 : Int) (a0_4 : Bool) (a0_5 : ByteArray) (r : Bool) (w : World) (h : impl_DgramOk.f a0_0 a0_1 a0_2 a0_3 a0_4 a0_5 = some r) :
  Calls Try.prog 38 #[.agg #[.int .i64 a0_0, .int .i64 a0_1, .int .i64 a0_2, .int .i64 a0_3, .bool a0_4, .string a0_5]] w fun e w' => e = .returned (.bool r) ∧ Below w.heap.size w w' := by
 have hu62 := Try.underlying62
 have HB := am (Below.refl w.heap.size w)
 have HZ1 := h
 clear h
 unfold impl_DgramOk.f at HZ1
 obtain ⟨t104, A2, HZ2⟩ := bsi HZ1
 (try dsimp only at HZ2)
 obtain ⟨rfl, HZ3⟩ | ⟨rfl, HZ3⟩ := sb HZ2
 ·obtain ⟨c4, HZ4⟩ | ⟨c4, HZ4⟩ := sp HZ3
  ·obtain ⟨c4b0, c4b1⟩ := yE c4; clear c4; obtain ⟨t105, A5, HZ5⟩ := bsi HZ4; (try dsimp only at HZ5); obtain ⟨t106, A6, HZ6⟩ := bsi HZ5; (try dsimp only at HZ6)
   obtain ⟨rfl, HZ7⟩ | ⟨rfl, HZ7⟩ := sb HZ6
   ·obtain ⟨t107, A8, HZ8⟩ := bsi HZ7; (try dsimp only at HZ8)
    obtain ⟨rfl, HZ9⟩ | ⟨rfl, HZ9⟩ := sb HZ8
    ·obtain ⟨t108, A10, HZ10⟩ := bsi HZ9; (try dsimp only at HZ10)
     obtain ⟨rfl, HZ11⟩ | ⟨rfl, HZ11⟩ := sb HZ10
     ·obtain ⟨rfl, HZ12⟩ | ⟨rfl, HZ12⟩ := sb HZ11
      ·obtain ⟨rfl, HZ13⟩ | ⟨rfl, HZ13⟩ := sb HZ12
       ·obtain rfl := Option.some.inj HZ13; clear HZ13 HZ1 HZ2 HZ3 HZ4 HZ5 HZ6 HZ7 HZ8 HZ9 HZ10 HZ11 HZ12; go_enter Try.func38, Try.ntmps38
        go_wp2_with (first | ((with_reducible refine gate_dst (N := 1) rfl ?_); (try (refine gate_guard (by rfl) ?_; dsimp only)); refine bx (N := 1) (cs := #[.int .i64 a0_0, .int .i64 a0_1, .int .i64 a0_2, .int .i64 a0_3, .bool true, .string a0_5]) (t := 62) ?_; intro gb103 hg w14 hbox hb; have BK103 := am (hbox); have GE103 := gA hg HB; replace HB := hA HB hb; clear hb hbox hg; obtain ⟨zc103_0, zc103_1, zc103_2, zc103_3, zc103_4, zc103_5, zf103_0, zf103_1, zf103_2, zf103_3, zf103_4, zf103_5⟩ := cf6 BK103) | ((with_reducible refine gate_callee (f := 74) rfl ?_); refine gM (some 6) Try.func74 (impl_within.calls a0_3 0 160 true _ A2.out) ?_; rintro w' ⟨nd, rfl⟩) | (go_at_call 74; refine (impl_within.calls (a0_5.size : Int) 1 (wrap64 (160 - a0_3)) true _ A5.out).mono ?_; rintro e w' ⟨rfl, ⟨nd, rfl⟩⟩) | ((with_reducible refine gate_callee (f := 96) rfl ?_); refine gM (some 24) Try.func96 (impl_isAddr.calls a0_0 true _ A6.out) ?_; rintro w' ⟨nd, rfl⟩) | (go_at_call 96; refine (impl_isAddr.calls a0_1 true _ A8.out).mono ?_; rintro e w' ⟨rfl, ⟨nd, rfl⟩⟩) | (go_at_call 97; refine (impl_isWord.calls a0_2 true _ A10.out).mono ?_; rintro e w' ⟨rfl, ⟨nd, rfl⟩⟩))
        go_ret; exact ⟨B2x4_, (Ae1 HB GE103)⟩
       ·obtain rfl := Option.some.inj HZ13; clear HZ13 HZ1 HZ2 HZ3 HZ4 HZ5 HZ6 HZ7 HZ8 HZ9 HZ10 HZ11 HZ12; go_enter Try.func38, Try.ntmps38
        go_wp2_with (first | ((with_reducible refine gate_dst (N := 1) rfl ?_); (try (refine gate_guard (by rfl) ?_; dsimp only)); refine bx (N := 1) (cs := #[.int .i64 a0_0, .int .i64 a0_1, .int .i64 a0_2, .int .i64 a0_3, .bool false, .string a0_5]) (t := 62) ?_; intro gb103 hg w16 hbox hb; have BK103 := am (hbox); have GE103 := gA hg HB; replace HB := hA HB hb; clear hb hbox hg; obtain ⟨zc103_0, zc103_1, zc103_2, zc103_3, zc103_4, zc103_5, zf103_0, zf103_1, zf103_2, zf103_3, zf103_4, zf103_5⟩ := cf6 BK103) | ((with_reducible refine gate_callee (f := 74) rfl ?_); refine gM (some 6) Try.func74 (impl_within.calls a0_3 0 160 true _ A2.out) ?_; rintro w' ⟨nd, rfl⟩) | (go_at_call 74; refine (impl_within.calls (a0_5.size : Int) 1 (wrap64 (160 - a0_3)) true _ A5.out).mono ?_; rintro e w' ⟨rfl, ⟨nd, rfl⟩⟩) | ((with_reducible refine gate_callee (f := 96) rfl ?_); refine gM (some 24) Try.func96 (impl_isAddr.calls a0_0 true _ A6.out) ?_; rintro w' ⟨nd, rfl⟩) | (go_at_call 96; refine (impl_isAddr.calls a0_1 true _ A8.out).mono ?_; rintro e w' ⟨rfl, ⟨nd, rfl⟩⟩) | (go_at_call 97; refine (impl_isWord.calls a0_2 true _ A10.out).mono ?_; rintro e w' ⟨rfl, ⟨nd, rfl⟩⟩))
        go_ret; exact ⟨B2x4_, (Ae1 HB GE103)⟩
      ·obtain rfl := Option.some.inj HZ12; clear HZ12 HZ1 HZ2 HZ3 HZ4 HZ5 HZ6 HZ7 HZ8 HZ9 HZ10 HZ11; go_enter Try.func38, Try.ntmps38
       go_wp2_with (first | ((with_reducible refine gate_dst (N := 1) rfl ?_); (try (refine gate_guard (by rfl) ?_; dsimp only)); refine bx (N := 1) (cs := #[.int .i64 a0_0, .int .i64 a0_1, .int .i64 a0_2, .int .i64 a0_3, .bool a0_4, .string a0_5]) (t := 62) ?_; intro gb103 hg w18 hbox hb; have BK103 := am (hbox); have GE103 := gA hg HB; replace HB := hA HB hb; clear hb hbox hg; obtain ⟨zc103_0, zc103_1, zc103_2, zc103_3, zc103_4, zc103_5, zf103_0, zf103_1, zf103_2, zf103_3, zf103_4, zf103_5⟩ := cf6 BK103) | ((with_reducible refine gate_callee (f := 74) rfl ?_); refine gM (some 6) Try.func74 (impl_within.calls a0_3 0 160 true _ A2.out) ?_; rintro w' ⟨nd, rfl⟩) | (go_at_call 74; refine (impl_within.calls (a0_5.size : Int) 1 (wrap64 (160 - a0_3)) false _ A5.out).mono ?_; rintro e w' ⟨rfl, ⟨nd, rfl⟩⟩) | ((with_reducible refine gate_callee (f := 96) rfl ?_); refine gM (some 24) Try.func96 (impl_isAddr.calls a0_0 true _ A6.out) ?_; rintro w' ⟨nd, rfl⟩) | (go_at_call 96; refine (impl_isAddr.calls a0_1 true _ A8.out).mono ?_; rintro e w' ⟨rfl, ⟨nd, rfl⟩⟩) | (go_at_call 97; refine (impl_isWord.calls a0_2 true _ A10.out).mono ?_; rintro e w' ⟨rfl, ⟨nd, rfl⟩⟩))
       go_ret; exact ⟨B2x4_, (Ae1 HB GE103)⟩
     ·obtain rfl := Option.some.inj HZ11; clear HZ11 HZ1 HZ2 HZ3 HZ4 HZ5 HZ6 HZ7 HZ8 HZ9 HZ10; go_enter Try.func38, Try.ntmps38
      go_wp2_with (first | ((with_reducible refine gate_dst (N := 1) rfl ?_); (try (refine gate_guard (by rfl) ?_; dsimp only)); refine bx (N := 1) (cs := #[.int .i64 a0_0, .int .i64 a0_1, .int .i64 a0_2, .int .i64 a0_3, .bool a0_4, .string a0_5]) (t := 62) ?_; intro gb103 hg w20 hbox hb; have BK103 := am (hbox); have GE103 := gA hg HB; replace HB := hA HB hb; clear hb hbox hg; obtain ⟨zc103_0, zc103_1, zc103_2, zc103_3, zc103_4, zc103_5, zf103_0, zf103_1, zf103_2, zf103_3, zf103_4, zf103_5⟩ := cf6 BK103) | ((with_reducible refine gate_callee (f := 74) rfl ?_); refine gM (some 6) Try.func74 (impl_within.calls a0_3 0 160 true _ A2.out) ?_; rintro w' ⟨nd, rfl⟩) | (go_at_call 74; refine (impl_within.calls (a0_5.size : Int) 1 (wrap64 (160 - a0_3)) t105 _ A5.out).mono ?_; rintro e w' ⟨rfl, ⟨nd, rfl⟩⟩) | ((with_reducible refine gate_callee (f := 96) rfl ?_); refine gM (some 24) Try.func96 (impl_isAddr.calls a0_0 true _ A6.out) ?_; rintro w' ⟨nd, rfl⟩) | (go_at_call 96; refine (impl_isAddr.calls a0_1 true _ A8.out).mono ?_; rintro e w' ⟨rfl, ⟨nd, rfl⟩⟩) | (go_at_call 97; refine (impl_isWord.calls a0_2 false _ A10.out).mono ?_; rintro e w' ⟨rfl, ⟨nd, rfl⟩⟩))
      go_ret; exact ⟨B2x4_, (Ae1 HB GE103)⟩
    ·obtain rfl := Option.some.inj HZ9; clear HZ9 HZ1 HZ2 HZ3 HZ4 HZ5 HZ6 HZ7 HZ8; go_enter Try.func38, Try.ntmps38
     go_wp2_with (first | ((with_reducible refine gate_dst (N := 1) rfl ?_); (try (refine gate_guard (by rfl) ?_; dsimp only)); refine bx (N := 1) (cs := #[.int .i64 a0_0, .int .i64 a0_1, .int .i64 a0_2, .int .i64 a0_3, .bool a0_4, .string a0_5]) (t := 62) ?_; intro gb103 hg w22 hbox hb; have BK103 := am (hbox); have GE103 := gA hg HB; replace HB := hA HB hb; clear hb hbox hg; obtain ⟨zc103_0, zc103_1, zc103_2, zc103_3, zc103_4, zc103_5, zf103_0, zf103_1, zf103_2, zf103_3, zf103_4, zf103_5⟩ := cf6 BK103) | ((with_reducible refine gate_callee (f := 74) rfl ?_); refine gM (some 6) Try.func74 (impl_within.calls a0_3 0 160 true _ A2.out) ?_; rintro w' ⟨nd, rfl⟩) | (go_at_call 74; refine (impl_within.calls (a0_5.size : Int) 1 (wrap64 (160 - a0_3)) t105 _ A5.out).mono ?_; rintro e w' ⟨rfl, ⟨nd, rfl⟩⟩) | ((with_reducible refine gate_callee (f := 96) rfl ?_); refine gM (some 24) Try.func96 (impl_isAddr.calls a0_0 true _ A6.out) ?_; rintro w' ⟨nd, rfl⟩) | (go_at_call 96; refine (impl_isAddr.calls a0_1 false _ A8.out).mono ?_; rintro e w' ⟨rfl, ⟨nd, rfl⟩⟩))
     go_ret; exact ⟨B2x4_, (Ae1 HB GE103)⟩
   ·obtain rfl := Option.some.inj HZ7; clear HZ7 HZ1 HZ2 HZ3 HZ4 HZ5 HZ6; go_enter Try.func38, Try.ntmps38
    go_wp2_with (first | ((with_reducible refine gate_dst (N := 1) rfl ?_); (try (refine gate_guard (by rfl) ?_; dsimp only)); refine bx (N := 1) (cs := #[.int .i64 a0_0, .int .i64 a0_1, .int .i64 a0_2, .int .i64 a0_3, .bool a0_4, .string a0_5]) (t := 62) ?_; intro gb103 hg w24 hbox hb; have BK103 := am (hbox); have GE103 := gA hg HB; replace HB := hA HB hb; clear hb hbox hg; obtain ⟨zc103_0, zc103_1, zc103_2, zc103_3, zc103_4, zc103_5, zf103_0, zf103_1, zf103_2, zf103_3, zf103_4, zf103_5⟩ := cf6 BK103) | ((with_reducible refine gate_callee (f := 74) rfl ?_); refine gM (some 6) Try.func74 (impl_within.calls a0_3 0 160 true _ A2.out) ?_; rintro w' ⟨nd, rfl⟩) | (go_at_call 74; refine (impl_within.calls (a0_5.size : Int) 1 (wrap64 (160 - a0_3)) t105 _ A5.out).mono ?_; rintro e w' ⟨rfl, ⟨nd, rfl⟩⟩) | ((with_reducible refine gate_callee (f := 96) rfl ?_); refine gM (some 24) Try.func96 (impl_isAddr.calls a0_0 false _ A6.out) ?_; rintro w' ⟨nd, rfl⟩))
    go_ret; exact ⟨B2x4_, (Ae1 HB GE103)⟩
  ·obtain ⟨c4b0, c4b1⟩ := nE c4; obtain ⟨t109, A26, HZ14⟩ := bsi HZ4; (try dsimp only at HZ14)
   obtain ⟨rfl, HZ15⟩ | ⟨rfl, HZ15⟩ := sb HZ14
   ·obtain ⟨t110, A28, HZ16⟩ := bsi HZ15; (try dsimp only at HZ16)
    obtain ⟨rfl, HZ17⟩ | ⟨rfl, HZ17⟩ := sb HZ16
    ·obtain ⟨t111, A30, HZ18⟩ := bsi HZ17; (try dsimp only at HZ18)
     obtain ⟨rfl, HZ19⟩ | ⟨rfl, HZ19⟩ := sb HZ18
     ·obtain rfl := Option.some.inj HZ19; clear HZ19 HZ1 HZ2 HZ3 HZ4 HZ14 HZ15 HZ16 HZ17 HZ18; go_enter Try.func38, Try.ntmps38
      go_wp2_with (first | ((with_reducible refine gate_dst (N := 1) rfl ?_); (try (refine gate_guard (by rfl) ?_; dsimp only)); refine bx (N := 1) (cs := #[.int .i64 a0_0, .int .i64 a0_1, .int .i64 a0_2, .int .i64 a0_3, .bool a0_4, .string a0_5]) (t := 62) ?_; intro gb103 hg w32 hbox hb; have BK103 := am (hbox); have GE103 := gA hg HB; replace HB := hA HB hb; clear hb hbox hg; obtain ⟨zc103_0, zc103_1, zc103_2, zc103_3, zc103_4, zc103_5, zf103_0, zf103_1, zf103_2, zf103_3, zf103_4, zf103_5⟩ := cf6 BK103) | ((with_reducible refine gate_callee (f := 74) rfl ?_); refine gM (some 6) Try.func74 (impl_within.calls a0_3 0 160 true _ A2.out) ?_; rintro w' ⟨nd, rfl⟩) | ((with_reducible refine gate_callee (f := 96) rfl ?_); refine gM (some 24) Try.func96 (impl_isAddr.calls a0_0 true _ A26.out) ?_; rintro w' ⟨nd, rfl⟩) | (go_at_call 96; refine (impl_isAddr.calls a0_1 true _ A28.out).mono ?_; rintro e w' ⟨rfl, ⟨nd, rfl⟩⟩) | (go_at_call 97; refine (impl_isWord.calls a0_2 true _ A30.out).mono ?_; rintro e w' ⟨rfl, ⟨nd, rfl⟩⟩))
      go_ret; exact ⟨B2x4_, (Ae1 HB GE103)⟩
     ·obtain rfl := Option.some.inj HZ19; clear HZ19 HZ1 HZ2 HZ3 HZ4 HZ14 HZ15 HZ16 HZ17 HZ18; go_enter Try.func38, Try.ntmps38
      go_wp2_with (first | ((with_reducible refine gate_dst (N := 1) rfl ?_); (try (refine gate_guard (by rfl) ?_; dsimp only)); refine bx (N := 1) (cs := #[.int .i64 a0_0, .int .i64 a0_1, .int .i64 a0_2, .int .i64 a0_3, .bool a0_4, .string a0_5]) (t := 62) ?_; intro gb103 hg w34 hbox hb; have BK103 := am (hbox); have GE103 := gA hg HB; replace HB := hA HB hb; clear hb hbox hg; obtain ⟨zc103_0, zc103_1, zc103_2, zc103_3, zc103_4, zc103_5, zf103_0, zf103_1, zf103_2, zf103_3, zf103_4, zf103_5⟩ := cf6 BK103) | ((with_reducible refine gate_callee (f := 74) rfl ?_); refine gM (some 6) Try.func74 (impl_within.calls a0_3 0 160 true _ A2.out) ?_; rintro w' ⟨nd, rfl⟩) | ((with_reducible refine gate_callee (f := 96) rfl ?_); refine gM (some 24) Try.func96 (impl_isAddr.calls a0_0 true _ A26.out) ?_; rintro w' ⟨nd, rfl⟩) | (go_at_call 96; refine (impl_isAddr.calls a0_1 true _ A28.out).mono ?_; rintro e w' ⟨rfl, ⟨nd, rfl⟩⟩) | (go_at_call 97; refine (impl_isWord.calls a0_2 false _ A30.out).mono ?_; rintro e w' ⟨rfl, ⟨nd, rfl⟩⟩))
      go_ret; exact ⟨B2x4_, (Ae1 HB GE103)⟩
    ·obtain rfl := Option.some.inj HZ17; clear HZ17 HZ1 HZ2 HZ3 HZ4 HZ14 HZ15 HZ16; go_enter Try.func38, Try.ntmps38
     go_wp2_with (first | ((with_reducible refine gate_dst (N := 1) rfl ?_); (try (refine gate_guard (by rfl) ?_; dsimp only)); refine bx (N := 1) (cs := #[.int .i64 a0_0, .int .i64 a0_1, .int .i64 a0_2, .int .i64 a0_3, .bool a0_4, .string a0_5]) (t := 62) ?_; intro gb103 hg w36 hbox hb; have BK103 := am (hbox); have GE103 := gA hg HB; replace HB := hA HB hb; clear hb hbox hg; obtain ⟨zc103_0, zc103_1, zc103_2, zc103_3, zc103_4, zc103_5, zf103_0, zf103_1, zf103_2, zf103_3, zf103_4, zf103_5⟩ := cf6 BK103) | ((with_reducible refine gate_callee (f := 74) rfl ?_); refine gM (some 6) Try.func74 (impl_within.calls a0_3 0 160 true _ A2.out) ?_; rintro w' ⟨nd, rfl⟩) | ((with_reducible refine gate_callee (f := 96) rfl ?_); refine gM (some 24) Try.func96 (impl_isAddr.calls a0_0 true _ A26.out) ?_; rintro w' ⟨nd, rfl⟩) | (go_at_call 96; refine (impl_isAddr.calls a0_1 false _ A28.out).mono ?_; rintro e w' ⟨rfl, ⟨nd, rfl⟩⟩))
     go_ret; exact ⟨B2x4_, (Ae1 HB GE103)⟩
   ·obtain rfl := Option.some.inj HZ15; clear HZ15 HZ1 HZ2 HZ3 HZ4 HZ14; go_enter Try.func38, Try.ntmps38
    go_wp2_with (first | ((with_reducible refine gate_dst (N := 1) rfl ?_); (try (refine gate_guard (by rfl) ?_; dsimp only)); refine bx (N := 1) (cs := #[.int .i64 a0_0, .int .i64 a0_1, .int .i64 a0_2, .int .i64 a0_3, .bool a0_4, .string a0_5]) (t := 62) ?_; intro gb103 hg w38 hbox hb; have BK103 := am (hbox); have GE103 := gA hg HB; replace HB := hA HB hb; clear hb hbox hg; obtain ⟨zc103_0, zc103_1, zc103_2, zc103_3, zc103_4, zc103_5, zf103_0, zf103_1, zf103_2, zf103_3, zf103_4, zf103_5⟩ := cf6 BK103) | ((with_reducible refine gate_callee (f := 74) rfl ?_); refine gM (some 6) Try.func74 (impl_within.calls a0_3 0 160 true _ A2.out) ?_; rintro w' ⟨nd, rfl⟩) | ((with_reducible refine gate_callee (f := 96) rfl ?_); refine gM (some 24) Try.func96 (impl_isAddr.calls a0_0 false _ A26.out) ?_; rintro w' ⟨nd, rfl⟩))
    go_ret; exact ⟨B2x4_, (Ae1 HB GE103)⟩
 ·obtain ⟨t112, A40, HZ20⟩ := bsi HZ3; (try dsimp only at HZ20)
  obtain ⟨rfl, HZ21⟩ | ⟨rfl, HZ21⟩ := sb HZ20
  ·obtain ⟨t113, A42, HZ22⟩ := bsi HZ21; (try dsimp only at HZ22)
   obtain ⟨rfl, HZ23⟩ | ⟨rfl, HZ23⟩ := sb HZ22
   ·obtain ⟨t114, A44, HZ24⟩ := bsi HZ23; (try dsimp only at HZ24)
    obtain ⟨rfl, HZ25⟩ | ⟨rfl, HZ25⟩ := sb HZ24
    ·obtain rfl := Option.some.inj HZ25; clear HZ25 HZ1 HZ2 HZ3 HZ20 HZ21 HZ22 HZ23 HZ24; go_enter Try.func38, Try.ntmps38
     go_wp2_with (first | ((with_reducible refine gate_dst (N := 1) rfl ?_); (try (refine gate_guard (by rfl) ?_; dsimp only)); refine bx (N := 1) (cs := #[.int .i64 a0_0, .int .i64 a0_1, .int .i64 a0_2, .int .i64 a0_3, .bool a0_4, .string a0_5]) (t := 62) ?_; intro gb103 hg w46 hbox hb; have BK103 := am (hbox); have GE103 := gA hg HB; replace HB := hA HB hb; clear hb hbox hg; obtain ⟨zc103_0, zc103_1, zc103_2, zc103_3, zc103_4, zc103_5, zf103_0, zf103_1, zf103_2, zf103_3, zf103_4, zf103_5⟩ := cf6 BK103) | ((with_reducible refine gate_callee (f := 74) rfl ?_); refine gM (some 6) Try.func74 (impl_within.calls a0_3 0 160 false _ A2.out) ?_; rintro w' ⟨nd, rfl⟩) | ((with_reducible refine gate_callee (f := 96) rfl ?_); refine gM (some 24) Try.func96 (impl_isAddr.calls a0_0 true _ A40.out) ?_; rintro w' ⟨nd, rfl⟩) | (go_at_call 96; refine (impl_isAddr.calls a0_1 true _ A42.out).mono ?_; rintro e w' ⟨rfl, ⟨nd, rfl⟩⟩) | (go_at_call 97; refine (impl_isWord.calls a0_2 true _ A44.out).mono ?_; rintro e w' ⟨rfl, ⟨nd, rfl⟩⟩))
     go_ret; exact ⟨B2x4_, (Ae1 HB GE103)⟩
    ·obtain rfl := Option.some.inj HZ25; clear HZ25 HZ1 HZ2 HZ3 HZ20 HZ21 HZ22 HZ23 HZ24; go_enter Try.func38, Try.ntmps38
     go_wp2_with (first | ((with_reducible refine gate_dst (N := 1) rfl ?_); (try (refine gate_guard (by rfl) ?_; dsimp only)); refine bx (N := 1) (cs := #[.int .i64 a0_0, .int .i64 a0_1, .int .i64 a0_2, .int .i64 a0_3, .bool a0_4, .string a0_5]) (t := 62) ?_; intro gb103 hg w48 hbox hb; have BK103 := am (hbox); have GE103 := gA hg HB; replace HB := hA HB hb; clear hb hbox hg; obtain ⟨zc103_0, zc103_1, zc103_2, zc103_3, zc103_4, zc103_5, zf103_0, zf103_1, zf103_2, zf103_3, zf103_4, zf103_5⟩ := cf6 BK103) | ((with_reducible refine gate_callee (f := 74) rfl ?_); refine gM (some 6) Try.func74 (impl_within.calls a0_3 0 160 false _ A2.out) ?_; rintro w' ⟨nd, rfl⟩) | ((with_reducible refine gate_callee (f := 96) rfl ?_); refine gM (some 24) Try.func96 (impl_isAddr.calls a0_0 true _ A40.out) ?_; rintro w' ⟨nd, rfl⟩) | (go_at_call 96; refine (impl_isAddr.calls a0_1 true _ A42.out).mono ?_; rintro e w' ⟨rfl, ⟨nd, rfl⟩⟩) | (go_at_call 97; refine (impl_isWord.calls a0_2 false _ A44.out).mono ?_; rintro e w' ⟨rfl, ⟨nd, rfl⟩⟩))
     go_ret; exact ⟨B2x4_, (Ae1 HB GE103)⟩
   ·obtain rfl := Option.some.inj HZ23; clear HZ23 HZ1 HZ2 HZ3 HZ20 HZ21 HZ22; go_enter Try.func38, Try.ntmps38
    go_wp2_with (first | ((with_reducible refine gate_dst (N := 1) rfl ?_); (try (refine gate_guard (by rfl) ?_; dsimp only)); refine bx (N := 1) (cs := #[.int .i64 a0_0, .int .i64 a0_1, .int .i64 a0_2, .int .i64 a0_3, .bool a0_4, .string a0_5]) (t := 62) ?_; intro gb103 hg w50 hbox hb; have BK103 := am (hbox); have GE103 := gA hg HB; replace HB := hA HB hb; clear hb hbox hg; obtain ⟨zc103_0, zc103_1, zc103_2, zc103_3, zc103_4, zc103_5, zf103_0, zf103_1, zf103_2, zf103_3, zf103_4, zf103_5⟩ := cf6 BK103) | ((with_reducible refine gate_callee (f := 74) rfl ?_); refine gM (some 6) Try.func74 (impl_within.calls a0_3 0 160 false _ A2.out) ?_; rintro w' ⟨nd, rfl⟩) | ((with_reducible refine gate_callee (f := 96) rfl ?_); refine gM (some 24) Try.func96 (impl_isAddr.calls a0_0 true _ A40.out) ?_; rintro w' ⟨nd, rfl⟩) | (go_at_call 96; refine (impl_isAddr.calls a0_1 false _ A42.out).mono ?_; rintro e w' ⟨rfl, ⟨nd, rfl⟩⟩))
    go_ret; exact ⟨B2x4_, (Ae1 HB GE103)⟩
  ·obtain rfl := Option.some.inj HZ21; clear HZ21 HZ1 HZ2 HZ3 HZ20; go_enter Try.func38, Try.ntmps38
   go_wp2_with (first | ((with_reducible refine gate_dst (N := 1) rfl ?_); (try (refine gate_guard (by rfl) ?_; dsimp only)); refine bx (N := 1) (cs := #[.int .i64 a0_0, .int .i64 a0_1, .int .i64 a0_2, .int .i64 a0_3, .bool a0_4, .string a0_5]) (t := 62) ?_; intro gb103 hg w52 hbox hb; have BK103 := am (hbox); have GE103 := gA hg HB; replace HB := hA HB hb; clear hb hbox hg; obtain ⟨zc103_0, zc103_1, zc103_2, zc103_3, zc103_4, zc103_5, zf103_0, zf103_1, zf103_2, zf103_3, zf103_4, zf103_5⟩ := cf6 BK103) | ((with_reducible refine gate_callee (f := 74) rfl ?_); refine gM (some 6) Try.func74 (impl_within.calls a0_3 0 160 false _ A2.out) ?_; rintro w' ⟨nd, rfl⟩) | ((with_reducible refine gate_callee (f := 96) rfl ?_); refine gM (some 24) Try.func96 (impl_isAddr.calls a0_0 false _ A40.out) ?_; rintro w' ⟨nd, rfl⟩))
   go_ret; exact ⟨B2x4_, (Ae1 HB GE103)⟩

/-! ### impl_copyInts: function 138 -/
def impl_copyInts.f (l0 : List Int) : Option (List Int) := (some (([] : List Int) : List Int)).bind fun y115 => (if y115.length + l0.length < 17592186044416 then (some (y115 ++ l0)) else (none))
set_option maxHeartbeats 8000000 in
set_option maxRecDepth 100000 in
theorem impl_copyInts.calls (A0 : Option Addr) (c0 : Nat) (l0 : List Int) (r : List Int) (w : World) (hr0 : Kd.C (Kd.int .i64) w A0 l0.length l0) (hc0 : l0.length ≤ c0) (h : impl_copyInts.f l0 = some r) :
  Calls Try.prog 138 #[.slice A0 l0.length c0] w fun e w' => ∃ v0_ : Value, e = .returned (v0_) ∧ Kd.R (Kd.int .i64) 3 w' w.heap.size (fun _ => True) v0_ r ∧ Below w.heap.size w w' := by
 have HR0 := am hr0
 have HC0 := am hc0
 clear hr0 hc0
 have HB := am (Below.refl w.heap.size w)
 have HZ1 := h
 clear h
 unfold impl_copyInts.f at HZ1
 obtain ⟨y115, hy115⟩ : ∃ y_ : List Int, y_ = (([] : List Int)) := ⟨_, rfl⟩
 (first | with_reducible replace HZ1 := hq hy115 HZ1 | rw [← hy115] at HZ1 | simp only [← hy115] at HZ1)
 have Ny115 := am hy115
 clear hy115
 obtain ⟨LMc2, HZ2⟩ := ya HZ1
 obtain ⟨y118, hy118⟩ : ∃ y_ : List Int, y_ = (y115 ++ l0) := ⟨_, rfl⟩
 (first | with_reducible replace HZ2 := hq hy118 HZ2 | rw [← hy118] at HZ2 | simp only [← hy118] at HZ2)
 have Ny118 := am hy118
 clear hy118
 obtain rfl := Option.some.inj HZ2
 clear HZ2 HZ1
 go_enter Try.func138, Try.ntmps138
 go_wp2_with (first | ((with_reducible refine gate_dst (N := 3) rfl ?_); refine Kd.R_lit (Kd.int .i64) _ 3 ?hg (N := 3) ?hd (xs := ([] : List Int)) (inner := []) (ok := fun _ => True) (okp := fun _ => True) ?hr ?hp (fun _ hk => hk) trivial (Below.refl _ _) (Nat.le_refl _) (by simp) ?_; (case hd => rfl); (case hg => rfl); (case hr => exact gs_); (case hp => exact (Reps.none _ _)); intro v116 w3 ho4 hb hg_ hnew_; clear hg_ hnew_; (first | rw [← Ny115.out] at ho4 | (simp only [Int.reduceToNat] at ho4; rw [← Ny115.out] at ho4)); have HO117 := am (Kd.R_lower ho4 (below_size (Ae0 HB))); replace HB := hA HB hb; clear hb ho4) | ((with_reducible refine gate_builtin (b := .append) (xs := #[.tmp 3, .tmp 4]) rfl ?_); at_builtin; refine Kd.R_append_rows (Kd.int .i64) (w0 := w) w.heap.size rfl (.tmp 3) (.tmp 4) 51 3 (.int .i64 0) 8 rfl Try.underlying51 info3 rfl (by decide) (by omega) v116 y115 l0 _ _ _ (fun _ => True) (fun _ => False) rfl rfl ?aO ?aR (fun _ _ h => h) (fun _ h => h.elim) ?aF ?aB ?aS ?aL ?_; (case aR => repeat (first | exact (Kd.C_below HR0.out HB.out) | (with_reducible refine Kd.C_alloc ?_ _) | (with_reducible refine Kd.C_drewN ?_ _) | (with_reducible refine Kd.C_drew ?_))); (case aB => exact (Ae0 HB)); (case aF => exact (fun _ _ => trivial)); (case aO => (with_reducible repeat (first | apply Kd.R_alloc | apply Kd.R_drewN | apply Kd.R_drew)); exact HO117.out); (case aS => exact (below_size (Ae0 HB))); (case aL => have := LMc2.out; omega); intro v119 w5 ho hb hg hat; rw [← Ny118.out] at ho; replace HB := am (hb); have HO120 := am (ho); clear HO117; clear ho hb hg hat))
 go_ret
 exact ⟨_, B2x4_, (Ar HO120), (Ae0 HB)⟩

/-! ### impl_copyBits: function 98 -/
def impl_copyBits.l0 : Nat → List (S82) → List (S82) → Int → Int → Option ((List (S82)))
 | 0, _, _, _, _ => none
 | k + 1, x3, x7, x8, x9 => if x9 < x8 then (if 0 ≤ x9 then (if x9 < (x7.length : Int) then ((some (([] : List ByteArray) : List ByteArray)).bind fun y126 => (if y126.length + ((rd_T82 x7 x9).f2).length < 8796093022208 then ((impl_copyInts.f ((rd_T82 x7 x9).f3)).bind fun t132 => (if x3.length < 1759218604441 then (impl_copyBits.l0 k (x3 ++ [(⟨(rd_T82 x7 x9).f0, (rd_T82 x7 x9).f1, (y126 ++ ((rd_T82 x7 x9).f2)), t132, (rd_T82 x7 x9).f4, (rd_T82 x7 x9).f5⟩ : S82)]) x7 x8 (wrap64 (x9 + 1))) else (none))) else (none))) else (none)) else (none)) else (some x3)
def impl_copyBits.f (k : Nat) (l0 : List (S82)) : Option ((List (S82))) := impl_copyBits.l0 k (([] : List (S82))) l0 (l0.length : Int) 0
def impl_copyBits.T5 : Bool × List (List Nat × List Nat) := (true, [([], []), ([], []), ([1], [1]), ([0, 2], [0, 2]), ([], []), ([4], [4]), ([5, 3], [5]), ([0, 1, 2, 3, 4, 5], []), ([7, 3, 6, 0, 1, 2, 3, 4, 5], [3, 7]), ([0, 1, 2, 3, 4, 5, 6, 7, 8], []), ([9, 6, 8, 0, 1, 2, 3, 4, 5, 6, 7, 8], [6, 9])])
def impl_copyBits.B5 : List Nat := [0, 0, 2, 7, 0, 16, 63, 63, 255, 511, 1023]
theorem impl_copyBits.tab5 : rtab .any (opsOf Try.f98 5) = impl_copyBits.T5 := by kernel_rfl
theorem impl_copyBits.bits5 : waitsOk impl_copyBits.T5.2 impl_copyBits.B5 = true := by kernel_rfl
set_option maxHeartbeats 8000000 in
set_option maxRecDepth 100000 in
theorem impl_copyBits.calls (k : Nat) (A0 : Option Addr) (c0 : Nat) (l0 : List (S82)) (r : List (S82)) (w : World) (hr0 : Kd.C k82 w A0 l0.length l0) (hc0 : l0.length ≤ c0) (h : impl_copyBits.f k l0 = some r) :
  Calls Try.prog 98 #[.slice A0 l0.length c0] w fun e w' => ∃ v0_ : Value, e = .returned (v0_) ∧ Kd.S k82 82 w' w.heap.size (fun _ => True) v0_ r ∧ Below w.heap.size w w' := by
 have hu82 := Try.underlying82
 have HR0 := am hr0
 have HC0 := am hc0
 clear hr0 hc0
 have HB := am (Below.refl w.heap.size w)
 have HZ1 := h
 clear h
 unfold impl_copyBits.f at HZ1
 obtain ⟨y121, hy121⟩ : ∃ y_ : List (S82), y_ = (([] : List (S82))) := ⟨_, rfl⟩
 (first | with_reducible replace HZ1 := hq hy121 HZ1 | rw [← hy121] at HZ1 | simp only [← hy121] at HZ1)
 have Ny121 := am hy121
 clear hy121
 replace HZ1 := am HZ1
 go_enter Try.func98, Try.ntmps98
 go_wp2_with (first | ((with_reducible refine gate_dst (N := 6) rfl ?_); refine Kd.S_lit k82 _ 82 ?hg (N := 6) ?hd (xs := ([] : List (S82))) (inner := []) (ok := fun _ => True) (okp := fun _ => True) ?hr ?hp (fun _ hk => hk) trivial (Below.refl _ _) (Nat.le_refl _) (by simp) ?_; (case hd => rfl); (case hg => rfl); (case hr => exact gs_); (case hp => exact (Reps.none _ _)); intro v122 w2 ho3 hb hg_ hnew_; clear hg_ hnew_; (first | rw [← Ny121.out] at ho3 | (simp only [Int.reduceToNat] at ho3; rw [← Ny121.out] at ho3)); have HO123 := am (Kd.S_lower ho3 (below_size (Ae0 HB))); replace HB := hA HB hb; clear hb ho3))
 go_loopg [3, 9] k (fun kq v3 v9 w' => ∃ (x3_1 : List (S82)) (x9_1 : Int), v9 = .int .i64 x9_1 ∧ Aside0 (impl_copyBits.l0 kq x3_1 l0 (l0.length : Int) x9_1 = some r) ∧ Aside0 (kq ≤ k) ∧ Aside0 (Kd.S k82 82 w' w.heap.size (fun _ => True) v3 x3_1) ∧ Aside0 (Below w.heap.size w w'))
 case atStart => exact ⟨(y121), (0), (be_), HZ1, ⟨Nat.le_refl _⟩, ⟨(As HO123)⟩, ⟨(Ae0 HB)⟩⟩
 case round =>
  clear HZ1; obtain ⟨x3_1, x9_1, rfl, HZ2, HK1, HO_3, HB⟩ := hrel
  cases gk with
  | zero => exact absurd HZ2.out (by simp [impl_copyBits.l0])
  | succ k1 => ?_
  replace HZ2 := HZ2.out; simp only [impl_copyBits.l0] at HZ2
  obtain ⟨c4b0, HZ3⟩ | ⟨c4b0, HZ3⟩ := sd HZ2
  ·obtain ⟨c5b0, HZ4⟩ := yd HZ3; obtain ⟨c6b0, HZ5⟩ := yd HZ4; obtain ⟨y126, hy126⟩ : ∃ y_ : List ByteArray, y_ = (([] : List ByteArray)) := ⟨_, rfl⟩
   (first | with_reducible replace HZ5 := hq hy126 HZ5 | rw [← hy126] at HZ5 | simp only [← hy126] at HZ5)
   have Ny126 := am hy126; clear hy126; obtain ⟨LMc7, HZ6⟩ := ya HZ5; obtain ⟨y129, hy129⟩ : ∃ y_ : List ByteArray, y_ = (y126 ++ ((rd_T82 l0 x9_1).f2)) := ⟨_, rfl⟩
   (first | with_reducible replace HZ6 := hq hy129 HZ6 | rw [← hy129] at HZ6 | simp only [← hy129] at HZ6)
   have Ny129 := am hy129; clear hy129; obtain ⟨t132, A8, HZ7⟩ := bsi HZ6; (try dsimp only at HZ7); obtain ⟨LMc9, HZ8⟩ := ya HZ7; obtain ⟨y135, hy135⟩ : ∃ y_ : List (S82), y_ = (x3_1 ++ [(⟨(rd_T82 l0 x9_1).f0, (rd_T82 l0 x9_1).f1, y129, t132, (rd_T82 l0 x9_1).f4, (rd_T82 l0 x9_1).f5⟩ : S82)]) := ⟨_, rfl⟩
   (first | with_reducible replace HZ8 := hq hy135 HZ8 | rw [← hy135] at HZ8 | simp only [← hy135] at HZ8)
   have Ny135 := am hy135; clear hy135; replace HZ8 := am HZ8; clear HZ2 HZ3 HZ4 HZ5 HZ6 HZ7
   have p124 : 0 ≤ (x9_1 : Int) := dga
   have q124 : x9_1 < (l0.length : Int) := dga
   obtain ⟨ad124, A124_2, c124_2, A124_3, c124_3, e124, hx124_0, hx124_1, hx124_2, hx124_3, hx124_4, hx124_5, hl124_2, hi124_2, hl124_3, hi124_3⟩ := at_T82 HR0.out x9_1 p124 q124; cases e124; replace hx124_0 := (hbc HB hx124_0).trans hx124_0; replace hx124_1 := (hbc HB hx124_1).trans hx124_1; replace hx124_2 := (hbc HB hx124_2).trans hx124_2; replace hx124_3 := (hbc HB hx124_3).trans hx124_3; replace hx124_4 := (hbc HB hx124_4).trans hx124_4; replace hx124_5 := (hbc HB hx124_5).trans hx124_5; have HR124_2 := am hi124_2; have HC124_2 := am hl124_2; clear hi124_2 hl124_2; have HR124_3 := am hi124_3; have HC124_3 := am hl124_3; clear hi124_3 hl124_3; replace p124 := eq_true p124; replace q124 := eq_true q124
   try go_wp2_with (first | ((with_reducible refine gate_dst (N := 5) rfl ?_); refine bx (N := 5) (cs := #[.int .i64 0, .int .i64 0, .slice none 0 0, .slice none 0 0, .int .i64 0, .int .i64 0]) (t := 82) ?_; intro gb125 hg w10 hbox hb; replace HO_3 := am (Kd.S_below (Kd.S_elderB (As HO_3) gb125 (Nat.le_of_eq hg.symm)) hb); have BK125 := am (hbox); have GE125 := gA hg HB; replace HB := hA HB hb; clear hb hbox hg; obtain ⟨zc125_0, zc125_1, zc125_2, zc125_3, zc125_4, zc125_5, zf125_0, zf125_1, zf125_2, zf125_3, zf125_4, zf125_5⟩ := cf6 BK125) | ((with_reducible refine gate_store (t := 82) (p := 5) rfl ?_); refine store_event (t := 82) (p := 5) (v := ?vo_w12) (w1 := ((((((w10.setCell ⟨gb125, 0, none⟩ (.int .i64 ((rd_T82 l0 x9_1).f0))).setCell ⟨gb125, 1, none⟩ (.int .i64 ((rd_T82 l0 x9_1).f1))).setCell ⟨gb125, 2, none⟩ (.slice A124_2 ((rd_T82 l0 x9_1).f2).length c124_2)).setCell ⟨gb125, 3, none⟩ (.slice A124_3 ((rd_T82 l0 x9_1).f3).length c124_3)).setCell ⟨gb125, 4, none⟩ (.int .i64 ((rd_T82 l0 x9_1).f4))).setCell ⟨gb125, 5, none⟩ (.int .i64 ((rd_T82 l0 x9_1).f5)))) ?hg ?ho ?hn ?hr ?_; (case ho => rfl); (case hg => rfl); (case hn => rfl); (case hr => exact gs_); intro w12 hw; replace HO_3 : Aside0 (Kd.S k82 82 w12 w.heap.size (fun k_ => k_ ≠ gb125) u3 x3_1) := ⟨(by rw [hw]; exact (by (with_reducible repeat (first | apply Kd.S_alloc | apply Kd.S_drewN | apply Kd.S_drew)); exact Kd.S_mono (Kd.S_far (p := ⟨gb125, 5, none⟩) (Kd.S_far (p := ⟨gb125, 4, none⟩) (Kd.S_far (p := ⟨gb125, 3, none⟩) (Kd.S_far (p := ⟨gb125, 2, none⟩) (Kd.S_far (p := ⟨gb125, 1, none⟩) (Kd.S_far (p := ⟨gb125, 0, none⟩) (Kd.S_mono HO_3.out (fun k_ hk => (⟨hk, hk.2⟩ : _ ∧ k_ ≠ gb125))) (fun _ hk => hk.2) (.int .i64 ((rd_T82 l0 x9_1).f0))) (fun _ hk => hk.2) (.int .i64 ((rd_T82 l0 x9_1).f1))) (fun _ hk => hk.2) (.slice A124_2 ((rd_T82 l0 x9_1).f2).length c124_2)) (fun _ hk => hk.2) (.slice A124_3 ((rd_T82 l0 x9_1).f3).length c124_3)) (fun _ hk => hk.2) (.int .i64 ((rd_T82 l0 x9_1).f4))) (fun _ hk => hk.2) (.int .i64 ((rd_T82 l0 x9_1).f5))) (fun _ hk => hk.1.2)))⟩; replace BK125 : Aside0 (w12.heap[gb125]? = some (.cells #[.int .i64 ((rd_T82 l0 x9_1).f0), .int .i64 ((rd_T82 l0 x9_1).f1), .slice A124_2 ((rd_T82 l0 x9_1).f2).length c124_2, .slice A124_3 ((rd_T82 l0 x9_1).f3).length c124_3, .int .i64 ((rd_T82 l0 x9_1).f4), .int .i64 ((rd_T82 l0 x9_1).f5)] 82 (0, 0))) := ⟨(wAp0 BK125)⟩; replace HB : Aside0 (Below w.heap.size w w12) := ⟨(wAe1 HB GE125)⟩; clear hw))
   replace HO_3 := am (Kd.S_drew HO_3.out); replace BK125 := dA BK125; replace HB := am (below_drew1 HB.out); refine start_ (n := 11) (S := fun w' => w'.cell? ⟨gb125, 0, none⟩ = some (.int .i64 ((rd_T82 l0 x9_1).f0)) ∧ w'.cell? ⟨gb125, 1, none⟩ = some (.int .i64 ((rd_T82 l0 x9_1).f1)) ∧ w'.cell? ⟨gb125, 2, none⟩ = some (.slice A124_2 ((rd_T82 l0 x9_1).f2).length c124_2) ∧ w'.cell? ⟨gb125, 3, none⟩ = some (.slice A124_3 ((rd_T82 l0 x9_1).f3).length c124_3) ∧ w'.cell? ⟨gb125, 4, none⟩ = some (.int .i64 ((rd_T82 l0 x9_1).f4)) ∧ w'.cell? ⟨gb125, 5, none⟩ = some (.int .i64 ((rd_T82 l0 x9_1).f5))) (ds := [8, 10]) #[false, false, false, false, false, false, false, false, false, false, false] gk_ rfl rfl ⟨bc BK125 0, bc BK125 1, bc BK125 2, bc BK125 3, bc BK125 4, bc BK125 5⟩ (fun hHeld => ?_); refine with_tabW impl_copyBits.tab5 impl_copyBits.bits5 (fun HT_ HW_ => ?_); generalize w12.drew = w13 at HO_3 BK125 HB hHeld ⊢; refine pu_ 1 14 HT_ ?_; refine pu_ 4 17 HT_ ?_; refine ta_ 2 15 HT_ HW_ hHeld ?_; refine ta_ 5 18 HT_ HW_ hHeld ?_; refine on_ 0 (some 13) HT_ (fun K hK => ?_); refine Kd.R_lit_step Kd.string _ 9 ?hg (N := 13) ?hd (xs := ([] : List ByteArray)) (inner := []) (ok := fun _ => True) (okp := fun _ => True) ?hr ?hp (fun _ hk => hk) trivial (Below.refl _ _) (Nat.le_refl _) (by simp) ?_; (case hd => rfl); (case hg => rfl); (case hr => exact gs_); (case hp => exact (Reps.none _ _)); intro v127 w14 ho15 hb hg_ hnew_; clear hg_ hnew_
   (first | rw [← Ny126.out] at ho15 | (simp only [Int.reduceToNat] at ho15; rw [← Ny126.out] at ho15))
   replace HO_3 := am (Kd.S_elder' (As HO_3) (Kd.R_base ho15) hb); have HO128 := am (Kd.R_lower ho15 (below_size (Ae1 HB GE125))); replace BK125 := bA BK125 hb; replace HB := am (below_step (Ae1 HB GE125) hb); clear hb ho15; refine hK.out _ _ ⟨bc BK125 0, bc BK125 1, bc BK125 2, bc BK125 3, bc BK125 4, bc BK125 5⟩ (fun hHeld => nm_ ?_); clear hK K; refine on_ 3 (some 16) HT_ (fun K hK => ?_); refine Kd.R_append_rows_step Kd.string (w0 := w) w.heap.size (by rfl) (.tmp 13) (.tmp 15) 25 9 (.string ⟨#[]⟩) 16 rfl Try.underlying25 info9 rfl (by decide) (by omega) v127 y126 ((rd_T82 l0 x9_1).f2) _ _ _ (fun _ => True) (fun _ => False) rfl rfl ?aO ?aR (fun _ _ h => h) (fun _ h => h.elim) ?aF ?aB ?aS ?aL ?_
   (case aR => repeat (first | exact (Kd.C_below HR124_2.out HB.out) | (with_reducible refine Kd.C_alloc ?_ _) | (with_reducible refine Kd.C_drewN ?_ _) | (with_reducible refine Kd.C_drew ?_)))
   (case aB => exact (Ae1 HB GE125))
   (case aF => exact (fun _ _ => trivial))
   (case aO => (with_reducible repeat (first | apply Kd.R_alloc | apply Kd.R_drewN | apply Kd.R_drew)); exact HO128.out)
   (case aS => exact (below_size (Ae1 HB GE125)))
   (case aL => have := LMc7.out; omega)
   intro v130 w16 ho hb hg hat; rw [← Ny129.out] at ho; replace HO_3 := am (Kd.S_after (ok := (fun k_ => k_ ≠ gb125)) (As HO_3) hg hat); replace BK125 := bg BK125 hg (Kd.R_ne HO128.out BK125.out (by decide)); replace HB := am (hb); have HO131 := am (ho); clear HO128; clear ho hb hg hat; refine hK.out _ _ ⟨bc BK125 0, bc BK125 1, bc BK125 2, bc BK125 3, bc BK125 4, bc BK125 5⟩ (fun hHeld => nm_ ?_); clear hK K; refine pu_ 7 20 HT_ ?_; refine on_ 6 (some 19) HT_ (fun K hK => ?_); refine gS Try.func138 #[.slice A124_3 ((rd_T82 l0 x9_1).f3).length c124_3] ?_
   with_reducible refine (impl_copyInts.calls _ _ ((rd_T82 l0 x9_1).f3) t132 _ ?z1 ?z2 A8.out).mono ?_
   (case z1 => repeat (first | exact (Kd.C_below HR124_3.out HB.out) | (with_reducible refine Kd.C_alloc ?_ _) | (with_reducible refine Kd.C_drewN ?_ _) | (with_reducible refine Kd.C_drew ?_)))
   (case z2 => exact HC124_3.out)
   rintro e w17 ⟨v133, rfl, ho0, hb⟩; refine ⟨_, rfl, ?_⟩; replace HO_3 := am (Kd.S_elder' (As HO_3) (Kd.R_base ho0) hb); replace HO131 := rA HO131 hb; have HO134 := am (Kd.R_lower ho0 (below_size (Ae1 HB GE125))); replace BK125 := bA BK125 hb; replace HB := am (below_step (Ae1 HB GE125) hb); (try clear hb); (try clear hb2); (try clear hk); (try clear hi); (try clear hl); (try clear ho0); obtain ⟨Ao18, co18, eo18⟩ := Kd.R_slice HO131.out
   (first | subst eo18 | (injection eo18 with f1_ f2_ f3_; have f4_ := f1_.symm; have f5_ := f3_.symm; clear f1_ f2_ f3_; subst f4_; subst f5_))
   obtain ⟨Ao20, co20, eo20⟩ := Kd.R_slice HO134.out
   (first | subst eo20 | (injection eo20 with f1_ f2_ f3_; have f4_ := f1_.symm; have f5_ := f3_.symm; clear f1_ f2_ f3_; subst f4_; subst f5_))
   refine hK.out _ _ ⟨bc BK125 0, bc BK125 1, bc BK125 2, bc BK125 3, bc BK125 4, bc BK125 5⟩ (fun hHeld => nm_ ?_); clear hK K; refine last_ (i := 8) (N := none) #[true, true, true, true, true, true, true, true, true, false, false] rfl rfl (one_of HT_.out gk_) (by decide) (fun K hK => ?_)
   have hs19 : w17.cell? ⟨gb125, 2, none⟩ = some (.slice A124_2 ((rd_T82 l0 x9_1).f2).length c124_2) := bc BK125 2
   have hfs19 := blk_frozen BK125.out 2; refine skip_ (w1 := ?_) (by rfl) rfl ?_ ?_; rotate_left
   ·go_simp; rfl
   refine hK.out _ _ ?_; clear hK K; refine pu_ 9 21 HT_ ?_; refine last_ (i := 10) (N := none) #[true, true, true, true, true, true, true, true, true, true, true] rfl rfl (one_of HT_.out gk_) (by decide) (fun K hK => ?_)
   have hs21 : w17.cell? ⟨gb125, 3, none⟩ = some (.slice A124_3 ((rd_T82 l0 x9_1).f3).length c124_3) := bc BK125 3
   have hfs21 := blk_frozen BK125.out 3; refine skip_ (w1 := ?_) (by rfl) rfl ?_ ?_; rotate_left
   ·go_simp; rfl
   refine hK.out _ _ ?_; clear hK K; refine done_ (done_of HT_.out gk_) ?_; generalize hw : ((w17.setCell ⟨gb125, 2, none⟩ (.slice Ao18 y129.length co18)).setCell ⟨gb125, 3, none⟩ (.slice Ao20 t132.length co20)) = w22; replace hw := hw.symm
   replace HO_3 : Aside0 (Kd.S k82 82 w22 w.heap.size (fun k_ => some k_ ≠ (.slice Ao18 y129.length co18 : Value).ownBlock ∧ some k_ ≠ (.slice Ao20 t132.length co20 : Value).ownBlock ∧ k_ ≠ gb125) u3 x3_1) := ⟨(by rw [hw]; exact (by (with_reducible repeat (first | apply Kd.S_alloc | apply Kd.S_drewN | apply Kd.S_drew)); exact Kd.S_mono (Kd.S_far (p := ⟨gb125, 3, none⟩) (Kd.S_far (p := ⟨gb125, 2, none⟩) (Kd.S_mono HO_3.out (fun k_ hk => (⟨hk, hk.1.1⟩ : _ ∧ k_ ≠ gb125))) (fun _ hk => hk.2) (.slice Ao18 y129.length co18)) (fun _ hk => hk.2) (.slice Ao20 t132.length co20)) (fun _ hk => ⟨hk.1.1.2, ⟨hk.1.2, hk.1.1.1⟩⟩)))⟩
   replace HO131 : Aside0 (Kd.R Kd.string 9 w22 w.heap.size (fun _ => True) (.slice Ao18 y129.length co18) y129) := ⟨(wtfg HO131.out BK125.out (by decide))⟩
   replace HO134 : Aside0 (Kd.R (Kd.int .i64) 3 w22 w.heap.size (fun _ => True) (.slice Ao20 t132.length co20) t132) := ⟨(wtfg HO134.out BK125.out (by decide))⟩
   replace BK125 : Aside0 (w22.heap[gb125]? = some (.cells #[.int .i64 ((rd_T82 l0 x9_1).f0), .int .i64 ((rd_T82 l0 x9_1).f1), .slice Ao18 y129.length co18, .slice Ao20 t132.length co20, .int .i64 ((rd_T82 l0 x9_1).f4), .int .i64 ((rd_T82 l0 x9_1).f5)] 82 (0, 0))) := ⟨(wAp0 BK125)⟩
   replace HB : Aside0 (Below w.heap.size w w22) := ⟨(wAe1 HB GE125)⟩
   clear hw; obtain ⟨zc125_0, zc125_1, zc125_2, zc125_3, zc125_4, zc125_5, zf125_0, zf125_1, zf125_2, zf125_3, zf125_4, zf125_5⟩ := cf6 BK125
   try go_wp2_with (first | ((with_reducible refine gate_builtin (b := .append) (xs := #[.tmp 22, .tmp 24]) rfl ?_); at_builtin; refine Kd.S_append k82 (w0 := w) w.heap.size rfl (.tmp 22) (.tmp 24) 68 82 (.agg #[(.int .i64 0), (.int .i64 0), (.slice none 0 0), (.slice none 0 0), (.int .i64 0), (.int .i64 0)]) 80 rfl Try.underlying68 info82 rfl (by decide) (by omega) u3 x3_1 (⟨(rd_T82 l0 x9_1).f0, (rd_T82 l0 x9_1).f1, y129, t132, (rd_T82 l0 x9_1).f4, (rd_T82 l0 x9_1).f5⟩ : S82) [.int .i64 ((rd_T82 l0 x9_1).f0), .int .i64 ((rd_T82 l0 x9_1).f1), .slice Ao18 y129.length co18, .slice Ao20 t132.length co20, .int .i64 ((rd_T82 l0 x9_1).f4), .int .i64 ((rd_T82 l0 x9_1).f5)] (fun k_ => k_ ≠ gb125) (fun k_ => some k_ = (.slice Ao18 y129.length co18 : Value).ownBlock ∨ some k_ = (.slice Ao20 t132.length co20 : Value).ownBlock) rfl rfl ?aP (fun k_ hk_ => hk_.elim (fun h_ => ((Kd.R_mono (ok' := fun k_ => ((fun k_ => k_ ≠ gb125)) k_ ∧ some k_ ≠ (u3 : Value).ownBlock) (Kd.R_types (Kd.R_apart' (HO131.out) (Kd.S_typed HO_3.out) (by decide)) BK125.out (by decide)) (fun k_ hk => ⟨hk.2, hk.1.2⟩))).1 k_ h_.symm) (fun h_ => ((Kd.R_mono (ok' := fun k_ => ((fun k_ => k_ ≠ gb125)) k_ ∧ some k_ ≠ (u3 : Value).ownBlock) (Kd.R_types (Kd.R_apart' (HO134.out) (Kd.S_typed HO_3.out) (by decide)) BK125.out (by decide)) (fun k_ hk => ⟨hk.2, hk.1.2⟩))).1 k_ h_.symm)) ?aF ?aO ?aB ?aS ?aL ?_; (case aP => exact k82_mkM _ _ _ (⟨(rd_T82 l0 x9_1).f0, (rd_T82 l0 x9_1).f1, y129, t132, (rd_T82 l0 x9_1).f4, (rd_T82 l0 x9_1).f5⟩ : S82) (Kd.R_mono (Kd.R_tight rfl (Kd.R_mono (ok' := fun k_ => ((fun k_ => k_ ≠ gb125)) k_ ∧ some k_ ≠ (u3 : Value).ownBlock) (Kd.R_types (Kd.R_apart' (HO131.out) (Kd.S_typed HO_3.out) (by decide)) BK125.out (by decide)) (fun k_ hk => ⟨hk.2, hk.1.2⟩))) (fun _ h_ => Or.inl h_)) (Kd.R_mono (Kd.R_tight rfl (Kd.R_mono (ok' := fun k_ => ((fun k_ => k_ ≠ gb125)) k_ ∧ some k_ ≠ (u3 : Value).ownBlock) (Kd.R_types (Kd.R_apart' (HO134.out) (Kd.S_typed HO_3.out) (by decide)) BK125.out (by decide)) (fun k_ hk => ⟨hk.2, hk.1.2⟩))) (fun _ h_ => Or.inr (h_)))); (case aB => exact (Ae1 HB GE125)); (case aF => exact (fun k_ hk => Kd.freshB (g := gb125) (o := .cells #[.int .i64 ((rd_T82 l0 x9_1).f0), .int .i64 ((rd_T82 l0 x9_1).f1), .slice Ao18 y129.length co18, .slice Ao20 t132.length co20, .int .i64 ((rd_T82 l0 x9_1).f4), .int .i64 ((rd_T82 l0 x9_1).f5)] 82 (0, 0)) (Ab BK125) k_ hk)); (case aO => (with_reducible repeat (first | apply Kd.S_alloc | apply Kd.S_drewN | apply Kd.S_drew)); exact Kd.S_mono HO_3.out (fun k_ hk => ⟨hk.2.2, fun e_ => e_.elim (fun h_ => hk.1 h_) (fun h_ => hk.2.1 h_)⟩)); (case aS => exact (below_size (Ae1 HB GE125))); (case aL => have := LMc9.out; omega); intro v136 w24 ho hb hg hat; rw [← Ny135.out] at ho; replace BK125 := bg BK125 hg (Kd.S_away HO_3.out (fun _ hk => hk.2.2)); replace HB := am (hb); have HO137 := am (ho); clear HO_3; clear HO131; clear HO134; clear ho hb hg hat))
   go_roundg k1
   case measure => have := HK1.out; omega
   case rel => exact ⟨(y135), (wrap64 (x9_1 + 1)), (be_), HZ8, ⟨(by have := HK1.out; omega)⟩, ⟨(by (with_reducible repeat (first | apply Kd.S_alloc | apply Kd.S_drewN | apply Kd.S_drew)); exact Kd.S_mono HO137.out (fun _ hk => trivial))⟩, ⟨(Ae1 HB GE125)⟩⟩
  ·obtain rfl := Option.some.inj HZ3; clear HZ3 HZ2
   go_wp2
   go_ret; exact ⟨_, B2x4_, (As HO_3), (Ae0 HB)⟩

/-! ### impl_Bits_99: function 99 -/
def impl_Bits_99.l0 : Nat → List S82 → Int → Int → Int → Int → Bool → ByteArray → Int → Option (Int)
 | 0, _, _, _, _, _, _, _, _ => none
 | k + 1, l, d0, d1, d2, d3, d4, d5, j => if j < (l.length : Int) then (if 0 ≤ j then (if ((rd_T82 l j).f0 == d0 && (rd_T82 l j).f1 == d2) = true then (some j) else (impl_Bits_99.l0 k l d0 d1 d2 d3 d4 d5 (wrap64 (j + 1)))) else (none)) else (some (-1))
def impl_Bits_99.f (k : Nat) (l0 : List S82) (d0 d1 d2 d3 : Int) (d4 : Bool) (d5 : ByteArray) : Option (Int) := impl_Bits_99.l0 k l0 d0 d1 d2 d3 d4 d5 0
set_option maxHeartbeats 8000000 in
set_option maxRecDepth 100000 in
theorem impl_Bits_99.asked (g : Nat) (d0 d1 d2 d3 : Int) (d4 : Bool) (d5 : ByteArray) (x0 x1 x4 x5 : Int) (A2 A3 : Option Addr) (n2 n3 c2 c3 : Nat) (w : World) (hb : w.heap[g]? = some (.cells #[.int .i64 d0, .int .i64 d1, .int .i64 d2, .int .i64 d3, .bool d4, .string d5] 62 (0, 0))) :
  Calls Try.prog 100 (#[.agg #[.int .i64 x0, .int .i64 x1, .slice A2 n2 c2, .slice A3 n3 c3, .int .i64 x4, .int .i64 x5]] ++ #[.pointer (some ⟨g, 0, none⟩)]) w fun e w' => e = .returned (.bool (x0 == d0 && x1 == d2)) ∧ Below w.heap.size w w' := by
 have hu82 := Try.underlying82
 have hu62 := Try.underlying62
 have BK := am hb
 clear hb
 cases h0 : (x0 == d0) with
 | false =>
  go_enter Try.func100, Try.ntmps100
  go_wp2_with (first | ((with_reducible refine gate_dst (N := 2) rfl ?_); refine bx (N := 2) (cs := #[.int .i64 x0, .int .i64 x1, .slice A2 n2 c2, .slice A3 n3 c3, .int .i64 x4, .int .i64 x5]) (t := 82) ?_; intro gb hg w2 hbox hb; replace BK := am (blk_below BK.out hb); have BX := am hbox; have HB := am hb; clear hb hbox hg; have hc0 := bc BX 0; have hc1 := bc BX 1; have hd0 := bc BK 0; have hd2 := bc BK 2))
  go_ret; exact ⟨rfl, HB.out⟩
 | true =>
  go_enter Try.func100, Try.ntmps100
  go_wp2_with (first | ((with_reducible refine gate_dst (N := 2) rfl ?_); refine bx (N := 2) (cs := #[.int .i64 x0, .int .i64 x1, .slice A2 n2 c2, .slice A3 n3 c3, .int .i64 x4, .int .i64 x5]) (t := 82) ?_; intro gb hg w2 hbox hb; replace BK := am (blk_below BK.out hb); have BX := am hbox; have HB := am hb; clear hb hbox hg; have hc0 := bc BX 0; have hc1 := bc BX 1; have hd0 := bc BK 0; have hd2 := bc BK 2))
  go_ret; exact ⟨rfl, HB.out⟩
set_option maxHeartbeats 8000000 in
set_option maxRecDepth 100000 in
theorem impl_Bits_99.calls (k : Nat) (A0 : Option Addr) (c0 : Nat) (l0 : List S82) (g : Nat) (d0 d1 d2 d3 : Int) (d4 : Bool) (d5 : ByteArray) (r : Int) (w : World) (hr0 : Kd.C k82 w A0 l0.length l0) (hc0 : l0.length ≤ c0) (hb : w.heap[g]? = some (.cells #[.int .i64 d0, .int .i64 d1, .int .i64 d2, .int .i64 d3, .bool d4, .string d5] 62 (0, 0))) (h : impl_Bits_99.f k l0 d0 d1 d2 d3 d4 d5 = some r) :
  Calls Try.prog 99 #[.slice A0 l0.length c0, .func (.func 100) #[] #[.pointer (some ⟨g, 0, none⟩)]] w fun e w' => e = .returned (.int .i64 r) ∧ Below w.heap.size w w' := by
 have hu82 := Try.underlying82
 have HR0 := am hr0
 have HC0 := am hc0
 have BK := am hb
 clear hr0 hc0 hb
 have H := am (show impl_Bits_99.l0 k l0 d0 d1 d2 d3 d4 d5 0 = some r from h)
 clear h
 go_enter Try.func99, Try.ntmps99
 go_wp2
 go_loopg [8] k (fun kq v8 w' => ∃ (j : Int), v8 = .int .i64 j ∧ Aside0 (impl_Bits_99.l0 kq l0 d0 d1 d2 d3 d4 d5 j = some r) ∧ Aside0 (kq ≤ k) ∧ Aside0 (Below w.heap.size w w'))
 case atStart => exact ⟨0, (be_), H, ⟨Nat.le_refl _⟩, ⟨Below.refl _ _⟩⟩
 case round =>
  clear H; obtain ⟨j, rfl, HZ1, HK1, HB⟩ := hrel
  cases gk with
  | zero => exact absurd HZ1.out (by simp [impl_Bits_99.l0])
  | succ k1 => ?_
  replace HZ1 := HZ1.out; simp only [impl_Bits_99.l0] at HZ1
  obtain ⟨c1, HZ2⟩ | ⟨c1, HZ2⟩ := sp HZ1
  ·obtain ⟨c2, HZ3⟩ := yn HZ2; obtain ⟨ad, A2, c2', A3, c3', e1, hx0, hx1, hx2, hx3, hx4, hx5, hl2, hg2, hl3, hg3⟩ := at_T82 (Kd.C_below HR0.out HB.out) j c2 c1; clear hl2 hg2 hl3 hg3; subst e1; have c1b := eq_true c1; have c2b := eq_true c2; clear c1 c2
   obtain ⟨c3, HZ4⟩ | ⟨c3, HZ4⟩ := sp HZ3
   ·obtain rfl := Option.some.inj HZ4; clear HZ4 HZ1 HZ2 HZ3; have hq := am c3; clear c3
    go_wp2_with (go_at_call 100; refine (impl_Bits_99.asked g d0 d1 d2 d3 d4 d5 _ _ _ _ _ _ _ _ _ _ _ (blk_below BK.out HB.out)).mono ?_; rintro e w2 ⟨rfl, hb⟩; rw [hq.out]; replace HB := am (below_step HB.out hb); clear hb)
    go_ret; exact ⟨rfl, HB.out⟩
   have hq := am (Bool.eq_false_iff.mpr c3); clear c3; replace HZ4 := am HZ4; clear HZ1 HZ2 HZ3
   go_wp2_with (go_at_call 100; refine (impl_Bits_99.asked g d0 d1 d2 d3 d4 d5 _ _ _ _ _ _ _ _ _ _ _ (blk_below BK.out HB.out)).mono ?_; rintro e w2 ⟨rfl, hb⟩; rw [hq.out]; replace HB := am (below_step HB.out hb); clear hb)
   go_roundg k1
   case measure => have := HK1.out; omega
   case rel => exact ⟨wrap64 (j + 1), (be_), HZ4, ⟨(by have := HK1.out; omega)⟩, ⟨HB.out⟩⟩
  obtain rfl := Option.some.inj HZ2; clear HZ2 HZ1; have c1b := eq_false c1; clear c1
  go_wp2
  go_ret; exact ⟨rfl, HB.out⟩

end Go.Proofs.Ytmknnoeggkgkgaa.QFnBits
