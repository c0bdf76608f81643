/- Functions that a law reaches, as functions of Lean, and the walks that show that the calls come to their answers. No condition. -/
import Derived.Test.YtjaamflffmhicaaQFnExactUnwrapx0
import Derived.Test.YtjaamflffmhicaaQFnExactUnwrapx5
import Derived.Test.YtjaamflffmhicaaVFnExactUnwraphort3
import Derived.Test.YtjaamflffmhicaaVFnExactUnwraphort2
import Derived.Test.YtjaamflffmhicaaVFnExactUnwraphort
import Derived.Test.YtjaamflffmhicaaVFnExactUnwraphort8
namespace Go.Proofs.Ytjaamflffmhicaa.QFnExactUnwrap
open Go.RowKit Go.Proofs.YtjaamflffmhicaaW.PrintWords Go.Proofs.YtjaamflffmhicaaW.PrintLast Go.Proofs.YtjaamflffmhicaaW.PrintMore Go.Proofs.Ytjaamflffmhicaa.Short
set_option linter.unusedVariables false
set_option linter.unusedSimpArgs false
set_option maxHeartbeats 8000000
set_option maxRecDepth 100000
variable {p : Prop}
theorem D6x0_ (h : p := by exact ⟨bc j 0, bc j 1, bc j 2, bc j 3, bc j 4, bc j 5⟩) : p := h
theorem D6x1_ (h : p := by exact ⟨B14x3_, (Ae1 HB ai)⟩) : p := h
section
attribute [local go_sem] max2_int min2_int max_two min_two max_three min_three max_four min_four
theorem B14x3_ (h : p := by first | rfl | (simp [errW_none, errW_some] <;> rfl) | (simp [*, errW_none, errW_some] <;> rfl)) : p := h
theorem B14x9_ (h : p := by have := bn.out; omega) : p := h
def impl_DgramOk.f (D : Int) (J : Int) (Y : Int) (l : Int) (ag : Bool) (Z : ByteArray) : Option (Bool) := (impl_within.f l 0 160).bind fun cQ => (if cQ = true then (if (Int.tmod l 8) = 0 then ((impl_within.f (Z.size : Int) 1 (wrap64 (160 - l))).bind fun bV => ((impl_isAddr.f D).bind fun cR => (if cR = true then ((impl_isAddr.f J).bind fun cS => (if cS = true then ((impl_isWord.f Y).bind fun cT => (if cT = true then (if bV = true then (if ag = true then (some (((Z.size : Int) % 8) == 0)) else (some true)) else (some false)) else (some false))) else (some false))) else (some false)))) else ((impl_isAddr.f D).bind fun cU => (if cU = true then ((impl_isAddr.f J).bind fun cV => (if cV = true then ((impl_isWord.f Y).bind fun cW => (if cW = true then (some false) else (some false))) else (some false))) else (some false)))) else ((impl_isAddr.f D).bind fun cX => (if cX = true then ((impl_isAddr.f J).bind fun cY => (if cY = true then ((impl_isWord.f Y).bind fun cZ => (if cZ = true then (some false) else (some false))) else (some false))) else (some false))))
theorem impl_DgramOk.calls (D : Int) (J : Int) (Y : Int) (l : Int) (ag : Bool) (Z : ByteArray) (r : Bool) (w : World) (h : impl_DgramOk.f D J Y l ag Z = some r) :
  Calls Try.prog 48 #[.agg #[.int .i64 D, .int .i64 J, .int .i64 Y, .int .i64 l, .bool ag, .string Z]] w fun e w' => e = .returned (.bool r) ∧ Below w.heap.size w w' := by
 have cP := Try.underlying44
 have HB := am (Below.refl w.heap.size w)
 have q := h
 clear h
 unfold impl_DgramOk.f at q
 obtain ⟨cQ, A2, z⟩ := bsi q
 (try dsimp only at z)
 obtain ⟨rfl, M⟩ | ⟨rfl, M⟩ := sb z
 ·obtain ⟨c4, ae⟩ | ⟨c4, ae⟩ := sp M
  ·obtain ⟨cr, dW⟩ := yE c4; clear c4; obtain ⟨bV, A5, aj⟩ := bsi ae; (try dsimp only at aj); obtain ⟨cR, A6, ad⟩ := bsi aj; (try dsimp only at ad)
   obtain ⟨rfl, af⟩ | ⟨rfl, af⟩ := sb ad
   ·obtain ⟨cS, A8, aH⟩ := bsi af; (try dsimp only at aH)
    obtain ⟨rfl, ao⟩ | ⟨rfl, ao⟩ := sb aH
    ·obtain ⟨cT, bC, az⟩ := bsi ao; (try dsimp only at az)
     obtain ⟨rfl, av⟩ | ⟨rfl, av⟩ := sb az
     ·obtain ⟨rfl, aw⟩ | ⟨rfl, aw⟩ := sb av
      ·obtain ⟨rfl, aA⟩ | ⟨rfl, aA⟩ := sb aw
       ·obtain rfl := Option.some.inj aA; clear aA q z M ae aj ad af aH ao az av aw; go_enter Try.func48, Try.ntmps48
        go_wp2_with (first | ((with_reducible refine gate_dst (N := 1) rfl ?_); (try (refine gate_guard (by rfl) ?_; dsimp only)); refine bx (N := 1) (cs := #[.int .i64 D, .int .i64 J, .int .i64 Y, .int .i64 l, .bool true, .string Z]) (t := 44) ?_; intro aK hg ec hbox hb; have ah := am hbox; have ai := gA hg HB; replace HB := hA HB hb; clear hb hbox hg; obtain ⟨aN, aQ, aR, aT, aU, aV, aW, aX, aY, aZ, a1, a2⟩ := cf6 ah) | ((with_reducible refine gate_callee (f := 49) rfl ?_); refine gM (some 6) Try.func49 (impl_within.calls l 0 160 true _ A2.out) ?_; rintro w' ⟨nd, rfl⟩) | (go_at_call 49; refine (impl_within.calls (Z.size : Int) 1 (wrap64 (160 - l)) true _ A5.out).mono ?_; rintro e w' ⟨rfl, ⟨nd, rfl⟩⟩) | ((with_reducible refine gate_callee (f := 65) rfl ?_); refine gM (some 24) Try.func65 (impl_isAddr.calls D true _ A6.out) ?_; rintro w' ⟨nd, rfl⟩) | (go_at_call 65; refine (impl_isAddr.calls J true _ A8.out).mono ?_; rintro e w' ⟨rfl, ⟨nd, rfl⟩⟩) | (go_at_call 70; refine (impl_isWord.calls Y true _ bC.out).mono ?_; rintro e w' ⟨rfl, ⟨nd, rfl⟩⟩))
        go_ret; exact D6x1_
       ·obtain rfl := Option.some.inj aA; clear aA q z M ae aj ad af aH ao az av aw; go_enter Try.func48, Try.ntmps48
        go_wp2_with (first | ((with_reducible refine gate_dst (N := 1) rfl ?_); (try (refine gate_guard (by rfl) ?_; dsimp only)); refine bx (N := 1) (cs := #[.int .i64 D, .int .i64 J, .int .i64 Y, .int .i64 l, .bool false, .string Z]) (t := 44) ?_; intro aK hg dw hbox hb; have ah := am hbox; have ai := gA hg HB; replace HB := hA HB hb; clear hb hbox hg; obtain ⟨aN, aQ, aR, aT, aU, aV, aW, aX, aY, aZ, a1, a2⟩ := cf6 ah) | ((with_reducible refine gate_callee (f := 49) rfl ?_); refine gM (some 6) Try.func49 (impl_within.calls l 0 160 true _ A2.out) ?_; rintro w' ⟨nd, rfl⟩) | (go_at_call 49; refine (impl_within.calls (Z.size : Int) 1 (wrap64 (160 - l)) true _ A5.out).mono ?_; rintro e w' ⟨rfl, ⟨nd, rfl⟩⟩) | ((with_reducible refine gate_callee (f := 65) rfl ?_); refine gM (some 24) Try.func65 (impl_isAddr.calls D true _ A6.out) ?_; rintro w' ⟨nd, rfl⟩) | (go_at_call 65; refine (impl_isAddr.calls J true _ A8.out).mono ?_; rintro e w' ⟨rfl, ⟨nd, rfl⟩⟩) | (go_at_call 70; refine (impl_isWord.calls Y true _ bC.out).mono ?_; rintro e w' ⟨rfl, ⟨nd, rfl⟩⟩))
        go_ret; exact D6x1_
      ·obtain rfl := Option.some.inj aw; clear aw q z M ae aj ad af aH ao az av; go_enter Try.func48, Try.ntmps48
       go_wp2_with (first | ((with_reducible refine gate_dst (N := 1) rfl ?_); (try (refine gate_guard (by rfl) ?_; dsimp only)); refine bx (N := 1) (cs := #[.int .i64 D, .int .i64 J, .int .i64 Y, .int .i64 l, .bool ag, .string Z]) (t := 44) ?_; intro aK hg dx hbox hb; have ah := am hbox; have ai := gA hg HB; replace HB := hA HB hb; clear hb hbox hg; obtain ⟨aN, aQ, aR, aT, aU, aV, aW, aX, aY, aZ, a1, a2⟩ := cf6 ah) | ((with_reducible refine gate_callee (f := 49) rfl ?_); refine gM (some 6) Try.func49 (impl_within.calls l 0 160 true _ A2.out) ?_; rintro w' ⟨nd, rfl⟩) | (go_at_call 49; refine (impl_within.calls (Z.size : Int) 1 (wrap64 (160 - l)) false _ A5.out).mono ?_; rintro e w' ⟨rfl, ⟨nd, rfl⟩⟩) | ((with_reducible refine gate_callee (f := 65) rfl ?_); refine gM (some 24) Try.func65 (impl_isAddr.calls D true _ A6.out) ?_; rintro w' ⟨nd, rfl⟩) | (go_at_call 65; refine (impl_isAddr.calls J true _ A8.out).mono ?_; rintro e w' ⟨rfl, ⟨nd, rfl⟩⟩) | (go_at_call 70; refine (impl_isWord.calls Y true _ bC.out).mono ?_; rintro e w' ⟨rfl, ⟨nd, rfl⟩⟩))
       go_ret; exact D6x1_
     ·obtain rfl := Option.some.inj av; clear av q z M ae aj ad af aH ao az; go_enter Try.func48, Try.ntmps48
      go_wp2_with (first | ((with_reducible refine gate_dst (N := 1) rfl ?_); (try (refine gate_guard (by rfl) ?_; dsimp only)); refine bx (N := 1) (cs := #[.int .i64 D, .int .i64 J, .int .i64 Y, .int .i64 l, .bool ag, .string Z]) (t := 44) ?_; intro aK hg ed hbox hb; have ah := am hbox; have ai := gA hg HB; replace HB := hA HB hb; clear hb hbox hg; obtain ⟨aN, aQ, aR, aT, aU, aV, aW, aX, aY, aZ, a1, a2⟩ := cf6 ah) | ((with_reducible refine gate_callee (f := 49) rfl ?_); refine gM (some 6) Try.func49 (impl_within.calls l 0 160 true _ A2.out) ?_; rintro w' ⟨nd, rfl⟩) | (go_at_call 49; refine (impl_within.calls (Z.size : Int) 1 (wrap64 (160 - l)) bV _ A5.out).mono ?_; rintro e w' ⟨rfl, ⟨nd, rfl⟩⟩) | ((with_reducible refine gate_callee (f := 65) rfl ?_); refine gM (some 24) Try.func65 (impl_isAddr.calls D true _ A6.out) ?_; rintro w' ⟨nd, rfl⟩) | (go_at_call 65; refine (impl_isAddr.calls J true _ A8.out).mono ?_; rintro e w' ⟨rfl, ⟨nd, rfl⟩⟩) | (go_at_call 70; refine (impl_isWord.calls Y false _ bC.out).mono ?_; rintro e w' ⟨rfl, ⟨nd, rfl⟩⟩))
      go_ret; exact D6x1_
    ·obtain rfl := Option.some.inj ao; clear ao q z M ae aj ad af aH; go_enter Try.func48, Try.ntmps48
     go_wp2_with (first | ((with_reducible refine gate_dst (N := 1) rfl ?_); (try (refine gate_guard (by rfl) ?_; dsimp only)); refine bx (N := 1) (cs := #[.int .i64 D, .int .i64 J, .int .i64 Y, .int .i64 l, .bool ag, .string Z]) (t := 44) ?_; intro aK hg dy hbox hb; have ah := am hbox; have ai := gA hg HB; replace HB := hA HB hb; clear hb hbox hg; obtain ⟨aN, aQ, aR, aT, aU, aV, aW, aX, aY, aZ, a1, a2⟩ := cf6 ah) | ((with_reducible refine gate_callee (f := 49) rfl ?_); refine gM (some 6) Try.func49 (impl_within.calls l 0 160 true _ A2.out) ?_; rintro w' ⟨nd, rfl⟩) | (go_at_call 49; refine (impl_within.calls (Z.size : Int) 1 (wrap64 (160 - l)) bV _ A5.out).mono ?_; rintro e w' ⟨rfl, ⟨nd, rfl⟩⟩) | ((with_reducible refine gate_callee (f := 65) rfl ?_); refine gM (some 24) Try.func65 (impl_isAddr.calls D true _ A6.out) ?_; rintro w' ⟨nd, rfl⟩) | (go_at_call 65; refine (impl_isAddr.calls J false _ A8.out).mono ?_; rintro e w' ⟨rfl, ⟨nd, rfl⟩⟩))
     go_ret; exact D6x1_
   ·obtain rfl := Option.some.inj af; clear af q z M ae aj ad; go_enter Try.func48, Try.ntmps48
    go_wp2_with (first | ((with_reducible refine gate_dst (N := 1) rfl ?_); (try (refine gate_guard (by rfl) ?_; dsimp only)); refine bx (N := 1) (cs := #[.int .i64 D, .int .i64 J, .int .i64 Y, .int .i64 l, .bool ag, .string Z]) (t := 44) ?_; intro aK hg ee hbox hb; have ah := am hbox; have ai := gA hg HB; replace HB := hA HB hb; clear hb hbox hg; obtain ⟨aN, aQ, aR, aT, aU, aV, aW, aX, aY, aZ, a1, a2⟩ := cf6 ah) | ((with_reducible refine gate_callee (f := 49) rfl ?_); refine gM (some 6) Try.func49 (impl_within.calls l 0 160 true _ A2.out) ?_; rintro w' ⟨nd, rfl⟩) | (go_at_call 49; refine (impl_within.calls (Z.size : Int) 1 (wrap64 (160 - l)) bV _ A5.out).mono ?_; rintro e w' ⟨rfl, ⟨nd, rfl⟩⟩) | ((with_reducible refine gate_callee (f := 65) rfl ?_); refine gM (some 24) Try.func65 (impl_isAddr.calls D false _ A6.out) ?_; rintro w' ⟨nd, rfl⟩))
    go_ret; exact D6x1_
  ·obtain ⟨cr, dW⟩ := nE c4; obtain ⟨cU, cd, a3⟩ := bsi ae; (try dsimp only at a3)
   obtain ⟨rfl, bp⟩ | ⟨rfl, bp⟩ := sb a3
   ·obtain ⟨cV, cm, bJ⟩ := bsi bp; (try dsimp only at bJ)
    obtain ⟨rfl, bE⟩ | ⟨rfl, bE⟩ := sb bJ
    ·obtain ⟨cW, bD, cg⟩ := bsi bE; (try dsimp only at cg)
     obtain ⟨rfl, bK⟩ | ⟨rfl, bK⟩ := sb cg
     ·obtain rfl := Option.some.inj bK; clear bK q z M ae a3 bp bJ bE cg; go_enter Try.func48, Try.ntmps48
      go_wp2_with (first | ((with_reducible refine gate_dst (N := 1) rfl ?_); (try (refine gate_guard (by rfl) ?_; dsimp only)); refine bx (N := 1) (cs := #[.int .i64 D, .int .i64 J, .int .i64 Y, .int .i64 l, .bool ag, .string Z]) (t := 44) ?_; intro aK hg fs hbox hb; have ah := am hbox; have ai := gA hg HB; replace HB := hA HB hb; clear hb hbox hg; obtain ⟨aN, aQ, aR, aT, aU, aV, aW, aX, aY, aZ, a1, a2⟩ := cf6 ah) | ((with_reducible refine gate_callee (f := 49) rfl ?_); refine gM (some 6) Try.func49 (impl_within.calls l 0 160 true _ A2.out) ?_; rintro w' ⟨nd, rfl⟩) | ((with_reducible refine gate_callee (f := 65) rfl ?_); refine gM (some 24) Try.func65 (impl_isAddr.calls D true _ cd.out) ?_; rintro w' ⟨nd, rfl⟩) | (go_at_call 65; refine (impl_isAddr.calls J true _ cm.out).mono ?_; rintro e w' ⟨rfl, ⟨nd, rfl⟩⟩) | (go_at_call 70; refine (impl_isWord.calls Y true _ bD.out).mono ?_; rintro e w' ⟨rfl, ⟨nd, rfl⟩⟩))
      go_ret; exact D6x1_
     ·obtain rfl := Option.some.inj bK; clear bK q z M ae a3 bp bJ bE cg; go_enter Try.func48, Try.ntmps48
      go_wp2_with (first | ((with_reducible refine gate_dst (N := 1) rfl ?_); (try (refine gate_guard (by rfl) ?_; dsimp only)); refine bx (N := 1) (cs := #[.int .i64 D, .int .i64 J, .int .i64 Y, .int .i64 l, .bool ag, .string Z]) (t := 44) ?_; intro aK hg eg hbox hb; have ah := am hbox; have ai := gA hg HB; replace HB := hA HB hb; clear hb hbox hg; obtain ⟨aN, aQ, aR, aT, aU, aV, aW, aX, aY, aZ, a1, a2⟩ := cf6 ah) | ((with_reducible refine gate_callee (f := 49) rfl ?_); refine gM (some 6) Try.func49 (impl_within.calls l 0 160 true _ A2.out) ?_; rintro w' ⟨nd, rfl⟩) | ((with_reducible refine gate_callee (f := 65) rfl ?_); refine gM (some 24) Try.func65 (impl_isAddr.calls D true _ cd.out) ?_; rintro w' ⟨nd, rfl⟩) | (go_at_call 65; refine (impl_isAddr.calls J true _ cm.out).mono ?_; rintro e w' ⟨rfl, ⟨nd, rfl⟩⟩) | (go_at_call 70; refine (impl_isWord.calls Y false _ bD.out).mono ?_; rintro e w' ⟨rfl, ⟨nd, rfl⟩⟩))
      go_ret; exact D6x1_
    ·obtain rfl := Option.some.inj bE; clear bE q z M ae a3 bp bJ; go_enter Try.func48, Try.ntmps48
     go_wp2_with (first | ((with_reducible refine gate_dst (N := 1) rfl ?_); (try (refine gate_guard (by rfl) ?_; dsimp only)); refine bx (N := 1) (cs := #[.int .i64 D, .int .i64 J, .int .i64 Y, .int .i64 l, .bool ag, .string Z]) (t := 44) ?_; intro aK hg fv hbox hb; have ah := am hbox; have ai := gA hg HB; replace HB := hA HB hb; clear hb hbox hg; obtain ⟨aN, aQ, aR, aT, aU, aV, aW, aX, aY, aZ, a1, a2⟩ := cf6 ah) | ((with_reducible refine gate_callee (f := 49) rfl ?_); refine gM (some 6) Try.func49 (impl_within.calls l 0 160 true _ A2.out) ?_; rintro w' ⟨nd, rfl⟩) | ((with_reducible refine gate_callee (f := 65) rfl ?_); refine gM (some 24) Try.func65 (impl_isAddr.calls D true _ cd.out) ?_; rintro w' ⟨nd, rfl⟩) | (go_at_call 65; refine (impl_isAddr.calls J false _ cm.out).mono ?_; rintro e w' ⟨rfl, ⟨nd, rfl⟩⟩))
     go_ret; exact D6x1_
   ·obtain rfl := Option.some.inj bp; clear bp q z M ae a3; go_enter Try.func48, Try.ntmps48
    go_wp2_with (first | ((with_reducible refine gate_dst (N := 1) rfl ?_); (try (refine gate_guard (by rfl) ?_; dsimp only)); refine bx (N := 1) (cs := #[.int .i64 D, .int .i64 J, .int .i64 Y, .int .i64 l, .bool ag, .string Z]) (t := 44) ?_; intro aK hg fw hbox hb; have ah := am hbox; have ai := gA hg HB; replace HB := hA HB hb; clear hb hbox hg; obtain ⟨aN, aQ, aR, aT, aU, aV, aW, aX, aY, aZ, a1, a2⟩ := cf6 ah) | ((with_reducible refine gate_callee (f := 49) rfl ?_); refine gM (some 6) Try.func49 (impl_within.calls l 0 160 true _ A2.out) ?_; rintro w' ⟨nd, rfl⟩) | ((with_reducible refine gate_callee (f := 65) rfl ?_); refine gM (some 24) Try.func65 (impl_isAddr.calls D false _ cd.out) ?_; rintro w' ⟨nd, rfl⟩))
    go_ret; exact D6x1_
 ·obtain ⟨cX, ce, bF⟩ := bsi M; (try dsimp only at bF)
  obtain ⟨rfl, bq⟩ | ⟨rfl, bq⟩ := sb bF
  ·obtain ⟨cY, cn, bL⟩ := bsi bq; (try dsimp only at bL)
   obtain ⟨rfl, bG⟩ | ⟨rfl, bG⟩ := sb bL
   ·obtain ⟨cZ, cE, ch⟩ := bsi bG; (try dsimp only at ch)
    obtain ⟨rfl, bM⟩ | ⟨rfl, bM⟩ := sb ch
    ·obtain rfl := Option.some.inj bM; clear bM q z M bF bq bL bG ch; go_enter Try.func48, Try.ntmps48
     go_wp2_with (first | ((with_reducible refine gate_dst (N := 1) rfl ?_); (try (refine gate_guard (by rfl) ?_; dsimp only)); refine bx (N := 1) (cs := #[.int .i64 D, .int .i64 J, .int .i64 Y, .int .i64 l, .bool ag, .string Z]) (t := 44) ?_; intro aK hg fx hbox hb; have ah := am hbox; have ai := gA hg HB; replace HB := hA HB hb; clear hb hbox hg; obtain ⟨aN, aQ, aR, aT, aU, aV, aW, aX, aY, aZ, a1, a2⟩ := cf6 ah) | ((with_reducible refine gate_callee (f := 49) rfl ?_); refine gM (some 6) Try.func49 (impl_within.calls l 0 160 false _ A2.out) ?_; rintro w' ⟨nd, rfl⟩) | ((with_reducible refine gate_callee (f := 65) rfl ?_); refine gM (some 24) Try.func65 (impl_isAddr.calls D true _ ce.out) ?_; rintro w' ⟨nd, rfl⟩) | (go_at_call 65; refine (impl_isAddr.calls J true _ cn.out).mono ?_; rintro e w' ⟨rfl, ⟨nd, rfl⟩⟩) | (go_at_call 70; refine (impl_isWord.calls Y true _ cE.out).mono ?_; rintro e w' ⟨rfl, ⟨nd, rfl⟩⟩))
     go_ret; exact D6x1_
    ·obtain rfl := Option.some.inj bM; clear bM q z M bF bq bL bG ch; go_enter Try.func48, Try.ntmps48
     go_wp2_with (first | ((with_reducible refine gate_dst (N := 1) rfl ?_); (try (refine gate_guard (by rfl) ?_; dsimp only)); refine bx (N := 1) (cs := #[.int .i64 D, .int .i64 J, .int .i64 Y, .int .i64 l, .bool ag, .string Z]) (t := 44) ?_; intro aK hg fy hbox hb; have ah := am hbox; have ai := gA hg HB; replace HB := hA HB hb; clear hb hbox hg; obtain ⟨aN, aQ, aR, aT, aU, aV, aW, aX, aY, aZ, a1, a2⟩ := cf6 ah) | ((with_reducible refine gate_callee (f := 49) rfl ?_); refine gM (some 6) Try.func49 (impl_within.calls l 0 160 false _ A2.out) ?_; rintro w' ⟨nd, rfl⟩) | ((with_reducible refine gate_callee (f := 65) rfl ?_); refine gM (some 24) Try.func65 (impl_isAddr.calls D true _ ce.out) ?_; rintro w' ⟨nd, rfl⟩) | (go_at_call 65; refine (impl_isAddr.calls J true _ cn.out).mono ?_; rintro e w' ⟨rfl, ⟨nd, rfl⟩⟩) | (go_at_call 70; refine (impl_isWord.calls Y false _ cE.out).mono ?_; rintro e w' ⟨rfl, ⟨nd, rfl⟩⟩))
     go_ret; exact D6x1_
   ·obtain rfl := Option.some.inj bG; clear bG q z M bF bq bL; go_enter Try.func48, Try.ntmps48
    go_wp2_with (first | ((with_reducible refine gate_dst (N := 1) rfl ?_); (try (refine gate_guard (by rfl) ?_; dsimp only)); refine bx (N := 1) (cs := #[.int .i64 D, .int .i64 J, .int .i64 Y, .int .i64 l, .bool ag, .string Z]) (t := 44) ?_; intro aK hg fz hbox hb; have ah := am hbox; have ai := gA hg HB; replace HB := hA HB hb; clear hb hbox hg; obtain ⟨aN, aQ, aR, aT, aU, aV, aW, aX, aY, aZ, a1, a2⟩ := cf6 ah) | ((with_reducible refine gate_callee (f := 49) rfl ?_); refine gM (some 6) Try.func49 (impl_within.calls l 0 160 false _ A2.out) ?_; rintro w' ⟨nd, rfl⟩) | ((with_reducible refine gate_callee (f := 65) rfl ?_); refine gM (some 24) Try.func65 (impl_isAddr.calls D true _ ce.out) ?_; rintro w' ⟨nd, rfl⟩) | (go_at_call 65; refine (impl_isAddr.calls J false _ cn.out).mono ?_; rintro e w' ⟨rfl, ⟨nd, rfl⟩⟩))
    go_ret; exact D6x1_
  ·obtain rfl := Option.some.inj bq; clear bq q z M bF; go_enter Try.func48, Try.ntmps48
   go_wp2_with (first | ((with_reducible refine gate_dst (N := 1) rfl ?_); (try (refine gate_guard (by rfl) ?_; dsimp only)); refine bx (N := 1) (cs := #[.int .i64 D, .int .i64 J, .int .i64 Y, .int .i64 l, .bool ag, .string Z]) (t := 44) ?_; intro aK hg fA hbox hb; have ah := am hbox; have ai := gA hg HB; replace HB := hA HB hb; clear hb hbox hg; obtain ⟨aN, aQ, aR, aT, aU, aV, aW, aX, aY, aZ, a1, a2⟩ := cf6 ah) | ((with_reducible refine gate_callee (f := 49) rfl ?_); refine gM (some 6) Try.func49 (impl_within.calls l 0 160 false _ A2.out) ?_; rintro w' ⟨nd, rfl⟩) | ((with_reducible refine gate_callee (f := 65) rfl ?_); refine gM (some 24) Try.func65 (impl_isAddr.calls D false _ ce.out) ?_; rintro w' ⟨nd, rfl⟩))
   go_ret; exact D6x1_

def impl_byteTexts.l0 : Nat → List Int → List Int → Int → Int → Option (ByteArray)
 | 0, _, _, _, _ => none
 | k + 1, x3, x7, x8, x9 => if x9 < x8 then (if 0 ≤ x9 then (if x9 < (x7.length : Int) then (if x3.length < 140737488355328 then (impl_byteTexts.l0 k (x3 ++ [(rd x7 x9) % 256]) x7 x8 (wrap64 (x9 + 1))) else (none)) else (none)) else (none)) else (some (strOfNums x3))
def impl_byteTexts.f (k : Nat) (l0 : List Int) : Option (ByteArray) := impl_byteTexts.l0 k (([] : List Int)) l0 (l0.length : Int) 0
theorem impl_byteTexts.calls (k : Nat) (A0 : Option Addr) (c0 : Nat) (l0 : List Int) (r : ByteArray) (w : World) (cO : Kd.C (Kd.int .i64) w A0 l0.length l0) (cN : l0.length ≤ c0) (h : impl_byteTexts.f k l0 = some r) :
  Calls Try.prog 66 #[.slice A0 l0.length c0] w fun e w' => e = .returned (.string r) ∧ Below w.heap.size w w' := by
 have dM := am cO
 have eQ := am cN
 clear cO cN
 have HB := am (Below.refl w.heap.size w)
 have q := h
 clear h
 unfold impl_byteTexts.f at q
 obtain ⟨eo, bQ⟩ : ∃ y_ : List Int, y_ = (([] : List Int)) := ⟨_, rfl⟩
 (first | with_reducible replace q := hq bQ q | rw [← bQ] at q | simp only [← bQ] at q)
 have cF := am bQ
 clear bQ
 replace q := am q
 go_enter Try.func66, Try.ntmps66
 go_wp2_with (first | ((with_reducible refine gate_dst (N := 6) rfl ?_); refine lL (Kd.int .u8) 5 6 ([] : List Int) [] (Reps.none _ _) ?_; intro fg w2 bO hb; (first | rw [← cF.out] at bO | (simp only [Int.reduceToNat] at bO; rw [← cF.out] at bO)); have dK := am (Kd.R_lower bO (below_size (Ae0 HB))); replace HB := hA HB hb; clear hb bO))
 go_loopg [3, 9] k (fun kq v3 v9 w' => ∃ (ay : List Int) (bh : Int), v9 = .int .i64 bh ∧ Aside0 (impl_byteTexts.l0 kq ay l0 (l0.length : Int) bh = some r) ∧ Aside0 (kq ≤ k) ∧ Aside0 (Kd.R (Kd.int .u8) 5 w' w.heap.size (fun _ => True) v3 ay) ∧ Aside0 (Below w.heap.size w w'))
 case atStart => exact ⟨(eo), 0, be_, q, ⟨Nat.le_refl _⟩, Cr dK, Ce0 HB⟩
 case round =>
  clear q; obtain ⟨ay, bh, rfl, z, bn, co, HB⟩ := hrel
  cases gk with
  | zero => exact absurd z.out (by simp [impl_byteTexts.l0])
  | succ k1 => ?_
  replace z := z.out; simp only [impl_byteTexts.l0] at z
  obtain ⟨cr, M⟩ | ⟨cr, M⟩ := sd z
  ·obtain ⟨cK, ae⟩ := yd M; obtain ⟨ct, aj⟩ := yd ae; obtain ⟨dN, ad⟩ := ya aj; obtain ⟨ep, bR⟩ : ∃ y_ : List Int, y_ = (ay ++ [(rd l0 bh) % 256]) := ⟨_, rfl⟩
   (first | with_reducible replace ad := hq bR ad | rw [← bR] at ad | simp only [← bR] at ad)
   have dP := am bR; clear bR; replace ad := am ad; clear z M ae aj
   have cw : 0 ≤ (bh : Int) := dga
   have cx : bh < (l0.length : Int) := dga
   obtain ⟨eS, d6, cu⟩ := Kd.at_int dM.out bh cw cx; cases d6; replace cu := (hbc HB cu).trans cu; replace cw := eq_true cw; replace cx := eq_true cx
   go_wp2_with (first | ((with_reducible refine gate_builtin (b := .append) (xs := #[.tmp 13, .tmp 16]) rfl ?_); at_builtin; refine Kd.R_append (Kd.int .u8) (w0 := w) w.heap.size rfl (.tmp 13) (.tmp 16) 90 5 (.int .u8 0) 1 rfl Try.underlying90 info5 rfl (by decide) (by omega) u3 ay ((rd l0 bh) % 256) [.int .u8 ((rd l0 bh) % 256)] (fun _ => True) (fun _ => False) rfl rfl ?aP (fun _ hk => hk.elim) ?aF ?aO ?aB ?aS ?aL ?_; (case aP => exact rfl); (case aB => exact (Ae0 HB)); (case aF => exact (fun _ _ => trivial)); (case aO => (with_reducible repeat (first | apply Kd.R_alloc | apply Kd.R_drewN | apply Kd.R_drew)); exact co.out); (case aS => exact (below_size (Ae0 HB))); (case aL => have := dN.out; omega); intro fh w8 ho hb hg hat; rw [← dP.out] at ho; replace HB := am hb; have dL := am ho; clear co; clear ho hb hg hat))
   go_roundg k1
   case measure => have := bn.out; omega
   case rel => exact ⟨(ep), (wrap64 (bh + 1)), be_, ad, ⟨B14x9_⟩, Cr dL, Ce0 HB⟩
  ·obtain rfl := Option.some.inj M; clear M z; have e4 := own_string (P := Try.prog) Try.underlying90 Try.underlying5 Try.underlying9 (Kd.own_of_R co.out)
   go_wp2
   go_ret; exact ⟨B14x3_, (Ae0 HB)⟩

def impl_wordText.f (k : Nat) (B : Int) : Option (ByteArray) := (impl_byteTexts.f k (([Go.bits .and .i64 (B / 256) 255, Go.bits .and .i64 B 255] : List Int))).bind fun cy => (some cy)
theorem impl_wordText.calls (k : Nat) (B : Int) (r : ByteArray) (w : World) (h : impl_wordText.f k B = some r) :
  Calls Try.prog 67 #[.int .i64 B] w fun e w' => e = .returned (.string r) ∧ Below w.heap.size w w' := by
 have HB := am (Below.refl w.heap.size w)
 have q := h
 clear h
 unfold impl_wordText.f at q
 obtain ⟨dD, bS⟩ : ∃ y_ : List Int, y_ = (([Go.bits .and .i64 (B / 256) 255, Go.bits .and .i64 B 255] : List Int)) := ⟨_, rfl⟩
 (first | with_reducible replace q := hq bS q | rw [← bS] at q | simp only [← bS] at q)
 have cG := am bS
 clear bS
 obtain ⟨cy, A2, z⟩ := bsi q
 (try dsimp only at z)
 obtain rfl := Option.some.inj z
 clear z q
 go_enter Try.func67, Try.ntmps67
 go_wp2_with (first | ((with_reducible refine gate_dst (N := 8) rfl ?_); refine lL (Kd.int .i64) 3 8 ([Go.bits .and .i64 (B / 256) 255, Go.bits .and .i64 B 255] : List Int) [.int .i64 (Go.bits .and .i64 (B / 256) 255), .int .i64 (Go.bits .and .i64 B 255)] (Reps.one (show Kd.M (Kd.int .i64) _ _ _ (Go.bits .and .i64 (B / 256) 255) [.int .i64 (Go.bits .and .i64 (B / 256) 255)] from rfl) (Reps.one (show Kd.M (Kd.int .i64) _ _ _ (Go.bits .and .i64 B 255) [.int .i64 (Go.bits .and .i64 B 255)] from rfl) (Reps.none _ _))) ?_; intro fi w3 bP hb; (first | rw [← cG.out] at bP | (simp only [Int.reduceToNat] at bP; rw [← cG.out] at bP)); have bI := am (Kd.R_lower bP (below_size (Ae0 HB))); replace HB := hA HB hb; clear hb bP; obtain ⟨dJ, d5, d7⟩ := Kd.R_slice bI.out; subst d7) | ((with_reducible refine gate_callee (f := 66) rfl ?_); refine gL (some 9) Try.func66 #[.slice dJ dD.length d5] ?_; (with_reducible refine (impl_byteTexts.calls k _ _ dD cy _ ?z1 ?z2 A2.out).mono ?_); (case z1 => repeat (first | exact (Kd.R_reads' bI.out).2.2 | (with_reducible refine Kd.C_alloc ?_ _) | (with_reducible refine Kd.C_drewN ?_ _) | (with_reducible refine Kd.C_drew ?_))); (case z2 => exact (Kd.R_reads' bI.out).2.1); rintro e w6 ⟨rfl, hb⟩; refine ⟨_, rfl, ?_⟩; replace bI := rA bI hb; replace HB := hA HB hb))
 go_ret
 exact ⟨B14x3_, (Ae0 HB)⟩

def impl_flag.f (B : Bool) : Option (Int) := if B = true then (some 1) else (some 0)
theorem impl_flag.calls (B : Bool) (r : Int) (w : World) (h : impl_flag.f B = some r) :
  Calls Try.prog 68 #[.bool B] w fun e w' => e = .returned (.int .i64 r) ∧ Drawn0 w w' := by
 have q := h
 clear h
 unfold impl_flag.f at q
 obtain ⟨rfl, z⟩ | ⟨rfl, z⟩ := sb q
 ·obtain rfl := Option.some.inj z; clear z q; go_enter Try.func68, Try.ntmps68
  go_wp2
  go_ret; exact ⟨gr_, gd_⟩
 ·obtain rfl := Option.some.inj z; clear z q; go_enter Try.func68, Try.ntmps68
  go_wp2
  go_ret; exact ⟨gr_, gd_⟩

def impl_SumOnes.l0 : Nat → ByteArray → Int → Int → Option (Int)
 | 0, _, _, _ => none
 | k + 1, x0, x3, x4 => if x4 < (x0.size : Int) then (if 0 ≤ x4 then (if (Int.tmod x4 2) = 0 then (if (wrap64 (x3 + (wrap64 ((wrap64 (bt x0 x4)) * 256)))) > 65535 then (impl_SumOnes.l0 k x0 (wrap64 ((wrap64 (x3 + (wrap64 ((wrap64 (bt x0 x4)) * 256)))) - 65535)) (wrap64 (x4 + 1))) else (impl_SumOnes.l0 k x0 (wrap64 (x3 + (wrap64 ((wrap64 (bt x0 x4)) * 256)))) (wrap64 (x4 + 1)))) else (if (wrap64 (x3 + (wrap64 (bt x0 x4)))) > 65535 then (impl_SumOnes.l0 k x0 (wrap64 ((wrap64 (x3 + (wrap64 (bt x0 x4)))) - 65535)) (wrap64 (x4 + 1))) else (impl_SumOnes.l0 k x0 (wrap64 (x3 + (wrap64 (bt x0 x4)))) (wrap64 (x4 + 1))))) else (none)) else (some (wrap64 (65535 - x3)))
def impl_SumOnes.f (k : Nat) (B : ByteArray) : Option (Int) := impl_SumOnes.l0 k B 0 0
theorem impl_SumOnes.calls (k : Nat) (B : ByteArray) (r : Int) (w : World) (h : impl_SumOnes.f k B = some r) :
  Calls Try.prog 69 #[.string B] w fun e w' => e = .returned (.int .i64 r) ∧ Drawn0 w w' := by
 have q := h
 clear h
 unfold impl_SumOnes.f at q
 replace q := am q
 go_enter Try.func69, Try.ntmps69
 go_wp2
 go_loopg [3, 4] k (fun kq v3 v4 w' => ∃ (ay : Int) (ak : Int), v3 = .int .i64 ay ∧ v4 = .int .i64 ak ∧ Aside0 (impl_SumOnes.l0 kq B ay ak = some r) ∧ Aside0 (kq ≤ k) ∧ Drawn0 w w')
 case atStart => exact ⟨(0), 0, be_, be_, q, ⟨Nat.le_refl _⟩, gd_⟩
 case round =>
  clear q; obtain ⟨ay, ak, rfl, rfl, z, bn, ⟨m1, rfl⟩⟩ := hrel
  cases gk with
  | zero => exact absurd z.out (by simp [impl_SumOnes.l0])
  | succ k1 => ?_
  replace z := z.out; simp only [impl_SumOnes.l0] at z
  obtain ⟨dV, M⟩ | ⟨dV, M⟩ := sd z
  ·obtain ⟨eZ, ae⟩ := yd M
   obtain ⟨c5, aj⟩ | ⟨c5, aj⟩ := sp ae
   ·obtain ⟨cK, dX⟩ := yE c5; clear c5
    obtain ⟨c6, ad⟩ | ⟨c6, ad⟩ := sp aj
    ·have ct : decide (65535 < (wrap64 (ay + (wrap64 ((wrap64 (bt B ak)) * 256))))) = true := decide_eq_true c6
     clear c6; replace ad := am ad; clear z M ae aj
     have p4 : 0 ≤ (ak : Int) := dga
     have q4 : ak < (B.size : Int) := dga
     have cv := bt_at B ak; replace p4 := eq_true p4; replace q4 := eq_true q4
     go_wp2
     go_roundg k1
     case measure => have := bn.out; omega
     case rel => exact ⟨(wrap64 ((wrap64 (ay + (wrap64 ((wrap64 (bt B ak)) * 256)))) - 65535)), (wrap64 (ak + 1)), be_, be_, ad, ⟨B14x9_⟩, gd_⟩
    have ct : decide (65535 < (wrap64 (ay + (wrap64 ((wrap64 (bt B ak)) * 256))))) = false := decide_eq_false c6
    clear c6; replace ad := am ad; clear z M ae aj
    have p4 : 0 ≤ (ak : Int) := dga
    have q4 : ak < (B.size : Int) := dga
    have cv := bt_at B ak; replace p4 := eq_true p4; replace q4 := eq_true q4
    go_wp2
    go_roundg k1
    case measure => have := bn.out; omega
    case rel => exact ⟨(wrap64 (ay + (wrap64 ((wrap64 (bt B ak)) * 256)))), (wrap64 (ak + 1)), be_, be_, ad, ⟨B14x9_⟩, gd_⟩
   obtain ⟨cK, dX⟩ := nE c5
   obtain ⟨c7, af⟩ | ⟨c7, af⟩ := sp aj
   ·have d0 : decide (65535 < (wrap64 (ay + (wrap64 (bt B ak))))) = true := decide_eq_true c7
    clear c7; replace af := am af; clear z M ae aj
    have p4 : 0 ≤ (ak : Int) := dga
    have q4 : ak < (B.size : Int) := dga
    have cv := bt_at B ak; replace p4 := eq_true p4; replace q4 := eq_true q4
    go_wp2
    go_roundg k1
    case measure => have := bn.out; omega
    case rel => exact ⟨(wrap64 ((wrap64 (ay + (wrap64 (bt B ak)))) - 65535)), (wrap64 (ak + 1)), be_, be_, af, ⟨B14x9_⟩, gd_⟩
   have d0 : decide (65535 < (wrap64 (ay + (wrap64 (bt B ak))))) = false := decide_eq_false c7
   clear c7; replace af := am af; clear z M ae aj
   have p4 : 0 ≤ (ak : Int) := dga
   have q4 : ak < (B.size : Int) := dga
   have cv := bt_at B ak; replace p4 := eq_true p4; replace q4 := eq_true q4
   go_wp2
   go_roundg k1
   case measure => have := bn.out; omega
   case rel => exact ⟨(wrap64 (ay + (wrap64 (bt B ak)))), (wrap64 (ak + 1)), be_, be_, af, ⟨B14x9_⟩, gd_⟩
  obtain rfl := Option.some.inj M; clear M z
  go_wp2
  go_ret; exact ⟨gr_, gd_⟩
theorem B15x2_ (h : p := by repeat (first | (with_reducible first | exact al.out | apply IsS69.alloc | apply IsS69.drewN | apply IsS69.drew | apply IsS69.set_0 | apply IsS69.set_1 | apply IsS69.set_2 | refine IsS69.far ?_ dO.out _ | refine IsS69.far ?_ cp.out _) | exact al.out)) : p := h
def impl_DgramText.f (k : Nat) (D : Int) (J : Int) (Y : Int) (l : Int) (ag : Bool) (Z : ByteArray) : Option (ByteArray × Bool) := (impl_DgramOk.f D J Y l ag Z).bind fun da => (if da = true then ((impl_byteTexts.f k (([D, J] : List Int))).bind fun aD => ((impl_wordText.f k Y).bind fun aE => (if aD.size + aE.size ≤ 9223372036854775807 then ((impl_flag.f ag).bind fun bl => ((impl_byteTexts.f k (([wrap64 (Int.tdiv l 8), bl] : List Int))).bind fun aI => (if (aD ++ aE).size + aI.size ≤ 9223372036854775807 then ((impl_SumOnes.f k ((aD ++ aE) ++ aI)).bind fun cl => ((impl_wordText.f k cl).bind fun bi => (if ((aD ++ aE) ++ aI).size + bi.size ≤ 9223372036854775807 then (if (((aD ++ aE) ++ aI) ++ bi).size + Z.size ≤ 9223372036854775807 then (some ((((aD ++ aE) ++ aI) ++ bi) ++ Z, true)) else (none)) else (none)))) else (none)))) else (none)))) else (some ((⟨#[]⟩ : ByteArray), false)))
def impl_DgramText.T3 : Bool × List (List Nat × List Nat) := (true, [([], []), ([0], [0]), ([], []), ([2], [2]), ([1, 3], [1, 3]), ([4], [4]), ([], []), ([6], [6]), ([7, 5], [7]), ([5, 8], [5, 8]), ([], []), ([10], [10]), ([11], [11]), ([], []), ([13], [13]), ([14, 8], [14]), ([12, 15], [12, 15]), ([16, 15], [16]), ([9, 17], [9, 17]), ([18, 17, 0, 1, 2, 3, 4, 5, 6, 7, 8, 9, 10, 11, 12, 13, 14, 15, 16, 17, 18], [18])])
def impl_DgramText.B3 : List Nat := [0, 1, 0, 4, 15, 31, 0, 64, 255, 511, 0, 1024, 3072, 0, 8192, 25087, 65023, 130559, 262143, 524287]
theorem impl_DgramText.tab3 : rtab .any (opsOf Try.f47 3) = impl_DgramText.T3 := by kernel_rfl
theorem impl_DgramText.bits3 : waitsOk impl_DgramText.T3.2 impl_DgramText.B3 = true := by kernel_rfl
def impl_DgramText.T4 : Bool × List (List Nat × List Nat) := (true, [([], []), ([], []), ([1], [1]), ([2, 2], [2]), ([0, 3], [0, 3]), ([], []), ([5], [5]), ([4, 6], [4, 6]), ([7, 3, 0, 1, 2, 3, 4, 5, 6, 7], [7]), ([8, 0, 1, 2, 3, 4, 5, 6, 7, 8], [])])
def impl_DgramText.B4 : List Nat := [0, 0, 2, 6, 15, 0, 32, 127, 255, 511]
theorem impl_DgramText.tab4 : rtab .any (opsOf Try.f47 4) = impl_DgramText.T4 := by kernel_rfl
theorem impl_DgramText.bits4 : waitsOk impl_DgramText.T4.2 impl_DgramText.B4 = true := by kernel_rfl
theorem impl_DgramText.calls (k : Nat) (D : Int) (J : Int) (Y : Int) (l : Int) (ag : Bool) (Z : ByteArray) (r1 : ByteArray) (r2 : Bool) (w : World) (h : impl_DgramText.f k D J Y l ag Z = some (r1, r2)) :
  Calls Try.prog 47 #[.agg #[.int .i64 D, .int .i64 J, .int .i64 Y, .int .i64 l, .bool ag, .string Z]] w fun e w' => e = .returned (.tuple #[.string r1, .bool r2]) ∧ Below w.heap.size w w' := by
 have cP := Try.underlying44
 have HB := am (Below.refl w.heap.size w)
 have q := h
 clear h
 unfold impl_DgramText.f at q
 obtain ⟨da, A2, z⟩ := bsi q
 (try dsimp only at z)
 obtain ⟨rfl, M⟩ | ⟨rfl, M⟩ := sb z
 ·obtain ⟨dE, bT⟩ : ∃ y_ : List Int, y_ = (([D, J] : List Int)) := ⟨_, rfl⟩
  (first | with_reducible replace M := hq bT M | rw [← bT] at M | simp only [← bT] at M)
  have cH := am bT; clear bT; obtain ⟨aD, A4, ae⟩ := bsi M; (try dsimp only at ae); obtain ⟨aE, A5, aj⟩ := bsi ae; (try dsimp only at aj); obtain ⟨c6, ad⟩ := yn aj; have ct := eq_true c6; have e0 := decide_eq_true c6
  try have dY : (9223372036854775807 < aD.size + aE.size) = False := eq_false (Nat.not_lt.2 c6)
  try (have dZ := dY; simp only [ByteArray.size_append] at dZ)
  obtain ⟨bl, A7, af⟩ := bsi ad; (try dsimp only at af); obtain ⟨dF, bU⟩ : ∃ y_ : List Int, y_ = (([wrap64 (Int.tdiv l 8), bl] : List Int)) := ⟨_, rfl⟩
  (first | with_reducible replace af := hq bU af | rw [← bU] at af | simp only [← bU] at af)
  have cI := am bU; clear bU; obtain ⟨aI, A8, aH⟩ := bsi af; (try dsimp only at aH); obtain ⟨c9, ao⟩ := yn aH; have e1 := eq_true c9; have e2 := decide_eq_true c9
  try have d1 : (9223372036854775807 < (aD ++ aE).size + aI.size) = False := eq_false (Nat.not_lt.2 c9)
  try have e3 : (9223372036854775807 < aD.size + aE.size + aI.size) = False := eq_false (by have h_ := c9; simp only [ByteArray.size_append, ByteArray.size_extract, decide_eq_true_eq, decide_eq_false_iff_not] at *; omega)
  try (have d2 := d1; simp only [ByteArray.size_append] at d2)
  obtain ⟨cl, bC, az⟩ := bsi ao; (try dsimp only at az); obtain ⟨bi, dG, av⟩ := bsi az; (try dsimp only at av); obtain ⟨cj, aw⟩ := yn av; have eT := eq_true cj; have eU := decide_eq_true cj
  try have dR : (9223372036854775807 < ((aD ++ aE) ++ aI).size + bi.size) = False := eq_false (Nat.not_lt.2 cj)
  try have eV : (9223372036854775807 < aD.size + aE.size + aI.size + bi.size) = False := eq_false (by have h_ := cj; simp only [ByteArray.size_append, ByteArray.size_extract, decide_eq_true_eq, decide_eq_false_iff_not] at *; omega)
  try (have dS := dR; simp only [ByteArray.size_append] at dS)
  obtain ⟨ck, aA⟩ := yn aw; have eW := eq_true ck; have eX := decide_eq_true ck
  try have dT : (9223372036854775807 < (((aD ++ aE) ++ aI) ++ bi).size + Z.size) = False := eq_false (Nat.not_lt.2 ck)
  try have eY : (9223372036854775807 < aD.size + aE.size + aI.size + bi.size + Z.size) = False := eq_false (by have h_ := ck; simp only [ByteArray.size_append, ByteArray.size_extract, decide_eq_true_eq, decide_eq_false_iff_not] at *; omega)
  try (have dU := dT; simp only [ByteArray.size_append] at dU)
  obtain ⟨rfl, rfl⟩ := s2 aA; clear aA q z M ae aj ad af aH ao az av aw; go_enter Try.func47, Try.ntmps47
  try go_wp2_with (first | ((with_reducible refine gate_dst (N := 1) rfl ?_); refine bx (N := 1) (cs := #[.int .i64 D, .int .i64 J, .int .i64 Y, .int .i64 l, .bool ag, .string Z]) (t := 44) ?_; intro aM hg ec hbox hb; have j := am hbox; have aJ := gA hg HB; replace HB := hA HB hb; clear hb hbox hg; obtain ⟨eq, er, et, eu, ev, ew, eE, eF, eG, eH, eI, eJ⟩ := cf6 j) | ((with_reducible refine gate_callee (f := 48) rfl ?_); refine gM (some 6) Try.func48 (impl_DgramOk.calls D J Y l ag Z true _ A2.out) ?_; rintro dw hb; replace j := bA j hb; replace HB := De1 HB aJ hb))
  replace j := dA j; replace HB := bdr HB; refine st_ 20 (fun w' => w'.cell? ⟨aM, 0, none⟩ = some (.int .i64 D) ∧ w'.cell? ⟨aM, 1, none⟩ = some (.int .i64 J) ∧ w'.cell? ⟨aM, 2, none⟩ = some (.int .i64 Y) ∧ w'.cell? ⟨aM, 3, none⟩ = some (.int .i64 l) ∧ w'.cell? ⟨aM, 4, none⟩ = some (.bool ag) ∧ w'.cell? ⟨aM, 5, none⟩ = some (.string Z)) [] impl_DgramText.tab3 impl_DgramText.bits3 D6x0_ (fun ax ac bo => ?_); generalize dw.drew = bZ at j HB ax ⊢; refine pu_ 0 8 ac ?_; refine pu_ 2 10 ac ?_; refine pu_ 6 14 ac ?_; refine pu_ 10 18 ac ?_; refine pu_ 13 21 ac ?_; refine ta_ 1 9 ac bo ax ?_; refine ta_ 3 11 ac bo ax ?_; refine ta_ 7 15 ac bo ax ?_; refine ta_ 11 19 ac bo ax ?_; refine pu_ 12 20 ac ?_; refine ta_ 14 22 ac bo ax ?_; refine on_ 4 (some 12) ac (fun K hK => ?_); refine lS (Kd.int .i64) 3 12 ([D, J] : List Int) [.int .i64 D, .int .i64 J] (Reps.one (show Kd.M (Kd.int .i64) _ _ _ D [.int .i64 D] from rfl) (Reps.one (show Kd.M (Kd.int .i64) _ _ _ J [.int .i64 J] from rfl) (Reps.none _ _))) ?_; intro fj dx bN hb
  (first | rw [← cH.out] at bN | (simp only [Int.reduceToNat] at bN; rw [← cH.out] at bN))
  have aG := am (Kd.R_lower bN (below_size (Ae1 HB aJ))); replace j := bA j hb; replace HB := De1 HB aJ hb; clear hb bN; obtain ⟨dH, d3, cL⟩ := Kd.R_slice aG.out
  (first | subst cL | (injection cL with f1_ f2_ f3_; have f4_ := f1_.symm; have f5_ := f3_.symm; clear f1_ f2_ f3_; subst f4_; subst f5_))
  refine hK.out _ _ D6x0_ (fun ax => nm_ ?_); clear hK K; refine on_ 5 (some 13) ac (fun K hK => ?_); refine gS Try.func66 #[.slice dH dE.length d3] ?_
  with_reducible refine (impl_byteTexts.calls k _ _ dE aD _ ?z1 ?z2 A4.out).mono ?_
  (case z1 => repeat (first | exact (Kd.R_reads' aG.out).2.2 | (with_reducible refine Kd.C_alloc ?_ _) | (with_reducible refine Kd.C_drewN ?_ _) | (with_reducible refine Kd.C_drew ?_)))
  (case z2 => exact (Kd.R_reads' aG.out).2.1)
  rintro e fn ⟨rfl, hb⟩; refine ⟨_, rfl, ?_⟩; replace aG := rA aG hb; replace j := bA j hb; replace HB := De1 HB aJ hb; refine hK.out _ _ D6x0_ (fun ax => nm_ ?_); clear hK K; refine on_ 8 (some 16) ac (fun K hK => ?_); refine gT Try.func67 (impl_wordText.calls k Y aE _ A5.out) ?_; rintro dy hb; replace aG := rA aG hb; replace j := bA j hb; replace HB := De1 HB aJ hb; refine hK.out _ _ D6x0_ (fun ax => nm_ ?_); clear hK K; refine pu_ 9 17 ac ?_; refine on_ 15 (some 23) ac (fun K hK => ?_); refine gT Try.func68 (impl_flag.calls ag bl _ A7.out) ?_; rintro w' ⟨nd, rfl⟩; refine hK.out _ _ D6x0_ (fun ax => nm_ ?_); clear hK K; refine on_ 16 (some 24) ac (fun K hK => ?_); refine lS (Kd.int .i64) 3 24 ([wrap64 (Int.tdiv l 8), bl] : List Int) [.int .i64 (wrap64 (Int.tdiv l 8)), .int .i64 bl] (Reps.one (show Kd.M (Kd.int .i64) _ _ _ (wrap64 (Int.tdiv l 8)) [.int .i64 (wrap64 (Int.tdiv l 8))] from rfl) (Reps.one (show Kd.M (Kd.int .i64) _ _ _ bl [.int .i64 bl] from rfl) (Reps.none _ _))) ?_; intro fk fo bH hb
  (first | rw [← cI.out] at bH | (simp only [Int.reduceToNat] at bH; rw [← cI.out] at bH))
  have bj := am (Kd.R_lower (Kd.R_new' bH (Kd.R_lt (Ar aG))) (below_size (Ae1 HB aJ))); replace aG := am (Kd.R_elder' (Ar aG) (Kd.R_base bH) hb); replace j := bA j hb; replace HB := De1 HB aJ hb; clear hb bH; obtain ⟨dI, d4, cM⟩ := Kd.R_slice bj.out
  (first | subst cM | (injection cM with f1_ f2_ f3_; have f4_ := f1_.symm; have f5_ := f3_.symm; clear f1_ f2_ f3_; subst f4_; subst f5_))
  refine hK.out _ _ D6x0_ (fun ax => nm_ ?_); clear hK K; refine on_ 17 (some 25) ac (fun K hK => ?_); refine gS Try.func66 #[.slice dI dF.length d4] ?_
  with_reducible refine (impl_byteTexts.calls k _ _ dF aI _ ?z1 ?z2 A8.out).mono ?_
  (case z1 => repeat (first | exact (Kd.R_reads' bj.out).2.2 | (with_reducible refine Kd.C_alloc ?_ _) | (with_reducible refine Kd.C_drewN ?_ _) | (with_reducible refine Kd.C_drew ?_)))
  (case z2 => exact (Kd.R_reads' bj.out).2.1)
  rintro e dz ⟨rfl, hb⟩; refine ⟨_, rfl, ?_⟩; replace aG := rA aG hb; replace bj := rA bj hb; replace j := bA j hb; replace HB := De1 HB aJ hb; refine hK.out _ _ D6x0_ (fun ax => nm_ ?_); clear hK K; refine pu_ 18 26 ac ?_; refine pu_ 19 4 ac ?_; refine done_ (done_of ac.out gk_) ?_
  try go_wp2
  replace aG := eA aG; replace bj := eA bj; replace j := dA j; replace HB := bdr HB; refine st_ 10 (fun w' => w'.cell? ⟨aM, 0, none⟩ = some (.int .i64 D) ∧ w'.cell? ⟨aM, 1, none⟩ = some (.int .i64 J) ∧ w'.cell? ⟨aM, 2, none⟩ = some (.int .i64 Y) ∧ w'.cell? ⟨aM, 3, none⟩ = some (.int .i64 l) ∧ w'.cell? ⟨aM, 4, none⟩ = some (.bool ag) ∧ w'.cell? ⟨aM, 5, none⟩ = some (.string Z)) [] impl_DgramText.tab4 impl_DgramText.bits4 D6x0_ (fun ax ac bo => ?_); generalize dz.drew = dB at aG bj j HB ax ⊢; refine pu_ 0 27 ac ?_; refine pu_ 1 28 ac ?_; refine pu_ 5 32 ac ?_; refine ta_ 6 33 ac bo ax ?_; refine on_ 2 (some 29) ac (fun K hK => ?_); refine gT Try.func69 (impl_SumOnes.calls k ((aD ++ aE) ++ aI) cl _ bC.out) ?_; rintro w' ⟨nd, rfl⟩; refine hK.out _ _ D6x0_ (fun ax => nm_ ?_); clear hK K; refine on_ 3 (some 30) ac (fun K hK => ?_); refine gT Try.func67 (impl_wordText.calls k cl bi _ dG.out) ?_; rintro fq hb; replace j := bA j hb; replace HB := De1 HB aJ hb; refine hK.out _ _ D6x0_ (fun ax => nm_ ?_); clear hK K; refine pu_ 4 31 ac ?_; refine pu_ 7 34 ac ?_; refine pu_ 8 2 ac ?_; refine pu_ 9 3 ac ?_; refine done_ (done_of ac.out gk_) ?_
  try go_wp2
  go_ret2
  exact ⟨B14x3_, (Ae1 HB aJ)⟩
 ·obtain ⟨rfl, rfl⟩ := s2 M; clear M q z; go_enter Try.func47, Try.ntmps47
  go_wp2_with (first | ((with_reducible refine gate_dst (N := 1) rfl ?_); refine bx (N := 1) (cs := #[.int .i64 D, .int .i64 J, .int .i64 Y, .int .i64 l, .bool ag, .string Z]) (t := 44) ?_; intro aM hg ef hbox hb; have j := am hbox; have aJ := gA hg HB; replace HB := hA HB hb; clear hb hbox hg; obtain ⟨eq, er, et, eu, ev, ew, eE, eF, eG, eH, eI, eJ⟩ := cf6 j) | ((with_reducible refine gate_callee (f := 48) rfl ?_); refine gM (some 6) Try.func48 (impl_DgramOk.calls D J Y l ag Z false _ A2.out) ?_; rintro fr hb; replace j := bA j hb; replace HB := De1 HB aJ hb))
  go_ret2
  exact ⟨B14x3_, (Ae1 HB aJ)⟩

def impl_ReadDgram.j0 : Nat → Bool → Int → Int → Int → Int → Bool → ByteArray → Option (Int × Int × Int × Int × Bool × ByteArray × Bool)
 | 0, _, _, _, _, _, _, _ => none
 | k + 1, en, eh, ei, ej, ek, el, em => if en = true then (some (0, 0, 0, 0, false, (⟨#[]⟩ : ByteArray), false)) else (some (eh, ei, ej, ek, el, em, true))
def impl_ReadDgram.f (k : Nat) (B : ByteArray) : Option (Int × Int × Int × Int × Bool × ByteArray × Bool) := (impl_scan_one.f B 0 false).bind fun br => ((impl_scan_one.f br.2.1 br.2.2.1 br.2.2.2).bind fun bu => ((impl_scan_word.f bu.2.1 bu.2.2.1 bu.2.2.2).bind fun bv => ((impl_scan_one.f bv.2.1 bv.2.2.1 bv.2.2.2).bind fun bw => ((impl_scan_one.f bw.2.1 bw.2.2.1 bw.2.2.2).bind fun bz => ((impl_scan_word.f bz.2.1 bz.2.2.1 bz.2.2.2).bind fun cq => ((impl_scan_rest.f cq.2.1 cq.2.2.1 cq.2.2.2).bind fun bB => ((impl_DgramText.f k br.1 bu.1 bv.1 (wrap64 (8 * bw.1)) (bz.1 == 1) bB.1).bind fun cJ => ((impl_scan_done.f bB.2.1 bB.2.2.1 bB.2.2.2).bind fun dQ => (if dQ.1 = true then (if cJ.2 = true then (impl_ReadDgram.j0 k (cJ.1.toList != B.toList) br.1 bu.1 bv.1 (wrap64 (8 * bw.1)) (bz.1 == 1) bB.1) else (impl_ReadDgram.j0 k true br.1 bu.1 bv.1 (wrap64 (8 * bw.1)) (bz.1 == 1) bB.1)) else (impl_ReadDgram.j0 k true br.1 bu.1 bv.1 (wrap64 (8 * bw.1)) (bz.1 == 1) bB.1))))))))))
theorem impl_ReadDgram.calls (k : Nat) (B : ByteArray) (r1 : Int) (r2 : Int) (r3 : Int) (r4 : Int) (r5 : Bool) (r6 : ByteArray) (r7 : Bool) (w : World) (h : impl_ReadDgram.f k B = some (r1, r2, r3, r4, r5, r6, r7)) :
  Calls Try.prog 21 #[.string B] w fun e w' => e = .returned (.tuple #[.agg #[.int .i64 r1, .int .i64 r2, .int .i64 r3, .int .i64 r4, .bool r5, .string r6], .bool r7]) ∧ Below w.heap.size w w' := by
 have cP := Try.underlying44
 have fd := Try.underlying69
 have HB := am (Below.refl w.heap.size w)
 have q := h
 clear h
 unfold impl_ReadDgram.f at q
 obtain ⟨⟨a5, db, dc, dd⟩, A2, z⟩ := bsi q
 (try dsimp only at z)
 obtain ⟨⟨a7, de, df, dh⟩, A3, M⟩ := bsi z
 (try dsimp only at M)
 obtain ⟨⟨a9, di, dj, dk⟩, A4, ae⟩ := bsi M
 (try dsimp only at ae)
 obtain ⟨⟨ba, dl, dm, dn⟩, A5, aj⟩ := bsi ae
 (try dsimp only at aj)
 obtain ⟨⟨bd, dp, dq, dr⟩, A6, ad⟩ := bsi aj
 (try dsimp only at ad)
 obtain ⟨⟨d8, ds, dt, du⟩, A7, af⟩ := bsi ad
 (try dsimp only at af)
 obtain ⟨⟨be, bW, bX, bY⟩, A8, aH⟩ := bsi af
 (try dsimp only at aH)
 obtain ⟨⟨dv, d9⟩, A9, ao⟩ := bsi aH
 (try dsimp only at ao)
 replace ao := am ao
 clear q z M ae aj ad af aH
 go_enter Try.func21, Try.ntmps21
 go_upto_region 12 with (first | ((with_reducible refine gate_dst (N := 2) rfl ?_); refine bx (N := 2) (cs := #[.int .i64 0, .int .i64 0, .int .i64 0, .int .i64 0, .bool false, .string (⟨#[]⟩ : ByteArray)]) (t := 44) ?_; intro ap hg fl hbox hb; have U := am hbox; have ar := gA hg HB; replace HB := hA HB hb; clear hb hbox hg) | ((with_reducible refine gate_dst (N := 12) rfl ?_); refine bx (N := 12) (cs := #[.string B, .int .i64 0, .bool false]) (t := 69) ?_; intro a4 hg fm hbox hb; have bm := am hbox; have cf := gA hg HB; replace HB := De1 HB ar hb; have a8 := nA hg U; have dO := mA hg U; replace U := bA U hb; clear hb hbox hg) | ((with_reducible refine gate_dst (N := 5) rfl ?_); refine bx (N := 5) (cs := #[.int .i64 0, .int .i64 0, .int .i64 0, .int .i64 0, .bool false, .string (⟨#[]⟩ : ByteArray)]) (t := 44) ?_; intro aC hg eb hbox hb; have aa := am hbox; have au := gA hg HB; replace HB := De2 HB ar cf hb; have bk := nA hg U; have ci := mA hg U; replace U := bA U hb; have cp := nA hg bm; have a6 := mA hg bm; replace bm := bA bm hb; clear hb hbox hg; have e5 := ci.out; have e9 := bk.out; have e6 := a6.out; have fa := cp.out; obtain ⟨b0, b1, b2, b3, b4, b5, b6, b7, b8, b9, ca, cc⟩ := cf6 aa) | ((with_reducible refine gate_store (t := 44) (p := 5) rfl ?_); refine store_event (t := 44) (p := 5) (v := ?vo_w17) (w1 := ((((((eb.setCell ⟨aC, 0, none⟩ (.int .i64 0)).setCell ⟨aC, 1, none⟩ (.int .i64 0)).setCell ⟨aC, 2, none⟩ (.int .i64 0)).setCell ⟨aC, 3, none⟩ (.int .i64 0)).setCell ⟨aC, 4, none⟩ (.bool false)).setCell ⟨aC, 5, none⟩ (.string (⟨#[]⟩ : ByteArray)))) ?hg ?ho ?hn ?hr ?_; (case ho => rfl); (case hg => rfl); (case hn => rfl); (case hr => exact gs_); intro bZ hw; replace U : Hc bZ ap #[.int .i64 0, .int .i64 0, .int .i64 0, .int .i64 0, .bool false, .string (⟨#[]⟩ : ByteArray)] 44 := ⟨wAp1 U bk⟩; replace bm : Hc bZ a4 #[.string B, .int .i64 0, .bool false] 69 := ⟨wAp1 bm cp⟩; replace aa : Hc bZ aC #[.int .i64 0, .int .i64 0, .int .i64 0, .int .i64 0, .bool false, .string (⟨#[]⟩ : ByteArray)] 44 := ⟨wAp0 aa⟩; replace HB : Hb w bZ := ⟨wAe3 HB ar cf au⟩; clear hw) | ((with_reducible refine gate_callee (f := 41) rfl ?_); refine gM (some 15) Try.func41 (impl_scan_one.calls a4 B 0 false a5 db dc dd w _ ⟨(Ab bm), cf.out⟩ (Ae3 HB ar cf au) A2.out) ?_; rintro dx ⟨hi, hb, hk⟩; replace U := kA hk U a8; replace aa := kA hk aa a6; replace HB := am hb; have al := am hi; obtain ⟨b0, b1, b2, b3, b4, b5, b6, b7, b8, b9, ca, cc⟩ := cf6 aa) | ((with_reducible refine gate_callee (f := 41) rfl ?_); refine gM (some 18) Try.func41 (impl_scan_one.calls a4 db dc dd a7 de df dh w _ B15x2_ (Ae3 HB (IsS69.gf al) ar au) A3.out) ?_; rintro ed ⟨hi, hb, hk⟩; replace U := am (KeepBut.blk hk (g' := ap) (o := .cells #[.int .i64 0, .int .i64 0, .int .i64 0, .int .i64 0, .bool false, .string (⟨#[]⟩ : ByteArray)] 44 (0, 0)) (Ap1 U bk) a8.out (by simp)); replace aa := am (KeepBut.blk hk (g' := aC) (o := .cells #[.int .i64 a5, .int .i64 0, .int .i64 0, .int .i64 0, .bool false, .string (⟨#[]⟩ : ByteArray)] 44 (0, 0)) (Ap0 aa) a6.out (by simp)); replace HB := am hb; replace al := am hi; obtain ⟨b0, b1, b2, b3, b4, b5, b6, b7, b8, b9, ca, cc⟩ := cf6 aa) | ((with_reducible refine gate_callee (f := 46) rfl ?_); refine gM (some 21) Try.func46 (impl_scan_word.calls a4 de df dh a9 di dj dk w _ B15x2_ (Ae3 HB (IsS69.gf al) ar au) A4.out) ?_; rintro dy ⟨hi, hb, hk⟩; replace U := am (KeepBut.blk hk (g' := ap) (o := .cells #[.int .i64 0, .int .i64 0, .int .i64 0, .int .i64 0, .bool false, .string (⟨#[]⟩ : ByteArray)] 44 (0, 0)) (Ap1 U bk) a8.out (by simp)); replace aa := am (KeepBut.blk hk (g' := aC) (o := .cells #[.int .i64 a5, .int .i64 a7, .int .i64 0, .int .i64 0, .bool false, .string (⟨#[]⟩ : ByteArray)] 44 (0, 0)) (Ap0 aa) a6.out (by simp)); replace HB := am hb; replace al := am hi; obtain ⟨b0, b1, b2, b3, b4, b5, b6, b7, b8, b9, ca, cc⟩ := cf6 aa) | ((with_reducible refine gate_callee (f := 41) rfl ?_); refine gM (some 24) Try.func41 (impl_scan_one.calls a4 di dj dk ba dl dm dn w _ B15x2_ (Ae3 HB (IsS69.gf al) ar au) A5.out) ?_; rintro ee ⟨hi, hb, hk⟩; replace U := am (KeepBut.blk hk (g' := ap) (o := .cells #[.int .i64 0, .int .i64 0, .int .i64 0, .int .i64 0, .bool false, .string (⟨#[]⟩ : ByteArray)] 44 (0, 0)) (Ap1 U bk) a8.out (by simp)); replace aa := am (KeepBut.blk hk (g' := aC) (o := .cells #[.int .i64 a5, .int .i64 a7, .int .i64 a9, .int .i64 0, .bool false, .string (⟨#[]⟩ : ByteArray)] 44 (0, 0)) (Ap0 aa) a6.out (by simp)); replace HB := am hb; replace al := am hi) | ((with_reducible refine gate_callee (f := 41) rfl ?_); refine gM (some 26) Try.func41 (impl_scan_one.calls a4 dl dm dn bd dp dq dr w _ B15x2_ (Ae3 HB (IsS69.gf al) ar au) A6.out) ?_; rintro fp ⟨hi, hb, hk⟩; replace U := kA hk U a8; replace aa := kA hk aa a6; replace HB := am hb; replace al := am hi) | ((with_reducible refine gate_callee (f := 46) rfl ?_); refine gM (some 28) Try.func46 (impl_scan_word.calls a4 dp dq dr d8 ds dt du w _ B15x2_ (Ae3 HB (IsS69.gf al) ar au) A7.out) ?_; rintro dz ⟨hi, hb, hk⟩; replace U := kA hk U a8; replace aa := kA hk aa a6; replace HB := am hb; replace al := am hi) | ((with_reducible refine gate_callee (f := 42) rfl ?_); refine gM (some 30) Try.func42 (impl_scan_rest.calls a4 ds dt du be bW bX bY w _ B15x2_ (Ae3 HB (IsS69.gf al) ar au) A8.out) ?_; rintro dB ⟨hi, hb, hk⟩; replace U := kA hk U a8; replace aa := kA hk aa a6; replace HB := am hb; replace al := am hi; obtain ⟨b0, b1, b2, b3, b4, b5, b6, b7, b8, b9, ca, cc⟩ := cf6 aa) | ((with_reducible refine gate_callee (f := 47) rfl ?_); refine gM (some 40) Try.func47 (impl_DgramText.calls k a5 a7 a9 (wrap64 (8 * ba)) (bd == 1) be dv d9 _ A9.out) ?_; rintro ef hb; replace U := am (blk_below (g := ap) (o := .cells #[.int .i64 0, .int .i64 0, .int .i64 0, .int .i64 0, .bool false, .string (⟨#[]⟩ : ByteArray)] 44 (0, 0)) (Ap1 U bk) hb); replace aa := am (blk_below (g := aC) (o := .cells #[.int .i64 a5, .int .i64 a7, .int .i64 a9, .int .i64 (wrap64 (8 * ba)), .bool (bd == 1), .string be] 44 (0, 0)) (Ap0 aa) hb); replace HB := De3 HB (IsS69.gf al) ar au hb; replace al := am (IsS69.below (show IsS69 w (((dB.setCell ⟨aC, 5, none⟩ (.string be)).setCell ⟨aC, 3, none⟩ (.int .i64 (wrap64 (8 * ba)))).setCell ⟨aC, 4, none⟩ (.bool (bd == 1))) a4 bW bX bY from B15x2_) hb)))
 (try simp only [Act.put, List.setIfInBounds_toArray, List.set_cons_zero, List.set_cons_succ])
 go_cut [54] (fun ea wc => ∃ (kq : Nat) (cD : Bool), ea = .bool cD ∧ Aside0 (impl_ReadDgram.j0 kq cD a5 a7 a9 (wrap64 (8 * ba)) (bd == 1) be = some (r1, r2, r3, r4, r5, r6, r7)) ∧ Aside0 (kq ≤ k) ∧ Hc wc ap #[.int .i64 0, .int .i64 0, .int .i64 0, .int .i64 0, .bool false, .string (⟨#[]⟩ : ByteArray)] 44 ∧ Hc wc aC #[.int .i64 a5, .int .i64 a7, .int .i64 a9, .int .i64 (wrap64 (8 * ba)), .bool (bd == 1), .string be] 44 ∧ Hb w wc)
 case first =>
  replace ao := ao.out; obtain ⟨⟨ff, cz, cA, cB⟩, bD, az⟩ := bsi ao; (try dsimp only at az)
  obtain ⟨rfl, av⟩ | ⟨rfl, av⟩ := sb az
  ·obtain ⟨rfl, aw⟩ | ⟨rfl, aw⟩ := sb av
   ·replace aw := am aw; clear ao az av
    go_wp2_with (first | ((with_reducible refine gate_callee (f := 43) rfl ?_); refine gM (some 44) Try.func43 (impl_scan_done.calls a4 bW bX bY true cz cA cB w _ B15x2_ (Ae3 HB (IsS69.gf al) ar au) bD.out) ?_; rintro ft ⟨hi, hb, hk⟩; replace U := kA hk U a8; replace aa := kA hk aa a6; replace HB := am hb; replace al := am hi))
    go_meet
    case rel => exact ⟨_, ((dv.toList != B.toList)), be_, aw, ⟨gl_⟩, Cb U, Cb aa, Ce3 HB (IsS69.gf al) ar au⟩
   replace aw := am aw; clear ao az av
   go_wp2_with (first | ((with_reducible refine gate_callee (f := 43) rfl ?_); refine gM (some 44) Try.func43 (impl_scan_done.calls a4 bW bX bY true cz cA cB w _ B15x2_ (Ae3 HB (IsS69.gf al) ar au) bD.out) ?_; rintro eg ⟨hi, hb, hk⟩; replace U := kA hk U a8; replace aa := kA hk aa a6; replace HB := am hb; replace al := am hi))
   go_meet
   case rel => exact ⟨_, true, be_, aw, ⟨gl_⟩, Cb U, Cb aa, Ce3 HB (IsS69.gf al) ar au⟩
  replace av := am av; clear ao az
  go_wp2_with (first | ((with_reducible refine gate_callee (f := 43) rfl ?_); refine gM (some 44) Try.func43 (impl_scan_done.calls a4 bW bX bY false cz cA cB w _ B15x2_ (Ae3 HB (IsS69.gf al) ar au) bD.out) ?_; rintro fu ⟨hi, hb, hk⟩; replace U := kA hk U a8; replace aa := kA hk aa a6; replace HB := am hb; replace al := am hi))
  go_meet
  case rel => exact ⟨_, true, be_, av, ⟨gl_⟩, Cb U, Cb aa, Ce3 HB (IsS69.gf al) ar au⟩
 clear ao
 obtain ⟨kq, cD, rfl, aA, eR, U, aa, HB⟩ := hcut
 cases kq with
 | zero => exact absurd aA.out (by simp [impl_ReadDgram.j0])
 | succ fe => ?_
 replace aA := aA.out
 simp only [impl_ReadDgram.j0] at aA
 obtain ⟨rfl, a3⟩ | ⟨rfl, a3⟩ := sb aA
 ·obtain ⟨rfl, rfl, rfl, rfl, rfl, rfl, rfl⟩ := s7 a3; clear a3 aA; obtain ⟨e7, fb⟩ := o2_ bk ci; obtain ⟨ex, ey, ez, eB, eC, eD, eK, eL, eM, eN, eO, eP⟩ := cf6 U
  go_wp2_with (first | ((with_reducible refine gate_store (t := 44) (p := 2) rfl ?_); refine store_event (t := 44) (p := 2) (v := ?vo_w39) (w1 := ((((((wc.setCell ⟨ap, 0, none⟩ (.int .i64 0)).setCell ⟨ap, 1, none⟩ (.int .i64 0)).setCell ⟨ap, 2, none⟩ (.int .i64 0)).setCell ⟨ap, 3, none⟩ (.int .i64 0)).setCell ⟨ap, 4, none⟩ (.bool false)).setCell ⟨ap, 5, none⟩ (.string (⟨#[]⟩ : ByteArray)))) ?hg ?ho ?hn ?hr ?_; (case ho => rfl); (case hg => rfl); (case hn => rfl); (case hr => exact gs_); intro cC hw; replace U : Hc cC ap #[.int .i64 0, .int .i64 0, .int .i64 0, .int .i64 0, .bool false, .string (⟨#[]⟩ : ByteArray)] 44 := ⟨wAp0 U⟩; replace aa : Hc cC aC #[.int .i64 a5, .int .i64 a7, .int .i64 a9, .int .i64 (wrap64 (8 * ba)), .bool (bd == 1), .string be] 44 := ⟨wAp1 aa ci⟩; replace HB : Hb w cC := ⟨wAe2 HB ar au⟩; clear hw))
  refine bodyPost_ret (results_ct rfl _ _ ap 44 #[.int .i64 0, .int .i64 0, .int .i64 0, .int .i64 0, .bool false, .string (⟨#[]⟩ : ByteArray)] (0, 0) _ rfl (Ab U) Try.underlying44 rfl gk_) rfl ?_; exact ⟨B14x3_, (Ae2 HB ar au)⟩
 obtain ⟨rfl, rfl, rfl, rfl, rfl, rfl, rfl⟩ := s7 a3
 clear a3 aA
 obtain ⟨e8, fc⟩ := o2_ ci bk
 obtain ⟨b0, b1, b2, b3, b4, b5, b6, b7, b8, b9, ca, cc⟩ := cf6 aa
 obtain ⟨ex, ey, ez, eB, eC, eD, eK, eL, eM, eN, eO, eP⟩ := cf6 U
 go_wp2_with (first | ((with_reducible refine gate_store (t := 44) (p := 2) rfl ?_); refine store_event (t := 44) (p := 2) (v := ?vo_w43) (w1 := ((((((wc.setCell ⟨ap, 0, none⟩ (.int .i64 a5)).setCell ⟨ap, 1, none⟩ (.int .i64 a7)).setCell ⟨ap, 2, none⟩ (.int .i64 a9)).setCell ⟨ap, 3, none⟩ (.int .i64 (wrap64 (8 * ba)))).setCell ⟨ap, 4, none⟩ (.bool (bd == 1))).setCell ⟨ap, 5, none⟩ (.string be))) ?hg ?ho ?hn ?hr ?_; (case ho => rfl); (case hg => rfl); (case hn => rfl); (case hr => exact gs_); intro dC hw; replace U : Hc dC ap #[.int .i64 a5, .int .i64 a7, .int .i64 a9, .int .i64 (wrap64 (8 * ba)), .bool (bd == 1), .string be] 44 := ⟨wAp0 U⟩; replace HB : Hb w dC := ⟨wAe2 HB ar au⟩; clear hw))
 refine bodyPost_ret (results_ct rfl _ _ ap 44 #[.int .i64 a5, .int .i64 a7, .int .i64 a9, .int .i64 (wrap64 (8 * ba)), .bool (bd == 1), .string be] (0, 0) _ rfl (Ab U) Try.underlying44 rfl gk_) rfl ?_
 exact ⟨B14x3_, (Ae2 HB ar au)⟩
end
end Go.Proofs.Ytjaamflffmhicaa.QFnExactUnwrap
