/- Functions that a law reaches, as functions of Lean, and the walks that show that the calls come to their answers: written by a program of this project out of the translation. No condition. -/
import Derived.Test.YtmknnoeggkgkgaaQFnPartsx0
import Derived.Test.YtmknnoeggkgkgaaQFnPartsx2
import Derived.Test.YtmknnoeggkgkgaaShort4
import Derived.Test.YtmknnoeggkgkgaaShort3
import Derived.Test.YtmknnoeggkgkgaaShort2
import Derived.Test.YtmknnoeggkgkgaaShort
import Derived.Test.YtmknnoeggkgkgaaShort5
namespace Go.Proofs.Ytmknnoeggkgkgaa.QFnParts
open Go.RowKit Go.Proofs.YtmknnoeggkgkgaaW.PrintWords Go.Proofs.YtmknnoeggkgkgaaW.PrintLast Go.Proofs.YtmknnoeggkgkgaaW.PrintMore Go.Proofs.Ytmknnoeggkgkgaa.Short
attribute [local go_sem] max2_int min2_int max_two min_two max_three min_three max_four min_four   -- for this text's walks alone
set_option linter.unusedVariables false
set_option linter.unusedSimpArgs false

theorem B3x4_ {p : Prop} (h : p := by first | rfl | (simp [errW_none, errW_some] <;> rfl) | (simp [*, errW_none, errW_some] <;> rfl)) : p := h
theorem B3x5_ {p : Prop} (h : p := by repeat (first | (with_reducible first | exact HI183.out | apply IsS159.alloc | apply IsS159.drewN | apply IsS159.drew | apply IsS159.set_1 | apply IsS159.set_2) | exact HI183.out)) : p := h
/-! ### spec_DrawPlaces: function 35 -/
def spec_DrawPlaces.l0 : Nat → List Int → Int → List Int → Int → Int → Option (List Int)
 | 0, _, _, _, _, _ => none
 | k + 1, x4, x5, x184000, x184001, x184002 => if x5 < 12 then ((spec_l01Below.f x184000 x184001 x184002 10000).bind fun bt190 => (if x4.length < 17592186044416 then (spec_DrawPlaces.l0 k (x4 ++ [bt190.1]) (wrap64 (x5 + 1)) x184000 bt190.2.1 bt190.2.2) else (none))) else (some x4)
def spec_DrawPlaces.f (k : Nat) (l0 : List Int) : Option (List Int) := (spec_l01New.f k l0).bind fun bt180 => ((spec_l01Byte.f bt180.1 bt180.2.1 bt180.2.2).bind fun bt184 => (spec_DrawPlaces.l0 k (([] : List Int)) 0 bt180.1 bt184.2.1 bt184.2.2))
theorem spec_DrawPlaces.mono_l : ∀ k, (∀ y0 y1 y2 y3 y4, LeO (spec_DrawPlaces.l0 k y0 y1 y2 y3 y4) (spec_DrawPlaces.l0 (k + 1) y0 y1 y2 y3 y4))
 | 0 => fun _ _ _ _ _ r h => by simp [spec_DrawPlaces.l0] at h
 | k + 1 => by
  have ih0 := spec_DrawPlaces.mono_l k
  ·intro y0 y1 y2 y3 y4
   unfold spec_DrawPlaces.l0
   repeat' (with_reducible first | exact ih0 .. | exact spec_l01New.mono _ _ | exact LeO.refl _ | exact LeO.none _ | refine LeO.ite ?_ ?_ | refine LeO.bind ?_ (fun _ => ?_))
theorem spec_DrawPlaces.mono : ∀ a0 k, LeO (spec_DrawPlaces.f k a0) (spec_DrawPlaces.f (k + 1) a0) := by
 intro a0 k
 have ih0 := spec_DrawPlaces.mono_l k
 unfold spec_DrawPlaces.f
 repeat' (with_reducible first | exact ih0 .. | exact spec_l01New.mono _ _ | exact LeO.refl _ | exact LeO.none _ | refine LeO.ite ?_ ?_ | refine LeO.bind ?_ (fun _ => ?_))
set_option maxHeartbeats 8000000 in
set_option maxRecDepth 100000 in
theorem spec_DrawPlaces.calls (k : Nat) (A0 : Option Addr) (c0 : Nat) (l0 : List Int) (r : List Int) (w : World) (hr0 : Kd.C (Kd.int .u8) w A0 l0.length l0) (hc0 : l0.length ≤ c0) (h : spec_DrawPlaces.f k l0 = some r) :
  Calls Try.prog 35 #[.slice A0 l0.length c0] w fun e w' => ∃ v0_ : Value, e = .returned (v0_) ∧ Kd.R (Kd.int .i64) 3 w' w.heap.size (fun _ => True) v0_ r ∧ Below w.heap.size w w' := by
 have HR0 := am hr0
 have HC0 := am hc0
 clear hr0 hc0
 have HB := am (Below.refl w.heap.size w)
 have H : ((spec_l01New.f k l0).bind fun bt180 => ((spec_l01Byte.f bt180.1 bt180.2.1 bt180.2.2).bind fun bt184 => (spec_DrawPlaces.l0 k (([] : List Int)) 0 bt180.1 bt184.2.1 bt184.2.2))) = some r := h
 clear h
 replace H := bsi H
 obtain ⟨⟨t180, t181, t182⟩, A2, H⟩ := H
 (try dsimp only at H)
 replace H := bsi H
 obtain ⟨⟨t184, t185, t186⟩, A3, H⟩ := H
 (try dsimp only at H)
 obtain ⟨y187, hy187⟩ : ∃ y_ : List Int, y_ = (([] : List Int)) := ⟨_, rfl⟩
 replace H : (spec_DrawPlaces.l0 k y187 0 t180 t185 t186) = some r := by first | (rw [hy187]; with_reducible exact H) | (have H2_ := (Option.bind_some _ _).symm.trans H; rw [hy187]; with_reducible exact H2_) | (have H2_ := (Option.bind_some _ _).symm.trans H; with_reducible exact H2_) | with_reducible exact H | (rw [hy187]; exact H) | exact H
 have Ny187 := am hy187
 clear hy187
 have H' := am H
 clear H
 go_enter Try.func35, Try.ntmps35
 go_wp2_with (first | ((with_reducible refine gate_callee (f := 92) rfl ?_); refine goesL_ (some 7) rfl rfl Try.func92 gk_ rfl #[.slice A0 l0.length c0] rfl gm_ ?_; (with_reducible refine (spec_l01New.calls k _ _ l0 t180 t181 t182 w _ ?side1 ?side2 ?side3 A2.out).mono ?_); (case side1 => exact (te0 HB.out)); (case side2 => exact HR0.out); (case side3 => exact HC0.out); rintro e w4 ⟨g183, rfl, hi, hb, hb2⟩; refine ⟨_, rfl, ?_⟩; replace HB := am (hb); have HI183 := am (hi); (try clear hb); (try clear hb2); (try clear hi); (try clear hl)) | ((with_reducible refine gate_callee (f := 93) rfl ?_); refine goesL_ (some 9) rfl rfl Try.func93 gk_ rfl #[.pointer (some ⟨g183, 0, none⟩)] rfl gm_ ?_; (with_reducible refine (spec_l01Byte.calls g183 t180 t181 t182 t184 t185 t186 w _ ?side1 ?side2 A3.out).mono ?_); (case side1 => exact B3x5_); (case side2 => exact (te1 HB.out (IsS159.ge HI183.out))); rintro e w5 ⟨rfl, hi, hb, hk⟩; refine ⟨_, rfl, ?_⟩; replace HB := am (hb); replace HI183 := am (hi); (try clear hb); (try clear hb2); (try clear hk hi); (try clear hl)) | ((with_reducible refine gate_dst (N := 10) rfl ?_); refine Kd.R_lit (Kd.int .i64) _ 3 ?hg (N := 10) ?hd (xs := ([] : List Int)) (inner := []) (ok := fun _ => True) (okp := fun _ => True) ?hr ?hp (fun _ hk => hk) trivial (Below.refl _ _) (Nat.le_refl _) (by simp) ?_; (case hd => rfl); (case hg => rfl); (case hr => exact gs_); (case hp => exact (Reps.none _ _)); intro v188 w6 ho7 hb hg_ hnew_; clear hg_ hnew_; (first | rw [← Ny187.out] at ho7 | (simp only [Int.reduceToNat] at ho7; rw [← Ny187.out] at ho7)); have HO189 := am (Kd.R_lower ho7 (below_size (te1 HB.out (IsS159.ge HI183.out)))); replace HB := am (below_step (te1 HB.out (IsS159.ge HI183.out)) hb); replace HI183 := am (IsS159.below B3x5_ hb); clear hb ho7))
 go_loopg [4, 5] k (fun kq v4 v5 w' => ∃ (x4_1 : List Int) (x5_1 : Int) (x184001_1 : Int) (x184002_1 : Int), v5 = .int .i64 x5_1 ∧ Aside0 (spec_DrawPlaces.l0 kq x4_1 x5_1 t180 x184001_1 x184002_1 = some r) ∧ Aside0 (kq ≤ k) ∧ Aside0 (Kd.R (Kd.int .i64) 3 w' w.heap.size (fun _ => True) v4 x4_1) ∧ Aside0 (IsS159 w w' g183 t180 x184001_1 x184002_1) ∧ Aside0 (Below w.heap.size w w'))
 case atStart => exact ⟨(y187), (0), (t185), (t186), (be_), H', ⟨Nat.le_refl _⟩, ⟨(tr HO189.out)⟩, ⟨B3x5_⟩, ⟨(te1 HB.out (IsS159.ge HI183.out))⟩⟩
 case round =>
  clear H'; obtain ⟨x4_1, x5_1, x184001_1, x184002_1, rfl, HA, HK1, HO_4, HI183, HB⟩ := hrel
  cases gk with
  | zero => exact absurd HA.out (by simp [spec_DrawPlaces.l0])
  | succ k1 =>
   have H := HA.out; clear HA; simp only [spec_DrawPlaces.l0] at H
   by_cases c8 : x5_1 < 12
   ·rw [if_pos c8] at H
    have c8b0 : decide (x5_1 < 12) = true := decide_eq_true c8
    clear c8; replace H := bsi H; obtain ⟨⟨t190, t191, t192⟩, A9, H⟩ := H; (try dsimp only at H)
    by_cases c10 : x4_1.length < 17592186044416
    rotate_left
    ·rw [if_neg c10] at H; exact absurd H (by simp)
    rw [if_pos c10] at H; have LMc10 := am c10; clear c10; obtain ⟨y193, hy193⟩ : ∃ y_ : List Int, y_ = (x4_1 ++ [t190]) := ⟨_, rfl⟩
    replace H : (spec_DrawPlaces.l0 k1 y193 (wrap64 (x5_1 + 1)) t180 t191 t192) = some r := by first | (rw [hy193]; with_reducible exact H) | (have H2_ := (Option.bind_some _ _).symm.trans H; rw [hy193]; with_reducible exact H2_) | (have H2_ := (Option.bind_some _ _).symm.trans H; with_reducible exact H2_) | with_reducible exact H | (rw [hy193]; exact H) | exact H
    have Ny193 := am hy193; clear hy193
    have H' := am H
    clear H
    go_wp2_with (first | ((with_reducible refine gate_callee (f := 94) rfl ?_); refine goesL_ (some 17) rfl rfl Try.func94 gk_ rfl #[.pointer (some ⟨g183, 0, none⟩), .int .i64 10000] rfl gm_ ?_; (with_reducible refine (spec_l01Below.calls g183 t180 x184001_1 x184002_1 10000 t190 t191 t192 w _ ?side1 ?side2 A9.out).mono ?_); (case side1 => exact B3x5_); (case side2 => exact (te1 HB.out (IsS159.ge HI183.out))); rintro e w11 ⟨rfl, hi, hb, hk⟩; refine ⟨_, rfl, ?_⟩; replace HO_4 := am (Kd.R_mono (Kd.R_keep (IsS159.apart (show IsS159 w _ g183 t180 x184001_1 x184002_1 from B3x5_) (tr HO_4.out) (by decide)) hk (fun _ h => h.2)) (fun _ h => h.1)); replace HB := am (hb); replace HI183 := am (hi); (try clear hb); (try clear hb2); (try clear hk hi); (try clear hl)) | ((with_reducible refine gate_builtin (b := .append) (xs := #[.tmp 15, .tmp 18]) rfl ?_); at_builtin; refine Kd.R_append (Kd.int .i64) (w0 := w) w.heap.size rfl (.tmp 15) (.tmp 18) 51 3 (.int .i64 0) 8 rfl Try.underlying51 info3 rfl (by decide) (by omega) u4 x4_1 t190 [.int .i64 t190] (fun _ => True) (fun _ => False) rfl rfl ?aP (fun _ hk => hk.elim) ?aF ?aO ?aB ?aS ?aL ?_; (case aP => exact rfl); (case aB => exact (te1 HB.out (IsS159.ge HI183.out))); (case aF => exact (fun _ _ => trivial)); (case aO => exact (tr HO_4.out)); (case aS => exact (below_size (te1 HB.out (IsS159.ge HI183.out)))); (case aL => have := LMc10.out; omega); intro v194 w12 ho hb hg hat; rw [← Ny193.out] at ho; replace HI183 := am (IsS159.grown B3x5_ hg (IsS159.own_ne HI183.out HO_4.out (by decide))); replace HB := am (hb); have HO195 := am (ho); clear HO_4; clear ho hb hg hat))
    go_roundg k1
    case measure => have := HK1.out; omega
    case rel => exact ⟨(y193), (wrap64 (x5_1 + 1)), (t191), (t192), (be_), H', ⟨(by have := HK1.out; omega)⟩, ⟨(tr HO195.out)⟩, ⟨B3x5_⟩, ⟨(te1 HB.out (IsS159.ge HI183.out))⟩⟩
   ·rw [if_neg c8] at H
    have c8b0 : decide (x5_1 < 12) = false := decide_eq_false c8
    clear c8; obtain rfl := Option.some.inj H
    go_wp2
    go_ret; exact ⟨_, B3x4_, (tr HO_4.out), (te1 HB.out (IsS159.ge HI183.out))⟩

/-! ### impl_within: function 74 -/
def impl_within.f (a0 : Int) (a1 : Int) (a2 : Int) : Option (Bool) := if a0 ≥ a1 then (some (decide (a0 ≤ a2))) else (some false)
set_option maxHeartbeats 8000000 in
set_option maxRecDepth 100000 in
theorem impl_within.calls (a0 : Int) (a1 : Int) (a2 : Int) (r : Bool) (w : World) (h : impl_within.f a0 a1 a2 = some r) :
  Calls Try.prog 74 #[.int .i64 a0, .int .i64 a1, .int .i64 a2] w fun e w' => e = .returned (.bool r) ∧ Drawn0 w w' := by
 have H : (if a0 ≥ a1 then (some (decide (a0 ≤ a2))) else (some false)) = some r := h
 clear h
 by_cases c4 : a0 ≥ a1
 ·rw [if_pos c4] at H
  have c4b0 : decide (a1 ≤ a0) = true := decide_eq_true c4
  clear c4; obtain rfl := Option.some.inj H; go_enter Try.func74, Try.ntmps74
  go_wp2
  go_ret; exact ⟨gr_, gd_⟩
 ·rw [if_neg c4] at H
  have c4b0 : decide (a1 ≤ a0) = false := decide_eq_false c4
  clear c4; obtain rfl := Option.some.inj H; go_enter Try.func74, Try.ntmps74
  go_wp2
  go_ret; exact ⟨gr_, gd_⟩

/-! ### impl_isAddr: function 96 -/
def impl_isAddr.f (a0 : Int) : Option (Bool) := (impl_within.f a0 1 99).bind fun t196 => (some t196)
set_option maxHeartbeats 8000000 in
set_option maxRecDepth 100000 in
theorem impl_isAddr.calls (a0 : Int) (r : Bool) (w : World) (h : impl_isAddr.f a0 = some r) :
  Calls Try.prog 96 #[.int .i64 a0] w fun e w' => e = .returned (.bool r) ∧ Drawn0 w w' := by
 have H : ((impl_within.f a0 1 99).bind fun t196 => (some t196)) = some r := h
 clear h
 replace H := bsi H
 obtain ⟨t196, A2, H⟩ := H
 (try dsimp only at H)
 obtain rfl := Option.some.inj H
 go_enter Try.func96, Try.ntmps96
 go_wp2_with (first | ((with_reducible refine gate_callee (f := 74) rfl ?_); refine goesL_ (some 4) rfl rfl Try.func74 gk_ rfl #[.int .i64 a0, .int .i64 1, .int .i64 99] rfl gm_ ?_; (with_reducible refine (impl_within.calls a0 1 99 t196 _ A2.out).mono ?_); rintro e w' ⟨rfl, ⟨nd, rfl⟩⟩; refine ⟨_, rfl, ?_⟩))
 go_ret
 exact ⟨gr_, gd_⟩

/-! ### impl_isWord: function 97 -/
def impl_isWord.f (a0 : Int) : Option (Bool) := (impl_within.f a0 0 65535).bind fun t197 => (some t197)
set_option maxHeartbeats 8000000 in
set_option maxRecDepth 100000 in
theorem impl_isWord.calls (a0 : Int) (r : Bool) (w : World) (h : impl_isWord.f a0 = some r) :
  Calls Try.prog 97 #[.int .i64 a0] w fun e w' => e = .returned (.bool r) ∧ Drawn0 w w' := by
 have H : ((impl_within.f a0 0 65535).bind fun t197 => (some t197)) = some r := h
 clear h
 replace H := bsi H
 obtain ⟨t197, A2, H⟩ := H
 (try dsimp only at H)
 obtain rfl := Option.some.inj H
 go_enter Try.func97, Try.ntmps97
 go_wp2_with (first | ((with_reducible refine gate_callee (f := 74) rfl ?_); refine goesL_ (some 4) rfl rfl Try.func74 gk_ rfl #[.int .i64 a0, .int .i64 0, .int .i64 65535] rfl gm_ ?_; (with_reducible refine (impl_within.calls a0 0 65535 t197 _ A2.out).mono ?_); rintro e w' ⟨rfl, ⟨nd, rfl⟩⟩; refine ⟨_, rfl, ?_⟩))
 go_ret
 exact ⟨gr_, gd_⟩

/-! ### impl_DgramOk: function 38 -/
def impl_DgramOk.f (a0_0 : Int) (a0_1 : Int) (a0_2 : Int) (a0_3 : Int) (a0_4 : Bool) (a0_5 : ByteArray) : Option (Bool) := (impl_within.f a0_3 0 160).bind fun t199 => (if t199 = true then (if (Int.tmod a0_3 8) = 0 then ((impl_within.f (a0_5.size : Int) 1 (wrap64 (160 - a0_3))).bind fun t200 => ((impl_isAddr.f a0_0).bind fun t201 => (if t201 = true then ((impl_isAddr.f a0_1).bind fun t202 => (if t202 = true then ((impl_isWord.f a0_2).bind fun t203 => (if t203 = true then (if t200 = true then (if a0_4 = true then (some (((a0_5.size : Int) % 8) == 0)) else (some true)) else (some false)) else (some false))) else (some false))) else (some false)))) else ((impl_isAddr.f a0_0).bind fun t204 => (if t204 = true then ((impl_isAddr.f a0_1).bind fun t205 => (if t205 = true then ((impl_isWord.f a0_2).bind fun t206 => (if t206 = true then (some false) else (some false))) else (some false))) else (some false)))) else ((impl_isAddr.f a0_0).bind fun t207 => (if t207 = true then ((impl_isAddr.f a0_1).bind fun t208 => (if t208 = true then ((impl_isWord.f a0_2).bind fun t209 => (if t209 = true then (some false) else (some false))) else (some false))) else (some false))))
set_option maxHeartbeats 8000000 in
set_option maxRecDepth 100000 in
theorem impl_DgramOk.calls (a0_0 : Int) (a0_1 : Int) (a0_2 : Int) (a0_3 : Int) (a0_4 : Bool) (a0_5 : ByteArray) (r : Bool) (w : World) (h : impl_DgramOk.f a0_0 a0_1 a0_2 a0_3 a0_4 a0_5 = some r) :
  Calls Try.prog 38 #[.agg #[.int .i64 a0_0, .int .i64 a0_1, .int .i64 a0_2, .int .i64 a0_3, .bool a0_4, .string a0_5]] w fun e w' => e = .returned (.bool r) ∧ Below w.heap.size w w' := by
 have hu62 := Try.underlying62
 have HB := am (Below.refl w.heap.size w)
 have H : ((impl_within.f a0_3 0 160).bind fun t199 => (if t199 = true then (if (Int.tmod a0_3 8) = 0 then ((impl_within.f (a0_5.size : Int) 1 (wrap64 (160 - a0_3))).bind fun t200 => ((impl_isAddr.f a0_0).bind fun t201 => (if t201 = true then ((impl_isAddr.f a0_1).bind fun t202 => (if t202 = true then ((impl_isWord.f a0_2).bind fun t203 => (if t203 = true then (if t200 = true then (if a0_4 = true then (some (((a0_5.size : Int) % 8) == 0)) else (some true)) else (some false)) else (some false))) else (some false))) else (some false)))) else ((impl_isAddr.f a0_0).bind fun t204 => (if t204 = true then ((impl_isAddr.f a0_1).bind fun t205 => (if t205 = true then ((impl_isWord.f a0_2).bind fun t206 => (if t206 = true then (some false) else (some false))) else (some false))) else (some false)))) else ((impl_isAddr.f a0_0).bind fun t207 => (if t207 = true then ((impl_isAddr.f a0_1).bind fun t208 => (if t208 = true then ((impl_isWord.f a0_2).bind fun t209 => (if t209 = true then (some false) else (some false))) else (some false))) else (some false))))) = some r := h
 clear h
 replace H := bsi H
 obtain ⟨t199, A2, H⟩ := H
 (try dsimp only at H)
 by_cases c3 : t199 = true
 ·subst c3; rw [if_pos rfl] at H
  by_cases c4 : (Int.tmod a0_3 8) = 0
  ·rw [if_pos c4] at H; have c4b0 := beq_iff_eq.mpr c4; have c4b1 := bne_eq_false_iff_eq.mpr c4; clear c4; replace H := bsi H; obtain ⟨t200, A5, H⟩ := H; (try dsimp only at H); replace H := bsi H; obtain ⟨t201, A6, H⟩ := H; (try dsimp only at H)
   by_cases c7 : t201 = true
   ·subst c7; rw [if_pos rfl] at H; replace H := bsi H; obtain ⟨t202, A8, H⟩ := H; (try dsimp only at H)
    by_cases c9 : t202 = true
    ·subst c9; rw [if_pos rfl] at H; replace H := bsi H; obtain ⟨t203, A10, H⟩ := H; (try dsimp only at H)
     by_cases c11 : t203 = true
     ·subst c11; rw [if_pos rfl] at H
      by_cases c12 : t200 = true
      ·subst c12; rw [if_pos rfl] at H
       by_cases c13 : a0_4 = true
       ·subst c13; rw [if_pos rfl] at H; obtain rfl := Option.some.inj H; go_enter Try.func38, Try.ntmps38
        go_wp2_with (first | ((with_reducible refine gate_dst (N := 1) rfl ?_); (try (refine gate_guard (by rfl) ?_; dsimp only)); refine bx (N := 1) (cs := #[.int .i64 a0_0, .int .i64 a0_1, .int .i64 a0_2, .int .i64 a0_3, .bool true, .string a0_5]) (t := 62) ?_; intro gb198 hg w14 hbox hb; have BK198 := am (hbox); have GW198 := am ((bs hg (below_size HB.out))); have GE198 := am ((bs hg (below_size HB.out))); replace HB := am (below_step (te0 HB.out) hb); clear hb hbox hg; obtain ⟨hcz15_0, hcz15_1, hcz15_2, hcz15_3, hcz15_4, hcz15_5⟩ := cl6 BK198.out; obtain ⟨hfz15_0, hfz15_1, hfz15_2, hfz15_3, hfz15_4, hfz15_5⟩ := fr6 BK198.out) | ((with_reducible refine gate_callee (f := 74) rfl ?_); refine goesL_ (some 6) rfl rfl Try.func74 gk_ rfl #[.int .i64 a0_3, .int .i64 0, .int .i64 160] rfl gm_ ?_; (with_reducible refine (impl_within.calls a0_3 0 160 true _ A2.out).mono ?_); rintro e w' ⟨rfl, ⟨nd, rfl⟩⟩; refine ⟨_, rfl, ?_⟩) | (go_at_call 74; (with_reducible refine (impl_within.calls (a0_5.size : Int) 1 (wrap64 (160 - a0_3)) true _ A5.out).mono ?_); rintro e w' ⟨rfl, ⟨nd, rfl⟩⟩) | ((with_reducible refine gate_callee (f := 96) rfl ?_); refine goesL_ (some 24) rfl rfl Try.func96 gk_ rfl #[.int .i64 a0_0] rfl gm_ ?_; (with_reducible refine (impl_isAddr.calls a0_0 true _ A6.out).mono ?_); rintro e w' ⟨rfl, ⟨nd, rfl⟩⟩; refine ⟨_, rfl, ?_⟩) | (go_at_call 96; (with_reducible refine (impl_isAddr.calls a0_1 true _ A8.out).mono ?_); rintro e w' ⟨rfl, ⟨nd, rfl⟩⟩) | (go_at_call 97; (with_reducible refine (impl_isWord.calls a0_2 true _ A10.out).mono ?_); rintro e w' ⟨rfl, ⟨nd, rfl⟩⟩))
        go_ret; exact ⟨B3x4_, (te1 HB.out GE198.out)⟩
       ·replace c13 := Bool.eq_false_iff.mpr c13; subst c13; rw [if_neg (show ¬ (false = true) by decide)] at H; obtain rfl := Option.some.inj H; go_enter Try.func38, Try.ntmps38
        go_wp2_with (first | ((with_reducible refine gate_dst (N := 1) rfl ?_); (try (refine gate_guard (by rfl) ?_; dsimp only)); refine bx (N := 1) (cs := #[.int .i64 a0_0, .int .i64 a0_1, .int .i64 a0_2, .int .i64 a0_3, .bool false, .string a0_5]) (t := 62) ?_; intro gb198 hg w16 hbox hb; have BK198 := am (hbox); have GW198 := am ((bs hg (below_size HB.out))); have GE198 := am ((bs hg (below_size HB.out))); replace HB := am (below_step (te0 HB.out) hb); clear hb hbox hg; obtain ⟨hcz17_0, hcz17_1, hcz17_2, hcz17_3, hcz17_4, hcz17_5⟩ := cl6 BK198.out; obtain ⟨hfz17_0, hfz17_1, hfz17_2, hfz17_3, hfz17_4, hfz17_5⟩ := fr6 BK198.out) | ((with_reducible refine gate_callee (f := 74) rfl ?_); refine goesL_ (some 6) rfl rfl Try.func74 gk_ rfl #[.int .i64 a0_3, .int .i64 0, .int .i64 160] rfl gm_ ?_; (with_reducible refine (impl_within.calls a0_3 0 160 true _ A2.out).mono ?_); rintro e w' ⟨rfl, ⟨nd, rfl⟩⟩; refine ⟨_, rfl, ?_⟩) | (go_at_call 74; (with_reducible refine (impl_within.calls (a0_5.size : Int) 1 (wrap64 (160 - a0_3)) true _ A5.out).mono ?_); rintro e w' ⟨rfl, ⟨nd, rfl⟩⟩) | ((with_reducible refine gate_callee (f := 96) rfl ?_); refine goesL_ (some 24) rfl rfl Try.func96 gk_ rfl #[.int .i64 a0_0] rfl gm_ ?_; (with_reducible refine (impl_isAddr.calls a0_0 true _ A6.out).mono ?_); rintro e w' ⟨rfl, ⟨nd, rfl⟩⟩; refine ⟨_, rfl, ?_⟩) | (go_at_call 96; (with_reducible refine (impl_isAddr.calls a0_1 true _ A8.out).mono ?_); rintro e w' ⟨rfl, ⟨nd, rfl⟩⟩) | (go_at_call 97; (with_reducible refine (impl_isWord.calls a0_2 true _ A10.out).mono ?_); rintro e w' ⟨rfl, ⟨nd, rfl⟩⟩))
        go_ret; exact ⟨B3x4_, (te1 HB.out GE198.out)⟩
      ·replace c12 := Bool.eq_false_iff.mpr c12; subst c12; rw [if_neg (show ¬ (false = true) by decide)] at H; obtain rfl := Option.some.inj H; go_enter Try.func38, Try.ntmps38
       go_wp2_with (first | ((with_reducible refine gate_dst (N := 1) rfl ?_); (try (refine gate_guard (by rfl) ?_; dsimp only)); refine bx (N := 1) (cs := #[.int .i64 a0_0, .int .i64 a0_1, .int .i64 a0_2, .int .i64 a0_3, .bool a0_4, .string a0_5]) (t := 62) ?_; intro gb198 hg w18 hbox hb; have BK198 := am (hbox); have GW198 := am ((bs hg (below_size HB.out))); have GE198 := am ((bs hg (below_size HB.out))); replace HB := am (below_step (te0 HB.out) hb); clear hb hbox hg; obtain ⟨hcz19_0, hcz19_1, hcz19_2, hcz19_3, hcz19_4, hcz19_5⟩ := cl6 BK198.out; obtain ⟨hfz19_0, hfz19_1, hfz19_2, hfz19_3, hfz19_4, hfz19_5⟩ := fr6 BK198.out) | ((with_reducible refine gate_callee (f := 74) rfl ?_); refine goesL_ (some 6) rfl rfl Try.func74 gk_ rfl #[.int .i64 a0_3, .int .i64 0, .int .i64 160] rfl gm_ ?_; (with_reducible refine (impl_within.calls a0_3 0 160 true _ A2.out).mono ?_); rintro e w' ⟨rfl, ⟨nd, rfl⟩⟩; refine ⟨_, rfl, ?_⟩) | (go_at_call 74; (with_reducible refine (impl_within.calls (a0_5.size : Int) 1 (wrap64 (160 - a0_3)) false _ A5.out).mono ?_); rintro e w' ⟨rfl, ⟨nd, rfl⟩⟩) | ((with_reducible refine gate_callee (f := 96) rfl ?_); refine goesL_ (some 24) rfl rfl Try.func96 gk_ rfl #[.int .i64 a0_0] rfl gm_ ?_; (with_reducible refine (impl_isAddr.calls a0_0 true _ A6.out).mono ?_); rintro e w' ⟨rfl, ⟨nd, rfl⟩⟩; refine ⟨_, rfl, ?_⟩) | (go_at_call 96; (with_reducible refine (impl_isAddr.calls a0_1 true _ A8.out).mono ?_); rintro e w' ⟨rfl, ⟨nd, rfl⟩⟩) | (go_at_call 97; (with_reducible refine (impl_isWord.calls a0_2 true _ A10.out).mono ?_); rintro e w' ⟨rfl, ⟨nd, rfl⟩⟩))
       go_ret; exact ⟨B3x4_, (te1 HB.out GE198.out)⟩
     ·replace c11 := Bool.eq_false_iff.mpr c11; subst c11; rw [if_neg (show ¬ (false = true) by decide)] at H; obtain rfl := Option.some.inj H; go_enter Try.func38, Try.ntmps38
      go_wp2_with (first | ((with_reducible refine gate_dst (N := 1) rfl ?_); (try (refine gate_guard (by rfl) ?_; dsimp only)); refine bx (N := 1) (cs := #[.int .i64 a0_0, .int .i64 a0_1, .int .i64 a0_2, .int .i64 a0_3, .bool a0_4, .string a0_5]) (t := 62) ?_; intro gb198 hg w20 hbox hb; have BK198 := am (hbox); have GW198 := am ((bs hg (below_size HB.out))); have GE198 := am ((bs hg (below_size HB.out))); replace HB := am (below_step (te0 HB.out) hb); clear hb hbox hg; obtain ⟨hcz21_0, hcz21_1, hcz21_2, hcz21_3, hcz21_4, hcz21_5⟩ := cl6 BK198.out; obtain ⟨hfz21_0, hfz21_1, hfz21_2, hfz21_3, hfz21_4, hfz21_5⟩ := fr6 BK198.out) | ((with_reducible refine gate_callee (f := 74) rfl ?_); refine goesL_ (some 6) rfl rfl Try.func74 gk_ rfl #[.int .i64 a0_3, .int .i64 0, .int .i64 160] rfl gm_ ?_; (with_reducible refine (impl_within.calls a0_3 0 160 true _ A2.out).mono ?_); rintro e w' ⟨rfl, ⟨nd, rfl⟩⟩; refine ⟨_, rfl, ?_⟩) | (go_at_call 74; (with_reducible refine (impl_within.calls (a0_5.size : Int) 1 (wrap64 (160 - a0_3)) t200 _ A5.out).mono ?_); rintro e w' ⟨rfl, ⟨nd, rfl⟩⟩) | ((with_reducible refine gate_callee (f := 96) rfl ?_); refine goesL_ (some 24) rfl rfl Try.func96 gk_ rfl #[.int .i64 a0_0] rfl gm_ ?_; (with_reducible refine (impl_isAddr.calls a0_0 true _ A6.out).mono ?_); rintro e w' ⟨rfl, ⟨nd, rfl⟩⟩; refine ⟨_, rfl, ?_⟩) | (go_at_call 96; (with_reducible refine (impl_isAddr.calls a0_1 true _ A8.out).mono ?_); rintro e w' ⟨rfl, ⟨nd, rfl⟩⟩) | (go_at_call 97; (with_reducible refine (impl_isWord.calls a0_2 false _ A10.out).mono ?_); rintro e w' ⟨rfl, ⟨nd, rfl⟩⟩))
      go_ret; exact ⟨B3x4_, (te1 HB.out GE198.out)⟩
    ·replace c9 := Bool.eq_false_iff.mpr c9; subst c9; rw [if_neg (show ¬ (false = true) by decide)] at H; obtain rfl := Option.some.inj H; go_enter Try.func38, Try.ntmps38
     go_wp2_with (first | ((with_reducible refine gate_dst (N := 1) rfl ?_); (try (refine gate_guard (by rfl) ?_; dsimp only)); refine bx (N := 1) (cs := #[.int .i64 a0_0, .int .i64 a0_1, .int .i64 a0_2, .int .i64 a0_3, .bool a0_4, .string a0_5]) (t := 62) ?_; intro gb198 hg w22 hbox hb; have BK198 := am (hbox); have GW198 := am ((bs hg (below_size HB.out))); have GE198 := am ((bs hg (below_size HB.out))); replace HB := am (below_step (te0 HB.out) hb); clear hb hbox hg; obtain ⟨hcz23_0, hcz23_1, hcz23_2, hcz23_3, hcz23_4, hcz23_5⟩ := cl6 BK198.out; obtain ⟨hfz23_0, hfz23_1, hfz23_2, hfz23_3, hfz23_4, hfz23_5⟩ := fr6 BK198.out) | ((with_reducible refine gate_callee (f := 74) rfl ?_); refine goesL_ (some 6) rfl rfl Try.func74 gk_ rfl #[.int .i64 a0_3, .int .i64 0, .int .i64 160] rfl gm_ ?_; (with_reducible refine (impl_within.calls a0_3 0 160 true _ A2.out).mono ?_); rintro e w' ⟨rfl, ⟨nd, rfl⟩⟩; refine ⟨_, rfl, ?_⟩) | (go_at_call 74; (with_reducible refine (impl_within.calls (a0_5.size : Int) 1 (wrap64 (160 - a0_3)) t200 _ A5.out).mono ?_); rintro e w' ⟨rfl, ⟨nd, rfl⟩⟩) | ((with_reducible refine gate_callee (f := 96) rfl ?_); refine goesL_ (some 24) rfl rfl Try.func96 gk_ rfl #[.int .i64 a0_0] rfl gm_ ?_; (with_reducible refine (impl_isAddr.calls a0_0 true _ A6.out).mono ?_); rintro e w' ⟨rfl, ⟨nd, rfl⟩⟩; refine ⟨_, rfl, ?_⟩) | (go_at_call 96; (with_reducible refine (impl_isAddr.calls a0_1 false _ A8.out).mono ?_); rintro e w' ⟨rfl, ⟨nd, rfl⟩⟩))
     go_ret; exact ⟨B3x4_, (te1 HB.out GE198.out)⟩
   ·replace c7 := Bool.eq_false_iff.mpr c7; subst c7; rw [if_neg (show ¬ (false = true) by decide)] at H; obtain rfl := Option.some.inj H; go_enter Try.func38, Try.ntmps38
    go_wp2_with (first | ((with_reducible refine gate_dst (N := 1) rfl ?_); (try (refine gate_guard (by rfl) ?_; dsimp only)); refine bx (N := 1) (cs := #[.int .i64 a0_0, .int .i64 a0_1, .int .i64 a0_2, .int .i64 a0_3, .bool a0_4, .string a0_5]) (t := 62) ?_; intro gb198 hg w24 hbox hb; have BK198 := am (hbox); have GW198 := am ((bs hg (below_size HB.out))); have GE198 := am ((bs hg (below_size HB.out))); replace HB := am (below_step (te0 HB.out) hb); clear hb hbox hg; obtain ⟨hcz25_0, hcz25_1, hcz25_2, hcz25_3, hcz25_4, hcz25_5⟩ := cl6 BK198.out; obtain ⟨hfz25_0, hfz25_1, hfz25_2, hfz25_3, hfz25_4, hfz25_5⟩ := fr6 BK198.out) | ((with_reducible refine gate_callee (f := 74) rfl ?_); refine goesL_ (some 6) rfl rfl Try.func74 gk_ rfl #[.int .i64 a0_3, .int .i64 0, .int .i64 160] rfl gm_ ?_; (with_reducible refine (impl_within.calls a0_3 0 160 true _ A2.out).mono ?_); rintro e w' ⟨rfl, ⟨nd, rfl⟩⟩; refine ⟨_, rfl, ?_⟩) | (go_at_call 74; (with_reducible refine (impl_within.calls (a0_5.size : Int) 1 (wrap64 (160 - a0_3)) t200 _ A5.out).mono ?_); rintro e w' ⟨rfl, ⟨nd, rfl⟩⟩) | ((with_reducible refine gate_callee (f := 96) rfl ?_); refine goesL_ (some 24) rfl rfl Try.func96 gk_ rfl #[.int .i64 a0_0] rfl gm_ ?_; (with_reducible refine (impl_isAddr.calls a0_0 false _ A6.out).mono ?_); rintro e w' ⟨rfl, ⟨nd, rfl⟩⟩; refine ⟨_, rfl, ?_⟩))
    go_ret; exact ⟨B3x4_, (te1 HB.out GE198.out)⟩
  ·rw [if_neg c4] at H; have c4b0 := beq_eq_false_iff_ne.mpr c4; have c4b1 := bne_iff_ne.mpr c4; replace H := bsi H; obtain ⟨t204, A26, H⟩ := H; (try dsimp only at H)
   by_cases c27 : t204 = true
   ·subst c27; rw [if_pos rfl] at H; replace H := bsi H; obtain ⟨t205, A28, H⟩ := H; (try dsimp only at H)
    by_cases c29 : t205 = true
    ·subst c29; rw [if_pos rfl] at H; replace H := bsi H; obtain ⟨t206, A30, H⟩ := H; (try dsimp only at H)
     by_cases c31 : t206 = true
     ·subst c31; rw [if_pos rfl] at H; obtain rfl := Option.some.inj H; go_enter Try.func38, Try.ntmps38
      go_wp2_with (first | ((with_reducible refine gate_dst (N := 1) rfl ?_); (try (refine gate_guard (by rfl) ?_; dsimp only)); refine bx (N := 1) (cs := #[.int .i64 a0_0, .int .i64 a0_1, .int .i64 a0_2, .int .i64 a0_3, .bool a0_4, .string a0_5]) (t := 62) ?_; intro gb198 hg w32 hbox hb; have BK198 := am (hbox); have GW198 := am ((bs hg (below_size HB.out))); have GE198 := am ((bs hg (below_size HB.out))); replace HB := am (below_step (te0 HB.out) hb); clear hb hbox hg; obtain ⟨hcz33_0, hcz33_1, hcz33_2, hcz33_3, hcz33_4, hcz33_5⟩ := cl6 BK198.out; obtain ⟨hfz33_0, hfz33_1, hfz33_2, hfz33_3, hfz33_4, hfz33_5⟩ := fr6 BK198.out) | ((with_reducible refine gate_callee (f := 74) rfl ?_); refine goesL_ (some 6) rfl rfl Try.func74 gk_ rfl #[.int .i64 a0_3, .int .i64 0, .int .i64 160] rfl gm_ ?_; (with_reducible refine (impl_within.calls a0_3 0 160 true _ A2.out).mono ?_); rintro e w' ⟨rfl, ⟨nd, rfl⟩⟩; refine ⟨_, rfl, ?_⟩) | ((with_reducible refine gate_callee (f := 96) rfl ?_); refine goesL_ (some 24) rfl rfl Try.func96 gk_ rfl #[.int .i64 a0_0] rfl gm_ ?_; (with_reducible refine (impl_isAddr.calls a0_0 true _ A26.out).mono ?_); rintro e w' ⟨rfl, ⟨nd, rfl⟩⟩; refine ⟨_, rfl, ?_⟩) | (go_at_call 96; (with_reducible refine (impl_isAddr.calls a0_1 true _ A28.out).mono ?_); rintro e w' ⟨rfl, ⟨nd, rfl⟩⟩) | (go_at_call 97; (with_reducible refine (impl_isWord.calls a0_2 true _ A30.out).mono ?_); rintro e w' ⟨rfl, ⟨nd, rfl⟩⟩))
      go_ret; exact ⟨B3x4_, (te1 HB.out GE198.out)⟩
     ·replace c31 := Bool.eq_false_iff.mpr c31; subst c31; rw [if_neg (show ¬ (false = true) by decide)] at H; obtain rfl := Option.some.inj H; go_enter Try.func38, Try.ntmps38
      go_wp2_with (first | ((with_reducible refine gate_dst (N := 1) rfl ?_); (try (refine gate_guard (by rfl) ?_; dsimp only)); refine bx (N := 1) (cs := #[.int .i64 a0_0, .int .i64 a0_1, .int .i64 a0_2, .int .i64 a0_3, .bool a0_4, .string a0_5]) (t := 62) ?_; intro gb198 hg w34 hbox hb; have BK198 := am (hbox); have GW198 := am ((bs hg (below_size HB.out))); have GE198 := am ((bs hg (below_size HB.out))); replace HB := am (below_step (te0 HB.out) hb); clear hb hbox hg; obtain ⟨hcz35_0, hcz35_1, hcz35_2, hcz35_3, hcz35_4, hcz35_5⟩ := cl6 BK198.out; obtain ⟨hfz35_0, hfz35_1, hfz35_2, hfz35_3, hfz35_4, hfz35_5⟩ := fr6 BK198.out) | ((with_reducible refine gate_callee (f := 74) rfl ?_); refine goesL_ (some 6) rfl rfl Try.func74 gk_ rfl #[.int .i64 a0_3, .int .i64 0, .int .i64 160] rfl gm_ ?_; (with_reducible refine (impl_within.calls a0_3 0 160 true _ A2.out).mono ?_); rintro e w' ⟨rfl, ⟨nd, rfl⟩⟩; refine ⟨_, rfl, ?_⟩) | ((with_reducible refine gate_callee (f := 96) rfl ?_); refine goesL_ (some 24) rfl rfl Try.func96 gk_ rfl #[.int .i64 a0_0] rfl gm_ ?_; (with_reducible refine (impl_isAddr.calls a0_0 true _ A26.out).mono ?_); rintro e w' ⟨rfl, ⟨nd, rfl⟩⟩; refine ⟨_, rfl, ?_⟩) | (go_at_call 96; (with_reducible refine (impl_isAddr.calls a0_1 true _ A28.out).mono ?_); rintro e w' ⟨rfl, ⟨nd, rfl⟩⟩) | (go_at_call 97; (with_reducible refine (impl_isWord.calls a0_2 false _ A30.out).mono ?_); rintro e w' ⟨rfl, ⟨nd, rfl⟩⟩))
      go_ret; exact ⟨B3x4_, (te1 HB.out GE198.out)⟩
    ·replace c29 := Bool.eq_false_iff.mpr c29; subst c29; rw [if_neg (show ¬ (false = true) by decide)] at H; obtain rfl := Option.some.inj H; go_enter Try.func38, Try.ntmps38
     go_wp2_with (first | ((with_reducible refine gate_dst (N := 1) rfl ?_); (try (refine gate_guard (by rfl) ?_; dsimp only)); refine bx (N := 1) (cs := #[.int .i64 a0_0, .int .i64 a0_1, .int .i64 a0_2, .int .i64 a0_3, .bool a0_4, .string a0_5]) (t := 62) ?_; intro gb198 hg w36 hbox hb; have BK198 := am (hbox); have GW198 := am ((bs hg (below_size HB.out))); have GE198 := am ((bs hg (below_size HB.out))); replace HB := am (below_step (te0 HB.out) hb); clear hb hbox hg; obtain ⟨hcz37_0, hcz37_1, hcz37_2, hcz37_3, hcz37_4, hcz37_5⟩ := cl6 BK198.out; obtain ⟨hfz37_0, hfz37_1, hfz37_2, hfz37_3, hfz37_4, hfz37_5⟩ := fr6 BK198.out) | ((with_reducible refine gate_callee (f := 74) rfl ?_); refine goesL_ (some 6) rfl rfl Try.func74 gk_ rfl #[.int .i64 a0_3, .int .i64 0, .int .i64 160] rfl gm_ ?_; (with_reducible refine (impl_within.calls a0_3 0 160 true _ A2.out).mono ?_); rintro e w' ⟨rfl, ⟨nd, rfl⟩⟩; refine ⟨_, rfl, ?_⟩) | ((with_reducible refine gate_callee (f := 96) rfl ?_); refine goesL_ (some 24) rfl rfl Try.func96 gk_ rfl #[.int .i64 a0_0] rfl gm_ ?_; (with_reducible refine (impl_isAddr.calls a0_0 true _ A26.out).mono ?_); rintro e w' ⟨rfl, ⟨nd, rfl⟩⟩; refine ⟨_, rfl, ?_⟩) | (go_at_call 96; (with_reducible refine (impl_isAddr.calls a0_1 false _ A28.out).mono ?_); rintro e w' ⟨rfl, ⟨nd, rfl⟩⟩))
     go_ret; exact ⟨B3x4_, (te1 HB.out GE198.out)⟩
   ·replace c27 := Bool.eq_false_iff.mpr c27; subst c27; rw [if_neg (show ¬ (false = true) by decide)] at H; obtain rfl := Option.some.inj H; go_enter Try.func38, Try.ntmps38
    go_wp2_with (first | ((with_reducible refine gate_dst (N := 1) rfl ?_); (try (refine gate_guard (by rfl) ?_; dsimp only)); refine bx (N := 1) (cs := #[.int .i64 a0_0, .int .i64 a0_1, .int .i64 a0_2, .int .i64 a0_3, .bool a0_4, .string a0_5]) (t := 62) ?_; intro gb198 hg w38 hbox hb; have BK198 := am (hbox); have GW198 := am ((bs hg (below_size HB.out))); have GE198 := am ((bs hg (below_size HB.out))); replace HB := am (below_step (te0 HB.out) hb); clear hb hbox hg; obtain ⟨hcz39_0, hcz39_1, hcz39_2, hcz39_3, hcz39_4, hcz39_5⟩ := cl6 BK198.out; obtain ⟨hfz39_0, hfz39_1, hfz39_2, hfz39_3, hfz39_4, hfz39_5⟩ := fr6 BK198.out) | ((with_reducible refine gate_callee (f := 74) rfl ?_); refine goesL_ (some 6) rfl rfl Try.func74 gk_ rfl #[.int .i64 a0_3, .int .i64 0, .int .i64 160] rfl gm_ ?_; (with_reducible refine (impl_within.calls a0_3 0 160 true _ A2.out).mono ?_); rintro e w' ⟨rfl, ⟨nd, rfl⟩⟩; refine ⟨_, rfl, ?_⟩) | ((with_reducible refine gate_callee (f := 96) rfl ?_); refine goesL_ (some 24) rfl rfl Try.func96 gk_ rfl #[.int .i64 a0_0] rfl gm_ ?_; (with_reducible refine (impl_isAddr.calls a0_0 false _ A26.out).mono ?_); rintro e w' ⟨rfl, ⟨nd, rfl⟩⟩; refine ⟨_, rfl, ?_⟩))
    go_ret; exact ⟨B3x4_, (te1 HB.out GE198.out)⟩
 ·replace c3 := Bool.eq_false_iff.mpr c3; subst c3; rw [if_neg (show ¬ (false = true) by decide)] at H; replace H := bsi H; obtain ⟨t207, A40, H⟩ := H; (try dsimp only at H)
  by_cases c41 : t207 = true
  ·subst c41; rw [if_pos rfl] at H; replace H := bsi H; obtain ⟨t208, A42, H⟩ := H; (try dsimp only at H)
   by_cases c43 : t208 = true
   ·subst c43; rw [if_pos rfl] at H; replace H := bsi H; obtain ⟨t209, A44, H⟩ := H; (try dsimp only at H)
    by_cases c45 : t209 = true
    ·subst c45; rw [if_pos rfl] at H; obtain rfl := Option.some.inj H; go_enter Try.func38, Try.ntmps38
     go_wp2_with (first | ((with_reducible refine gate_dst (N := 1) rfl ?_); (try (refine gate_guard (by rfl) ?_; dsimp only)); refine bx (N := 1) (cs := #[.int .i64 a0_0, .int .i64 a0_1, .int .i64 a0_2, .int .i64 a0_3, .bool a0_4, .string a0_5]) (t := 62) ?_; intro gb198 hg w46 hbox hb; have BK198 := am (hbox); have GW198 := am ((bs hg (below_size HB.out))); have GE198 := am ((bs hg (below_size HB.out))); replace HB := am (below_step (te0 HB.out) hb); clear hb hbox hg; obtain ⟨hcz47_0, hcz47_1, hcz47_2, hcz47_3, hcz47_4, hcz47_5⟩ := cl6 BK198.out; obtain ⟨hfz47_0, hfz47_1, hfz47_2, hfz47_3, hfz47_4, hfz47_5⟩ := fr6 BK198.out) | ((with_reducible refine gate_callee (f := 74) rfl ?_); refine goesL_ (some 6) rfl rfl Try.func74 gk_ rfl #[.int .i64 a0_3, .int .i64 0, .int .i64 160] rfl gm_ ?_; (with_reducible refine (impl_within.calls a0_3 0 160 false _ A2.out).mono ?_); rintro e w' ⟨rfl, ⟨nd, rfl⟩⟩; refine ⟨_, rfl, ?_⟩) | ((with_reducible refine gate_callee (f := 96) rfl ?_); refine goesL_ (some 24) rfl rfl Try.func96 gk_ rfl #[.int .i64 a0_0] rfl gm_ ?_; (with_reducible refine (impl_isAddr.calls a0_0 true _ A40.out).mono ?_); rintro e w' ⟨rfl, ⟨nd, rfl⟩⟩; refine ⟨_, rfl, ?_⟩) | (go_at_call 96; (with_reducible refine (impl_isAddr.calls a0_1 true _ A42.out).mono ?_); rintro e w' ⟨rfl, ⟨nd, rfl⟩⟩) | (go_at_call 97; (with_reducible refine (impl_isWord.calls a0_2 true _ A44.out).mono ?_); rintro e w' ⟨rfl, ⟨nd, rfl⟩⟩))
     go_ret; exact ⟨B3x4_, (te1 HB.out GE198.out)⟩
    ·replace c45 := Bool.eq_false_iff.mpr c45; subst c45; rw [if_neg (show ¬ (false = true) by decide)] at H; obtain rfl := Option.some.inj H; go_enter Try.func38, Try.ntmps38
     go_wp2_with (first | ((with_reducible refine gate_dst (N := 1) rfl ?_); (try (refine gate_guard (by rfl) ?_; dsimp only)); refine bx (N := 1) (cs := #[.int .i64 a0_0, .int .i64 a0_1, .int .i64 a0_2, .int .i64 a0_3, .bool a0_4, .string a0_5]) (t := 62) ?_; intro gb198 hg w48 hbox hb; have BK198 := am (hbox); have GW198 := am ((bs hg (below_size HB.out))); have GE198 := am ((bs hg (below_size HB.out))); replace HB := am (below_step (te0 HB.out) hb); clear hb hbox hg; obtain ⟨hcz49_0, hcz49_1, hcz49_2, hcz49_3, hcz49_4, hcz49_5⟩ := cl6 BK198.out; obtain ⟨hfz49_0, hfz49_1, hfz49_2, hfz49_3, hfz49_4, hfz49_5⟩ := fr6 BK198.out) | ((with_reducible refine gate_callee (f := 74) rfl ?_); refine goesL_ (some 6) rfl rfl Try.func74 gk_ rfl #[.int .i64 a0_3, .int .i64 0, .int .i64 160] rfl gm_ ?_; (with_reducible refine (impl_within.calls a0_3 0 160 false _ A2.out).mono ?_); rintro e w' ⟨rfl, ⟨nd, rfl⟩⟩; refine ⟨_, rfl, ?_⟩) | ((with_reducible refine gate_callee (f := 96) rfl ?_); refine goesL_ (some 24) rfl rfl Try.func96 gk_ rfl #[.int .i64 a0_0] rfl gm_ ?_; (with_reducible refine (impl_isAddr.calls a0_0 true _ A40.out).mono ?_); rintro e w' ⟨rfl, ⟨nd, rfl⟩⟩; refine ⟨_, rfl, ?_⟩) | (go_at_call 96; (with_reducible refine (impl_isAddr.calls a0_1 true _ A42.out).mono ?_); rintro e w' ⟨rfl, ⟨nd, rfl⟩⟩) | (go_at_call 97; (with_reducible refine (impl_isWord.calls a0_2 false _ A44.out).mono ?_); rintro e w' ⟨rfl, ⟨nd, rfl⟩⟩))
     go_ret; exact ⟨B3x4_, (te1 HB.out GE198.out)⟩
   ·replace c43 := Bool.eq_false_iff.mpr c43; subst c43; rw [if_neg (show ¬ (false = true) by decide)] at H; obtain rfl := Option.some.inj H; go_enter Try.func38, Try.ntmps38
    go_wp2_with (first | ((with_reducible refine gate_dst (N := 1) rfl ?_); (try (refine gate_guard (by rfl) ?_; dsimp only)); refine bx (N := 1) (cs := #[.int .i64 a0_0, .int .i64 a0_1, .int .i64 a0_2, .int .i64 a0_3, .bool a0_4, .string a0_5]) (t := 62) ?_; intro gb198 hg w50 hbox hb; have BK198 := am (hbox); have GW198 := am ((bs hg (below_size HB.out))); have GE198 := am ((bs hg (below_size HB.out))); replace HB := am (below_step (te0 HB.out) hb); clear hb hbox hg; obtain ⟨hcz51_0, hcz51_1, hcz51_2, hcz51_3, hcz51_4, hcz51_5⟩ := cl6 BK198.out; obtain ⟨hfz51_0, hfz51_1, hfz51_2, hfz51_3, hfz51_4, hfz51_5⟩ := fr6 BK198.out) | ((with_reducible refine gate_callee (f := 74) rfl ?_); refine goesL_ (some 6) rfl rfl Try.func74 gk_ rfl #[.int .i64 a0_3, .int .i64 0, .int .i64 160] rfl gm_ ?_; (with_reducible refine (impl_within.calls a0_3 0 160 false _ A2.out).mono ?_); rintro e w' ⟨rfl, ⟨nd, rfl⟩⟩; refine ⟨_, rfl, ?_⟩) | ((with_reducible refine gate_callee (f := 96) rfl ?_); refine goesL_ (some 24) rfl rfl Try.func96 gk_ rfl #[.int .i64 a0_0] rfl gm_ ?_; (with_reducible refine (impl_isAddr.calls a0_0 true _ A40.out).mono ?_); rintro e w' ⟨rfl, ⟨nd, rfl⟩⟩; refine ⟨_, rfl, ?_⟩) | (go_at_call 96; (with_reducible refine (impl_isAddr.calls a0_1 false _ A42.out).mono ?_); rintro e w' ⟨rfl, ⟨nd, rfl⟩⟩))
    go_ret; exact ⟨B3x4_, (te1 HB.out GE198.out)⟩
  ·replace c41 := Bool.eq_false_iff.mpr c41; subst c41; rw [if_neg (show ¬ (false = true) by decide)] at H; obtain rfl := Option.some.inj H; go_enter Try.func38, Try.ntmps38
   go_wp2_with (first | ((with_reducible refine gate_dst (N := 1) rfl ?_); (try (refine gate_guard (by rfl) ?_; dsimp only)); refine bx (N := 1) (cs := #[.int .i64 a0_0, .int .i64 a0_1, .int .i64 a0_2, .int .i64 a0_3, .bool a0_4, .string a0_5]) (t := 62) ?_; intro gb198 hg w52 hbox hb; have BK198 := am (hbox); have GW198 := am ((bs hg (below_size HB.out))); have GE198 := am ((bs hg (below_size HB.out))); replace HB := am (below_step (te0 HB.out) hb); clear hb hbox hg; obtain ⟨hcz53_0, hcz53_1, hcz53_2, hcz53_3, hcz53_4, hcz53_5⟩ := cl6 BK198.out; obtain ⟨hfz53_0, hfz53_1, hfz53_2, hfz53_3, hfz53_4, hfz53_5⟩ := fr6 BK198.out) | ((with_reducible refine gate_callee (f := 74) rfl ?_); refine goesL_ (some 6) rfl rfl Try.func74 gk_ rfl #[.int .i64 a0_3, .int .i64 0, .int .i64 160] rfl gm_ ?_; (with_reducible refine (impl_within.calls a0_3 0 160 false _ A2.out).mono ?_); rintro e w' ⟨rfl, ⟨nd, rfl⟩⟩; refine ⟨_, rfl, ?_⟩) | ((with_reducible refine gate_callee (f := 96) rfl ?_); refine goesL_ (some 24) rfl rfl Try.func96 gk_ rfl #[.int .i64 a0_0] rfl gm_ ?_; (with_reducible refine (impl_isAddr.calls a0_0 false _ A40.out).mono ?_); rintro e w' ⟨rfl, ⟨nd, rfl⟩⟩; refine ⟨_, rfl, ?_⟩))
   go_ret; exact ⟨B3x4_, (te1 HB.out GE198.out)⟩

end Go.Proofs.Ytmknnoeggkgkgaa.QFnParts
