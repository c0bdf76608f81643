/- Functions that a law reaches, as functions of Lean, and the walks that show that the calls come to their answers: written by a program of this project out of the translation. No condition. -/
import Derived.Test.YtjijbffecppeiaaQFnExactShutx0
import Derived.Test.YtjijbffecppeiaaQFnExactShutx4
import Derived.Test.YtjijbffecppeiaaShort2
import Derived.Test.YtjijbffecppeiaaShort
namespace Go.Proofs.Ytjijbffecppeiaa.QFnExactShut
open Go.RowKit Go.Proofs.YtjijbffecppeiaaW.PrintWords Go.Proofs.YtjijbffecppeiaaW.PrintLast Go.Proofs.YtjijbffecppeiaaW.PrintMore Go.Proofs.Ytjijbffecppeiaa.Short
attribute [local go_sem] max2_int min2_int max_two min_two max_three min_three max_four min_four   -- for this text's walks alone
set_option linter.unusedVariables false
set_option linter.unusedSimpArgs false

/-! ### impl_StreamOk: function 18 -/
mutual
def impl_StreamOk.l0 : Nat → List (S112) → Int → Int → Int → Int → Int → Int → ByteArray → Int → Int → Bool → ByteArray → List (S112) → Bool → Int → Int → Option (Bool)
 | 0, _, _, _, _, _, _, _, _, _, _, _, _, _, _, _, _ => none
 | k + 1, x8, x9, x10, x179000, x179001, x179002, x179003, x179004, x179005, x179006, x179007, x179008, x179009, x179010, x179011, x179012 => if x10 < x9 then (if 0 ≤ x10 then (if x10 < (x8.length : Int) then ((impl_within.f (((rd_T112 x8 x10).f1).size : Int) 1 8).bind fun t181 => (if t181 = true then ((impl_isWord.f ((rd_T112 x8 x10).f0)).bind fun t182 => (if t182 = true then (impl_StreamOk.l0 k x8 x9 (wrap64 (x10 + 1)) x179000 x179001 x179002 x179003 x179004 x179005 x179006 x179007 x179008 x179009 x179010 x179011 x179012) else (some false))) else (some false))) else (none)) else (none)) else ((impl_within.f x179000 0 4).bind fun t183 => (if t183 = true then ((impl_isWord.f x179001).bind fun t184 => (if t184 = true then ((impl_isWord.f x179002).bind fun t185 => (if t185 = true then ((impl_isWord.f x179003).bind fun t186 => (if t186 = true then (impl_StreamOk.j1 k (decide ((x179004.size : Int) > 200)) x179000 x179001 x179002 x179003 x179004 x179005 x179006 x179007 x179008 x179009 x179010 x179011 x179012) else (impl_StreamOk.j1 k true x179000 x179001 x179002 x179003 x179004 x179005 x179006 x179007 x179008 x179009 x179010 x179011 x179012))) else (impl_StreamOk.j1 k true x179000 x179001 x179002 x179003 x179004 x179005 x179006 x179007 x179008 x179009 x179010 x179011 x179012))) else (impl_StreamOk.j1 k true x179000 x179001 x179002 x179003 x179004 x179005 x179006 x179007 x179008 x179009 x179010 x179011 x179012))) else (impl_StreamOk.j1 k true x179000 x179001 x179002 x179003 x179004 x179005 x179006 x179007 x179008 x179009 x179010 x179011 x179012)))
def impl_StreamOk.j1 : Nat → Bool → Int → Int → Int → Int → ByteArray → Int → Int → Bool → ByteArray → List (S112) → Bool → Int → Int → Option (Bool)
 | 0, _, _, _, _, _, _, _, _, _, _, _, _, _, _ => none
 | k + 1, x53, x179000, x179001, x179002, x179003, x179004, x179005, x179006, x179007, x179008, x179009, x179010, x179011, x179012 => if x53 = true then (some false) else ((impl_within.f x179006 0 3).bind fun t187 => (if t187 = true then (if x179006 = 2 then (if x179005 = (x179004.size : Int) then (if x179006 = 3 then (if (x179008.size : Int) ≤ 1000 then ((impl_within.f x179005 0 (mn (x179004.size : Int) 24)).bind fun t188 => (if t188 = true then (if x179004.toList = ([] : List UInt8) then (if (x179009.length : Int) ≤ 8 then ((impl_within.f x179011 0 1000000000).bind fun t189 => (if t189 = true then ((impl_within.f x179012 0 12).bind fun t190 => (some t190)) else (some false))) else (some false)) else (some false)) else (some false))) else ((impl_within.f x179005 0 (mn (x179004.size : Int) 24)).bind fun t191 => (if t191 = true then (if x179004.toList = ([] : List UInt8) then (some false) else (some false)) else (some false)))) else (if (x179008.size : Int) ≤ 1000 then ((impl_within.f x179005 0 (mn (x179004.size : Int) 24)).bind fun t192 => (if t192 = true then (if (x179009.length : Int) ≤ 8 then ((impl_within.f x179011 0 1000000000).bind fun t193 => (if t193 = true then ((impl_within.f x179012 0 12).bind fun t194 => (some t194)) else (some false))) else (some false)) else (some false))) else ((impl_within.f x179005 0 (mn (x179004.size : Int) 24)).bind fun t195 => (if t195 = true then (some false) else (some false))))) else (if (x179008.size : Int) ≤ 1000 then ((impl_within.f x179005 0 (mn (x179004.size : Int) 24)).bind fun t196 => (if t196 = true then (some false) else (some false))) else ((impl_within.f x179005 0 (mn (x179004.size : Int) 24)).bind fun t197 => (if t197 = true then (some false) else (some false))))) else (if x179006 = 3 then (if (x179008.size : Int) ≤ 1000 then ((impl_within.f x179005 0 (mn (x179004.size : Int) 24)).bind fun t198 => (if t198 = true then (if x179004.toList = ([] : List UInt8) then (if (x179009.length : Int) ≤ 8 then ((impl_within.f x179011 0 1000000000).bind fun t199 => (if t199 = true then ((impl_within.f x179012 0 12).bind fun t200 => (some t200)) else (some false))) else (some false)) else (some false)) else (some false))) else ((impl_within.f x179005 0 (mn (x179004.size : Int) 24)).bind fun t201 => (if t201 = true then (if x179004.toList = ([] : List UInt8) then (some false) else (some false)) else (some false)))) else (if (x179008.size : Int) ≤ 1000 then ((impl_within.f x179005 0 (mn (x179004.size : Int) 24)).bind fun t202 => (if t202 = true then (if (x179009.length : Int) ≤ 8 then ((impl_within.f x179011 0 1000000000).bind fun t203 => (if t203 = true then ((impl_within.f x179012 0 12).bind fun t204 => (some t204)) else (some false))) else (some false)) else (some false))) else ((impl_within.f x179005 0 (mn (x179004.size : Int) 24)).bind fun t205 => (if t205 = true then (some false) else (some false)))))) else (if (x179008.size : Int) ≤ 1000 then ((impl_within.f x179005 0 (mn (x179004.size : Int) 24)).bind fun t206 => (if t206 = true then (some false) else (some false))) else ((impl_within.f x179005 0 (mn (x179004.size : Int) 24)).bind fun t207 => (if t207 = true then (some false) else (some false))))))
end
def impl_StreamOk.f (k : Nat) (a0_0 : Int) (a0_1 : Int) (a0_2 : Int) (a0_3 : Int) (a0_4 : ByteArray) (a0_5 : Int) (a0_6 : Int) (a0_7 : Bool) (a0_8 : ByteArray) (l0_9 : List (S112)) (a0_10 : Bool) (a0_11 : Int) (a0_12 : Int) : Option (Bool) := impl_StreamOk.l0 k l0_9 (l0_9.length : Int) 0 a0_0 a0_1 a0_2 a0_3 a0_4 a0_5 a0_6 a0_7 a0_8 l0_9 a0_10 a0_11 a0_12
theorem impl_StreamOk.mono_l : ∀ k, (∀ y0 y1 y2 y3 y4 y5 y6 y7 y8 y9 y10 y11 y12 y13 y14 y15, LeO (impl_StreamOk.l0 k y0 y1 y2 y3 y4 y5 y6 y7 y8 y9 y10 y11 y12 y13 y14 y15) (impl_StreamOk.l0 (k + 1) y0 y1 y2 y3 y4 y5 y6 y7 y8 y9 y10 y11 y12 y13 y14 y15)) ∧ (∀ y0 y1 y2 y3 y4 y5 y6 y7 y8 y9 y10 y11 y12 y13, LeO (impl_StreamOk.j1 k y0 y1 y2 y3 y4 y5 y6 y7 y8 y9 y10 y11 y12 y13) (impl_StreamOk.j1 (k + 1) y0 y1 y2 y3 y4 y5 y6 y7 y8 y9 y10 y11 y12 y13))
 | 0 => ⟨fun _ _ _ _ _ _ _ _ _ _ _ _ _ _ _ _ r h => by simp [impl_StreamOk.l0] at h, fun _ _ _ _ _ _ _ _ _ _ _ _ _ _ r h => by simp [impl_StreamOk.j1] at h⟩
 | k + 1 => by
  obtain ⟨ih0, ih1⟩ := impl_StreamOk.mono_l k
  refine ⟨?_, ?_⟩
  ·intro y0 y1 y2 y3 y4 y5 y6 y7 y8 y9 y10 y11 y12 y13 y14 y15
   unfold impl_StreamOk.l0
   repeat' first
   | (with_reducible exact ih0 _ _ _ _ _ _ _ _ _ _ _ _ _ _ _ _)
   | (with_reducible exact ih1 _ _ _ _ _ _ _ _ _ _ _ _ _ _)
   | (with_reducible exact LeO.refl _)
   | (with_reducible exact LeO.none _)
   | (with_reducible refine LeO.ite ?_ ?_)
   | (with_reducible refine LeO.bind ?_ (fun _ => ?_))
   | exact ih0 _ _ _ _ _ _ _ _ _ _ _ _ _ _ _ _
   | exact ih1 _ _ _ _ _ _ _ _ _ _ _ _ _ _
   | exact LeO.none _
   | refine LeO.ite ?_ ?_
   | refine LeO.bind ?_ (fun _ => ?_)
  ·intro y0 y1 y2 y3 y4 y5 y6 y7 y8 y9 y10 y11 y12 y13
   unfold impl_StreamOk.j1
   repeat' first
   | (with_reducible exact ih0 _ _ _ _ _ _ _ _ _ _ _ _ _ _ _ _)
   | (with_reducible exact ih1 _ _ _ _ _ _ _ _ _ _ _ _ _ _)
   | (with_reducible exact LeO.refl _)
   | (with_reducible exact LeO.none _)
   | (with_reducible refine LeO.ite ?_ ?_)
   | (with_reducible refine LeO.bind ?_ (fun _ => ?_))
   | exact ih0 _ _ _ _ _ _ _ _ _ _ _ _ _ _ _ _
   | exact ih1 _ _ _ _ _ _ _ _ _ _ _ _ _ _
   | exact LeO.none _
   | refine LeO.ite ?_ ?_
   | refine LeO.bind ?_ (fun _ => ?_)
theorem impl_StreamOk.mono : ∀ a0 a1 a2 a3 a4 a5 a6 a7 a8 a9 a10 a11 a12 k, LeO (impl_StreamOk.f k a0 a1 a2 a3 a4 a5 a6 a7 a8 a9 a10 a11 a12) (impl_StreamOk.f (k + 1) a0 a1 a2 a3 a4 a5 a6 a7 a8 a9 a10 a11 a12) := by
 intro a0 a1 a2 a3 a4 a5 a6 a7 a8 a9 a10 a11 a12 k
 obtain ⟨ih0, ih1⟩ := impl_StreamOk.mono_l k
 unfold impl_StreamOk.f
 repeat' first
   | (with_reducible exact ih0 _ _ _ _ _ _ _ _ _ _ _ _ _ _ _ _)
   | (with_reducible exact ih1 _ _ _ _ _ _ _ _ _ _ _ _ _ _)
   | (with_reducible exact LeO.refl _)
   | (with_reducible exact LeO.none _)
   | (with_reducible refine LeO.ite ?_ ?_)
   | (with_reducible refine LeO.bind ?_ (fun _ => ?_))
   | exact ih0 _ _ _ _ _ _ _ _ _ _ _ _ _ _ _ _
   | exact ih1 _ _ _ _ _ _ _ _ _ _ _ _ _ _
   | exact LeO.none _
   | refine LeO.ite ?_ ?_
   | refine LeO.bind ?_ (fun _ => ?_)
set_option hygiene false
local macro:max "G0_" : term => `((by (try simp only [List.map_toArray, List.map_cons, List.map_nil]); first | done | rfl | (simp only [List.length_drop, List.length_take]; rfl)))
local macro:max "G1_" : tactic => `(tactic| (first | (with_reducible first | exact HB.out | apply below_alloc | apply pw_below_drewN | apply below_drew1 | refine below_set ?_ GE178.out) | exact HB.out))
local macro:max "G2_" : tactic => `(tactic| (with_reducible refine gate_callee (f := 84) rfl ?_))
local macro:max "G3_" : term => `((blk_lt (g := gb178) (o := .cells #[.int .i64 a0_0, .int .i64 a0_1, .int .i64 a0_2, .int .i64 a0_3, .string a0_4, .int .i64 a0_5, .int .i64 a0_6, .bool a0_7, .string a0_8, .slice (some ad179) l0_9.length c0_9, .bool a0_10, .int .i64 a0_11, .int .i64 a0_12] 29 (0, 0)) (by (with_reducible repeat (first | refine blk_drewN ?_ _ | refine blk_drew ?_ | refine blk_alloc ?_ _)); exact BK178.out)))
local macro:max "G4_" : tactic => `(tactic| (with_reducible refine (impl_within.calls a0_6 0 3 true _ A35.out).mono ?_))
local macro:max "G5_" : tactic => `(tactic| (try simp only [List.map_toArray, List.map_cons, List.map_nil]))
local macro:max "G6_" : tactic => `(tactic| (simp only [List.length_drop, List.length_take]; rfl))
local macro:max "G7_" : term => `(#[.int .i64 a0_6, .int .i64 0, .int .i64 3])
local macro:max "G8_" : term => `((.slice A0_9 l0_9.length c0_9))
local macro:max "G9_" : term => `((blk_below (g := gb178) (o := .cells #[.int .i64 a0_0, .int .i64 a0_1, .int .i64 a0_2, .int .i64 a0_3, .string a0_4, .int .i64 a0_5, .int .i64 a0_6, .bool a0_7, .string a0_8, .slice (some ad179) l0_9.length c0_9, .bool a0_10, .int .i64 a0_11, .int .i64 a0_12] 29 (0, 0)) (by (with_reducible repeat (first | refine blk_drewN ?_ _ | refine blk_drew ?_ | refine blk_alloc ?_ _)); exact BK178.out) hb))
local macro:max "G10_" : term => `((blk_cell BK178.out 10))
local macro:max "G11_" : term => `((blk_cell BK178.out 11))
local macro:max "G12_" : term => `((blk_cell BK178.out 12))
local macro:max "G13_" : term => `((blk_cell BK178.out 0))
local macro:max "G14_" : term => `((blk_cell BK178.out 1))
local macro:max "G15_" : term => `((blk_cell BK178.out 2))
local macro:max "G16_" : term => `((blk_cell BK178.out 3))
local macro:max "G17_" : term => `((blk_cell BK178.out 4))
local macro:max "G18_" : term => `((blk_cell BK178.out 5))
local macro:max "G19_" : term => `((blk_cell BK178.out 6))
local macro:max "G20_" : term => `((blk_cell BK178.out 7))
local macro:max "G21_" : term => `((blk_cell BK178.out 8))
local macro:max "G22_" : term => `((blk_cell BK178.out 9))
local macro:max "G23_" : tactic => `(tactic| (with_reducible repeat (first | refine blk_drewN ?_ _ | refine blk_drew ?_ | refine blk_alloc ?_ _)))
local macro:max "G24_" : term => `((by rw [hg]; exact (below_size (by repeat G1_)) : w.heap.size ≤ gb180))
local macro:max "G25_" : term => `((by repeat (first | (with_reducible first | exact HB.out | apply below_alloc | apply pw_below_drewN | apply below_drew1) | exact HB.out)))
local macro:max "G26_" : tactic => `(tactic| (go_at_call 85; (with_reducible refine (impl_isWord.calls a0_1 true _ A23.out).mono ?_); rintro e w' ⟨rfl, ⟨nd, rfl⟩⟩))
local macro:max "G27_" : tactic => `(tactic| (with_reducible refine (impl_within.calls a0_6 0 3 false _ A35.out).mono ?_))
local macro:max "G28_" : tactic => `(tactic| (with_reducible refine (impl_within.calls a0_0 0 4 true _ A21.out).mono ?_))
local macro:max "G29_" : term => `(⟨by first | rfl | (simp [errW_none, errW_some] <;> rfl) | (simp only [← hji104]; first | rfl | (simp [errW_none, errW_some] <;> rfl)) | (simp [*, errW_none, errW_some] <;> rfl), by repeat G1_⟩)
local macro:max "G30_" : term => `(⟨by first | rfl | (simp [errW_none, errW_some] <;> rfl) | (simp only [← hji54]; first | rfl | (simp [errW_none, errW_some] <;> rfl)) | (simp [*, errW_none, errW_some] <;> rfl), by repeat G1_⟩)
local macro:max "G31_" : term => `(#[.int .i64 a0_0, .int .i64 a0_1, .int .i64 a0_2, .int .i64 a0_3, .string a0_4, .int .i64 a0_5, .int .i64 a0_6, .bool a0_7, .string a0_8, G8_, .bool a0_10, .int .i64 a0_11, .int .i64 a0_12])
local macro:max "G32_" : tactic => `(tactic| (first | (with_reducible first | exact HB.out | apply below_alloc | apply pw_below_drewN | apply below_drew1 | refine below_set ?_ GE178.out | refine below_set ?_ GE180.out) | exact HB.out))
local macro:max "G33_" : term => `((by G5_; first | done | (simp only [hji112]; rfl) | rfl | G6_))
local macro:max "G34_" : term => `((by G5_; first | done | (simp only [hji41]; rfl) | rfl | G6_))
local macro:max "G35_" : term => `((by G5_; first | done | (simp only [hji62]; rfl) | rfl | G6_))
local macro:max "G36_" : term => `((by G5_; first | done | (simp only [hji91]; rfl) | rfl | G6_))
local macro:max "G37_" : term => `(#[.int .i64 a0_0, .int .i64 0, .int .i64 4])
local macro:max "G38_" : tactic => `(tactic| (with_reducible refine (impl_within.calls a0_5 0 ji112 true _ A113.out).mono ?_))
local macro:max "G39_" : tactic => `(tactic| (with_reducible refine (impl_within.calls a0_5 0 ji41 true _ A42.out).mono ?_))
local macro:max "G40_" : tactic => `(tactic| (with_reducible refine (impl_within.calls a0_5 0 ji62 true _ A63.out).mono ?_))
local macro:max "G41_" : tactic => `(tactic| (with_reducible refine (impl_within.calls a0_5 0 ji91 true _ A92.out).mono ?_))
local macro:max "G42_" : term => `(#[.int .i64 (((rd_T112 l0_9 x10_1).f1).size : Int), .int .i64 1, .int .i64 8])
local macro:max "G43_" : tactic => `(tactic| (case hr => first | (go_simp; done) | (go_simp; rfl)))
local macro:max "G44_" : tactic => `(tactic| (try (refine gate_guard (by rfl) ?_; dsimp only)))
local macro:max "G45_" : term => `(#[.int .i64 a0_5, .int .i64 0, .int .i64 ji112])
local macro:max "G46_" : term => `(#[.int .i64 a0_5, .int .i64 0, .int .i64 ji41])
local macro:max "G47_" : term => `(#[.int .i64 a0_5, .int .i64 0, .int .i64 ji62])
local macro:max "G48_" : term => `(#[.int .i64 a0_5, .int .i64 0, .int .i64 ji91])
local macro:max "G49_" : tactic => `(tactic| (go_at_call 85; (with_reducible refine (impl_isWord.calls a0_2 true _ A25.out).mono ?_); rintro e w' ⟨rfl, ⟨nd, rfl⟩⟩))
local macro:max "G50_" : tactic => `(tactic| (with_reducible refine (impl_within.calls (((rd_T112 l0_9 x10_1).f1).size : Int) 1 8 true _ A7.out).mono ?_))
local macro:max "G51_" : term => `((by rw [hg]; exact Nat.ne_of_gt G3_ : gb180 ≠ gb178))
local macro:max "G52_" : term => `((by rw [hg]; exact Nat.ne_of_lt G3_ : gb178 ≠ gb180))
local macro:max "G53_" : term => `((show ¬ (false = true) by decide))
local macro:max "G54_" : tactic => `(tactic| (with_reducible refine gate_dst (N := 4) rfl ?_))
local macro:max "G55_" : term => `(#[.int .i64 0, .string (⟨#[]⟩ : ByteArray)])
local macro "J0_" : tactic => `(tactic| ((go_ret); (exact ⟨by first | rfl | (simp [errW_none, errW_some] <;> rfl) | (simp only [← hji41]; first | rfl | (simp [errW_none, errW_some] <;> rfl)) | (simp [*, errW_none, errW_some] <;> rfl), by repeat G1_⟩)))
local macro "J1_" : tactic => `(tactic| ((go_ret); (exact ⟨by first | rfl | (simp [errW_none, errW_some] <;> rfl) | (simp only [← hji91]; first | rfl | (simp [errW_none, errW_some] <;> rfl)) | (simp [*, errW_none, errW_some] <;> rfl), by repeat G1_⟩)))
local macro "J2_" : tactic => `(tactic| ((rw [if_neg G53_] at H); (obtain rfl := Option.some.inj H)))
local macro "J3_" : tactic => `(tactic| ((go_wp2_with (first | (G2_; refine goesL_ (some 56) rfl rfl Try.func84 (by kernel_rfl) rfl G7_ rfl G0_ ?_; G4_; rintro e w' ⟨rfl, ⟨nd, rfl⟩⟩; refine ⟨_, rfl, ?_⟩) | (G2_; refine goesL_ (some 96) rfl rfl Try.func84 (by kernel_rfl) rfl #[.int .i64 a0_5, .int .i64 0, .int .i64 ji104] rfl (by G5_; first | done | (simp only [hji104]; rfl) | rfl | G6_) ?_; (with_reducible refine (impl_within.calls a0_5 0 ji104 true _ A105.out).mono ?_); rintro e w' ⟨rfl, ⟨nd, rfl⟩⟩; refine ⟨_, rfl, ?_⟩))); (go_ret); (exact G29_)))
local macro "J4_" : tactic => `(tactic| ((go_wp2_with (first | (G2_; refine goesL_ (some 56) rfl rfl Try.func84 (by kernel_rfl) rfl G7_ rfl G0_ ?_; G4_; rintro e w' ⟨rfl, ⟨nd, rfl⟩⟩; refine ⟨_, rfl, ?_⟩) | (G2_; refine goesL_ (some 96) rfl rfl Try.func84 (by kernel_rfl) rfl #[.int .i64 a0_5, .int .i64 0, .int .i64 ji54] rfl (by G5_; first | done | (simp only [hji54]; rfl) | rfl | G6_) ?_; (with_reducible refine (impl_within.calls a0_5 0 ji54 true _ A55.out).mono ?_); rintro e w' ⟨rfl, ⟨nd, rfl⟩⟩; refine ⟨_, rfl, ?_⟩))); (go_ret); (exact G30_)))
local macro "J5_" : tactic => `(tactic| ((go_meet); (case rel => exact ⟨_, (true), (by be_), H', ⟨by have := HK1.out; first | omega | exact Nat.le_refl _⟩, ⟨by G23_; exact BK178.out⟩, ⟨by repeat G1_⟩⟩)))
local macro "J6_" : tactic => `(tactic| ((have p179 : 0 ≤ (x10_1 : Int) := of_decide_eq_true (by first | (with_reducible assumption) | assumption)); (have q179 : x10_1 < (l0_9.length : Int) := of_decide_eq_true (by first | (with_reducible assumption) | assumption)); (obtain ⟨ad179, e179, hx179_0, hx179_1⟩ := at_T112 HR0_9.out x10_1 p179 q179); (cases e179); (replace hx179_0 := (HB.out.cell (World.block_lt_of_cell? w _ hx179_0)).trans hx179_0); (replace hx179_1 := (HB.out.cell (World.block_lt_of_cell? w _ hx179_1)).trans hx179_1); (replace p179 := eq_true p179); (replace q179 := eq_true q179)))
local macro "J7_" : tactic => `(tactic| ((go_ret); (exact ⟨by first | rfl | (simp [errW_none, errW_some] <;> rfl) | (simp only [← hji112]; first | rfl | (simp [errW_none, errW_some] <;> rfl)) | (simp [*, errW_none, errW_some] <;> rfl), by repeat G1_⟩)))
local macro "J8_" : tactic => `(tactic| ((go_ret); (exact ⟨by first | rfl | (simp [errW_none, errW_some] <;> rfl) | (simp only [← hji62]; first | rfl | (simp [errW_none, errW_some] <;> rfl)) | (simp [*, errW_none, errW_some] <;> rfl), by repeat G1_⟩)))
local macro "J9_" : tactic => `(tactic| ((replace H := Option.bind_eq_some_iff.mp H)))
local macro "J10_" : tactic => `(tactic| ((go_wp2_with (first | (G2_; refine goesL_ (some 56) rfl rfl Try.func84 (by kernel_rfl) rfl G7_ rfl G0_ ?_; G4_; rintro e w' ⟨rfl, ⟨nd, rfl⟩⟩; refine ⟨_, rfl, ?_⟩) | (G2_; refine goesL_ (some 96) rfl rfl Try.func84 (by kernel_rfl) rfl G46_ rfl G34_ ?_; G39_; rintro e w' ⟨rfl, ⟨nd, rfl⟩⟩; refine ⟨_, rfl, ?_⟩)))))
local macro "J11_" : tactic => `(tactic| ((go_wp2_with (first | (G2_; refine goesL_ (some 56) rfl rfl Try.func84 (by kernel_rfl) rfl G7_ rfl G0_ ?_; G4_; rintro e w' ⟨rfl, ⟨nd, rfl⟩⟩; refine ⟨_, rfl, ?_⟩) | (G2_; refine goesL_ (some 96) rfl rfl Try.func84 (by kernel_rfl) rfl G48_ rfl G36_ ?_; G41_; rintro e w' ⟨rfl, ⟨nd, rfl⟩⟩; refine ⟨_, rfl, ?_⟩)))))
local macro "J12_" : tactic => `(tactic| ((obtain rfl := Option.some.inj H)))
local macro "J13_" : tactic => `(tactic| ((try dsimp only at H)))
local macro "J14_" : tactic => `(tactic| ((rw [if_pos rfl] at H)))
local macro "J15_" : tactic => `(tactic| ((go_ret); (exact ⟨by first | rfl | (simp [errW_none, errW_some] <;> rfl) | (simp only [← hji123]; first | rfl | (simp [errW_none, errW_some] <;> rfl)) | (simp [*, errW_none, errW_some] <;> rfl), by repeat G1_⟩)))
local macro "J16_" : tactic => `(tactic| ((go_ret); (exact ⟨by first | rfl | (simp [errW_none, errW_some] <;> rfl) | (simp only [← hji129]; first | rfl | (simp [errW_none, errW_some] <;> rfl)) | (simp [*, errW_none, errW_some] <;> rfl), by repeat G1_⟩)))
local macro "J17_" : tactic => `(tactic| ((go_ret); (exact ⟨by first | rfl | (simp [errW_none, errW_some] <;> rfl) | (simp only [← hji134]; first | rfl | (simp [errW_none, errW_some] <;> rfl)) | (simp [*, errW_none, errW_some] <;> rfl), by repeat G1_⟩)))
local macro "J18_" : tactic => `(tactic| ((go_ret); (exact ⟨by first | rfl | (simp [errW_none, errW_some] <;> rfl) | (simp only [← hji73]; first | rfl | (simp [errW_none, errW_some] <;> rfl)) | (simp [*, errW_none, errW_some] <;> rfl), by repeat G1_⟩)))
local macro "J19_" : tactic => `(tactic| ((go_ret); (exact ⟨by first | rfl | (simp [errW_none, errW_some] <;> rfl) | (simp only [← hji79]; first | rfl | (simp [errW_none, errW_some] <;> rfl)) | (simp [*, errW_none, errW_some] <;> rfl), by repeat G1_⟩)))
local macro "J20_" : tactic => `(tactic| ((go_ret); (exact ⟨by first | rfl | (simp [errW_none, errW_some] <;> rfl) | (simp only [← hji84]; first | rfl | (simp [errW_none, errW_some] <;> rfl)) | (simp [*, errW_none, errW_some] <;> rfl), by repeat G1_⟩)))
local macro "J21_" : tactic => `(tactic| ((go_ret); (exact ⟨by first | rfl | (simp [errW_none, errW_some] <;> rfl) | (simp [*, errW_none, errW_some] <;> rfl), by repeat G32_⟩)))
local macro "J22_" : tactic => `(tactic| ((rw [if_neg G53_] at H); (have H' := Aside0.mk H); (clear H)))
local macro "J23_" : tactic => `(tactic| ((try clear hcz3_0); (try clear hcz3_1); (try clear hcz3_10); (try clear hcz3_11); (try clear hcz3_12); (try clear hcz3_2); (try clear hcz3_3); (try clear hcz3_4); (try clear hcz3_5); (try clear hcz3_6); (try clear hcz3_7); (try clear hcz3_8); (try clear hcz3_9)))
local macro "J24_" : tactic => `(tactic| ((try clear hfz3_0); (try clear hfz3_1); (try clear hfz3_10); (try clear hfz3_11); (try clear hfz3_12); (try clear hfz3_2); (try clear hfz3_3); (try clear hfz3_4); (try clear hfz3_5); (try clear hfz3_6); (try clear hfz3_7); (try clear hfz3_8); (try clear hfz3_9)))
set_option hygiene true
set_option maxHeartbeats 8000000 in
set_option maxRecDepth 100000 in
theorem impl_StreamOk.calls (k : Nat) (a0_0 : Int) (a0_1 : Int) (a0_2 : Int) (a0_3 : Int) (a0_4 : ByteArray) (a0_5 : Int) (a0_6 : Int) (a0_7 : Bool) (a0_8 : ByteArray) (A0_9 : Option Addr) (c0_9 : Nat) (l0_9 : List (S112)) (a0_10 : Bool) (a0_11 : Int) (a0_12 : Int) (r : Bool) (w : World) (hr0_9 : Kd.C k112 w A0_9 l0_9.length l0_9) (hc0_9 : l0_9.length ≤ c0_9) (h : impl_StreamOk.f k a0_0 a0_1 a0_2 a0_3 a0_4 a0_5 a0_6 a0_7 a0_8 l0_9 a0_10 a0_11 a0_12 = some r) :
  Calls Try.prog 18 #[.agg #[.int .i64 a0_0, .int .i64 a0_1, .int .i64 a0_2, .int .i64 a0_3, .string a0_4, .int .i64 a0_5, .int .i64 a0_6, .bool a0_7, .string a0_8, .slice A0_9 l0_9.length c0_9, .bool a0_10, .int .i64 a0_11, .int .i64 a0_12]] w fun e w' => e = .returned (.bool r) ∧ Below w.heap.size w w' := by
 have hu29 := Try.underlying29
 have hu112 := Try.underlying112
 have HR0_9 := Aside0.mk hr0_9
 have HC0_9 := Aside0.mk hc0_9
 clear hr0_9 hc0_9
 have HB := Aside0.mk (Below.refl w.heap.size w)
 have H : (impl_StreamOk.l0 k l0_9 (l0_9.length : Int) 0 a0_0 a0_1 a0_2 a0_3 a0_4 a0_5 a0_6 a0_7 a0_8 l0_9 a0_10 a0_11 a0_12) = some r := h
 clear h
 have H' := Aside0.mk H
 clear H
 go_enter Try.func18, Try.ntmps18
 go_wp2_with (first | ((with_reducible refine gate_dst (N := 1) rfl ?_); G44_; refine box_event ?hg (N := 1) ?hd (cs := #[.int .i64 a0_0, .int .i64 a0_1, .int .i64 a0_2, .int .i64 a0_3, .string a0_4, .int .i64 a0_5, .int .i64 a0_6, .bool a0_7, .string a0_8, .slice A0_9 l0_9.length c0_9, .bool a0_10, .int .i64 a0_11, .int .i64 a0_12]) (t := 29) ?hr ?_; (case hd => rfl); (case hg => rfl); G43_; intro gb178 hg w2 hbox hb; have n0_ := Aside0.mk (below_step G25_ hb); have n1_ := Aside0.mk (hbox); have n2_ := Aside0.mk ((by rw [hg]; exact (below_size G25_) : w.heap.size ≤ gb178)); have n3_ := Aside0.mk ((by rw [hg]; exact (below_size G25_) : w.heap.size ≤ gb178)); clear HB; have HB := n0_; have BK178 := n1_; have GW178 := n2_; have GE178 := n3_; clear n0_ n1_ n2_ n3_; clear hb hbox hg; have hcz3_0 : w2.cell? ⟨gb178, 0, none⟩ = some (.int .i64 a0_0) := (G13_).trans rfl; have hcz3_1 : w2.cell? ⟨gb178, 1, none⟩ = some (.int .i64 a0_1) := (G14_).trans rfl; have hcz3_2 : w2.cell? ⟨gb178, 2, none⟩ = some (.int .i64 a0_2) := (G15_).trans rfl; have hcz3_3 : w2.cell? ⟨gb178, 3, none⟩ = some (.int .i64 a0_3) := (G16_).trans rfl; have hcz3_4 : w2.cell? ⟨gb178, 4, none⟩ = some (.string a0_4) := (G17_).trans rfl; have hcz3_5 : w2.cell? ⟨gb178, 5, none⟩ = some (.int .i64 a0_5) := (G18_).trans rfl; have hcz3_6 : w2.cell? ⟨gb178, 6, none⟩ = some (.int .i64 a0_6) := (G19_).trans rfl; have hcz3_7 : w2.cell? ⟨gb178, 7, none⟩ = some (.bool a0_7) := (G20_).trans rfl; have hcz3_8 : w2.cell? ⟨gb178, 8, none⟩ = some (.string a0_8) := (G21_).trans rfl; have hcz3_9 : w2.cell? ⟨gb178, 9, none⟩ = some G8_ := (G22_).trans rfl; have hcz3_10 : w2.cell? ⟨gb178, 10, none⟩ = some (.bool a0_10) := (G10_).trans rfl; have hcz3_11 : w2.cell? ⟨gb178, 11, none⟩ = some (.int .i64 a0_11) := (G11_).trans rfl; have hcz3_12 : w2.cell? ⟨gb178, 12, none⟩ = some (.int .i64 a0_12) := (G12_).trans rfl; have hfz3_0 := blk_frozen BK178.out 0; have hfz3_1 := blk_frozen BK178.out 1; have hfz3_2 := blk_frozen BK178.out 2; have hfz3_3 := blk_frozen BK178.out 3; have hfz3_4 := blk_frozen BK178.out 4; have hfz3_5 := blk_frozen BK178.out 5; have hfz3_6 := blk_frozen BK178.out 6; have hfz3_7 := blk_frozen BK178.out 7; have hfz3_8 := blk_frozen BK178.out 8; have hfz3_9 := blk_frozen BK178.out 9; have hfz3_10 := blk_frozen BK178.out 10; have hfz3_11 := blk_frozen BK178.out 11; have hfz3_12 := blk_frozen BK178.out 12))
 go_loopg [10] k (fun kq v10 w' => ∃ (x10_1 : Int), v10 = .int .i64 x10_1 ∧ Aside0 (impl_StreamOk.l0 kq l0_9 (l0_9.length : Int) x10_1 a0_0 a0_1 a0_2 a0_3 a0_4 a0_5 a0_6 a0_7 a0_8 l0_9 a0_10 a0_11 a0_12 = some r) ∧ Aside0 (kq ≤ k) ∧ Aside0 (w'.heap[gb178]? = some (.cells G31_ 29 (0, 0))) ∧ Aside0 (Below w.heap.size w w'))
 case atStart => exact ⟨(0), (by be_), H', ⟨Nat.le_refl _⟩, ⟨by G23_; exact BK178.out⟩, ⟨by repeat G1_⟩⟩
 case round =>
  clear H'
  try clear c1
  try clear p2
  J23_
  J24_
  obtain ⟨x10_1, rfl, HA, HK1, BK178, HB⟩ := hrel
  cases gk with
  | zero => exact absurd HA.out (by simp [impl_StreamOk.l0])
  | succ k1 =>
   have H := HA.out
   clear HA
   simp only [impl_StreamOk.l0] at H
   by_cases c4 : x10_1 < (l0_9.length : Int)
   ·rw [if_pos c4] at H
    have c4b0 : decide (x10_1 < (l0_9.length : Int)) = true := decide_eq_true c4
    clear c4
    by_cases c5 : 0 ≤ x10_1
    ·rw [if_pos c5] at H
     have c5b0 : decide (0 ≤ x10_1) = true := decide_eq_true c5
     clear c5
     by_cases c6 : x10_1 < (l0_9.length : Int)
     ·rw [if_pos c6] at H
      have c6b0 : decide (x10_1 < (l0_9.length : Int)) = true := decide_eq_true c6
      clear c6
      J9_
      obtain ⟨t181, A70, H⟩ := H
      J13_
      have A7 := Aside0.mk A70
      clear A70
      by_cases c8 : t181 = true
      ·subst c8
       J14_
       J9_
       obtain ⟨t182, A90, H⟩ := H
       J13_
       have A9 := Aside0.mk A90
       clear A90
       by_cases c10 : t182 = true
       ·subst c10
        J14_
        have H' := Aside0.mk H
        clear H
        J6_
        go_wp2_with (first | (G54_; G44_; refine box_event ?hg (N := 4) ?hd (cs := G55_) (t := 112) ?hr ?_; (case hd => rfl); (case hg => rfl); G43_; intro gb180 hg w11 hbox hb; have n0_ := Aside0.mk G9_; have n1_ := Aside0.mk (below_step (by repeat G1_) hb); have n2_ := Aside0.mk (hbox); have n3_ := Aside0.mk (G24_); have n4_ := Aside0.mk (G24_); have n5_ := Aside0.mk (G52_); have n6_ := Aside0.mk (G51_); clear BK178; clear HB; have BK178 := n0_; have HB := n1_; have BK180 := n2_; have GW180 := n3_; have GE180 := n4_; have NB178_180 := n5_; have NB180_178 := n6_; clear n0_ n1_ n2_ n3_ n4_ n5_ n6_; clear hb hbox hg; have hnb12 := NB180_178.out; have hnc12 := NB178_180.out; have hcz13_0 : w11.cell? ⟨gb180, 0, none⟩ = some (.int .i64 0) := (blk_cell BK180.out 0).trans rfl; have hcz13_1 : w11.cell? ⟨gb180, 1, none⟩ = some (.string (⟨#[]⟩ : ByteArray)) := (blk_cell BK180.out 1).trans rfl; have hfz13_0 := blk_frozen BK180.out 0; have hfz13_1 := blk_frozen BK180.out 1) | (G2_; refine goesL_ (some 17) rfl rfl Try.func84 (by kernel_rfl) rfl G42_ rfl G0_ ?_; G50_; rintro e w' ⟨rfl, ⟨nd, rfl⟩⟩; refine ⟨_, rfl, ?_⟩) | (go_at_call 85; (with_reducible refine (impl_isWord.calls ((rd_T112 l0_9 x10_1).f0) true _ A9.out).mono ?_); rintro e w' ⟨rfl, ⟨nd, rfl⟩⟩))
        go_roundg k1
        case measure => have := HK1.out; omega
        case rel => exact ⟨(wrap64 (x10_1 + 1)), (by be_), H', ⟨by have := HK1.out; omega⟩, ⟨by G23_; refine blk_far ?_ NB178_180.out _; G23_; refine blk_far ?_ NB178_180.out _; G23_; exact BK178.out⟩, ⟨by repeat G32_⟩⟩
       ·replace c10 := Bool.eq_false_iff.mpr c10
        subst c10
        J2_
        J6_
        go_wp2_with (first | (G54_; G44_; refine box_event ?hg (N := 4) ?hd (cs := G55_) (t := 112) ?hr ?_; (case hd => rfl); (case hg => rfl); G43_; intro gb180 hg w14 hbox hb; have n0_ := Aside0.mk G9_; have n1_ := Aside0.mk (below_step (by repeat G1_) hb); have n2_ := Aside0.mk (hbox); have n3_ := Aside0.mk (G24_); have n4_ := Aside0.mk (G24_); have n5_ := Aside0.mk (G52_); have n6_ := Aside0.mk (G51_); clear BK178; clear HB; have BK178 := n0_; have HB := n1_; have BK180 := n2_; have GW180 := n3_; have GE180 := n4_; have NB178_180 := n5_; have NB180_178 := n6_; clear n0_ n1_ n2_ n3_ n4_ n5_ n6_; clear hb hbox hg; have hnb15 := NB180_178.out; have hnc15 := NB178_180.out; have hcz16_0 : w14.cell? ⟨gb180, 0, none⟩ = some (.int .i64 0) := (blk_cell BK180.out 0).trans rfl; have hcz16_1 : w14.cell? ⟨gb180, 1, none⟩ = some (.string (⟨#[]⟩ : ByteArray)) := (blk_cell BK180.out 1).trans rfl; have hfz16_0 := blk_frozen BK180.out 0; have hfz16_1 := blk_frozen BK180.out 1) | (G2_; refine goesL_ (some 17) rfl rfl Try.func84 (by kernel_rfl) rfl G42_ rfl G0_ ?_; G50_; rintro e w' ⟨rfl, ⟨nd, rfl⟩⟩; refine ⟨_, rfl, ?_⟩) | (go_at_call 85; (with_reducible refine (impl_isWord.calls ((rd_T112 l0_9 x10_1).f0) false _ A9.out).mono ?_); rintro e w' ⟨rfl, ⟨nd, rfl⟩⟩))
        J21_
      ·replace c8 := Bool.eq_false_iff.mpr c8
       subst c8
       J2_
       J6_
       go_wp2_with (first | (G54_; G44_; refine box_event ?hg (N := 4) ?hd (cs := G55_) (t := 112) ?hr ?_; (case hd => rfl); (case hg => rfl); G43_; intro gb180 hg w17 hbox hb; have n0_ := Aside0.mk G9_; have n1_ := Aside0.mk (below_step (by repeat G1_) hb); have n2_ := Aside0.mk (hbox); have n3_ := Aside0.mk (G24_); have n4_ := Aside0.mk (G24_); have n5_ := Aside0.mk (G52_); have n6_ := Aside0.mk (G51_); clear BK178; clear HB; have BK178 := n0_; have HB := n1_; have BK180 := n2_; have GW180 := n3_; have GE180 := n4_; have NB178_180 := n5_; have NB180_178 := n6_; clear n0_ n1_ n2_ n3_ n4_ n5_ n6_; clear hb hbox hg; have hnb18 := NB180_178.out; have hnc18 := NB178_180.out; have hcz19_0 : w17.cell? ⟨gb180, 0, none⟩ = some (.int .i64 0) := (blk_cell BK180.out 0).trans rfl; have hcz19_1 : w17.cell? ⟨gb180, 1, none⟩ = some (.string (⟨#[]⟩ : ByteArray)) := (blk_cell BK180.out 1).trans rfl; have hfz19_0 := blk_frozen BK180.out 0; have hfz19_1 := blk_frozen BK180.out 1) | (G2_; refine goesL_ (some 17) rfl rfl Try.func84 (by kernel_rfl) rfl G42_ rfl G0_ ?_; (with_reducible refine (impl_within.calls (((rd_T112 l0_9 x10_1).f1).size : Int) 1 8 false _ A7.out).mono ?_); rintro e w' ⟨rfl, ⟨nd, rfl⟩⟩; refine ⟨_, rfl, ?_⟩))
       J21_
     ·exact absurd H (by exfalso; (try have h0_ := of_decide_eq_true c4b0); (try have g0_ := c4); omega)
    ·rw [if_neg c5] at H
     exact absurd H (by simp)
   ·rw [if_neg c4] at H
    have c4b0 : decide (x10_1 < (l0_9.length : Int)) = false := decide_eq_false c4
    clear c4
    have HC20 := Aside0.mk H
    clear H
    go_upto_region 7 with (fail)
    go_cut [53] (fun v53 wc => ∃ (kq : Nat) (x53_19 : Bool), v53 = .bool x53_19 ∧ Aside0 (impl_StreamOk.j1 kq x53_19 a0_0 a0_1 a0_2 a0_3 a0_4 a0_5 a0_6 a0_7 a0_8 l0_9 a0_10 a0_11 a0_12 = some r) ∧ Aside0 (kq ≤ k1) ∧ Aside0 (wc.heap[gb178]? = some (.cells G31_ 29 (0, 0))) ∧ Aside0 (Below w.heap.size w wc))
    case first =>
     have H := HC20.out
     clear HC20
     J9_
     obtain ⟨t183, A210, H⟩ := H
     J13_
     have A21 := Aside0.mk A210
     clear A210
     by_cases c22 : t183 = true
     ·subst c22
      J14_
      J9_
      obtain ⟨t184, A230, H⟩ := H
      J13_
      have A23 := Aside0.mk A230
      clear A230
      by_cases c24 : t184 = true
      ·subst c24
       J14_
       J9_
       obtain ⟨t185, A250, H⟩ := H
       J13_
       have A25 := Aside0.mk A250
       clear A250
       by_cases c26 : t185 = true
       ·subst c26
        J14_
        J9_
        obtain ⟨t186, A270, H⟩ := H
        J13_
        have A27 := Aside0.mk A270
        clear A270
        by_cases c28 : t186 = true
        ·subst c28
         J14_
         have H' := Aside0.mk H
         clear H
         have hcz29_0 : wr.cell? ⟨gb178, 0, none⟩ = some (.int .i64 a0_0) := (G13_).trans rfl
         have hcz29_1 : wr.cell? ⟨gb178, 1, none⟩ = some (.int .i64 a0_1) := (G14_).trans rfl
         have hcz29_2 : wr.cell? ⟨gb178, 2, none⟩ = some (.int .i64 a0_2) := (G15_).trans rfl
         have hcz29_3 : wr.cell? ⟨gb178, 3, none⟩ = some (.int .i64 a0_3) := (G16_).trans rfl
         have hcz29_4 : wr.cell? ⟨gb178, 4, none⟩ = some (.string a0_4) := (G17_).trans rfl
         have hcz29_5 : wr.cell? ⟨gb178, 5, none⟩ = some (.int .i64 a0_5) := (G18_).trans rfl
         have hcz29_6 : wr.cell? ⟨gb178, 6, none⟩ = some (.int .i64 a0_6) := (G19_).trans rfl
         have hcz29_7 : wr.cell? ⟨gb178, 7, none⟩ = some (.bool a0_7) := (G20_).trans rfl
         have hcz29_8 : wr.cell? ⟨gb178, 8, none⟩ = some (.string a0_8) := (G21_).trans rfl
         have hcz29_9 : wr.cell? ⟨gb178, 9, none⟩ = some G8_ := (G22_).trans rfl
         have hcz29_10 : wr.cell? ⟨gb178, 10, none⟩ = some (.bool a0_10) := (G10_).trans rfl
         have hcz29_11 : wr.cell? ⟨gb178, 11, none⟩ = some (.int .i64 a0_11) := (G11_).trans rfl
         have hcz29_12 : wr.cell? ⟨gb178, 12, none⟩ = some (.int .i64 a0_12) := (G12_).trans rfl
         have hfz29_0 := blk_frozen BK178.out 0
         have hfz29_1 := blk_frozen BK178.out 1
         have hfz29_2 := blk_frozen BK178.out 2
         have hfz29_3 := blk_frozen BK178.out 3
         have hfz29_4 := blk_frozen BK178.out 4
         have hfz29_5 := blk_frozen BK178.out 5
         have hfz29_6 := blk_frozen BK178.out 6
         have hfz29_7 := blk_frozen BK178.out 7
         have hfz29_8 := blk_frozen BK178.out 8
         have hfz29_9 := blk_frozen BK178.out 9
         have hfz29_10 := blk_frozen BK178.out 10
         have hfz29_11 := blk_frozen BK178.out 11
         have hfz29_12 := blk_frozen BK178.out 12
         go_wp2_with (first | (G2_; refine goesL_ (some 28) rfl rfl Try.func84 (by kernel_rfl) rfl G37_ rfl G0_ ?_; G28_; rintro e w' ⟨rfl, ⟨nd, rfl⟩⟩; refine ⟨_, rfl, ?_⟩) | G26_ | G49_ | (go_at_call 85; (with_reducible refine (impl_isWord.calls a0_3 true _ A27.out).mono ?_); rintro e w' ⟨rfl, ⟨nd, rfl⟩⟩))
         go_meet
         case rel => exact ⟨_, (decide ((a0_4.size : Int) > 200)), (by be_), H', ⟨by have := HK1.out; first | omega | exact Nat.le_refl _⟩, ⟨by G23_; exact BK178.out⟩, ⟨by repeat G1_⟩⟩
        ·replace c28 := Bool.eq_false_iff.mpr c28
         subst c28
         J22_
         have hcz30_0 : wr.cell? ⟨gb178, 0, none⟩ = some (.int .i64 a0_0) := (G13_).trans rfl
         have hcz30_1 : wr.cell? ⟨gb178, 1, none⟩ = some (.int .i64 a0_1) := (G14_).trans rfl
         have hcz30_2 : wr.cell? ⟨gb178, 2, none⟩ = some (.int .i64 a0_2) := (G15_).trans rfl
         have hcz30_3 : wr.cell? ⟨gb178, 3, none⟩ = some (.int .i64 a0_3) := (G16_).trans rfl
         have hcz30_4 : wr.cell? ⟨gb178, 4, none⟩ = some (.string a0_4) := (G17_).trans rfl
         have hcz30_5 : wr.cell? ⟨gb178, 5, none⟩ = some (.int .i64 a0_5) := (G18_).trans rfl
         have hcz30_6 : wr.cell? ⟨gb178, 6, none⟩ = some (.int .i64 a0_6) := (G19_).trans rfl
         have hcz30_7 : wr.cell? ⟨gb178, 7, none⟩ = some (.bool a0_7) := (G20_).trans rfl
         have hcz30_8 : wr.cell? ⟨gb178, 8, none⟩ = some (.string a0_8) := (G21_).trans rfl
         have hcz30_9 : wr.cell? ⟨gb178, 9, none⟩ = some G8_ := (G22_).trans rfl
         have hcz30_10 : wr.cell? ⟨gb178, 10, none⟩ = some (.bool a0_10) := (G10_).trans rfl
         have hcz30_11 : wr.cell? ⟨gb178, 11, none⟩ = some (.int .i64 a0_11) := (G11_).trans rfl
         have hcz30_12 : wr.cell? ⟨gb178, 12, none⟩ = some (.int .i64 a0_12) := (G12_).trans rfl
         have hfz30_0 := blk_frozen BK178.out 0
         have hfz30_1 := blk_frozen BK178.out 1
         have hfz30_2 := blk_frozen BK178.out 2
         have hfz30_3 := blk_frozen BK178.out 3
         have hfz30_4 := blk_frozen BK178.out 4
         have hfz30_5 := blk_frozen BK178.out 5
         have hfz30_6 := blk_frozen BK178.out 6
         have hfz30_7 := blk_frozen BK178.out 7
         have hfz30_8 := blk_frozen BK178.out 8
         have hfz30_9 := blk_frozen BK178.out 9
         have hfz30_10 := blk_frozen BK178.out 10
         have hfz30_11 := blk_frozen BK178.out 11
         have hfz30_12 := blk_frozen BK178.out 12
         go_wp2_with (first | (G2_; refine goesL_ (some 28) rfl rfl Try.func84 (by kernel_rfl) rfl G37_ rfl G0_ ?_; G28_; rintro e w' ⟨rfl, ⟨nd, rfl⟩⟩; refine ⟨_, rfl, ?_⟩) | G26_ | G49_ | (go_at_call 85; (with_reducible refine (impl_isWord.calls a0_3 false _ A27.out).mono ?_); rintro e w' ⟨rfl, ⟨nd, rfl⟩⟩))
         J5_
       ·replace c26 := Bool.eq_false_iff.mpr c26
        subst c26
        J22_
        have hcz31_0 : wr.cell? ⟨gb178, 0, none⟩ = some (.int .i64 a0_0) := (G13_).trans rfl
        have hcz31_1 : wr.cell? ⟨gb178, 1, none⟩ = some (.int .i64 a0_1) := (G14_).trans rfl
        have hcz31_2 : wr.cell? ⟨gb178, 2, none⟩ = some (.int .i64 a0_2) := (G15_).trans rfl
        have hcz31_3 : wr.cell? ⟨gb178, 3, none⟩ = some (.int .i64 a0_3) := (G16_).trans rfl
        have hcz31_4 : wr.cell? ⟨gb178, 4, none⟩ = some (.string a0_4) := (G17_).trans rfl
        have hcz31_5 : wr.cell? ⟨gb178, 5, none⟩ = some (.int .i64 a0_5) := (G18_).trans rfl
        have hcz31_6 : wr.cell? ⟨gb178, 6, none⟩ = some (.int .i64 a0_6) := (G19_).trans rfl
        have hcz31_7 : wr.cell? ⟨gb178, 7, none⟩ = some (.bool a0_7) := (G20_).trans rfl
        have hcz31_8 : wr.cell? ⟨gb178, 8, none⟩ = some (.string a0_8) := (G21_).trans rfl
        have hcz31_9 : wr.cell? ⟨gb178, 9, none⟩ = some G8_ := (G22_).trans rfl
        have hcz31_10 : wr.cell? ⟨gb178, 10, none⟩ = some (.bool a0_10) := (G10_).trans rfl
        have hcz31_11 : wr.cell? ⟨gb178, 11, none⟩ = some (.int .i64 a0_11) := (G11_).trans rfl
        have hcz31_12 : wr.cell? ⟨gb178, 12, none⟩ = some (.int .i64 a0_12) := (G12_).trans rfl
        have hfz31_0 := blk_frozen BK178.out 0
        have hfz31_1 := blk_frozen BK178.out 1
        have hfz31_2 := blk_frozen BK178.out 2
        have hfz31_3 := blk_frozen BK178.out 3
        have hfz31_4 := blk_frozen BK178.out 4
        have hfz31_5 := blk_frozen BK178.out 5
        have hfz31_6 := blk_frozen BK178.out 6
        have hfz31_7 := blk_frozen BK178.out 7
        have hfz31_8 := blk_frozen BK178.out 8
        have hfz31_9 := blk_frozen BK178.out 9
        have hfz31_10 := blk_frozen BK178.out 10
        have hfz31_11 := blk_frozen BK178.out 11
        have hfz31_12 := blk_frozen BK178.out 12
        go_wp2_with (first | (G2_; refine goesL_ (some 28) rfl rfl Try.func84 (by kernel_rfl) rfl G37_ rfl G0_ ?_; G28_; rintro e w' ⟨rfl, ⟨nd, rfl⟩⟩; refine ⟨_, rfl, ?_⟩) | G26_ | (go_at_call 85; (with_reducible refine (impl_isWord.calls a0_2 false _ A25.out).mono ?_); rintro e w' ⟨rfl, ⟨nd, rfl⟩⟩))
        J5_
      ·replace c24 := Bool.eq_false_iff.mpr c24
       subst c24
       J22_
       have hcz32_0 : wr.cell? ⟨gb178, 0, none⟩ = some (.int .i64 a0_0) := (G13_).trans rfl
       have hcz32_1 : wr.cell? ⟨gb178, 1, none⟩ = some (.int .i64 a0_1) := (G14_).trans rfl
       have hcz32_2 : wr.cell? ⟨gb178, 2, none⟩ = some (.int .i64 a0_2) := (G15_).trans rfl
       have hcz32_3 : wr.cell? ⟨gb178, 3, none⟩ = some (.int .i64 a0_3) := (G16_).trans rfl
       have hcz32_4 : wr.cell? ⟨gb178, 4, none⟩ = some (.string a0_4) := (G17_).trans rfl
       have hcz32_5 : wr.cell? ⟨gb178, 5, none⟩ = some (.int .i64 a0_5) := (G18_).trans rfl
       have hcz32_6 : wr.cell? ⟨gb178, 6, none⟩ = some (.int .i64 a0_6) := (G19_).trans rfl
       have hcz32_7 : wr.cell? ⟨gb178, 7, none⟩ = some (.bool a0_7) := (G20_).trans rfl
       have hcz32_8 : wr.cell? ⟨gb178, 8, none⟩ = some (.string a0_8) := (G21_).trans rfl
       have hcz32_9 : wr.cell? ⟨gb178, 9, none⟩ = some G8_ := (G22_).trans rfl
       have hcz32_10 : wr.cell? ⟨gb178, 10, none⟩ = some (.bool a0_10) := (G10_).trans rfl
       have hcz32_11 : wr.cell? ⟨gb178, 11, none⟩ = some (.int .i64 a0_11) := (G11_).trans rfl
       have hcz32_12 : wr.cell? ⟨gb178, 12, none⟩ = some (.int .i64 a0_12) := (G12_).trans rfl
       have hfz32_0 := blk_frozen BK178.out 0
       have hfz32_1 := blk_frozen BK178.out 1
       have hfz32_2 := blk_frozen BK178.out 2
       have hfz32_3 := blk_frozen BK178.out 3
       have hfz32_4 := blk_frozen BK178.out 4
       have hfz32_5 := blk_frozen BK178.out 5
       have hfz32_6 := blk_frozen BK178.out 6
       have hfz32_7 := blk_frozen BK178.out 7
       have hfz32_8 := blk_frozen BK178.out 8
       have hfz32_9 := blk_frozen BK178.out 9
       have hfz32_10 := blk_frozen BK178.out 10
       have hfz32_11 := blk_frozen BK178.out 11
       have hfz32_12 := blk_frozen BK178.out 12
       go_wp2_with (first | (G2_; refine goesL_ (some 28) rfl rfl Try.func84 (by kernel_rfl) rfl G37_ rfl G0_ ?_; G28_; rintro e w' ⟨rfl, ⟨nd, rfl⟩⟩; refine ⟨_, rfl, ?_⟩) | (go_at_call 85; (with_reducible refine (impl_isWord.calls a0_1 false _ A23.out).mono ?_); rintro e w' ⟨rfl, ⟨nd, rfl⟩⟩))
       J5_
     ·replace c22 := Bool.eq_false_iff.mpr c22
      subst c22
      J22_
      have hcz33_0 : wr.cell? ⟨gb178, 0, none⟩ = some (.int .i64 a0_0) := (G13_).trans rfl
      have hcz33_1 : wr.cell? ⟨gb178, 1, none⟩ = some (.int .i64 a0_1) := (G14_).trans rfl
      have hcz33_2 : wr.cell? ⟨gb178, 2, none⟩ = some (.int .i64 a0_2) := (G15_).trans rfl
      have hcz33_3 : wr.cell? ⟨gb178, 3, none⟩ = some (.int .i64 a0_3) := (G16_).trans rfl
      have hcz33_4 : wr.cell? ⟨gb178, 4, none⟩ = some (.string a0_4) := (G17_).trans rfl
      have hcz33_5 : wr.cell? ⟨gb178, 5, none⟩ = some (.int .i64 a0_5) := (G18_).trans rfl
      have hcz33_6 : wr.cell? ⟨gb178, 6, none⟩ = some (.int .i64 a0_6) := (G19_).trans rfl
      have hcz33_7 : wr.cell? ⟨gb178, 7, none⟩ = some (.bool a0_7) := (G20_).trans rfl
      have hcz33_8 : wr.cell? ⟨gb178, 8, none⟩ = some (.string a0_8) := (G21_).trans rfl
      have hcz33_9 : wr.cell? ⟨gb178, 9, none⟩ = some G8_ := (G22_).trans rfl
      have hcz33_10 : wr.cell? ⟨gb178, 10, none⟩ = some (.bool a0_10) := (G10_).trans rfl
      have hcz33_11 : wr.cell? ⟨gb178, 11, none⟩ = some (.int .i64 a0_11) := (G11_).trans rfl
      have hcz33_12 : wr.cell? ⟨gb178, 12, none⟩ = some (.int .i64 a0_12) := (G12_).trans rfl
      have hfz33_0 := blk_frozen BK178.out 0
      have hfz33_1 := blk_frozen BK178.out 1
      have hfz33_2 := blk_frozen BK178.out 2
      have hfz33_3 := blk_frozen BK178.out 3
      have hfz33_4 := blk_frozen BK178.out 4
      have hfz33_5 := blk_frozen BK178.out 5
      have hfz33_6 := blk_frozen BK178.out 6
      have hfz33_7 := blk_frozen BK178.out 7
      have hfz33_8 := blk_frozen BK178.out 8
      have hfz33_9 := blk_frozen BK178.out 9
      have hfz33_10 := blk_frozen BK178.out 10
      have hfz33_11 := blk_frozen BK178.out 11
      have hfz33_12 := blk_frozen BK178.out 12
      go_wp2_with (first | (G2_; refine goesL_ (some 28) rfl rfl Try.func84 (by kernel_rfl) rfl G37_ rfl G0_ ?_; (with_reducible refine (impl_within.calls a0_0 0 4 false _ A21.out).mono ?_); rintro e w' ⟨rfl, ⟨nd, rfl⟩⟩; refine ⟨_, rfl, ?_⟩))
      J5_
    case rest =>
     clear HC20
     try clear c1
     try clear p1
     try clear q1
     try clear hx1
     try clear c2
     try clear p2
     try clear c4
     try clear c4b0
     try clear c5
     try clear c5b0
     try clear c6
     try clear c6b0
     try clear p6
     try clear c8
     try clear c10
     try clear c12
     try clear c15
     try clear p17
     try clear q17
     try clear hx17
     try clear c18
     try clear c22
     try clear c24
     try clear c26
     try clear c28
     try clear hcz13_0
     try clear hcz13_1
     try clear hcz16_0
     try clear hcz16_1
     try clear hcz19_0
     try clear hcz19_1
     try clear hcz29_0
     try clear hcz29_1
     try clear hcz29_10
     try clear hcz29_11
     try clear hcz29_12
     try clear hcz29_2
     try clear hcz29_3
     try clear hcz29_4
     try clear hcz29_5
     try clear hcz29_6
     try clear hcz29_7
     try clear hcz29_8
     try clear hcz29_9
     try clear hcz30_0
     try clear hcz30_1
     try clear hcz30_10
     try clear hcz30_11
     try clear hcz30_12
     try clear hcz30_2
     try clear hcz30_3
     try clear hcz30_4
     try clear hcz30_5
     try clear hcz30_6
     try clear hcz30_7
     try clear hcz30_8
     try clear hcz30_9
     try clear hcz31_0
     try clear hcz31_1
     try clear hcz31_10
     try clear hcz31_11
     try clear hcz31_12
     try clear hcz31_2
     try clear hcz31_3
     try clear hcz31_4
     try clear hcz31_5
     try clear hcz31_6
     try clear hcz31_7
     try clear hcz31_8
     try clear hcz31_9
     try clear hcz32_0
     try clear hcz32_1
     try clear hcz32_10
     try clear hcz32_11
     try clear hcz32_12
     try clear hcz32_2
     try clear hcz32_3
     try clear hcz32_4
     try clear hcz32_5
     try clear hcz32_6
     try clear hcz32_7
     try clear hcz32_8
     try clear hcz32_9
     try clear hcz33_0
     try clear hcz33_1
     try clear hcz33_10
     try clear hcz33_11
     try clear hcz33_12
     try clear hcz33_2
     try clear hcz33_3
     try clear hcz33_4
     try clear hcz33_5
     try clear hcz33_6
     try clear hcz33_7
     try clear hcz33_8
     try clear hcz33_9
     J23_
     try clear hfz13_0
     try clear hfz13_1
     try clear hfz16_0
     try clear hfz16_1
     try clear hfz19_0
     try clear hfz19_1
     try clear hfz29_0
     try clear hfz29_1
     try clear hfz29_10
     try clear hfz29_11
     try clear hfz29_12
     try clear hfz29_2
     try clear hfz29_3
     try clear hfz29_4
     try clear hfz29_5
     try clear hfz29_6
     try clear hfz29_7
     try clear hfz29_8
     try clear hfz29_9
     try clear hfz30_0
     try clear hfz30_1
     try clear hfz30_10
     try clear hfz30_11
     try clear hfz30_12
     try clear hfz30_2
     try clear hfz30_3
     try clear hfz30_4
     try clear hfz30_5
     try clear hfz30_6
     try clear hfz30_7
     try clear hfz30_8
     try clear hfz30_9
     try clear hfz31_0
     try clear hfz31_1
     try clear hfz31_10
     try clear hfz31_11
     try clear hfz31_12
     try clear hfz31_2
     try clear hfz31_3
     try clear hfz31_4
     try clear hfz31_5
     try clear hfz31_6
     try clear hfz31_7
     try clear hfz31_8
     try clear hfz31_9
     try clear hfz32_0
     try clear hfz32_1
     try clear hfz32_10
     try clear hfz32_11
     try clear hfz32_12
     try clear hfz32_2
     try clear hfz32_3
     try clear hfz32_4
     try clear hfz32_5
     try clear hfz32_6
     try clear hfz32_7
     try clear hfz32_8
     try clear hfz32_9
     try clear hfz33_0
     try clear hfz33_1
     try clear hfz33_10
     try clear hfz33_11
     try clear hfz33_12
     try clear hfz33_2
     try clear hfz33_3
     try clear hfz33_4
     try clear hfz33_5
     try clear hfz33_6
     try clear hfz33_7
     try clear hfz33_8
     try clear hfz33_9
     J24_
     try clear hx179_0
     try clear hx179_1
     try clear p179
     try clear p2
     try clear q179
     obtain ⟨kq, x53_19, rfl, HA, HJ19, BK178, HB⟩ := hcut
     cases kq with
     | zero => exact absurd HA.out (by simp [impl_StreamOk.j1])
     | succ kj19 =>
      have H := HA.out
      clear HA
      simp only [impl_StreamOk.j1] at H
      by_cases c34 : x53_19 = true
      ·subst c34
       J14_
       J12_
       go_wp2
       go_ret
       exact ⟨by first | rfl | (simp [errW_none, errW_some] <;> rfl) | (simp [*, errW_none, errW_some] <;> rfl), by repeat G1_⟩
      ·replace c34 := Bool.eq_false_iff.mpr c34
       subst c34
       rw [if_neg G53_] at H
       J9_
       obtain ⟨t187, A350, H⟩ := H
       J13_
       have A35 := Aside0.mk A350
       clear A350
       by_cases c36 : t187 = true
       ·subst c36
        J14_
        by_cases c37 : a0_6 = 2
        ·rw [if_pos c37] at H
         have c37b0 : (a0_6 == 2) = true := beq_iff_eq.mpr c37
         have c37b1 : (a0_6 != 2) = false := bne_eq_false_iff_eq.mpr c37
         clear c37
         by_cases c38 : a0_5 = (a0_4.size : Int)
         ·rw [if_pos c38] at H
          have c38b0 : (a0_5 == (a0_4.size : Int)) = true := beq_iff_eq.mpr c38
          have c38b1 : (a0_5 != (a0_4.size : Int)) = false := bne_eq_false_iff_eq.mpr c38
          clear c38
          by_cases c39 : a0_6 = 3
          ·rw [if_pos c39] at H
           have c39b0 : (a0_6 == 3) = true := beq_iff_eq.mpr c39
           have c39b1 : (a0_6 != 3) = false := bne_eq_false_iff_eq.mpr c39
           clear c39
           by_cases c40 : (a0_8.size : Int) ≤ 1000
           ·rw [if_pos c40] at H
            have c40b0 : decide ((a0_8.size : Int) ≤ 1000) = true := decide_eq_true c40
            have c40b1 : decide (a0_8.size ≤ 1000) = true := decide_eq_true (by omega)
            clear c40
            obtain ⟨ji41, hji41⟩ : ∃ j_ : Int, (mn (a0_4.size : Int) 24) = j_ := ⟨_, rfl⟩
            replace H : ((impl_within.f a0_5 0 (ji41)).bind fun t188 => (if t188 = true then (if a0_4.toList = ([] : List UInt8) then (if (l0_9.length : Int) ≤ 8 then ((impl_within.f a0_11 0 1000000000).bind fun t189 => (if t189 = true then ((impl_within.f a0_12 0 12).bind fun t190 => (some t190)) else (some false))) else (some false)) else (some false)) else (some false))) = some r := by first | (rw [hji41] at H; exact H) | (simp only [hji41] at H ⊢; exact H)
            (try rw [hji41] at A35)
            have hji41_ : (if 24 < (a0_4.size : Int) then 24 else (a0_4.size : Int)) = ji41 := hji41
            J9_
            obtain ⟨t188, A420, H⟩ := H
            J13_
            have A42 := Aside0.mk A420
            clear A420
            by_cases c43 : t188 = true
            ·subst c43
             J14_
             by_cases c44 : a0_4.toList = ([] : List UInt8)
             ·rw [if_pos c44] at H
              have c44b0 : (a0_4.toList == ([] : List UInt8)) = true := beq_iff_eq.mpr c44
              have c44b1 : (a0_4.toList != ([] : List UInt8)) = false := bne_eq_false_iff_eq.mpr c44
              clear c44
              by_cases c45 : (l0_9.length : Int) ≤ 8
              ·rw [if_pos c45] at H
               have c45b0 : decide ((l0_9.length : Int) ≤ 8) = true := decide_eq_true c45
               have c45b1 : decide (l0_9.length ≤ 8) = true := decide_eq_true (by omega)
               clear c45
               J9_
               obtain ⟨t189, A460, H⟩ := H
               J13_
               have A46 := Aside0.mk A460
               clear A460
               by_cases c47 : t189 = true
               ·subst c47
                J14_
                J9_
                obtain ⟨t190, A480, H⟩ := H
                J13_
                have A48 := Aside0.mk A480
                clear A480
                J12_
                have hcz49_0 : wc.cell? ⟨gb178, 0, none⟩ = some (.int .i64 a0_0) := (G13_).trans rfl
                have hcz49_1 : wc.cell? ⟨gb178, 1, none⟩ = some (.int .i64 a0_1) := (G14_).trans rfl
                have hcz49_2 : wc.cell? ⟨gb178, 2, none⟩ = some (.int .i64 a0_2) := (G15_).trans rfl
                have hcz49_3 : wc.cell? ⟨gb178, 3, none⟩ = some (.int .i64 a0_3) := (G16_).trans rfl
                have hcz49_4 : wc.cell? ⟨gb178, 4, none⟩ = some (.string a0_4) := (G17_).trans rfl
                have hcz49_5 : wc.cell? ⟨gb178, 5, none⟩ = some (.int .i64 a0_5) := (G18_).trans rfl
                have hcz49_6 : wc.cell? ⟨gb178, 6, none⟩ = some (.int .i64 a0_6) := (G19_).trans rfl
                have hcz49_7 : wc.cell? ⟨gb178, 7, none⟩ = some (.bool a0_7) := (G20_).trans rfl
                have hcz49_8 : wc.cell? ⟨gb178, 8, none⟩ = some (.string a0_8) := (G21_).trans rfl
                have hcz49_9 : wc.cell? ⟨gb178, 9, none⟩ = some G8_ := (G22_).trans rfl
                have hcz49_10 : wc.cell? ⟨gb178, 10, none⟩ = some (.bool a0_10) := (G10_).trans rfl
                have hcz49_11 : wc.cell? ⟨gb178, 11, none⟩ = some (.int .i64 a0_11) := (G11_).trans rfl
                have hcz49_12 : wc.cell? ⟨gb178, 12, none⟩ = some (.int .i64 a0_12) := (G12_).trans rfl
                have hfz49_0 := blk_frozen BK178.out 0
                have hfz49_1 := blk_frozen BK178.out 1
                have hfz49_2 := blk_frozen BK178.out 2
                have hfz49_3 := blk_frozen BK178.out 3
                have hfz49_4 := blk_frozen BK178.out 4
                have hfz49_5 := blk_frozen BK178.out 5
                have hfz49_6 := blk_frozen BK178.out 6
                have hfz49_7 := blk_frozen BK178.out 7
                have hfz49_8 := blk_frozen BK178.out 8
                have hfz49_9 := blk_frozen BK178.out 9
                have hfz49_10 := blk_frozen BK178.out 10
                have hfz49_11 := blk_frozen BK178.out 11
                have hfz49_12 := blk_frozen BK178.out 12
                go_wp2_with (first | (G2_; refine goesL_ (some 56) rfl rfl Try.func84 (by kernel_rfl) rfl G7_ rfl G0_ ?_; G4_; rintro e w' ⟨rfl, ⟨nd, rfl⟩⟩; refine ⟨_, rfl, ?_⟩) | (G2_; refine goesL_ (some 96) rfl rfl Try.func84 (by kernel_rfl) rfl G46_ rfl G34_ ?_; G39_; rintro e w' ⟨rfl, ⟨nd, rfl⟩⟩; refine ⟨_, rfl, ?_⟩) | (go_at_call 84; (with_reducible refine (impl_within.calls a0_11 0 1000000000 true _ A46.out).mono ?_); rintro e w' ⟨rfl, ⟨nd, rfl⟩⟩) | (go_at_call 84; (with_reducible refine (impl_within.calls a0_12 0 12 t190 _ A48.out).mono ?_); rintro e w' ⟨rfl, ⟨nd, rfl⟩⟩))
                J0_
               ·replace c47 := Bool.eq_false_iff.mpr c47
                subst c47
                J2_
                have hcz50_0 : wc.cell? ⟨gb178, 0, none⟩ = some (.int .i64 a0_0) := (G13_).trans rfl
                have hcz50_1 : wc.cell? ⟨gb178, 1, none⟩ = some (.int .i64 a0_1) := (G14_).trans rfl
                have hcz50_2 : wc.cell? ⟨gb178, 2, none⟩ = some (.int .i64 a0_2) := (G15_).trans rfl
                have hcz50_3 : wc.cell? ⟨gb178, 3, none⟩ = some (.int .i64 a0_3) := (G16_).trans rfl
                have hcz50_4 : wc.cell? ⟨gb178, 4, none⟩ = some (.string a0_4) := (G17_).trans rfl
                have hcz50_5 : wc.cell? ⟨gb178, 5, none⟩ = some (.int .i64 a0_5) := (G18_).trans rfl
                have hcz50_6 : wc.cell? ⟨gb178, 6, none⟩ = some (.int .i64 a0_6) := (G19_).trans rfl
                have hcz50_7 : wc.cell? ⟨gb178, 7, none⟩ = some (.bool a0_7) := (G20_).trans rfl
                have hcz50_8 : wc.cell? ⟨gb178, 8, none⟩ = some (.string a0_8) := (G21_).trans rfl
                have hcz50_9 : wc.cell? ⟨gb178, 9, none⟩ = some G8_ := (G22_).trans rfl
                have hcz50_10 : wc.cell? ⟨gb178, 10, none⟩ = some (.bool a0_10) := (G10_).trans rfl
                have hcz50_11 : wc.cell? ⟨gb178, 11, none⟩ = some (.int .i64 a0_11) := (G11_).trans rfl
                have hcz50_12 : wc.cell? ⟨gb178, 12, none⟩ = some (.int .i64 a0_12) := (G12_).trans rfl
                have hfz50_0 := blk_frozen BK178.out 0
                have hfz50_1 := blk_frozen BK178.out 1
                have hfz50_2 := blk_frozen BK178.out 2
                have hfz50_3 := blk_frozen BK178.out 3
                have hfz50_4 := blk_frozen BK178.out 4
                have hfz50_5 := blk_frozen BK178.out 5
                have hfz50_6 := blk_frozen BK178.out 6
                have hfz50_7 := blk_frozen BK178.out 7
                have hfz50_8 := blk_frozen BK178.out 8
                have hfz50_9 := blk_frozen BK178.out 9
                have hfz50_10 := blk_frozen BK178.out 10
                have hfz50_11 := blk_frozen BK178.out 11
                have hfz50_12 := blk_frozen BK178.out 12
                go_wp2_with (first | (G2_; refine goesL_ (some 56) rfl rfl Try.func84 (by kernel_rfl) rfl G7_ rfl G0_ ?_; G4_; rintro e w' ⟨rfl, ⟨nd, rfl⟩⟩; refine ⟨_, rfl, ?_⟩) | (G2_; refine goesL_ (some 96) rfl rfl Try.func84 (by kernel_rfl) rfl G46_ rfl G34_ ?_; G39_; rintro e w' ⟨rfl, ⟨nd, rfl⟩⟩; refine ⟨_, rfl, ?_⟩) | (go_at_call 84; (with_reducible refine (impl_within.calls a0_11 0 1000000000 false _ A46.out).mono ?_); rintro e w' ⟨rfl, ⟨nd, rfl⟩⟩))
                J0_
              ·rw [if_neg c45] at H
               have c45b0 : decide ((l0_9.length : Int) ≤ 8) = false := decide_eq_false c45
               have c45b1 : decide (l0_9.length ≤ 8) = false := decide_eq_false (by omega)
               clear c45
               J12_
               have hcz51_0 : wc.cell? ⟨gb178, 0, none⟩ = some (.int .i64 a0_0) := (G13_).trans rfl
               have hcz51_1 : wc.cell? ⟨gb178, 1, none⟩ = some (.int .i64 a0_1) := (G14_).trans rfl
               have hcz51_2 : wc.cell? ⟨gb178, 2, none⟩ = some (.int .i64 a0_2) := (G15_).trans rfl
               have hcz51_3 : wc.cell? ⟨gb178, 3, none⟩ = some (.int .i64 a0_3) := (G16_).trans rfl
               have hcz51_4 : wc.cell? ⟨gb178, 4, none⟩ = some (.string a0_4) := (G17_).trans rfl
               have hcz51_5 : wc.cell? ⟨gb178, 5, none⟩ = some (.int .i64 a0_5) := (G18_).trans rfl
               have hcz51_6 : wc.cell? ⟨gb178, 6, none⟩ = some (.int .i64 a0_6) := (G19_).trans rfl
               have hcz51_7 : wc.cell? ⟨gb178, 7, none⟩ = some (.bool a0_7) := (G20_).trans rfl
               have hcz51_8 : wc.cell? ⟨gb178, 8, none⟩ = some (.string a0_8) := (G21_).trans rfl
               have hcz51_9 : wc.cell? ⟨gb178, 9, none⟩ = some G8_ := (G22_).trans rfl
               have hcz51_10 : wc.cell? ⟨gb178, 10, none⟩ = some (.bool a0_10) := (G10_).trans rfl
               have hcz51_11 : wc.cell? ⟨gb178, 11, none⟩ = some (.int .i64 a0_11) := (G11_).trans rfl
               have hcz51_12 : wc.cell? ⟨gb178, 12, none⟩ = some (.int .i64 a0_12) := (G12_).trans rfl
               have hfz51_0 := blk_frozen BK178.out 0
               have hfz51_1 := blk_frozen BK178.out 1
               have hfz51_2 := blk_frozen BK178.out 2
               have hfz51_3 := blk_frozen BK178.out 3
               have hfz51_4 := blk_frozen BK178.out 4
               have hfz51_5 := blk_frozen BK178.out 5
               have hfz51_6 := blk_frozen BK178.out 6
               have hfz51_7 := blk_frozen BK178.out 7
               have hfz51_8 := blk_frozen BK178.out 8
               have hfz51_9 := blk_frozen BK178.out 9
               have hfz51_10 := blk_frozen BK178.out 10
               have hfz51_11 := blk_frozen BK178.out 11
               have hfz51_12 := blk_frozen BK178.out 12
               J10_
               J0_
             ·rw [if_neg c44] at H
              have c44b0 : (a0_4.toList == ([] : List UInt8)) = false := beq_eq_false_iff_ne.mpr c44
              have c44b1 : (a0_4.toList != ([] : List UInt8)) = true := bne_iff_ne.mpr c44
              J12_
              have hcz52_0 : wc.cell? ⟨gb178, 0, none⟩ = some (.int .i64 a0_0) := (G13_).trans rfl
              have hcz52_1 : wc.cell? ⟨gb178, 1, none⟩ = some (.int .i64 a0_1) := (G14_).trans rfl
              have hcz52_2 : wc.cell? ⟨gb178, 2, none⟩ = some (.int .i64 a0_2) := (G15_).trans rfl
              have hcz52_3 : wc.cell? ⟨gb178, 3, none⟩ = some (.int .i64 a0_3) := (G16_).trans rfl
              have hcz52_4 : wc.cell? ⟨gb178, 4, none⟩ = some (.string a0_4) := (G17_).trans rfl
              have hcz52_5 : wc.cell? ⟨gb178, 5, none⟩ = some (.int .i64 a0_5) := (G18_).trans rfl
              have hcz52_6 : wc.cell? ⟨gb178, 6, none⟩ = some (.int .i64 a0_6) := (G19_).trans rfl
              have hcz52_7 : wc.cell? ⟨gb178, 7, none⟩ = some (.bool a0_7) := (G20_).trans rfl
              have hcz52_8 : wc.cell? ⟨gb178, 8, none⟩ = some (.string a0_8) := (G21_).trans rfl
              have hcz52_9 : wc.cell? ⟨gb178, 9, none⟩ = some G8_ := (G22_).trans rfl
              have hcz52_10 : wc.cell? ⟨gb178, 10, none⟩ = some (.bool a0_10) := (G10_).trans rfl
              have hcz52_11 : wc.cell? ⟨gb178, 11, none⟩ = some (.int .i64 a0_11) := (G11_).trans rfl
              have hcz52_12 : wc.cell? ⟨gb178, 12, none⟩ = some (.int .i64 a0_12) := (G12_).trans rfl
              have hfz52_0 := blk_frozen BK178.out 0
              have hfz52_1 := blk_frozen BK178.out 1
              have hfz52_2 := blk_frozen BK178.out 2
              have hfz52_3 := blk_frozen BK178.out 3
              have hfz52_4 := blk_frozen BK178.out 4
              have hfz52_5 := blk_frozen BK178.out 5
              have hfz52_6 := blk_frozen BK178.out 6
              have hfz52_7 := blk_frozen BK178.out 7
              have hfz52_8 := blk_frozen BK178.out 8
              have hfz52_9 := blk_frozen BK178.out 9
              have hfz52_10 := blk_frozen BK178.out 10
              have hfz52_11 := blk_frozen BK178.out 11
              have hfz52_12 := blk_frozen BK178.out 12
              J10_
              J0_
            ·replace c43 := Bool.eq_false_iff.mpr c43
             subst c43
             J2_
             have hcz53_0 : wc.cell? ⟨gb178, 0, none⟩ = some (.int .i64 a0_0) := (G13_).trans rfl
             have hcz53_1 : wc.cell? ⟨gb178, 1, none⟩ = some (.int .i64 a0_1) := (G14_).trans rfl
             have hcz53_2 : wc.cell? ⟨gb178, 2, none⟩ = some (.int .i64 a0_2) := (G15_).trans rfl
             have hcz53_3 : wc.cell? ⟨gb178, 3, none⟩ = some (.int .i64 a0_3) := (G16_).trans rfl
             have hcz53_4 : wc.cell? ⟨gb178, 4, none⟩ = some (.string a0_4) := (G17_).trans rfl
             have hcz53_5 : wc.cell? ⟨gb178, 5, none⟩ = some (.int .i64 a0_5) := (G18_).trans rfl
             have hcz53_6 : wc.cell? ⟨gb178, 6, none⟩ = some (.int .i64 a0_6) := (G19_).trans rfl
             have hcz53_7 : wc.cell? ⟨gb178, 7, none⟩ = some (.bool a0_7) := (G20_).trans rfl
             have hcz53_8 : wc.cell? ⟨gb178, 8, none⟩ = some (.string a0_8) := (G21_).trans rfl
             have hcz53_9 : wc.cell? ⟨gb178, 9, none⟩ = some G8_ := (G22_).trans rfl
             have hcz53_10 : wc.cell? ⟨gb178, 10, none⟩ = some (.bool a0_10) := (G10_).trans rfl
             have hcz53_11 : wc.cell? ⟨gb178, 11, none⟩ = some (.int .i64 a0_11) := (G11_).trans rfl
             have hcz53_12 : wc.cell? ⟨gb178, 12, none⟩ = some (.int .i64 a0_12) := (G12_).trans rfl
             have hfz53_0 := blk_frozen BK178.out 0
             have hfz53_1 := blk_frozen BK178.out 1
             have hfz53_2 := blk_frozen BK178.out 2
             have hfz53_3 := blk_frozen BK178.out 3
             have hfz53_4 := blk_frozen BK178.out 4
             have hfz53_5 := blk_frozen BK178.out 5
             have hfz53_6 := blk_frozen BK178.out 6
             have hfz53_7 := blk_frozen BK178.out 7
             have hfz53_8 := blk_frozen BK178.out 8
             have hfz53_9 := blk_frozen BK178.out 9
             have hfz53_10 := blk_frozen BK178.out 10
             have hfz53_11 := blk_frozen BK178.out 11
             have hfz53_12 := blk_frozen BK178.out 12
             go_wp2_with (first | (G2_; refine goesL_ (some 56) rfl rfl Try.func84 (by kernel_rfl) rfl G7_ rfl G0_ ?_; G4_; rintro e w' ⟨rfl, ⟨nd, rfl⟩⟩; refine ⟨_, rfl, ?_⟩) | (G2_; refine goesL_ (some 96) rfl rfl Try.func84 (by kernel_rfl) rfl G46_ rfl G34_ ?_; (with_reducible refine (impl_within.calls a0_5 0 ji41 false _ A42.out).mono ?_); rintro e w' ⟨rfl, ⟨nd, rfl⟩⟩; refine ⟨_, rfl, ?_⟩))
             J0_
           ·rw [if_neg c40] at H
            have c40b0 : decide ((a0_8.size : Int) ≤ 1000) = false := decide_eq_false c40
            have c40b1 : decide (a0_8.size ≤ 1000) = false := decide_eq_false (by omega)
            clear c40
            obtain ⟨ji54, hji54⟩ : ∃ j_ : Int, (mn (a0_4.size : Int) 24) = j_ := ⟨_, rfl⟩
            replace H : ((impl_within.f a0_5 0 (ji54)).bind fun t191 => (if t191 = true then (if a0_4.toList = ([] : List UInt8) then (some false) else (some false)) else (some false))) = some r := by first | (rw [hji54] at H; exact H) | (simp only [hji54] at H ⊢; exact H)
            (try rw [hji54] at A35)
            have hji54_ : (if 24 < (a0_4.size : Int) then 24 else (a0_4.size : Int)) = ji54 := hji54
            J9_
            obtain ⟨t191, A550, H⟩ := H
            J13_
            have A55 := Aside0.mk A550
            clear A550
            by_cases c56 : t191 = true
            ·subst c56
             J14_
             by_cases c57 : a0_4.toList = ([] : List UInt8)
             ·rw [if_pos c57] at H
              have c57b0 : (a0_4.toList == ([] : List UInt8)) = true := beq_iff_eq.mpr c57
              have c57b1 : (a0_4.toList != ([] : List UInt8)) = false := bne_eq_false_iff_eq.mpr c57
              clear c57
              J12_
              have hcz58_0 : wc.cell? ⟨gb178, 0, none⟩ = some (.int .i64 a0_0) := (G13_).trans rfl
              have hcz58_1 : wc.cell? ⟨gb178, 1, none⟩ = some (.int .i64 a0_1) := (G14_).trans rfl
              have hcz58_2 : wc.cell? ⟨gb178, 2, none⟩ = some (.int .i64 a0_2) := (G15_).trans rfl
              have hcz58_3 : wc.cell? ⟨gb178, 3, none⟩ = some (.int .i64 a0_3) := (G16_).trans rfl
              have hcz58_4 : wc.cell? ⟨gb178, 4, none⟩ = some (.string a0_4) := (G17_).trans rfl
              have hcz58_5 : wc.cell? ⟨gb178, 5, none⟩ = some (.int .i64 a0_5) := (G18_).trans rfl
              have hcz58_6 : wc.cell? ⟨gb178, 6, none⟩ = some (.int .i64 a0_6) := (G19_).trans rfl
              have hcz58_7 : wc.cell? ⟨gb178, 7, none⟩ = some (.bool a0_7) := (G20_).trans rfl
              have hcz58_8 : wc.cell? ⟨gb178, 8, none⟩ = some (.string a0_8) := (G21_).trans rfl
              have hcz58_9 : wc.cell? ⟨gb178, 9, none⟩ = some G8_ := (G22_).trans rfl
              have hcz58_10 : wc.cell? ⟨gb178, 10, none⟩ = some (.bool a0_10) := (G10_).trans rfl
              have hcz58_11 : wc.cell? ⟨gb178, 11, none⟩ = some (.int .i64 a0_11) := (G11_).trans rfl
              have hcz58_12 : wc.cell? ⟨gb178, 12, none⟩ = some (.int .i64 a0_12) := (G12_).trans rfl
              have hfz58_0 := blk_frozen BK178.out 0
              have hfz58_1 := blk_frozen BK178.out 1
              have hfz58_2 := blk_frozen BK178.out 2
              have hfz58_3 := blk_frozen BK178.out 3
              have hfz58_4 := blk_frozen BK178.out 4
              have hfz58_5 := blk_frozen BK178.out 5
              have hfz58_6 := blk_frozen BK178.out 6
              have hfz58_7 := blk_frozen BK178.out 7
              have hfz58_8 := blk_frozen BK178.out 8
              have hfz58_9 := blk_frozen BK178.out 9
              have hfz58_10 := blk_frozen BK178.out 10
              have hfz58_11 := blk_frozen BK178.out 11
              have hfz58_12 := blk_frozen BK178.out 12
              J4_
             ·rw [if_neg c57] at H
              have c57b0 : (a0_4.toList == ([] : List UInt8)) = false := beq_eq_false_iff_ne.mpr c57
              have c57b1 : (a0_4.toList != ([] : List UInt8)) = true := bne_iff_ne.mpr c57
              J12_
              have hcz59_0 : wc.cell? ⟨gb178, 0, none⟩ = some (.int .i64 a0_0) := (G13_).trans rfl
              have hcz59_1 : wc.cell? ⟨gb178, 1, none⟩ = some (.int .i64 a0_1) := (G14_).trans rfl
              have hcz59_2 : wc.cell? ⟨gb178, 2, none⟩ = some (.int .i64 a0_2) := (G15_).trans rfl
              have hcz59_3 : wc.cell? ⟨gb178, 3, none⟩ = some (.int .i64 a0_3) := (G16_).trans rfl
              have hcz59_4 : wc.cell? ⟨gb178, 4, none⟩ = some (.string a0_4) := (G17_).trans rfl
              have hcz59_5 : wc.cell? ⟨gb178, 5, none⟩ = some (.int .i64 a0_5) := (G18_).trans rfl
              have hcz59_6 : wc.cell? ⟨gb178, 6, none⟩ = some (.int .i64 a0_6) := (G19_).trans rfl
              have hcz59_7 : wc.cell? ⟨gb178, 7, none⟩ = some (.bool a0_7) := (G20_).trans rfl
              have hcz59_8 : wc.cell? ⟨gb178, 8, none⟩ = some (.string a0_8) := (G21_).trans rfl
              have hcz59_9 : wc.cell? ⟨gb178, 9, none⟩ = some G8_ := (G22_).trans rfl
              have hcz59_10 : wc.cell? ⟨gb178, 10, none⟩ = some (.bool a0_10) := (G10_).trans rfl
              have hcz59_11 : wc.cell? ⟨gb178, 11, none⟩ = some (.int .i64 a0_11) := (G11_).trans rfl
              have hcz59_12 : wc.cell? ⟨gb178, 12, none⟩ = some (.int .i64 a0_12) := (G12_).trans rfl
              have hfz59_0 := blk_frozen BK178.out 0
              have hfz59_1 := blk_frozen BK178.out 1
              have hfz59_2 := blk_frozen BK178.out 2
              have hfz59_3 := blk_frozen BK178.out 3
              have hfz59_4 := blk_frozen BK178.out 4
              have hfz59_5 := blk_frozen BK178.out 5
              have hfz59_6 := blk_frozen BK178.out 6
              have hfz59_7 := blk_frozen BK178.out 7
              have hfz59_8 := blk_frozen BK178.out 8
              have hfz59_9 := blk_frozen BK178.out 9
              have hfz59_10 := blk_frozen BK178.out 10
              have hfz59_11 := blk_frozen BK178.out 11
              have hfz59_12 := blk_frozen BK178.out 12
              J4_
            ·replace c56 := Bool.eq_false_iff.mpr c56
             subst c56
             J2_
             have hcz60_0 : wc.cell? ⟨gb178, 0, none⟩ = some (.int .i64 a0_0) := (G13_).trans rfl
             have hcz60_1 : wc.cell? ⟨gb178, 1, none⟩ = some (.int .i64 a0_1) := (G14_).trans rfl
             have hcz60_2 : wc.cell? ⟨gb178, 2, none⟩ = some (.int .i64 a0_2) := (G15_).trans rfl
             have hcz60_3 : wc.cell? ⟨gb178, 3, none⟩ = some (.int .i64 a0_3) := (G16_).trans rfl
             have hcz60_4 : wc.cell? ⟨gb178, 4, none⟩ = some (.string a0_4) := (G17_).trans rfl
             have hcz60_5 : wc.cell? ⟨gb178, 5, none⟩ = some (.int .i64 a0_5) := (G18_).trans rfl
             have hcz60_6 : wc.cell? ⟨gb178, 6, none⟩ = some (.int .i64 a0_6) := (G19_).trans rfl
             have hcz60_7 : wc.cell? ⟨gb178, 7, none⟩ = some (.bool a0_7) := (G20_).trans rfl
             have hcz60_8 : wc.cell? ⟨gb178, 8, none⟩ = some (.string a0_8) := (G21_).trans rfl
             have hcz60_9 : wc.cell? ⟨gb178, 9, none⟩ = some G8_ := (G22_).trans rfl
             have hcz60_10 : wc.cell? ⟨gb178, 10, none⟩ = some (.bool a0_10) := (G10_).trans rfl
             have hcz60_11 : wc.cell? ⟨gb178, 11, none⟩ = some (.int .i64 a0_11) := (G11_).trans rfl
             have hcz60_12 : wc.cell? ⟨gb178, 12, none⟩ = some (.int .i64 a0_12) := (G12_).trans rfl
             have hfz60_0 := blk_frozen BK178.out 0
             have hfz60_1 := blk_frozen BK178.out 1
             have hfz60_2 := blk_frozen BK178.out 2
             have hfz60_3 := blk_frozen BK178.out 3
             have hfz60_4 := blk_frozen BK178.out 4
             have hfz60_5 := blk_frozen BK178.out 5
             have hfz60_6 := blk_frozen BK178.out 6
             have hfz60_7 := blk_frozen BK178.out 7
             have hfz60_8 := blk_frozen BK178.out 8
             have hfz60_9 := blk_frozen BK178.out 9
             have hfz60_10 := blk_frozen BK178.out 10
             have hfz60_11 := blk_frozen BK178.out 11
             have hfz60_12 := blk_frozen BK178.out 12
             go_wp2_with (first | (G2_; refine goesL_ (some 56) rfl rfl Try.func84 (by kernel_rfl) rfl G7_ rfl G0_ ?_; G4_; rintro e w' ⟨rfl, ⟨nd, rfl⟩⟩; refine ⟨_, rfl, ?_⟩) | (G2_; refine goesL_ (some 96) rfl rfl Try.func84 (by kernel_rfl) rfl #[.int .i64 a0_5, .int .i64 0, .int .i64 ji54] rfl (by G5_; first | done | (simp only [hji54]; rfl) | rfl | G6_) ?_; (with_reducible refine (impl_within.calls a0_5 0 ji54 false _ A55.out).mono ?_); rintro e w' ⟨rfl, ⟨nd, rfl⟩⟩; refine ⟨_, rfl, ?_⟩))
             go_ret
             exact G30_
          ·rw [if_neg c39] at H
           have c39b0 : (a0_6 == 3) = false := beq_eq_false_iff_ne.mpr c39
           have c39b1 : (a0_6 != 3) = true := bne_iff_ne.mpr c39
           by_cases c61 : (a0_8.size : Int) ≤ 1000
           ·rw [if_pos c61] at H
            have c61b0 : decide ((a0_8.size : Int) ≤ 1000) = true := decide_eq_true c61
            have c61b1 : decide (a0_8.size ≤ 1000) = true := decide_eq_true (by omega)
            clear c61
            obtain ⟨ji62, hji62⟩ : ∃ j_ : Int, (mn (a0_4.size : Int) 24) = j_ := ⟨_, rfl⟩
            replace H : ((impl_within.f a0_5 0 (ji62)).bind fun t192 => (if t192 = true then (if (l0_9.length : Int) ≤ 8 then ((impl_within.f a0_11 0 1000000000).bind fun t193 => (if t193 = true then ((impl_within.f a0_12 0 12).bind fun t194 => (some t194)) else (some false))) else (some false)) else (some false))) = some r := by first | (rw [hji62] at H; exact H) | (simp only [hji62] at H ⊢; exact H)
            (try rw [hji62] at A35)
            have hji62_ : (if 24 < (a0_4.size : Int) then 24 else (a0_4.size : Int)) = ji62 := hji62
            J9_
            obtain ⟨t192, A630, H⟩ := H
            J13_
            have A63 := Aside0.mk A630
            clear A630
            by_cases c64 : t192 = true
            ·subst c64
             J14_
             by_cases c65 : (l0_9.length : Int) ≤ 8
             ·rw [if_pos c65] at H
              have c65b0 : decide ((l0_9.length : Int) ≤ 8) = true := decide_eq_true c65
              have c65b1 : decide (l0_9.length ≤ 8) = true := decide_eq_true (by omega)
              clear c65
              J9_
              obtain ⟨t193, A660, H⟩ := H
              J13_
              have A66 := Aside0.mk A660
              clear A660
              by_cases c67 : t193 = true
              ·subst c67
               J14_
               J9_
               obtain ⟨t194, A680, H⟩ := H
               J13_
               have A68 := Aside0.mk A680
               clear A680
               J12_
               have hcz69_0 : wc.cell? ⟨gb178, 0, none⟩ = some (.int .i64 a0_0) := (G13_).trans rfl
               have hcz69_1 : wc.cell? ⟨gb178, 1, none⟩ = some (.int .i64 a0_1) := (G14_).trans rfl
               have hcz69_2 : wc.cell? ⟨gb178, 2, none⟩ = some (.int .i64 a0_2) := (G15_).trans rfl
               have hcz69_3 : wc.cell? ⟨gb178, 3, none⟩ = some (.int .i64 a0_3) := (G16_).trans rfl
               have hcz69_4 : wc.cell? ⟨gb178, 4, none⟩ = some (.string a0_4) := (G17_).trans rfl
               have hcz69_5 : wc.cell? ⟨gb178, 5, none⟩ = some (.int .i64 a0_5) := (G18_).trans rfl
               have hcz69_6 : wc.cell? ⟨gb178, 6, none⟩ = some (.int .i64 a0_6) := (G19_).trans rfl
               have hcz69_7 : wc.cell? ⟨gb178, 7, none⟩ = some (.bool a0_7) := (G20_).trans rfl
               have hcz69_8 : wc.cell? ⟨gb178, 8, none⟩ = some (.string a0_8) := (G21_).trans rfl
               have hcz69_9 : wc.cell? ⟨gb178, 9, none⟩ = some G8_ := (G22_).trans rfl
               have hcz69_10 : wc.cell? ⟨gb178, 10, none⟩ = some (.bool a0_10) := (G10_).trans rfl
               have hcz69_11 : wc.cell? ⟨gb178, 11, none⟩ = some (.int .i64 a0_11) := (G11_).trans rfl
               have hcz69_12 : wc.cell? ⟨gb178, 12, none⟩ = some (.int .i64 a0_12) := (G12_).trans rfl
               have hfz69_0 := blk_frozen BK178.out 0
               have hfz69_1 := blk_frozen BK178.out 1
               have hfz69_2 := blk_frozen BK178.out 2
               have hfz69_3 := blk_frozen BK178.out 3
               have hfz69_4 := blk_frozen BK178.out 4
               have hfz69_5 := blk_frozen BK178.out 5
               have hfz69_6 := blk_frozen BK178.out 6
               have hfz69_7 := blk_frozen BK178.out 7
               have hfz69_8 := blk_frozen BK178.out 8
               have hfz69_9 := blk_frozen BK178.out 9
               have hfz69_10 := blk_frozen BK178.out 10
               have hfz69_11 := blk_frozen BK178.out 11
               have hfz69_12 := blk_frozen BK178.out 12
               go_wp2_with (first | (G2_; refine goesL_ (some 56) rfl rfl Try.func84 (by kernel_rfl) rfl G7_ rfl G0_ ?_; G4_; rintro e w' ⟨rfl, ⟨nd, rfl⟩⟩; refine ⟨_, rfl, ?_⟩) | (G2_; refine goesL_ (some 96) rfl rfl Try.func84 (by kernel_rfl) rfl G47_ rfl G35_ ?_; G40_; rintro e w' ⟨rfl, ⟨nd, rfl⟩⟩; refine ⟨_, rfl, ?_⟩) | (go_at_call 84; (with_reducible refine (impl_within.calls a0_11 0 1000000000 true _ A66.out).mono ?_); rintro e w' ⟨rfl, ⟨nd, rfl⟩⟩) | (go_at_call 84; (with_reducible refine (impl_within.calls a0_12 0 12 t194 _ A68.out).mono ?_); rintro e w' ⟨rfl, ⟨nd, rfl⟩⟩))
               J8_
              ·replace c67 := Bool.eq_false_iff.mpr c67
               subst c67
               J2_
               have hcz70_0 : wc.cell? ⟨gb178, 0, none⟩ = some (.int .i64 a0_0) := (G13_).trans rfl
               have hcz70_1 : wc.cell? ⟨gb178, 1, none⟩ = some (.int .i64 a0_1) := (G14_).trans rfl
               have hcz70_2 : wc.cell? ⟨gb178, 2, none⟩ = some (.int .i64 a0_2) := (G15_).trans rfl
               have hcz70_3 : wc.cell? ⟨gb178, 3, none⟩ = some (.int .i64 a0_3) := (G16_).trans rfl
               have hcz70_4 : wc.cell? ⟨gb178, 4, none⟩ = some (.string a0_4) := (G17_).trans rfl
               have hcz70_5 : wc.cell? ⟨gb178, 5, none⟩ = some (.int .i64 a0_5) := (G18_).trans rfl
               have hcz70_6 : wc.cell? ⟨gb178, 6, none⟩ = some (.int .i64 a0_6) := (G19_).trans rfl
               have hcz70_7 : wc.cell? ⟨gb178, 7, none⟩ = some (.bool a0_7) := (G20_).trans rfl
               have hcz70_8 : wc.cell? ⟨gb178, 8, none⟩ = some (.string a0_8) := (G21_).trans rfl
               have hcz70_9 : wc.cell? ⟨gb178, 9, none⟩ = some G8_ := (G22_).trans rfl
               have hcz70_10 : wc.cell? ⟨gb178, 10, none⟩ = some (.bool a0_10) := (G10_).trans rfl
               have hcz70_11 : wc.cell? ⟨gb178, 11, none⟩ = some (.int .i64 a0_11) := (G11_).trans rfl
               have hcz70_12 : wc.cell? ⟨gb178, 12, none⟩ = some (.int .i64 a0_12) := (G12_).trans rfl
               have hfz70_0 := blk_frozen BK178.out 0
               have hfz70_1 := blk_frozen BK178.out 1
               have hfz70_2 := blk_frozen BK178.out 2
               have hfz70_3 := blk_frozen BK178.out 3
               have hfz70_4 := blk_frozen BK178.out 4
               have hfz70_5 := blk_frozen BK178.out 5
               have hfz70_6 := blk_frozen BK178.out 6
               have hfz70_7 := blk_frozen BK178.out 7
               have hfz70_8 := blk_frozen BK178.out 8
               have hfz70_9 := blk_frozen BK178.out 9
               have hfz70_10 := blk_frozen BK178.out 10
               have hfz70_11 := blk_frozen BK178.out 11
               have hfz70_12 := blk_frozen BK178.out 12
               go_wp2_with (first | (G2_; refine goesL_ (some 56) rfl rfl Try.func84 (by kernel_rfl) rfl G7_ rfl G0_ ?_; G4_; rintro e w' ⟨rfl, ⟨nd, rfl⟩⟩; refine ⟨_, rfl, ?_⟩) | (G2_; refine goesL_ (some 96) rfl rfl Try.func84 (by kernel_rfl) rfl G47_ rfl G35_ ?_; G40_; rintro e w' ⟨rfl, ⟨nd, rfl⟩⟩; refine ⟨_, rfl, ?_⟩) | (go_at_call 84; (with_reducible refine (impl_within.calls a0_11 0 1000000000 false _ A66.out).mono ?_); rintro e w' ⟨rfl, ⟨nd, rfl⟩⟩))
               J8_
             ·rw [if_neg c65] at H
              have c65b0 : decide ((l0_9.length : Int) ≤ 8) = false := decide_eq_false c65
              have c65b1 : decide (l0_9.length ≤ 8) = false := decide_eq_false (by omega)
              clear c65
              J12_
              have hcz71_0 : wc.cell? ⟨gb178, 0, none⟩ = some (.int .i64 a0_0) := (G13_).trans rfl
              have hcz71_1 : wc.cell? ⟨gb178, 1, none⟩ = some (.int .i64 a0_1) := (G14_).trans rfl
              have hcz71_2 : wc.cell? ⟨gb178, 2, none⟩ = some (.int .i64 a0_2) := (G15_).trans rfl
              have hcz71_3 : wc.cell? ⟨gb178, 3, none⟩ = some (.int .i64 a0_3) := (G16_).trans rfl
              have hcz71_4 : wc.cell? ⟨gb178, 4, none⟩ = some (.string a0_4) := (G17_).trans rfl
              have hcz71_5 : wc.cell? ⟨gb178, 5, none⟩ = some (.int .i64 a0_5) := (G18_).trans rfl
              have hcz71_6 : wc.cell? ⟨gb178, 6, none⟩ = some (.int .i64 a0_6) := (G19_).trans rfl
              have hcz71_7 : wc.cell? ⟨gb178, 7, none⟩ = some (.bool a0_7) := (G20_).trans rfl
              have hcz71_8 : wc.cell? ⟨gb178, 8, none⟩ = some (.string a0_8) := (G21_).trans rfl
              have hcz71_9 : wc.cell? ⟨gb178, 9, none⟩ = some G8_ := (G22_).trans rfl
              have hcz71_10 : wc.cell? ⟨gb178, 10, none⟩ = some (.bool a0_10) := (G10_).trans rfl
              have hcz71_11 : wc.cell? ⟨gb178, 11, none⟩ = some (.int .i64 a0_11) := (G11_).trans rfl
              have hcz71_12 : wc.cell? ⟨gb178, 12, none⟩ = some (.int .i64 a0_12) := (G12_).trans rfl
              have hfz71_0 := blk_frozen BK178.out 0
              have hfz71_1 := blk_frozen BK178.out 1
              have hfz71_2 := blk_frozen BK178.out 2
              have hfz71_3 := blk_frozen BK178.out 3
              have hfz71_4 := blk_frozen BK178.out 4
              have hfz71_5 := blk_frozen BK178.out 5
              have hfz71_6 := blk_frozen BK178.out 6
              have hfz71_7 := blk_frozen BK178.out 7
              have hfz71_8 := blk_frozen BK178.out 8
              have hfz71_9 := blk_frozen BK178.out 9
              have hfz71_10 := blk_frozen BK178.out 10
              have hfz71_11 := blk_frozen BK178.out 11
              have hfz71_12 := blk_frozen BK178.out 12
              go_wp2_with (first | (G2_; refine goesL_ (some 56) rfl rfl Try.func84 (by kernel_rfl) rfl G7_ rfl G0_ ?_; G4_; rintro e w' ⟨rfl, ⟨nd, rfl⟩⟩; refine ⟨_, rfl, ?_⟩) | (G2_; refine goesL_ (some 96) rfl rfl Try.func84 (by kernel_rfl) rfl G47_ rfl G35_ ?_; G40_; rintro e w' ⟨rfl, ⟨nd, rfl⟩⟩; refine ⟨_, rfl, ?_⟩))
              J8_
            ·replace c64 := Bool.eq_false_iff.mpr c64
             subst c64
             J2_
             have hcz72_0 : wc.cell? ⟨gb178, 0, none⟩ = some (.int .i64 a0_0) := (G13_).trans rfl
             have hcz72_1 : wc.cell? ⟨gb178, 1, none⟩ = some (.int .i64 a0_1) := (G14_).trans rfl
             have hcz72_2 : wc.cell? ⟨gb178, 2, none⟩ = some (.int .i64 a0_2) := (G15_).trans rfl
             have hcz72_3 : wc.cell? ⟨gb178, 3, none⟩ = some (.int .i64 a0_3) := (G16_).trans rfl
             have hcz72_4 : wc.cell? ⟨gb178, 4, none⟩ = some (.string a0_4) := (G17_).trans rfl
             have hcz72_5 : wc.cell? ⟨gb178, 5, none⟩ = some (.int .i64 a0_5) := (G18_).trans rfl
             have hcz72_6 : wc.cell? ⟨gb178, 6, none⟩ = some (.int .i64 a0_6) := (G19_).trans rfl
             have hcz72_7 : wc.cell? ⟨gb178, 7, none⟩ = some (.bool a0_7) := (G20_).trans rfl
             have hcz72_8 : wc.cell? ⟨gb178, 8, none⟩ = some (.string a0_8) := (G21_).trans rfl
             have hcz72_9 : wc.cell? ⟨gb178, 9, none⟩ = some G8_ := (G22_).trans rfl
             have hcz72_10 : wc.cell? ⟨gb178, 10, none⟩ = some (.bool a0_10) := (G10_).trans rfl
             have hcz72_11 : wc.cell? ⟨gb178, 11, none⟩ = some (.int .i64 a0_11) := (G11_).trans rfl
             have hcz72_12 : wc.cell? ⟨gb178, 12, none⟩ = some (.int .i64 a0_12) := (G12_).trans rfl
             have hfz72_0 := blk_frozen BK178.out 0
             have hfz72_1 := blk_frozen BK178.out 1
             have hfz72_2 := blk_frozen BK178.out 2
             have hfz72_3 := blk_frozen BK178.out 3
             have hfz72_4 := blk_frozen BK178.out 4
             have hfz72_5 := blk_frozen BK178.out 5
             have hfz72_6 := blk_frozen BK178.out 6
             have hfz72_7 := blk_frozen BK178.out 7
             have hfz72_8 := blk_frozen BK178.out 8
             have hfz72_9 := blk_frozen BK178.out 9
             have hfz72_10 := blk_frozen BK178.out 10
             have hfz72_11 := blk_frozen BK178.out 11
             have hfz72_12 := blk_frozen BK178.out 12
             go_wp2_with (first | (G2_; refine goesL_ (some 56) rfl rfl Try.func84 (by kernel_rfl) rfl G7_ rfl G0_ ?_; G4_; rintro e w' ⟨rfl, ⟨nd, rfl⟩⟩; refine ⟨_, rfl, ?_⟩) | (G2_; refine goesL_ (some 96) rfl rfl Try.func84 (by kernel_rfl) rfl G47_ rfl G35_ ?_; (with_reducible refine (impl_within.calls a0_5 0 ji62 false _ A63.out).mono ?_); rintro e w' ⟨rfl, ⟨nd, rfl⟩⟩; refine ⟨_, rfl, ?_⟩))
             J8_
           ·rw [if_neg c61] at H
            have c61b0 : decide ((a0_8.size : Int) ≤ 1000) = false := decide_eq_false c61
            have c61b1 : decide (a0_8.size ≤ 1000) = false := decide_eq_false (by omega)
            clear c61
            obtain ⟨ji73, hji73⟩ : ∃ j_ : Int, (mn (a0_4.size : Int) 24) = j_ := ⟨_, rfl⟩
            replace H : ((impl_within.f a0_5 0 (ji73)).bind fun t195 => (if t195 = true then (some false) else (some false))) = some r := by first | (rw [hji73] at H; exact H) | (simp only [hji73] at H ⊢; exact H)
            (try rw [hji73] at A35)
            have hji73_ : (if 24 < (a0_4.size : Int) then 24 else (a0_4.size : Int)) = ji73 := hji73
            J9_
            obtain ⟨t195, A740, H⟩ := H
            J13_
            have A74 := Aside0.mk A740
            clear A740
            by_cases c75 : t195 = true
            ·subst c75
             J14_
             J12_
             have hcz76_0 : wc.cell? ⟨gb178, 0, none⟩ = some (.int .i64 a0_0) := (G13_).trans rfl
             have hcz76_1 : wc.cell? ⟨gb178, 1, none⟩ = some (.int .i64 a0_1) := (G14_).trans rfl
             have hcz76_2 : wc.cell? ⟨gb178, 2, none⟩ = some (.int .i64 a0_2) := (G15_).trans rfl
             have hcz76_3 : wc.cell? ⟨gb178, 3, none⟩ = some (.int .i64 a0_3) := (G16_).trans rfl
             have hcz76_4 : wc.cell? ⟨gb178, 4, none⟩ = some (.string a0_4) := (G17_).trans rfl
             have hcz76_5 : wc.cell? ⟨gb178, 5, none⟩ = some (.int .i64 a0_5) := (G18_).trans rfl
             have hcz76_6 : wc.cell? ⟨gb178, 6, none⟩ = some (.int .i64 a0_6) := (G19_).trans rfl
             have hcz76_7 : wc.cell? ⟨gb178, 7, none⟩ = some (.bool a0_7) := (G20_).trans rfl
             have hcz76_8 : wc.cell? ⟨gb178, 8, none⟩ = some (.string a0_8) := (G21_).trans rfl
             have hcz76_9 : wc.cell? ⟨gb178, 9, none⟩ = some G8_ := (G22_).trans rfl
             have hcz76_10 : wc.cell? ⟨gb178, 10, none⟩ = some (.bool a0_10) := (G10_).trans rfl
             have hcz76_11 : wc.cell? ⟨gb178, 11, none⟩ = some (.int .i64 a0_11) := (G11_).trans rfl
             have hcz76_12 : wc.cell? ⟨gb178, 12, none⟩ = some (.int .i64 a0_12) := (G12_).trans rfl
             have hfz76_0 := blk_frozen BK178.out 0
             have hfz76_1 := blk_frozen BK178.out 1
             have hfz76_2 := blk_frozen BK178.out 2
             have hfz76_3 := blk_frozen BK178.out 3
             have hfz76_4 := blk_frozen BK178.out 4
             have hfz76_5 := blk_frozen BK178.out 5
             have hfz76_6 := blk_frozen BK178.out 6
             have hfz76_7 := blk_frozen BK178.out 7
             have hfz76_8 := blk_frozen BK178.out 8
             have hfz76_9 := blk_frozen BK178.out 9
             have hfz76_10 := blk_frozen BK178.out 10
             have hfz76_11 := blk_frozen BK178.out 11
             have hfz76_12 := blk_frozen BK178.out 12
             go_wp2_with (first | (G2_; refine goesL_ (some 56) rfl rfl Try.func84 (by kernel_rfl) rfl G7_ rfl G0_ ?_; G4_; rintro e w' ⟨rfl, ⟨nd, rfl⟩⟩; refine ⟨_, rfl, ?_⟩) | (G2_; refine goesL_ (some 96) rfl rfl Try.func84 (by kernel_rfl) rfl #[.int .i64 a0_5, .int .i64 0, .int .i64 ji73] rfl (by G5_; first | done | (simp only [hji73]; rfl) | rfl | G6_) ?_; (with_reducible refine (impl_within.calls a0_5 0 ji73 true _ A74.out).mono ?_); rintro e w' ⟨rfl, ⟨nd, rfl⟩⟩; refine ⟨_, rfl, ?_⟩))
             J18_
            ·replace c75 := Bool.eq_false_iff.mpr c75
             subst c75
             J2_
             have hcz77_0 : wc.cell? ⟨gb178, 0, none⟩ = some (.int .i64 a0_0) := (G13_).trans rfl
             have hcz77_1 : wc.cell? ⟨gb178, 1, none⟩ = some (.int .i64 a0_1) := (G14_).trans rfl
             have hcz77_2 : wc.cell? ⟨gb178, 2, none⟩ = some (.int .i64 a0_2) := (G15_).trans rfl
             have hcz77_3 : wc.cell? ⟨gb178, 3, none⟩ = some (.int .i64 a0_3) := (G16_).trans rfl
             have hcz77_4 : wc.cell? ⟨gb178, 4, none⟩ = some (.string a0_4) := (G17_).trans rfl
             have hcz77_5 : wc.cell? ⟨gb178, 5, none⟩ = some (.int .i64 a0_5) := (G18_).trans rfl
             have hcz77_6 : wc.cell? ⟨gb178, 6, none⟩ = some (.int .i64 a0_6) := (G19_).trans rfl
             have hcz77_7 : wc.cell? ⟨gb178, 7, none⟩ = some (.bool a0_7) := (G20_).trans rfl
             have hcz77_8 : wc.cell? ⟨gb178, 8, none⟩ = some (.string a0_8) := (G21_).trans rfl
             have hcz77_9 : wc.cell? ⟨gb178, 9, none⟩ = some G8_ := (G22_).trans rfl
             have hcz77_10 : wc.cell? ⟨gb178, 10, none⟩ = some (.bool a0_10) := (G10_).trans rfl
             have hcz77_11 : wc.cell? ⟨gb178, 11, none⟩ = some (.int .i64 a0_11) := (G11_).trans rfl
             have hcz77_12 : wc.cell? ⟨gb178, 12, none⟩ = some (.int .i64 a0_12) := (G12_).trans rfl
             have hfz77_0 := blk_frozen BK178.out 0
             have hfz77_1 := blk_frozen BK178.out 1
             have hfz77_2 := blk_frozen BK178.out 2
             have hfz77_3 := blk_frozen BK178.out 3
             have hfz77_4 := blk_frozen BK178.out 4
             have hfz77_5 := blk_frozen BK178.out 5
             have hfz77_6 := blk_frozen BK178.out 6
             have hfz77_7 := blk_frozen BK178.out 7
             have hfz77_8 := blk_frozen BK178.out 8
             have hfz77_9 := blk_frozen BK178.out 9
             have hfz77_10 := blk_frozen BK178.out 10
             have hfz77_11 := blk_frozen BK178.out 11
             have hfz77_12 := blk_frozen BK178.out 12
             go_wp2_with (first | (G2_; refine goesL_ (some 56) rfl rfl Try.func84 (by kernel_rfl) rfl G7_ rfl G0_ ?_; G4_; rintro e w' ⟨rfl, ⟨nd, rfl⟩⟩; refine ⟨_, rfl, ?_⟩) | (G2_; refine goesL_ (some 96) rfl rfl Try.func84 (by kernel_rfl) rfl #[.int .i64 a0_5, .int .i64 0, .int .i64 ji73] rfl (by G5_; first | done | (simp only [hji73]; rfl) | rfl | G6_) ?_; (with_reducible refine (impl_within.calls a0_5 0 ji73 false _ A74.out).mono ?_); rintro e w' ⟨rfl, ⟨nd, rfl⟩⟩; refine ⟨_, rfl, ?_⟩))
             J18_
         ·rw [if_neg c38] at H
          have c38b0 : (a0_5 == (a0_4.size : Int)) = false := beq_eq_false_iff_ne.mpr c38
          have c38b1 : (a0_5 != (a0_4.size : Int)) = true := bne_iff_ne.mpr c38
          by_cases c78 : (a0_8.size : Int) ≤ 1000
          ·rw [if_pos c78] at H
           have c78b0 : decide ((a0_8.size : Int) ≤ 1000) = true := decide_eq_true c78
           have c78b1 : decide (a0_8.size ≤ 1000) = true := decide_eq_true (by omega)
           clear c78
           obtain ⟨ji79, hji79⟩ : ∃ j_ : Int, (mn (a0_4.size : Int) 24) = j_ := ⟨_, rfl⟩
           replace H : ((impl_within.f a0_5 0 (ji79)).bind fun t196 => (if t196 = true then (some false) else (some false))) = some r := by first | (rw [hji79] at H; exact H) | (simp only [hji79] at H ⊢; exact H)
           (try rw [hji79] at A35)
           have hji79_ : (if 24 < (a0_4.size : Int) then 24 else (a0_4.size : Int)) = ji79 := hji79
           J9_
           obtain ⟨t196, A800, H⟩ := H
           J13_
           have A80 := Aside0.mk A800
           clear A800
           by_cases c81 : t196 = true
           ·subst c81
            J14_
            J12_
            have hcz82_0 : wc.cell? ⟨gb178, 0, none⟩ = some (.int .i64 a0_0) := (G13_).trans rfl
            have hcz82_1 : wc.cell? ⟨gb178, 1, none⟩ = some (.int .i64 a0_1) := (G14_).trans rfl
            have hcz82_2 : wc.cell? ⟨gb178, 2, none⟩ = some (.int .i64 a0_2) := (G15_).trans rfl
            have hcz82_3 : wc.cell? ⟨gb178, 3, none⟩ = some (.int .i64 a0_3) := (G16_).trans rfl
            have hcz82_4 : wc.cell? ⟨gb178, 4, none⟩ = some (.string a0_4) := (G17_).trans rfl
            have hcz82_5 : wc.cell? ⟨gb178, 5, none⟩ = some (.int .i64 a0_5) := (G18_).trans rfl
            have hcz82_6 : wc.cell? ⟨gb178, 6, none⟩ = some (.int .i64 a0_6) := (G19_).trans rfl
            have hcz82_7 : wc.cell? ⟨gb178, 7, none⟩ = some (.bool a0_7) := (G20_).trans rfl
            have hcz82_8 : wc.cell? ⟨gb178, 8, none⟩ = some (.string a0_8) := (G21_).trans rfl
            have hcz82_9 : wc.cell? ⟨gb178, 9, none⟩ = some G8_ := (G22_).trans rfl
            have hcz82_10 : wc.cell? ⟨gb178, 10, none⟩ = some (.bool a0_10) := (G10_).trans rfl
            have hcz82_11 : wc.cell? ⟨gb178, 11, none⟩ = some (.int .i64 a0_11) := (G11_).trans rfl
            have hcz82_12 : wc.cell? ⟨gb178, 12, none⟩ = some (.int .i64 a0_12) := (G12_).trans rfl
            have hfz82_0 := blk_frozen BK178.out 0
            have hfz82_1 := blk_frozen BK178.out 1
            have hfz82_2 := blk_frozen BK178.out 2
            have hfz82_3 := blk_frozen BK178.out 3
            have hfz82_4 := blk_frozen BK178.out 4
            have hfz82_5 := blk_frozen BK178.out 5
            have hfz82_6 := blk_frozen BK178.out 6
            have hfz82_7 := blk_frozen BK178.out 7
            have hfz82_8 := blk_frozen BK178.out 8
            have hfz82_9 := blk_frozen BK178.out 9
            have hfz82_10 := blk_frozen BK178.out 10
            have hfz82_11 := blk_frozen BK178.out 11
            have hfz82_12 := blk_frozen BK178.out 12
            go_wp2_with (first | (G2_; refine goesL_ (some 56) rfl rfl Try.func84 (by kernel_rfl) rfl G7_ rfl G0_ ?_; G4_; rintro e w' ⟨rfl, ⟨nd, rfl⟩⟩; refine ⟨_, rfl, ?_⟩) | (G2_; refine goesL_ (some 96) rfl rfl Try.func84 (by kernel_rfl) rfl #[.int .i64 a0_5, .int .i64 0, .int .i64 ji79] rfl (by G5_; first | done | (simp only [hji79]; rfl) | rfl | G6_) ?_; (with_reducible refine (impl_within.calls a0_5 0 ji79 true _ A80.out).mono ?_); rintro e w' ⟨rfl, ⟨nd, rfl⟩⟩; refine ⟨_, rfl, ?_⟩))
            J19_
           ·replace c81 := Bool.eq_false_iff.mpr c81
            subst c81
            J2_
            have hcz83_0 : wc.cell? ⟨gb178, 0, none⟩ = some (.int .i64 a0_0) := (G13_).trans rfl
            have hcz83_1 : wc.cell? ⟨gb178, 1, none⟩ = some (.int .i64 a0_1) := (G14_).trans rfl
            have hcz83_2 : wc.cell? ⟨gb178, 2, none⟩ = some (.int .i64 a0_2) := (G15_).trans rfl
            have hcz83_3 : wc.cell? ⟨gb178, 3, none⟩ = some (.int .i64 a0_3) := (G16_).trans rfl
            have hcz83_4 : wc.cell? ⟨gb178, 4, none⟩ = some (.string a0_4) := (G17_).trans rfl
            have hcz83_5 : wc.cell? ⟨gb178, 5, none⟩ = some (.int .i64 a0_5) := (G18_).trans rfl
            have hcz83_6 : wc.cell? ⟨gb178, 6, none⟩ = some (.int .i64 a0_6) := (G19_).trans rfl
            have hcz83_7 : wc.cell? ⟨gb178, 7, none⟩ = some (.bool a0_7) := (G20_).trans rfl
            have hcz83_8 : wc.cell? ⟨gb178, 8, none⟩ = some (.string a0_8) := (G21_).trans rfl
            have hcz83_9 : wc.cell? ⟨gb178, 9, none⟩ = some G8_ := (G22_).trans rfl
            have hcz83_10 : wc.cell? ⟨gb178, 10, none⟩ = some (.bool a0_10) := (G10_).trans rfl
            have hcz83_11 : wc.cell? ⟨gb178, 11, none⟩ = some (.int .i64 a0_11) := (G11_).trans rfl
            have hcz83_12 : wc.cell? ⟨gb178, 12, none⟩ = some (.int .i64 a0_12) := (G12_).trans rfl
            have hfz83_0 := blk_frozen BK178.out 0
            have hfz83_1 := blk_frozen BK178.out 1
            have hfz83_2 := blk_frozen BK178.out 2
            have hfz83_3 := blk_frozen BK178.out 3
            have hfz83_4 := blk_frozen BK178.out 4
            have hfz83_5 := blk_frozen BK178.out 5
            have hfz83_6 := blk_frozen BK178.out 6
            have hfz83_7 := blk_frozen BK178.out 7
            have hfz83_8 := blk_frozen BK178.out 8
            have hfz83_9 := blk_frozen BK178.out 9
            have hfz83_10 := blk_frozen BK178.out 10
            have hfz83_11 := blk_frozen BK178.out 11
            have hfz83_12 := blk_frozen BK178.out 12
            go_wp2_with (first | (G2_; refine goesL_ (some 56) rfl rfl Try.func84 (by kernel_rfl) rfl G7_ rfl G0_ ?_; G4_; rintro e w' ⟨rfl, ⟨nd, rfl⟩⟩; refine ⟨_, rfl, ?_⟩) | (G2_; refine goesL_ (some 96) rfl rfl Try.func84 (by kernel_rfl) rfl #[.int .i64 a0_5, .int .i64 0, .int .i64 ji79] rfl (by G5_; first | done | (simp only [hji79]; rfl) | rfl | G6_) ?_; (with_reducible refine (impl_within.calls a0_5 0 ji79 false _ A80.out).mono ?_); rintro e w' ⟨rfl, ⟨nd, rfl⟩⟩; refine ⟨_, rfl, ?_⟩))
            J19_
          ·rw [if_neg c78] at H
           have c78b0 : decide ((a0_8.size : Int) ≤ 1000) = false := decide_eq_false c78
           have c78b1 : decide (a0_8.size ≤ 1000) = false := decide_eq_false (by omega)
           clear c78
           obtain ⟨ji84, hji84⟩ : ∃ j_ : Int, (mn (a0_4.size : Int) 24) = j_ := ⟨_, rfl⟩
           replace H : ((impl_within.f a0_5 0 (ji84)).bind fun t197 => (if t197 = true then (some false) else (some false))) = some r := by first | (rw [hji84] at H; exact H) | (simp only [hji84] at H ⊢; exact H)
           (try rw [hji84] at A35)
           have hji84_ : (if 24 < (a0_4.size : Int) then 24 else (a0_4.size : Int)) = ji84 := hji84
           J9_
           obtain ⟨t197, A850, H⟩ := H
           J13_
           have A85 := Aside0.mk A850
           clear A850
           by_cases c86 : t197 = true
           ·subst c86
            J14_
            J12_
            have hcz87_0 : wc.cell? ⟨gb178, 0, none⟩ = some (.int .i64 a0_0) := (G13_).trans rfl
            have hcz87_1 : wc.cell? ⟨gb178, 1, none⟩ = some (.int .i64 a0_1) := (G14_).trans rfl
            have hcz87_2 : wc.cell? ⟨gb178, 2, none⟩ = some (.int .i64 a0_2) := (G15_).trans rfl
            have hcz87_3 : wc.cell? ⟨gb178, 3, none⟩ = some (.int .i64 a0_3) := (G16_).trans rfl
            have hcz87_4 : wc.cell? ⟨gb178, 4, none⟩ = some (.string a0_4) := (G17_).trans rfl
            have hcz87_5 : wc.cell? ⟨gb178, 5, none⟩ = some (.int .i64 a0_5) := (G18_).trans rfl
            have hcz87_6 : wc.cell? ⟨gb178, 6, none⟩ = some (.int .i64 a0_6) := (G19_).trans rfl
            have hcz87_7 : wc.cell? ⟨gb178, 7, none⟩ = some (.bool a0_7) := (G20_).trans rfl
            have hcz87_8 : wc.cell? ⟨gb178, 8, none⟩ = some (.string a0_8) := (G21_).trans rfl
            have hcz87_9 : wc.cell? ⟨gb178, 9, none⟩ = some G8_ := (G22_).trans rfl
            have hcz87_10 : wc.cell? ⟨gb178, 10, none⟩ = some (.bool a0_10) := (G10_).trans rfl
            have hcz87_11 : wc.cell? ⟨gb178, 11, none⟩ = some (.int .i64 a0_11) := (G11_).trans rfl
            have hcz87_12 : wc.cell? ⟨gb178, 12, none⟩ = some (.int .i64 a0_12) := (G12_).trans rfl
            have hfz87_0 := blk_frozen BK178.out 0
            have hfz87_1 := blk_frozen BK178.out 1
            have hfz87_2 := blk_frozen BK178.out 2
            have hfz87_3 := blk_frozen BK178.out 3
            have hfz87_4 := blk_frozen BK178.out 4
            have hfz87_5 := blk_frozen BK178.out 5
            have hfz87_6 := blk_frozen BK178.out 6
            have hfz87_7 := blk_frozen BK178.out 7
            have hfz87_8 := blk_frozen BK178.out 8
            have hfz87_9 := blk_frozen BK178.out 9
            have hfz87_10 := blk_frozen BK178.out 10
            have hfz87_11 := blk_frozen BK178.out 11
            have hfz87_12 := blk_frozen BK178.out 12
            go_wp2_with (first | (G2_; refine goesL_ (some 56) rfl rfl Try.func84 (by kernel_rfl) rfl G7_ rfl G0_ ?_; G4_; rintro e w' ⟨rfl, ⟨nd, rfl⟩⟩; refine ⟨_, rfl, ?_⟩) | (G2_; refine goesL_ (some 96) rfl rfl Try.func84 (by kernel_rfl) rfl #[.int .i64 a0_5, .int .i64 0, .int .i64 ji84] rfl (by G5_; first | done | (simp only [hji84]; rfl) | rfl | G6_) ?_; (with_reducible refine (impl_within.calls a0_5 0 ji84 true _ A85.out).mono ?_); rintro e w' ⟨rfl, ⟨nd, rfl⟩⟩; refine ⟨_, rfl, ?_⟩))
            J20_
           ·replace c86 := Bool.eq_false_iff.mpr c86
            subst c86
            J2_
            have hcz88_0 : wc.cell? ⟨gb178, 0, none⟩ = some (.int .i64 a0_0) := (G13_).trans rfl
            have hcz88_1 : wc.cell? ⟨gb178, 1, none⟩ = some (.int .i64 a0_1) := (G14_).trans rfl
            have hcz88_2 : wc.cell? ⟨gb178, 2, none⟩ = some (.int .i64 a0_2) := (G15_).trans rfl
            have hcz88_3 : wc.cell? ⟨gb178, 3, none⟩ = some (.int .i64 a0_3) := (G16_).trans rfl
            have hcz88_4 : wc.cell? ⟨gb178, 4, none⟩ = some (.string a0_4) := (G17_).trans rfl
            have hcz88_5 : wc.cell? ⟨gb178, 5, none⟩ = some (.int .i64 a0_5) := (G18_).trans rfl
            have hcz88_6 : wc.cell? ⟨gb178, 6, none⟩ = some (.int .i64 a0_6) := (G19_).trans rfl
            have hcz88_7 : wc.cell? ⟨gb178, 7, none⟩ = some (.bool a0_7) := (G20_).trans rfl
            have hcz88_8 : wc.cell? ⟨gb178, 8, none⟩ = some (.string a0_8) := (G21_).trans rfl
            have hcz88_9 : wc.cell? ⟨gb178, 9, none⟩ = some G8_ := (G22_).trans rfl
            have hcz88_10 : wc.cell? ⟨gb178, 10, none⟩ = some (.bool a0_10) := (G10_).trans rfl
            have hcz88_11 : wc.cell? ⟨gb178, 11, none⟩ = some (.int .i64 a0_11) := (G11_).trans rfl
            have hcz88_12 : wc.cell? ⟨gb178, 12, none⟩ = some (.int .i64 a0_12) := (G12_).trans rfl
            have hfz88_0 := blk_frozen BK178.out 0
            have hfz88_1 := blk_frozen BK178.out 1
            have hfz88_2 := blk_frozen BK178.out 2
            have hfz88_3 := blk_frozen BK178.out 3
            have hfz88_4 := blk_frozen BK178.out 4
            have hfz88_5 := blk_frozen BK178.out 5
            have hfz88_6 := blk_frozen BK178.out 6
            have hfz88_7 := blk_frozen BK178.out 7
            have hfz88_8 := blk_frozen BK178.out 8
            have hfz88_9 := blk_frozen BK178.out 9
            have hfz88_10 := blk_frozen BK178.out 10
            have hfz88_11 := blk_frozen BK178.out 11
            have hfz88_12 := blk_frozen BK178.out 12
            go_wp2_with (first | (G2_; refine goesL_ (some 56) rfl rfl Try.func84 (by kernel_rfl) rfl G7_ rfl G0_ ?_; G4_; rintro e w' ⟨rfl, ⟨nd, rfl⟩⟩; refine ⟨_, rfl, ?_⟩) | (G2_; refine goesL_ (some 96) rfl rfl Try.func84 (by kernel_rfl) rfl #[.int .i64 a0_5, .int .i64 0, .int .i64 ji84] rfl (by G5_; first | done | (simp only [hji84]; rfl) | rfl | G6_) ?_; (with_reducible refine (impl_within.calls a0_5 0 ji84 false _ A85.out).mono ?_); rintro e w' ⟨rfl, ⟨nd, rfl⟩⟩; refine ⟨_, rfl, ?_⟩))
            J20_
        ·rw [if_neg c37] at H
         have c37b0 : (a0_6 == 2) = false := beq_eq_false_iff_ne.mpr c37
         have c37b1 : (a0_6 != 2) = true := bne_iff_ne.mpr c37
         by_cases c89 : a0_6 = 3
         ·rw [if_pos c89] at H
          have c89b0 : (a0_6 == 3) = true := beq_iff_eq.mpr c89
          have c89b1 : (a0_6 != 3) = false := bne_eq_false_iff_eq.mpr c89
          clear c89
          by_cases c90 : (a0_8.size : Int) ≤ 1000
          ·rw [if_pos c90] at H
           have c90b0 : decide ((a0_8.size : Int) ≤ 1000) = true := decide_eq_true c90
           have c90b1 : decide (a0_8.size ≤ 1000) = true := decide_eq_true (by omega)
           clear c90
           obtain ⟨ji91, hji91⟩ : ∃ j_ : Int, (mn (a0_4.size : Int) 24) = j_ := ⟨_, rfl⟩
           replace H : ((impl_within.f a0_5 0 (ji91)).bind fun t198 => (if t198 = true then (if a0_4.toList = ([] : List UInt8) then (if (l0_9.length : Int) ≤ 8 then ((impl_within.f a0_11 0 1000000000).bind fun t199 => (if t199 = true then ((impl_within.f a0_12 0 12).bind fun t200 => (some t200)) else (some false))) else (some false)) else (some false)) else (some false))) = some r := by first | (rw [hji91] at H; exact H) | (simp only [hji91] at H ⊢; exact H)
           (try rw [hji91] at A35)
           have hji91_ : (if 24 < (a0_4.size : Int) then 24 else (a0_4.size : Int)) = ji91 := hji91
           J9_
           obtain ⟨t198, A920, H⟩ := H
           J13_
           have A92 := Aside0.mk A920
           clear A920
           by_cases c93 : t198 = true
           ·subst c93
            J14_
            by_cases c94 : a0_4.toList = ([] : List UInt8)
            ·rw [if_pos c94] at H
             have c94b0 : (a0_4.toList == ([] : List UInt8)) = true := beq_iff_eq.mpr c94
             have c94b1 : (a0_4.toList != ([] : List UInt8)) = false := bne_eq_false_iff_eq.mpr c94
             clear c94
             by_cases c95 : (l0_9.length : Int) ≤ 8
             ·rw [if_pos c95] at H
              have c95b0 : decide ((l0_9.length : Int) ≤ 8) = true := decide_eq_true c95
              have c95b1 : decide (l0_9.length ≤ 8) = true := decide_eq_true (by omega)
              clear c95
              J9_
              obtain ⟨t199, A960, H⟩ := H
              J13_
              have A96 := Aside0.mk A960
              clear A960
              by_cases c97 : t199 = true
              ·subst c97
               J14_
               J9_
               obtain ⟨t200, A980, H⟩ := H
               J13_
               have A98 := Aside0.mk A980
               clear A980
               J12_
               have hcz99_0 : wc.cell? ⟨gb178, 0, none⟩ = some (.int .i64 a0_0) := (G13_).trans rfl
               have hcz99_1 : wc.cell? ⟨gb178, 1, none⟩ = some (.int .i64 a0_1) := (G14_).trans rfl
               have hcz99_2 : wc.cell? ⟨gb178, 2, none⟩ = some (.int .i64 a0_2) := (G15_).trans rfl
               have hcz99_3 : wc.cell? ⟨gb178, 3, none⟩ = some (.int .i64 a0_3) := (G16_).trans rfl
               have hcz99_4 : wc.cell? ⟨gb178, 4, none⟩ = some (.string a0_4) := (G17_).trans rfl
               have hcz99_5 : wc.cell? ⟨gb178, 5, none⟩ = some (.int .i64 a0_5) := (G18_).trans rfl
               have hcz99_6 : wc.cell? ⟨gb178, 6, none⟩ = some (.int .i64 a0_6) := (G19_).trans rfl
               have hcz99_7 : wc.cell? ⟨gb178, 7, none⟩ = some (.bool a0_7) := (G20_).trans rfl
               have hcz99_8 : wc.cell? ⟨gb178, 8, none⟩ = some (.string a0_8) := (G21_).trans rfl
               have hcz99_9 : wc.cell? ⟨gb178, 9, none⟩ = some G8_ := (G22_).trans rfl
               have hcz99_10 : wc.cell? ⟨gb178, 10, none⟩ = some (.bool a0_10) := (G10_).trans rfl
               have hcz99_11 : wc.cell? ⟨gb178, 11, none⟩ = some (.int .i64 a0_11) := (G11_).trans rfl
               have hcz99_12 : wc.cell? ⟨gb178, 12, none⟩ = some (.int .i64 a0_12) := (G12_).trans rfl
               have hfz99_0 := blk_frozen BK178.out 0
               have hfz99_1 := blk_frozen BK178.out 1
               have hfz99_2 := blk_frozen BK178.out 2
               have hfz99_3 := blk_frozen BK178.out 3
               have hfz99_4 := blk_frozen BK178.out 4
               have hfz99_5 := blk_frozen BK178.out 5
               have hfz99_6 := blk_frozen BK178.out 6
               have hfz99_7 := blk_frozen BK178.out 7
               have hfz99_8 := blk_frozen BK178.out 8
               have hfz99_9 := blk_frozen BK178.out 9
               have hfz99_10 := blk_frozen BK178.out 10
               have hfz99_11 := blk_frozen BK178.out 11
               have hfz99_12 := blk_frozen BK178.out 12
               go_wp2_with (first | (G2_; refine goesL_ (some 56) rfl rfl Try.func84 (by kernel_rfl) rfl G7_ rfl G0_ ?_; G4_; rintro e w' ⟨rfl, ⟨nd, rfl⟩⟩; refine ⟨_, rfl, ?_⟩) | (G2_; refine goesL_ (some 96) rfl rfl Try.func84 (by kernel_rfl) rfl G48_ rfl G36_ ?_; G41_; rintro e w' ⟨rfl, ⟨nd, rfl⟩⟩; refine ⟨_, rfl, ?_⟩) | (go_at_call 84; (with_reducible refine (impl_within.calls a0_11 0 1000000000 true _ A96.out).mono ?_); rintro e w' ⟨rfl, ⟨nd, rfl⟩⟩) | (go_at_call 84; (with_reducible refine (impl_within.calls a0_12 0 12 t200 _ A98.out).mono ?_); rintro e w' ⟨rfl, ⟨nd, rfl⟩⟩))
               J1_
              ·replace c97 := Bool.eq_false_iff.mpr c97
               subst c97
               J2_
               have hcz100_0 : wc.cell? ⟨gb178, 0, none⟩ = some (.int .i64 a0_0) := (G13_).trans rfl
               have hcz100_1 : wc.cell? ⟨gb178, 1, none⟩ = some (.int .i64 a0_1) := (G14_).trans rfl
               have hcz100_2 : wc.cell? ⟨gb178, 2, none⟩ = some (.int .i64 a0_2) := (G15_).trans rfl
               have hcz100_3 : wc.cell? ⟨gb178, 3, none⟩ = some (.int .i64 a0_3) := (G16_).trans rfl
               have hcz100_4 : wc.cell? ⟨gb178, 4, none⟩ = some (.string a0_4) := (G17_).trans rfl
               have hcz100_5 : wc.cell? ⟨gb178, 5, none⟩ = some (.int .i64 a0_5) := (G18_).trans rfl
               have hcz100_6 : wc.cell? ⟨gb178, 6, none⟩ = some (.int .i64 a0_6) := (G19_).trans rfl
               have hcz100_7 : wc.cell? ⟨gb178, 7, none⟩ = some (.bool a0_7) := (G20_).trans rfl
               have hcz100_8 : wc.cell? ⟨gb178, 8, none⟩ = some (.string a0_8) := (G21_).trans rfl
               have hcz100_9 : wc.cell? ⟨gb178, 9, none⟩ = some G8_ := (G22_).trans rfl
               have hcz100_10 : wc.cell? ⟨gb178, 10, none⟩ = some (.bool a0_10) := (G10_).trans rfl
               have hcz100_11 : wc.cell? ⟨gb178, 11, none⟩ = some (.int .i64 a0_11) := (G11_).trans rfl
               have hcz100_12 : wc.cell? ⟨gb178, 12, none⟩ = some (.int .i64 a0_12) := (G12_).trans rfl
               have hfz100_0 := blk_frozen BK178.out 0
               have hfz100_1 := blk_frozen BK178.out 1
               have hfz100_2 := blk_frozen BK178.out 2
               have hfz100_3 := blk_frozen BK178.out 3
               have hfz100_4 := blk_frozen BK178.out 4
               have hfz100_5 := blk_frozen BK178.out 5
               have hfz100_6 := blk_frozen BK178.out 6
               have hfz100_7 := blk_frozen BK178.out 7
               have hfz100_8 := blk_frozen BK178.out 8
               have hfz100_9 := blk_frozen BK178.out 9
               have hfz100_10 := blk_frozen BK178.out 10
               have hfz100_11 := blk_frozen BK178.out 11
               have hfz100_12 := blk_frozen BK178.out 12
               go_wp2_with (first | (G2_; refine goesL_ (some 56) rfl rfl Try.func84 (by kernel_rfl) rfl G7_ rfl G0_ ?_; G4_; rintro e w' ⟨rfl, ⟨nd, rfl⟩⟩; refine ⟨_, rfl, ?_⟩) | (G2_; refine goesL_ (some 96) rfl rfl Try.func84 (by kernel_rfl) rfl G48_ rfl G36_ ?_; G41_; rintro e w' ⟨rfl, ⟨nd, rfl⟩⟩; refine ⟨_, rfl, ?_⟩) | (go_at_call 84; (with_reducible refine (impl_within.calls a0_11 0 1000000000 false _ A96.out).mono ?_); rintro e w' ⟨rfl, ⟨nd, rfl⟩⟩))
               J1_
             ·rw [if_neg c95] at H
              have c95b0 : decide ((l0_9.length : Int) ≤ 8) = false := decide_eq_false c95
              have c95b1 : decide (l0_9.length ≤ 8) = false := decide_eq_false (by omega)
              clear c95
              J12_
              have hcz101_0 : wc.cell? ⟨gb178, 0, none⟩ = some (.int .i64 a0_0) := (G13_).trans rfl
              have hcz101_1 : wc.cell? ⟨gb178, 1, none⟩ = some (.int .i64 a0_1) := (G14_).trans rfl
              have hcz101_2 : wc.cell? ⟨gb178, 2, none⟩ = some (.int .i64 a0_2) := (G15_).trans rfl
              have hcz101_3 : wc.cell? ⟨gb178, 3, none⟩ = some (.int .i64 a0_3) := (G16_).trans rfl
              have hcz101_4 : wc.cell? ⟨gb178, 4, none⟩ = some (.string a0_4) := (G17_).trans rfl
              have hcz101_5 : wc.cell? ⟨gb178, 5, none⟩ = some (.int .i64 a0_5) := (G18_).trans rfl
              have hcz101_6 : wc.cell? ⟨gb178, 6, none⟩ = some (.int .i64 a0_6) := (G19_).trans rfl
              have hcz101_7 : wc.cell? ⟨gb178, 7, none⟩ = some (.bool a0_7) := (G20_).trans rfl
              have hcz101_8 : wc.cell? ⟨gb178, 8, none⟩ = some (.string a0_8) := (G21_).trans rfl
              have hcz101_9 : wc.cell? ⟨gb178, 9, none⟩ = some G8_ := (G22_).trans rfl
              have hcz101_10 : wc.cell? ⟨gb178, 10, none⟩ = some (.bool a0_10) := (G10_).trans rfl
              have hcz101_11 : wc.cell? ⟨gb178, 11, none⟩ = some (.int .i64 a0_11) := (G11_).trans rfl
              have hcz101_12 : wc.cell? ⟨gb178, 12, none⟩ = some (.int .i64 a0_12) := (G12_).trans rfl
              have hfz101_0 := blk_frozen BK178.out 0
              have hfz101_1 := blk_frozen BK178.out 1
              have hfz101_2 := blk_frozen BK178.out 2
              have hfz101_3 := blk_frozen BK178.out 3
              have hfz101_4 := blk_frozen BK178.out 4
              have hfz101_5 := blk_frozen BK178.out 5
              have hfz101_6 := blk_frozen BK178.out 6
              have hfz101_7 := blk_frozen BK178.out 7
              have hfz101_8 := blk_frozen BK178.out 8
              have hfz101_9 := blk_frozen BK178.out 9
              have hfz101_10 := blk_frozen BK178.out 10
              have hfz101_11 := blk_frozen BK178.out 11
              have hfz101_12 := blk_frozen BK178.out 12
              J11_
              J1_
            ·rw [if_neg c94] at H
             have c94b0 : (a0_4.toList == ([] : List UInt8)) = false := beq_eq_false_iff_ne.mpr c94
             have c94b1 : (a0_4.toList != ([] : List UInt8)) = true := bne_iff_ne.mpr c94
             J12_
             have hcz102_0 : wc.cell? ⟨gb178, 0, none⟩ = some (.int .i64 a0_0) := (G13_).trans rfl
             have hcz102_1 : wc.cell? ⟨gb178, 1, none⟩ = some (.int .i64 a0_1) := (G14_).trans rfl
             have hcz102_2 : wc.cell? ⟨gb178, 2, none⟩ = some (.int .i64 a0_2) := (G15_).trans rfl
             have hcz102_3 : wc.cell? ⟨gb178, 3, none⟩ = some (.int .i64 a0_3) := (G16_).trans rfl
             have hcz102_4 : wc.cell? ⟨gb178, 4, none⟩ = some (.string a0_4) := (G17_).trans rfl
             have hcz102_5 : wc.cell? ⟨gb178, 5, none⟩ = some (.int .i64 a0_5) := (G18_).trans rfl
             have hcz102_6 : wc.cell? ⟨gb178, 6, none⟩ = some (.int .i64 a0_6) := (G19_).trans rfl
             have hcz102_7 : wc.cell? ⟨gb178, 7, none⟩ = some (.bool a0_7) := (G20_).trans rfl
             have hcz102_8 : wc.cell? ⟨gb178, 8, none⟩ = some (.string a0_8) := (G21_).trans rfl
             have hcz102_9 : wc.cell? ⟨gb178, 9, none⟩ = some G8_ := (G22_).trans rfl
             have hcz102_10 : wc.cell? ⟨gb178, 10, none⟩ = some (.bool a0_10) := (G10_).trans rfl
             have hcz102_11 : wc.cell? ⟨gb178, 11, none⟩ = some (.int .i64 a0_11) := (G11_).trans rfl
             have hcz102_12 : wc.cell? ⟨gb178, 12, none⟩ = some (.int .i64 a0_12) := (G12_).trans rfl
             have hfz102_0 := blk_frozen BK178.out 0
             have hfz102_1 := blk_frozen BK178.out 1
             have hfz102_2 := blk_frozen BK178.out 2
             have hfz102_3 := blk_frozen BK178.out 3
             have hfz102_4 := blk_frozen BK178.out 4
             have hfz102_5 := blk_frozen BK178.out 5
             have hfz102_6 := blk_frozen BK178.out 6
             have hfz102_7 := blk_frozen BK178.out 7
             have hfz102_8 := blk_frozen BK178.out 8
             have hfz102_9 := blk_frozen BK178.out 9
             have hfz102_10 := blk_frozen BK178.out 10
             have hfz102_11 := blk_frozen BK178.out 11
             have hfz102_12 := blk_frozen BK178.out 12
             J11_
             J1_
           ·replace c93 := Bool.eq_false_iff.mpr c93
            subst c93
            J2_
            have hcz103_0 : wc.cell? ⟨gb178, 0, none⟩ = some (.int .i64 a0_0) := (G13_).trans rfl
            have hcz103_1 : wc.cell? ⟨gb178, 1, none⟩ = some (.int .i64 a0_1) := (G14_).trans rfl
            have hcz103_2 : wc.cell? ⟨gb178, 2, none⟩ = some (.int .i64 a0_2) := (G15_).trans rfl
            have hcz103_3 : wc.cell? ⟨gb178, 3, none⟩ = some (.int .i64 a0_3) := (G16_).trans rfl
            have hcz103_4 : wc.cell? ⟨gb178, 4, none⟩ = some (.string a0_4) := (G17_).trans rfl
            have hcz103_5 : wc.cell? ⟨gb178, 5, none⟩ = some (.int .i64 a0_5) := (G18_).trans rfl
            have hcz103_6 : wc.cell? ⟨gb178, 6, none⟩ = some (.int .i64 a0_6) := (G19_).trans rfl
            have hcz103_7 : wc.cell? ⟨gb178, 7, none⟩ = some (.bool a0_7) := (G20_).trans rfl
            have hcz103_8 : wc.cell? ⟨gb178, 8, none⟩ = some (.string a0_8) := (G21_).trans rfl
            have hcz103_9 : wc.cell? ⟨gb178, 9, none⟩ = some G8_ := (G22_).trans rfl
            have hcz103_10 : wc.cell? ⟨gb178, 10, none⟩ = some (.bool a0_10) := (G10_).trans rfl
            have hcz103_11 : wc.cell? ⟨gb178, 11, none⟩ = some (.int .i64 a0_11) := (G11_).trans rfl
            have hcz103_12 : wc.cell? ⟨gb178, 12, none⟩ = some (.int .i64 a0_12) := (G12_).trans rfl
            have hfz103_0 := blk_frozen BK178.out 0
            have hfz103_1 := blk_frozen BK178.out 1
            have hfz103_2 := blk_frozen BK178.out 2
            have hfz103_3 := blk_frozen BK178.out 3
            have hfz103_4 := blk_frozen BK178.out 4
            have hfz103_5 := blk_frozen BK178.out 5
            have hfz103_6 := blk_frozen BK178.out 6
            have hfz103_7 := blk_frozen BK178.out 7
            have hfz103_8 := blk_frozen BK178.out 8
            have hfz103_9 := blk_frozen BK178.out 9
            have hfz103_10 := blk_frozen BK178.out 10
            have hfz103_11 := blk_frozen BK178.out 11
            have hfz103_12 := blk_frozen BK178.out 12
            go_wp2_with (first | (G2_; refine goesL_ (some 56) rfl rfl Try.func84 (by kernel_rfl) rfl G7_ rfl G0_ ?_; G4_; rintro e w' ⟨rfl, ⟨nd, rfl⟩⟩; refine ⟨_, rfl, ?_⟩) | (G2_; refine goesL_ (some 96) rfl rfl Try.func84 (by kernel_rfl) rfl G48_ rfl G36_ ?_; (with_reducible refine (impl_within.calls a0_5 0 ji91 false _ A92.out).mono ?_); rintro e w' ⟨rfl, ⟨nd, rfl⟩⟩; refine ⟨_, rfl, ?_⟩))
            J1_
          ·rw [if_neg c90] at H
           have c90b0 : decide ((a0_8.size : Int) ≤ 1000) = false := decide_eq_false c90
           have c90b1 : decide (a0_8.size ≤ 1000) = false := decide_eq_false (by omega)
           clear c90
           obtain ⟨ji104, hji104⟩ : ∃ j_ : Int, (mn (a0_4.size : Int) 24) = j_ := ⟨_, rfl⟩
           replace H : ((impl_within.f a0_5 0 (ji104)).bind fun t201 => (if t201 = true then (if a0_4.toList = ([] : List UInt8) then (some false) else (some false)) else (some false))) = some r := by first | (rw [hji104] at H; exact H) | (simp only [hji104] at H ⊢; exact H)
           (try rw [hji104] at A35)
           have hji104_ : (if 24 < (a0_4.size : Int) then 24 else (a0_4.size : Int)) = ji104 := hji104
           J9_
           obtain ⟨t201, A1050, H⟩ := H
           J13_
           have A105 := Aside0.mk A1050
           clear A1050
           by_cases c106 : t201 = true
           ·subst c106
            J14_
            by_cases c107 : a0_4.toList = ([] : List UInt8)
            ·rw [if_pos c107] at H
             have c107b0 : (a0_4.toList == ([] : List UInt8)) = true := beq_iff_eq.mpr c107
             have c107b1 : (a0_4.toList != ([] : List UInt8)) = false := bne_eq_false_iff_eq.mpr c107
             clear c107
             J12_
             have hcz108_0 : wc.cell? ⟨gb178, 0, none⟩ = some (.int .i64 a0_0) := (G13_).trans rfl
             have hcz108_1 : wc.cell? ⟨gb178, 1, none⟩ = some (.int .i64 a0_1) := (G14_).trans rfl
             have hcz108_2 : wc.cell? ⟨gb178, 2, none⟩ = some (.int .i64 a0_2) := (G15_).trans rfl
             have hcz108_3 : wc.cell? ⟨gb178, 3, none⟩ = some (.int .i64 a0_3) := (G16_).trans rfl
             have hcz108_4 : wc.cell? ⟨gb178, 4, none⟩ = some (.string a0_4) := (G17_).trans rfl
             have hcz108_5 : wc.cell? ⟨gb178, 5, none⟩ = some (.int .i64 a0_5) := (G18_).trans rfl
             have hcz108_6 : wc.cell? ⟨gb178, 6, none⟩ = some (.int .i64 a0_6) := (G19_).trans rfl
             have hcz108_7 : wc.cell? ⟨gb178, 7, none⟩ = some (.bool a0_7) := (G20_).trans rfl
             have hcz108_8 : wc.cell? ⟨gb178, 8, none⟩ = some (.string a0_8) := (G21_).trans rfl
             have hcz108_9 : wc.cell? ⟨gb178, 9, none⟩ = some G8_ := (G22_).trans rfl
             have hcz108_10 : wc.cell? ⟨gb178, 10, none⟩ = some (.bool a0_10) := (G10_).trans rfl
             have hcz108_11 : wc.cell? ⟨gb178, 11, none⟩ = some (.int .i64 a0_11) := (G11_).trans rfl
             have hcz108_12 : wc.cell? ⟨gb178, 12, none⟩ = some (.int .i64 a0_12) := (G12_).trans rfl
             have hfz108_0 := blk_frozen BK178.out 0
             have hfz108_1 := blk_frozen BK178.out 1
             have hfz108_2 := blk_frozen BK178.out 2
             have hfz108_3 := blk_frozen BK178.out 3
             have hfz108_4 := blk_frozen BK178.out 4
             have hfz108_5 := blk_frozen BK178.out 5
             have hfz108_6 := blk_frozen BK178.out 6
             have hfz108_7 := blk_frozen BK178.out 7
             have hfz108_8 := blk_frozen BK178.out 8
             have hfz108_9 := blk_frozen BK178.out 9
             have hfz108_10 := blk_frozen BK178.out 10
             have hfz108_11 := blk_frozen BK178.out 11
             have hfz108_12 := blk_frozen BK178.out 12
             J3_
            ·rw [if_neg c107] at H
             have c107b0 : (a0_4.toList == ([] : List UInt8)) = false := beq_eq_false_iff_ne.mpr c107
             have c107b1 : (a0_4.toList != ([] : List UInt8)) = true := bne_iff_ne.mpr c107
             J12_
             have hcz109_0 : wc.cell? ⟨gb178, 0, none⟩ = some (.int .i64 a0_0) := (G13_).trans rfl
             have hcz109_1 : wc.cell? ⟨gb178, 1, none⟩ = some (.int .i64 a0_1) := (G14_).trans rfl
             have hcz109_2 : wc.cell? ⟨gb178, 2, none⟩ = some (.int .i64 a0_2) := (G15_).trans rfl
             have hcz109_3 : wc.cell? ⟨gb178, 3, none⟩ = some (.int .i64 a0_3) := (G16_).trans rfl
             have hcz109_4 : wc.cell? ⟨gb178, 4, none⟩ = some (.string a0_4) := (G17_).trans rfl
             have hcz109_5 : wc.cell? ⟨gb178, 5, none⟩ = some (.int .i64 a0_5) := (G18_).trans rfl
             have hcz109_6 : wc.cell? ⟨gb178, 6, none⟩ = some (.int .i64 a0_6) := (G19_).trans rfl
             have hcz109_7 : wc.cell? ⟨gb178, 7, none⟩ = some (.bool a0_7) := (G20_).trans rfl
             have hcz109_8 : wc.cell? ⟨gb178, 8, none⟩ = some (.string a0_8) := (G21_).trans rfl
             have hcz109_9 : wc.cell? ⟨gb178, 9, none⟩ = some G8_ := (G22_).trans rfl
             have hcz109_10 : wc.cell? ⟨gb178, 10, none⟩ = some (.bool a0_10) := (G10_).trans rfl
             have hcz109_11 : wc.cell? ⟨gb178, 11, none⟩ = some (.int .i64 a0_11) := (G11_).trans rfl
             have hcz109_12 : wc.cell? ⟨gb178, 12, none⟩ = some (.int .i64 a0_12) := (G12_).trans rfl
             have hfz109_0 := blk_frozen BK178.out 0
             have hfz109_1 := blk_frozen BK178.out 1
             have hfz109_2 := blk_frozen BK178.out 2
             have hfz109_3 := blk_frozen BK178.out 3
             have hfz109_4 := blk_frozen BK178.out 4
             have hfz109_5 := blk_frozen BK178.out 5
             have hfz109_6 := blk_frozen BK178.out 6
             have hfz109_7 := blk_frozen BK178.out 7
             have hfz109_8 := blk_frozen BK178.out 8
             have hfz109_9 := blk_frozen BK178.out 9
             have hfz109_10 := blk_frozen BK178.out 10
             have hfz109_11 := blk_frozen BK178.out 11
             have hfz109_12 := blk_frozen BK178.out 12
             J3_
           ·replace c106 := Bool.eq_false_iff.mpr c106
            subst c106
            J2_
            have hcz110_0 : wc.cell? ⟨gb178, 0, none⟩ = some (.int .i64 a0_0) := (G13_).trans rfl
            have hcz110_1 : wc.cell? ⟨gb178, 1, none⟩ = some (.int .i64 a0_1) := (G14_).trans rfl
            have hcz110_2 : wc.cell? ⟨gb178, 2, none⟩ = some (.int .i64 a0_2) := (G15_).trans rfl
            have hcz110_3 : wc.cell? ⟨gb178, 3, none⟩ = some (.int .i64 a0_3) := (G16_).trans rfl
            have hcz110_4 : wc.cell? ⟨gb178, 4, none⟩ = some (.string a0_4) := (G17_).trans rfl
            have hcz110_5 : wc.cell? ⟨gb178, 5, none⟩ = some (.int .i64 a0_5) := (G18_).trans rfl
            have hcz110_6 : wc.cell? ⟨gb178, 6, none⟩ = some (.int .i64 a0_6) := (G19_).trans rfl
            have hcz110_7 : wc.cell? ⟨gb178, 7, none⟩ = some (.bool a0_7) := (G20_).trans rfl
            have hcz110_8 : wc.cell? ⟨gb178, 8, none⟩ = some (.string a0_8) := (G21_).trans rfl
            have hcz110_9 : wc.cell? ⟨gb178, 9, none⟩ = some G8_ := (G22_).trans rfl
            have hcz110_10 : wc.cell? ⟨gb178, 10, none⟩ = some (.bool a0_10) := (G10_).trans rfl
            have hcz110_11 : wc.cell? ⟨gb178, 11, none⟩ = some (.int .i64 a0_11) := (G11_).trans rfl
            have hcz110_12 : wc.cell? ⟨gb178, 12, none⟩ = some (.int .i64 a0_12) := (G12_).trans rfl
            have hfz110_0 := blk_frozen BK178.out 0
            have hfz110_1 := blk_frozen BK178.out 1
            have hfz110_2 := blk_frozen BK178.out 2
            have hfz110_3 := blk_frozen BK178.out 3
            have hfz110_4 := blk_frozen BK178.out 4
            have hfz110_5 := blk_frozen BK178.out 5
            have hfz110_6 := blk_frozen BK178.out 6
            have hfz110_7 := blk_frozen BK178.out 7
            have hfz110_8 := blk_frozen BK178.out 8
            have hfz110_9 := blk_frozen BK178.out 9
            have hfz110_10 := blk_frozen BK178.out 10
            have hfz110_11 := blk_frozen BK178.out 11
            have hfz110_12 := blk_frozen BK178.out 12
            go_wp2_with (first | (G2_; refine goesL_ (some 56) rfl rfl Try.func84 (by kernel_rfl) rfl G7_ rfl G0_ ?_; G4_; rintro e w' ⟨rfl, ⟨nd, rfl⟩⟩; refine ⟨_, rfl, ?_⟩) | (G2_; refine goesL_ (some 96) rfl rfl Try.func84 (by kernel_rfl) rfl #[.int .i64 a0_5, .int .i64 0, .int .i64 ji104] rfl (by G5_; first | done | (simp only [hji104]; rfl) | rfl | G6_) ?_; (with_reducible refine (impl_within.calls a0_5 0 ji104 false _ A105.out).mono ?_); rintro e w' ⟨rfl, ⟨nd, rfl⟩⟩; refine ⟨_, rfl, ?_⟩))
            go_ret
            exact G29_
         ·rw [if_neg c89] at H
          have c89b0 : (a0_6 == 3) = false := beq_eq_false_iff_ne.mpr c89
          have c89b1 : (a0_6 != 3) = true := bne_iff_ne.mpr c89
          by_cases c111 : (a0_8.size : Int) ≤ 1000
          ·rw [if_pos c111] at H
           have c111b0 : decide ((a0_8.size : Int) ≤ 1000) = true := decide_eq_true c111
           have c111b1 : decide (a0_8.size ≤ 1000) = true := decide_eq_true (by omega)
           clear c111
           obtain ⟨ji112, hji112⟩ : ∃ j_ : Int, (mn (a0_4.size : Int) 24) = j_ := ⟨_, rfl⟩
           replace H : ((impl_within.f a0_5 0 (ji112)).bind fun t202 => (if t202 = true then (if (l0_9.length : Int) ≤ 8 then ((impl_within.f a0_11 0 1000000000).bind fun t203 => (if t203 = true then ((impl_within.f a0_12 0 12).bind fun t204 => (some t204)) else (some false))) else (some false)) else (some false))) = some r := by first | (rw [hji112] at H; exact H) | (simp only [hji112] at H ⊢; exact H)
           (try rw [hji112] at A35)
           have hji112_ : (if 24 < (a0_4.size : Int) then 24 else (a0_4.size : Int)) = ji112 := hji112
           J9_
           obtain ⟨t202, A1130, H⟩ := H
           J13_
           have A113 := Aside0.mk A1130
           clear A1130
           by_cases c114 : t202 = true
           ·subst c114
            J14_
            by_cases c115 : (l0_9.length : Int) ≤ 8
            ·rw [if_pos c115] at H
             have c115b0 : decide ((l0_9.length : Int) ≤ 8) = true := decide_eq_true c115
             have c115b1 : decide (l0_9.length ≤ 8) = true := decide_eq_true (by omega)
             clear c115
             J9_
             obtain ⟨t203, A1160, H⟩ := H
             J13_
             have A116 := Aside0.mk A1160
             clear A1160
             by_cases c117 : t203 = true
             ·subst c117
              J14_
              J9_
              obtain ⟨t204, A1180, H⟩ := H
              J13_
              have A118 := Aside0.mk A1180
              clear A1180
              J12_
              have hcz119_0 : wc.cell? ⟨gb178, 0, none⟩ = some (.int .i64 a0_0) := (G13_).trans rfl
              have hcz119_1 : wc.cell? ⟨gb178, 1, none⟩ = some (.int .i64 a0_1) := (G14_).trans rfl
              have hcz119_2 : wc.cell? ⟨gb178, 2, none⟩ = some (.int .i64 a0_2) := (G15_).trans rfl
              have hcz119_3 : wc.cell? ⟨gb178, 3, none⟩ = some (.int .i64 a0_3) := (G16_).trans rfl
              have hcz119_4 : wc.cell? ⟨gb178, 4, none⟩ = some (.string a0_4) := (G17_).trans rfl
              have hcz119_5 : wc.cell? ⟨gb178, 5, none⟩ = some (.int .i64 a0_5) := (G18_).trans rfl
              have hcz119_6 : wc.cell? ⟨gb178, 6, none⟩ = some (.int .i64 a0_6) := (G19_).trans rfl
              have hcz119_7 : wc.cell? ⟨gb178, 7, none⟩ = some (.bool a0_7) := (G20_).trans rfl
              have hcz119_8 : wc.cell? ⟨gb178, 8, none⟩ = some (.string a0_8) := (G21_).trans rfl
              have hcz119_9 : wc.cell? ⟨gb178, 9, none⟩ = some G8_ := (G22_).trans rfl
              have hcz119_10 : wc.cell? ⟨gb178, 10, none⟩ = some (.bool a0_10) := (G10_).trans rfl
              have hcz119_11 : wc.cell? ⟨gb178, 11, none⟩ = some (.int .i64 a0_11) := (G11_).trans rfl
              have hcz119_12 : wc.cell? ⟨gb178, 12, none⟩ = some (.int .i64 a0_12) := (G12_).trans rfl
              have hfz119_0 := blk_frozen BK178.out 0
              have hfz119_1 := blk_frozen BK178.out 1
              have hfz119_2 := blk_frozen BK178.out 2
              have hfz119_3 := blk_frozen BK178.out 3
              have hfz119_4 := blk_frozen BK178.out 4
              have hfz119_5 := blk_frozen BK178.out 5
              have hfz119_6 := blk_frozen BK178.out 6
              have hfz119_7 := blk_frozen BK178.out 7
              have hfz119_8 := blk_frozen BK178.out 8
              have hfz119_9 := blk_frozen BK178.out 9
              have hfz119_10 := blk_frozen BK178.out 10
              have hfz119_11 := blk_frozen BK178.out 11
              have hfz119_12 := blk_frozen BK178.out 12
              go_wp2_with (first | (G2_; refine goesL_ (some 56) rfl rfl Try.func84 (by kernel_rfl) rfl G7_ rfl G0_ ?_; G4_; rintro e w' ⟨rfl, ⟨nd, rfl⟩⟩; refine ⟨_, rfl, ?_⟩) | (G2_; refine goesL_ (some 96) rfl rfl Try.func84 (by kernel_rfl) rfl G45_ rfl G33_ ?_; G38_; rintro e w' ⟨rfl, ⟨nd, rfl⟩⟩; refine ⟨_, rfl, ?_⟩) | (go_at_call 84; (with_reducible refine (impl_within.calls a0_11 0 1000000000 true _ A116.out).mono ?_); rintro e w' ⟨rfl, ⟨nd, rfl⟩⟩) | (go_at_call 84; (with_reducible refine (impl_within.calls a0_12 0 12 t204 _ A118.out).mono ?_); rintro e w' ⟨rfl, ⟨nd, rfl⟩⟩))
              J7_
             ·replace c117 := Bool.eq_false_iff.mpr c117
              subst c117
              J2_
              have hcz120_0 : wc.cell? ⟨gb178, 0, none⟩ = some (.int .i64 a0_0) := (G13_).trans rfl
              have hcz120_1 : wc.cell? ⟨gb178, 1, none⟩ = some (.int .i64 a0_1) := (G14_).trans rfl
              have hcz120_2 : wc.cell? ⟨gb178, 2, none⟩ = some (.int .i64 a0_2) := (G15_).trans rfl
              have hcz120_3 : wc.cell? ⟨gb178, 3, none⟩ = some (.int .i64 a0_3) := (G16_).trans rfl
              have hcz120_4 : wc.cell? ⟨gb178, 4, none⟩ = some (.string a0_4) := (G17_).trans rfl
              have hcz120_5 : wc.cell? ⟨gb178, 5, none⟩ = some (.int .i64 a0_5) := (G18_).trans rfl
              have hcz120_6 : wc.cell? ⟨gb178, 6, none⟩ = some (.int .i64 a0_6) := (G19_).trans rfl
              have hcz120_7 : wc.cell? ⟨gb178, 7, none⟩ = some (.bool a0_7) := (G20_).trans rfl
              have hcz120_8 : wc.cell? ⟨gb178, 8, none⟩ = some (.string a0_8) := (G21_).trans rfl
              have hcz120_9 : wc.cell? ⟨gb178, 9, none⟩ = some G8_ := (G22_).trans rfl
              have hcz120_10 : wc.cell? ⟨gb178, 10, none⟩ = some (.bool a0_10) := (G10_).trans rfl
              have hcz120_11 : wc.cell? ⟨gb178, 11, none⟩ = some (.int .i64 a0_11) := (G11_).trans rfl
              have hcz120_12 : wc.cell? ⟨gb178, 12, none⟩ = some (.int .i64 a0_12) := (G12_).trans rfl
              have hfz120_0 := blk_frozen BK178.out 0
              have hfz120_1 := blk_frozen BK178.out 1
              have hfz120_2 := blk_frozen BK178.out 2
              have hfz120_3 := blk_frozen BK178.out 3
              have hfz120_4 := blk_frozen BK178.out 4
              have hfz120_5 := blk_frozen BK178.out 5
              have hfz120_6 := blk_frozen BK178.out 6
              have hfz120_7 := blk_frozen BK178.out 7
              have hfz120_8 := blk_frozen BK178.out 8
              have hfz120_9 := blk_frozen BK178.out 9
              have hfz120_10 := blk_frozen BK178.out 10
              have hfz120_11 := blk_frozen BK178.out 11
              have hfz120_12 := blk_frozen BK178.out 12
              go_wp2_with (first | (G2_; refine goesL_ (some 56) rfl rfl Try.func84 (by kernel_rfl) rfl G7_ rfl G0_ ?_; G4_; rintro e w' ⟨rfl, ⟨nd, rfl⟩⟩; refine ⟨_, rfl, ?_⟩) | (G2_; refine goesL_ (some 96) rfl rfl Try.func84 (by kernel_rfl) rfl G45_ rfl G33_ ?_; G38_; rintro e w' ⟨rfl, ⟨nd, rfl⟩⟩; refine ⟨_, rfl, ?_⟩) | (go_at_call 84; (with_reducible refine (impl_within.calls a0_11 0 1000000000 false _ A116.out).mono ?_); rintro e w' ⟨rfl, ⟨nd, rfl⟩⟩))
              J7_
            ·rw [if_neg c115] at H
             have c115b0 : decide ((l0_9.length : Int) ≤ 8) = false := decide_eq_false c115
             have c115b1 : decide (l0_9.length ≤ 8) = false := decide_eq_false (by omega)
             clear c115
             J12_
             have hcz121_0 : wc.cell? ⟨gb178, 0, none⟩ = some (.int .i64 a0_0) := (G13_).trans rfl
             have hcz121_1 : wc.cell? ⟨gb178, 1, none⟩ = some (.int .i64 a0_1) := (G14_).trans rfl
             have hcz121_2 : wc.cell? ⟨gb178, 2, none⟩ = some (.int .i64 a0_2) := (G15_).trans rfl
             have hcz121_3 : wc.cell? ⟨gb178, 3, none⟩ = some (.int .i64 a0_3) := (G16_).trans rfl
             have hcz121_4 : wc.cell? ⟨gb178, 4, none⟩ = some (.string a0_4) := (G17_).trans rfl
             have hcz121_5 : wc.cell? ⟨gb178, 5, none⟩ = some (.int .i64 a0_5) := (G18_).trans rfl
             have hcz121_6 : wc.cell? ⟨gb178, 6, none⟩ = some (.int .i64 a0_6) := (G19_).trans rfl
             have hcz121_7 : wc.cell? ⟨gb178, 7, none⟩ = some (.bool a0_7) := (G20_).trans rfl
             have hcz121_8 : wc.cell? ⟨gb178, 8, none⟩ = some (.string a0_8) := (G21_).trans rfl
             have hcz121_9 : wc.cell? ⟨gb178, 9, none⟩ = some G8_ := (G22_).trans rfl
             have hcz121_10 : wc.cell? ⟨gb178, 10, none⟩ = some (.bool a0_10) := (G10_).trans rfl
             have hcz121_11 : wc.cell? ⟨gb178, 11, none⟩ = some (.int .i64 a0_11) := (G11_).trans rfl
             have hcz121_12 : wc.cell? ⟨gb178, 12, none⟩ = some (.int .i64 a0_12) := (G12_).trans rfl
             have hfz121_0 := blk_frozen BK178.out 0
             have hfz121_1 := blk_frozen BK178.out 1
             have hfz121_2 := blk_frozen BK178.out 2
             have hfz121_3 := blk_frozen BK178.out 3
             have hfz121_4 := blk_frozen BK178.out 4
             have hfz121_5 := blk_frozen BK178.out 5
             have hfz121_6 := blk_frozen BK178.out 6
             have hfz121_7 := blk_frozen BK178.out 7
             have hfz121_8 := blk_frozen BK178.out 8
             have hfz121_9 := blk_frozen BK178.out 9
             have hfz121_10 := blk_frozen BK178.out 10
             have hfz121_11 := blk_frozen BK178.out 11
             have hfz121_12 := blk_frozen BK178.out 12
             go_wp2_with (first | (G2_; refine goesL_ (some 56) rfl rfl Try.func84 (by kernel_rfl) rfl G7_ rfl G0_ ?_; G4_; rintro e w' ⟨rfl, ⟨nd, rfl⟩⟩; refine ⟨_, rfl, ?_⟩) | (G2_; refine goesL_ (some 96) rfl rfl Try.func84 (by kernel_rfl) rfl G45_ rfl G33_ ?_; G38_; rintro e w' ⟨rfl, ⟨nd, rfl⟩⟩; refine ⟨_, rfl, ?_⟩))
             J7_
           ·replace c114 := Bool.eq_false_iff.mpr c114
            subst c114
            J2_
            have hcz122_0 : wc.cell? ⟨gb178, 0, none⟩ = some (.int .i64 a0_0) := (G13_).trans rfl
            have hcz122_1 : wc.cell? ⟨gb178, 1, none⟩ = some (.int .i64 a0_1) := (G14_).trans rfl
            have hcz122_2 : wc.cell? ⟨gb178, 2, none⟩ = some (.int .i64 a0_2) := (G15_).trans rfl
            have hcz122_3 : wc.cell? ⟨gb178, 3, none⟩ = some (.int .i64 a0_3) := (G16_).trans rfl
            have hcz122_4 : wc.cell? ⟨gb178, 4, none⟩ = some (.string a0_4) := (G17_).trans rfl
            have hcz122_5 : wc.cell? ⟨gb178, 5, none⟩ = some (.int .i64 a0_5) := (G18_).trans rfl
            have hcz122_6 : wc.cell? ⟨gb178, 6, none⟩ = some (.int .i64 a0_6) := (G19_).trans rfl
            have hcz122_7 : wc.cell? ⟨gb178, 7, none⟩ = some (.bool a0_7) := (G20_).trans rfl
            have hcz122_8 : wc.cell? ⟨gb178, 8, none⟩ = some (.string a0_8) := (G21_).trans rfl
            have hcz122_9 : wc.cell? ⟨gb178, 9, none⟩ = some G8_ := (G22_).trans rfl
            have hcz122_10 : wc.cell? ⟨gb178, 10, none⟩ = some (.bool a0_10) := (G10_).trans rfl
            have hcz122_11 : wc.cell? ⟨gb178, 11, none⟩ = some (.int .i64 a0_11) := (G11_).trans rfl
            have hcz122_12 : wc.cell? ⟨gb178, 12, none⟩ = some (.int .i64 a0_12) := (G12_).trans rfl
            have hfz122_0 := blk_frozen BK178.out 0
            have hfz122_1 := blk_frozen BK178.out 1
            have hfz122_2 := blk_frozen BK178.out 2
            have hfz122_3 := blk_frozen BK178.out 3
            have hfz122_4 := blk_frozen BK178.out 4
            have hfz122_5 := blk_frozen BK178.out 5
            have hfz122_6 := blk_frozen BK178.out 6
            have hfz122_7 := blk_frozen BK178.out 7
            have hfz122_8 := blk_frozen BK178.out 8
            have hfz122_9 := blk_frozen BK178.out 9
            have hfz122_10 := blk_frozen BK178.out 10
            have hfz122_11 := blk_frozen BK178.out 11
            have hfz122_12 := blk_frozen BK178.out 12
            go_wp2_with (first | (G2_; refine goesL_ (some 56) rfl rfl Try.func84 (by kernel_rfl) rfl G7_ rfl G0_ ?_; G4_; rintro e w' ⟨rfl, ⟨nd, rfl⟩⟩; refine ⟨_, rfl, ?_⟩) | (G2_; refine goesL_ (some 96) rfl rfl Try.func84 (by kernel_rfl) rfl G45_ rfl G33_ ?_; (with_reducible refine (impl_within.calls a0_5 0 ji112 false _ A113.out).mono ?_); rintro e w' ⟨rfl, ⟨nd, rfl⟩⟩; refine ⟨_, rfl, ?_⟩))
            J7_
          ·rw [if_neg c111] at H
           have c111b0 : decide ((a0_8.size : Int) ≤ 1000) = false := decide_eq_false c111
           have c111b1 : decide (a0_8.size ≤ 1000) = false := decide_eq_false (by omega)
           clear c111
           obtain ⟨ji123, hji123⟩ : ∃ j_ : Int, (mn (a0_4.size : Int) 24) = j_ := ⟨_, rfl⟩
           replace H : ((impl_within.f a0_5 0 (ji123)).bind fun t205 => (if t205 = true then (some false) else (some false))) = some r := by first | (rw [hji123] at H; exact H) | (simp only [hji123] at H ⊢; exact H)
           (try rw [hji123] at A35)
           have hji123_ : (if 24 < (a0_4.size : Int) then 24 else (a0_4.size : Int)) = ji123 := hji123
           J9_
           obtain ⟨t205, A1240, H⟩ := H
           J13_
           have A124 := Aside0.mk A1240
           clear A1240
           by_cases c125 : t205 = true
           ·subst c125
            J14_
            J12_
            have hcz126_0 : wc.cell? ⟨gb178, 0, none⟩ = some (.int .i64 a0_0) := (G13_).trans rfl
            have hcz126_1 : wc.cell? ⟨gb178, 1, none⟩ = some (.int .i64 a0_1) := (G14_).trans rfl
            have hcz126_2 : wc.cell? ⟨gb178, 2, none⟩ = some (.int .i64 a0_2) := (G15_).trans rfl
            have hcz126_3 : wc.cell? ⟨gb178, 3, none⟩ = some (.int .i64 a0_3) := (G16_).trans rfl
            have hcz126_4 : wc.cell? ⟨gb178, 4, none⟩ = some (.string a0_4) := (G17_).trans rfl
            have hcz126_5 : wc.cell? ⟨gb178, 5, none⟩ = some (.int .i64 a0_5) := (G18_).trans rfl
            have hcz126_6 : wc.cell? ⟨gb178, 6, none⟩ = some (.int .i64 a0_6) := (G19_).trans rfl
            have hcz126_7 : wc.cell? ⟨gb178, 7, none⟩ = some (.bool a0_7) := (G20_).trans rfl
            have hcz126_8 : wc.cell? ⟨gb178, 8, none⟩ = some (.string a0_8) := (G21_).trans rfl
            have hcz126_9 : wc.cell? ⟨gb178, 9, none⟩ = some G8_ := (G22_).trans rfl
            have hcz126_10 : wc.cell? ⟨gb178, 10, none⟩ = some (.bool a0_10) := (G10_).trans rfl
            have hcz126_11 : wc.cell? ⟨gb178, 11, none⟩ = some (.int .i64 a0_11) := (G11_).trans rfl
            have hcz126_12 : wc.cell? ⟨gb178, 12, none⟩ = some (.int .i64 a0_12) := (G12_).trans rfl
            have hfz126_0 := blk_frozen BK178.out 0
            have hfz126_1 := blk_frozen BK178.out 1
            have hfz126_2 := blk_frozen BK178.out 2
            have hfz126_3 := blk_frozen BK178.out 3
            have hfz126_4 := blk_frozen BK178.out 4
            have hfz126_5 := blk_frozen BK178.out 5
            have hfz126_6 := blk_frozen BK178.out 6
            have hfz126_7 := blk_frozen BK178.out 7
            have hfz126_8 := blk_frozen BK178.out 8
            have hfz126_9 := blk_frozen BK178.out 9
            have hfz126_10 := blk_frozen BK178.out 10
            have hfz126_11 := blk_frozen BK178.out 11
            have hfz126_12 := blk_frozen BK178.out 12
            go_wp2_with (first | (G2_; refine goesL_ (some 56) rfl rfl Try.func84 (by kernel_rfl) rfl G7_ rfl G0_ ?_; G4_; rintro e w' ⟨rfl, ⟨nd, rfl⟩⟩; refine ⟨_, rfl, ?_⟩) | (G2_; refine goesL_ (some 96) rfl rfl Try.func84 (by kernel_rfl) rfl #[.int .i64 a0_5, .int .i64 0, .int .i64 ji123] rfl (by G5_; first | done | (simp only [hji123]; rfl) | rfl | G6_) ?_; (with_reducible refine (impl_within.calls a0_5 0 ji123 true _ A124.out).mono ?_); rintro e w' ⟨rfl, ⟨nd, rfl⟩⟩; refine ⟨_, rfl, ?_⟩))
            J15_
           ·replace c125 := Bool.eq_false_iff.mpr c125
            subst c125
            J2_
            have hcz127_0 : wc.cell? ⟨gb178, 0, none⟩ = some (.int .i64 a0_0) := (G13_).trans rfl
            have hcz127_1 : wc.cell? ⟨gb178, 1, none⟩ = some (.int .i64 a0_1) := (G14_).trans rfl
            have hcz127_2 : wc.cell? ⟨gb178, 2, none⟩ = some (.int .i64 a0_2) := (G15_).trans rfl
            have hcz127_3 : wc.cell? ⟨gb178, 3, none⟩ = some (.int .i64 a0_3) := (G16_).trans rfl
            have hcz127_4 : wc.cell? ⟨gb178, 4, none⟩ = some (.string a0_4) := (G17_).trans rfl
            have hcz127_5 : wc.cell? ⟨gb178, 5, none⟩ = some (.int .i64 a0_5) := (G18_).trans rfl
            have hcz127_6 : wc.cell? ⟨gb178, 6, none⟩ = some (.int .i64 a0_6) := (G19_).trans rfl
            have hcz127_7 : wc.cell? ⟨gb178, 7, none⟩ = some (.bool a0_7) := (G20_).trans rfl
            have hcz127_8 : wc.cell? ⟨gb178, 8, none⟩ = some (.string a0_8) := (G21_).trans rfl
            have hcz127_9 : wc.cell? ⟨gb178, 9, none⟩ = some G8_ := (G22_).trans rfl
            have hcz127_10 : wc.cell? ⟨gb178, 10, none⟩ = some (.bool a0_10) := (G10_).trans rfl
            have hcz127_11 : wc.cell? ⟨gb178, 11, none⟩ = some (.int .i64 a0_11) := (G11_).trans rfl
            have hcz127_12 : wc.cell? ⟨gb178, 12, none⟩ = some (.int .i64 a0_12) := (G12_).trans rfl
            have hfz127_0 := blk_frozen BK178.out 0
            have hfz127_1 := blk_frozen BK178.out 1
            have hfz127_2 := blk_frozen BK178.out 2
            have hfz127_3 := blk_frozen BK178.out 3
            have hfz127_4 := blk_frozen BK178.out 4
            have hfz127_5 := blk_frozen BK178.out 5
            have hfz127_6 := blk_frozen BK178.out 6
            have hfz127_7 := blk_frozen BK178.out 7
            have hfz127_8 := blk_frozen BK178.out 8
            have hfz127_9 := blk_frozen BK178.out 9
            have hfz127_10 := blk_frozen BK178.out 10
            have hfz127_11 := blk_frozen BK178.out 11
            have hfz127_12 := blk_frozen BK178.out 12
            go_wp2_with (first | (G2_; refine goesL_ (some 56) rfl rfl Try.func84 (by kernel_rfl) rfl G7_ rfl G0_ ?_; G4_; rintro e w' ⟨rfl, ⟨nd, rfl⟩⟩; refine ⟨_, rfl, ?_⟩) | (G2_; refine goesL_ (some 96) rfl rfl Try.func84 (by kernel_rfl) rfl #[.int .i64 a0_5, .int .i64 0, .int .i64 ji123] rfl (by G5_; first | done | (simp only [hji123]; rfl) | rfl | G6_) ?_; (with_reducible refine (impl_within.calls a0_5 0 ji123 false _ A124.out).mono ?_); rintro e w' ⟨rfl, ⟨nd, rfl⟩⟩; refine ⟨_, rfl, ?_⟩))
            J15_
       ·replace c36 := Bool.eq_false_iff.mpr c36
        subst c36
        rw [if_neg G53_] at H
        by_cases c128 : (a0_8.size : Int) ≤ 1000
        ·rw [if_pos c128] at H
         have c128b0 : decide ((a0_8.size : Int) ≤ 1000) = true := decide_eq_true c128
         have c128b1 : decide (a0_8.size ≤ 1000) = true := decide_eq_true (by omega)
         clear c128
         obtain ⟨ji129, hji129⟩ : ∃ j_ : Int, (mn (a0_4.size : Int) 24) = j_ := ⟨_, rfl⟩
         replace H : ((impl_within.f a0_5 0 (ji129)).bind fun t206 => (if t206 = true then (some false) else (some false))) = some r := by first | (rw [hji129] at H; exact H) | (simp only [hji129] at H ⊢; exact H)
         (try rw [hji129] at A35)
         have hji129_ : (if 24 < (a0_4.size : Int) then 24 else (a0_4.size : Int)) = ji129 := hji129
         J9_
         obtain ⟨t206, A1300, H⟩ := H
         J13_
         have A130 := Aside0.mk A1300
         clear A1300
         by_cases c131 : t206 = true
         ·subst c131
          J14_
          J12_
          have hcz132_0 : wc.cell? ⟨gb178, 0, none⟩ = some (.int .i64 a0_0) := (G13_).trans rfl
          have hcz132_1 : wc.cell? ⟨gb178, 1, none⟩ = some (.int .i64 a0_1) := (G14_).trans rfl
          have hcz132_2 : wc.cell? ⟨gb178, 2, none⟩ = some (.int .i64 a0_2) := (G15_).trans rfl
          have hcz132_3 : wc.cell? ⟨gb178, 3, none⟩ = some (.int .i64 a0_3) := (G16_).trans rfl
          have hcz132_4 : wc.cell? ⟨gb178, 4, none⟩ = some (.string a0_4) := (G17_).trans rfl
          have hcz132_5 : wc.cell? ⟨gb178, 5, none⟩ = some (.int .i64 a0_5) := (G18_).trans rfl
          have hcz132_6 : wc.cell? ⟨gb178, 6, none⟩ = some (.int .i64 a0_6) := (G19_).trans rfl
          have hcz132_7 : wc.cell? ⟨gb178, 7, none⟩ = some (.bool a0_7) := (G20_).trans rfl
          have hcz132_8 : wc.cell? ⟨gb178, 8, none⟩ = some (.string a0_8) := (G21_).trans rfl
          have hcz132_9 : wc.cell? ⟨gb178, 9, none⟩ = some G8_ := (G22_).trans rfl
          have hcz132_10 : wc.cell? ⟨gb178, 10, none⟩ = some (.bool a0_10) := (G10_).trans rfl
          have hcz132_11 : wc.cell? ⟨gb178, 11, none⟩ = some (.int .i64 a0_11) := (G11_).trans rfl
          have hcz132_12 : wc.cell? ⟨gb178, 12, none⟩ = some (.int .i64 a0_12) := (G12_).trans rfl
          have hfz132_0 := blk_frozen BK178.out 0
          have hfz132_1 := blk_frozen BK178.out 1
          have hfz132_2 := blk_frozen BK178.out 2
          have hfz132_3 := blk_frozen BK178.out 3
          have hfz132_4 := blk_frozen BK178.out 4
          have hfz132_5 := blk_frozen BK178.out 5
          have hfz132_6 := blk_frozen BK178.out 6
          have hfz132_7 := blk_frozen BK178.out 7
          have hfz132_8 := blk_frozen BK178.out 8
          have hfz132_9 := blk_frozen BK178.out 9
          have hfz132_10 := blk_frozen BK178.out 10
          have hfz132_11 := blk_frozen BK178.out 11
          have hfz132_12 := blk_frozen BK178.out 12
          go_wp2_with (first | (G2_; refine goesL_ (some 56) rfl rfl Try.func84 (by kernel_rfl) rfl G7_ rfl G0_ ?_; G27_; rintro e w' ⟨rfl, ⟨nd, rfl⟩⟩; refine ⟨_, rfl, ?_⟩) | (G2_; refine goesL_ (some 96) rfl rfl Try.func84 (by kernel_rfl) rfl #[.int .i64 a0_5, .int .i64 0, .int .i64 ji129] rfl (by G5_; first | done | (simp only [hji129]; rfl) | rfl | G6_) ?_; (with_reducible refine (impl_within.calls a0_5 0 ji129 true _ A130.out).mono ?_); rintro e w' ⟨rfl, ⟨nd, rfl⟩⟩; refine ⟨_, rfl, ?_⟩))
          J16_
         ·replace c131 := Bool.eq_false_iff.mpr c131
          subst c131
          J2_
          have hcz133_0 : wc.cell? ⟨gb178, 0, none⟩ = some (.int .i64 a0_0) := (G13_).trans rfl
          have hcz133_1 : wc.cell? ⟨gb178, 1, none⟩ = some (.int .i64 a0_1) := (G14_).trans rfl
          have hcz133_2 : wc.cell? ⟨gb178, 2, none⟩ = some (.int .i64 a0_2) := (G15_).trans rfl
          have hcz133_3 : wc.cell? ⟨gb178, 3, none⟩ = some (.int .i64 a0_3) := (G16_).trans rfl
          have hcz133_4 : wc.cell? ⟨gb178, 4, none⟩ = some (.string a0_4) := (G17_).trans rfl
          have hcz133_5 : wc.cell? ⟨gb178, 5, none⟩ = some (.int .i64 a0_5) := (G18_).trans rfl
          have hcz133_6 : wc.cell? ⟨gb178, 6, none⟩ = some (.int .i64 a0_6) := (G19_).trans rfl
          have hcz133_7 : wc.cell? ⟨gb178, 7, none⟩ = some (.bool a0_7) := (G20_).trans rfl
          have hcz133_8 : wc.cell? ⟨gb178, 8, none⟩ = some (.string a0_8) := (G21_).trans rfl
          have hcz133_9 : wc.cell? ⟨gb178, 9, none⟩ = some G8_ := (G22_).trans rfl
          have hcz133_10 : wc.cell? ⟨gb178, 10, none⟩ = some (.bool a0_10) := (G10_).trans rfl
          have hcz133_11 : wc.cell? ⟨gb178, 11, none⟩ = some (.int .i64 a0_11) := (G11_).trans rfl
          have hcz133_12 : wc.cell? ⟨gb178, 12, none⟩ = some (.int .i64 a0_12) := (G12_).trans rfl
          have hfz133_0 := blk_frozen BK178.out 0
          have hfz133_1 := blk_frozen BK178.out 1
          have hfz133_2 := blk_frozen BK178.out 2
          have hfz133_3 := blk_frozen BK178.out 3
          have hfz133_4 := blk_frozen BK178.out 4
          have hfz133_5 := blk_frozen BK178.out 5
          have hfz133_6 := blk_frozen BK178.out 6
          have hfz133_7 := blk_frozen BK178.out 7
          have hfz133_8 := blk_frozen BK178.out 8
          have hfz133_9 := blk_frozen BK178.out 9
          have hfz133_10 := blk_frozen BK178.out 10
          have hfz133_11 := blk_frozen BK178.out 11
          have hfz133_12 := blk_frozen BK178.out 12
          go_wp2_with (first | (G2_; refine goesL_ (some 56) rfl rfl Try.func84 (by kernel_rfl) rfl G7_ rfl G0_ ?_; G27_; rintro e w' ⟨rfl, ⟨nd, rfl⟩⟩; refine ⟨_, rfl, ?_⟩) | (G2_; refine goesL_ (some 96) rfl rfl Try.func84 (by kernel_rfl) rfl #[.int .i64 a0_5, .int .i64 0, .int .i64 ji129] rfl (by G5_; first | done | (simp only [hji129]; rfl) | rfl | G6_) ?_; (with_reducible refine (impl_within.calls a0_5 0 ji129 false _ A130.out).mono ?_); rintro e w' ⟨rfl, ⟨nd, rfl⟩⟩; refine ⟨_, rfl, ?_⟩))
          J16_
        ·rw [if_neg c128] at H
         have c128b0 : decide ((a0_8.size : Int) ≤ 1000) = false := decide_eq_false c128
         have c128b1 : decide (a0_8.size ≤ 1000) = false := decide_eq_false (by omega)
         clear c128
         obtain ⟨ji134, hji134⟩ : ∃ j_ : Int, (mn (a0_4.size : Int) 24) = j_ := ⟨_, rfl⟩
         replace H : ((impl_within.f a0_5 0 (ji134)).bind fun t207 => (if t207 = true then (some false) else (some false))) = some r := by first | (rw [hji134] at H; exact H) | (simp only [hji134] at H ⊢; exact H)
         (try rw [hji134] at A35)
         have hji134_ : (if 24 < (a0_4.size : Int) then 24 else (a0_4.size : Int)) = ji134 := hji134
         J9_
         obtain ⟨t207, A1350, H⟩ := H
         J13_
         have A135 := Aside0.mk A1350
         clear A1350
         by_cases c136 : t207 = true
         ·subst c136
          J14_
          J12_
          have hcz137_0 : wc.cell? ⟨gb178, 0, none⟩ = some (.int .i64 a0_0) := (G13_).trans rfl
          have hcz137_1 : wc.cell? ⟨gb178, 1, none⟩ = some (.int .i64 a0_1) := (G14_).trans rfl
          have hcz137_2 : wc.cell? ⟨gb178, 2, none⟩ = some (.int .i64 a0_2) := (G15_).trans rfl
          have hcz137_3 : wc.cell? ⟨gb178, 3, none⟩ = some (.int .i64 a0_3) := (G16_).trans rfl
          have hcz137_4 : wc.cell? ⟨gb178, 4, none⟩ = some (.string a0_4) := (G17_).trans rfl
          have hcz137_5 : wc.cell? ⟨gb178, 5, none⟩ = some (.int .i64 a0_5) := (G18_).trans rfl
          have hcz137_6 : wc.cell? ⟨gb178, 6, none⟩ = some (.int .i64 a0_6) := (G19_).trans rfl
          have hcz137_7 : wc.cell? ⟨gb178, 7, none⟩ = some (.bool a0_7) := (G20_).trans rfl
          have hcz137_8 : wc.cell? ⟨gb178, 8, none⟩ = some (.string a0_8) := (G21_).trans rfl
          have hcz137_9 : wc.cell? ⟨gb178, 9, none⟩ = some G8_ := (G22_).trans rfl
          have hcz137_10 : wc.cell? ⟨gb178, 10, none⟩ = some (.bool a0_10) := (G10_).trans rfl
          have hcz137_11 : wc.cell? ⟨gb178, 11, none⟩ = some (.int .i64 a0_11) := (G11_).trans rfl
          have hcz137_12 : wc.cell? ⟨gb178, 12, none⟩ = some (.int .i64 a0_12) := (G12_).trans rfl
          have hfz137_0 := blk_frozen BK178.out 0
          have hfz137_1 := blk_frozen BK178.out 1
          have hfz137_2 := blk_frozen BK178.out 2
          have hfz137_3 := blk_frozen BK178.out 3
          have hfz137_4 := blk_frozen BK178.out 4
          have hfz137_5 := blk_frozen BK178.out 5
          have hfz137_6 := blk_frozen BK178.out 6
          have hfz137_7 := blk_frozen BK178.out 7
          have hfz137_8 := blk_frozen BK178.out 8
          have hfz137_9 := blk_frozen BK178.out 9
          have hfz137_10 := blk_frozen BK178.out 10
          have hfz137_11 := blk_frozen BK178.out 11
          have hfz137_12 := blk_frozen BK178.out 12
          go_wp2_with (first | (G2_; refine goesL_ (some 56) rfl rfl Try.func84 (by kernel_rfl) rfl G7_ rfl G0_ ?_; G27_; rintro e w' ⟨rfl, ⟨nd, rfl⟩⟩; refine ⟨_, rfl, ?_⟩) | (G2_; refine goesL_ (some 96) rfl rfl Try.func84 (by kernel_rfl) rfl #[.int .i64 a0_5, .int .i64 0, .int .i64 ji134] rfl (by G5_; first | done | (simp only [hji134]; rfl) | rfl | G6_) ?_; (with_reducible refine (impl_within.calls a0_5 0 ji134 true _ A135.out).mono ?_); rintro e w' ⟨rfl, ⟨nd, rfl⟩⟩; refine ⟨_, rfl, ?_⟩))
          J17_
         ·replace c136 := Bool.eq_false_iff.mpr c136
          subst c136
          J2_
          have hcz138_0 : wc.cell? ⟨gb178, 0, none⟩ = some (.int .i64 a0_0) := (G13_).trans rfl
          have hcz138_1 : wc.cell? ⟨gb178, 1, none⟩ = some (.int .i64 a0_1) := (G14_).trans rfl
          have hcz138_2 : wc.cell? ⟨gb178, 2, none⟩ = some (.int .i64 a0_2) := (G15_).trans rfl
          have hcz138_3 : wc.cell? ⟨gb178, 3, none⟩ = some (.int .i64 a0_3) := (G16_).trans rfl
          have hcz138_4 : wc.cell? ⟨gb178, 4, none⟩ = some (.string a0_4) := (G17_).trans rfl
          have hcz138_5 : wc.cell? ⟨gb178, 5, none⟩ = some (.int .i64 a0_5) := (G18_).trans rfl
          have hcz138_6 : wc.cell? ⟨gb178, 6, none⟩ = some (.int .i64 a0_6) := (G19_).trans rfl
          have hcz138_7 : wc.cell? ⟨gb178, 7, none⟩ = some (.bool a0_7) := (G20_).trans rfl
          have hcz138_8 : wc.cell? ⟨gb178, 8, none⟩ = some (.string a0_8) := (G21_).trans rfl
          have hcz138_9 : wc.cell? ⟨gb178, 9, none⟩ = some G8_ := (G22_).trans rfl
          have hcz138_10 : wc.cell? ⟨gb178, 10, none⟩ = some (.bool a0_10) := (G10_).trans rfl
          have hcz138_11 : wc.cell? ⟨gb178, 11, none⟩ = some (.int .i64 a0_11) := (G11_).trans rfl
          have hcz138_12 : wc.cell? ⟨gb178, 12, none⟩ = some (.int .i64 a0_12) := (G12_).trans rfl
          have hfz138_0 := blk_frozen BK178.out 0
          have hfz138_1 := blk_frozen BK178.out 1
          have hfz138_2 := blk_frozen BK178.out 2
          have hfz138_3 := blk_frozen BK178.out 3
          have hfz138_4 := blk_frozen BK178.out 4
          have hfz138_5 := blk_frozen BK178.out 5
          have hfz138_6 := blk_frozen BK178.out 6
          have hfz138_7 := blk_frozen BK178.out 7
          have hfz138_8 := blk_frozen BK178.out 8
          have hfz138_9 := blk_frozen BK178.out 9
          have hfz138_10 := blk_frozen BK178.out 10
          have hfz138_11 := blk_frozen BK178.out 11
          have hfz138_12 := blk_frozen BK178.out 12
          go_wp2_with (first | (G2_; refine goesL_ (some 56) rfl rfl Try.func84 (by kernel_rfl) rfl G7_ rfl G0_ ?_; G27_; rintro e w' ⟨rfl, ⟨nd, rfl⟩⟩; refine ⟨_, rfl, ?_⟩) | (G2_; refine goesL_ (some 96) rfl rfl Try.func84 (by kernel_rfl) rfl #[.int .i64 a0_5, .int .i64 0, .int .i64 ji134] rfl (by G5_; first | done | (simp only [hji134]; rfl) | rfl | G6_) ?_; (with_reducible refine (impl_within.calls a0_5 0 ji134 false _ A135.out).mono ?_); rintro e w' ⟨rfl, ⟨nd, rfl⟩⟩; refine ⟨_, rfl, ?_⟩))
          J17_

end Go.Proofs.Ytjijbffecppeiaa.QFnExactShut
