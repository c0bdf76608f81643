-- PRINTED BY print.sh 35421559b90ae4d0a3588c463048766b98c2df88dd9212a6774a882060cdf62d: not written by this session
import Derived.Test.YtakapoionaaimaaPFnExactStreamNewx0
import Derived.Test.YtakapoionaaimaaPFnExactStreamNewx1
import Derived.Test.YtakapoionaaimaaPFnExactStreamNewx2
namespace Go.Proofs.Ytakapoionaaimaa.PFnExactStreamNew
open Go.RowKit Go.Proofs.YtakapoionaaimaaW.PrintWords Go.Proofs.YtakapoionaaimaaW.PrintLast Go.Proofs.YtakapoionaaimaaW.PrintMore
attribute [local go_sem] max2_int min2_int max_two min_two max_three min_three max_four min_four   -- for this text's walks alone
set_option linter.unusedVariables false
set_option linter.unusedSimpArgs false

/-! ### laws_FnExactStreamNew: function 10 -/
mutual
def laws_FnExactStreamNew.j0 : Nat → Int → Bool → Bool → Bool → Int → Int → Int → Int → ByteArray → Int → Int → Bool → ByteArray → List (S154) → Bool → Int → Int → Int → Int → Int → Int → ByteArray → Int → Int → Bool → ByteArray → List (S154) → Bool → Int → Int → Option (Bool)
  | 0, _, _, _, _, _, _, _, _, _, _, _, _, _, _, _, _, _, _, _, _, _, _, _, _, _, _, _, _, _, _ => none
  | k + 1, x0, x1, x6, x33, x147000, x147001, x147002, x147003, x147004, x147005, x147006, x147007, x147008, x147009, x147010, x147011, x147012, x164000, x164001, x164002, x164003, x164004, x164005, x164006, x164007, x164008, x164009, x164010, x164011, x164012 => if x33 = true then (some false) else ((laws_markStream.f k x164000 x164001 x164002 x164003 x164004 x164005 x164006 x164007 x164008 x164009 x164010 x164011 x164012 1).bind fun bt165 => ((laws_heldStream.f k x164000 x164001 x164002 x164003 x164004 x164005 x164006 x164007 x164008 bt165.2 x164010 x164011 x164012 1).bind fun t167 => (if t167 < 0 then (some false) else (if t167 = bt165.1 then ((impl_StreamNew.f x0 x1).bind fun bt168 => ((laws_eqStream.f k bt168.1 bt168.2.1 bt168.2.2.1 bt168.2.2.2.1 bt168.2.2.2.2.1 bt168.2.2.2.2.2.1 bt168.2.2.2.2.2.2.1 bt168.2.2.2.2.2.2.2.1 bt168.2.2.2.2.2.2.2.2.1 bt168.2.2.2.2.2.2.2.2.2.1 bt168.2.2.2.2.2.2.2.2.2.2.1 bt168.2.2.2.2.2.2.2.2.2.2.2.1 bt168.2.2.2.2.2.2.2.2.2.2.2.2.1 x147000 x147001 x147002 x147003 x147004 x147005 x147006 x147007 x147008 x147009 x147010 x147011 x147012).bind fun t185 => (if t185 = true then (laws_FnExactStreamNew.j1 k bt165.1 (bt168.2.2.2.2.2.2.2.2.2.2.2.2.2 != x6) x164000 x164001 x164002 x164003 x164004 x164005 x164006 x164007 x164008 bt165.2 x164010 x164011 x164012) else (laws_FnExactStreamNew.j1 k bt165.1 true x164000 x164001 x164002 x164003 x164004 x164005 x164006 x164007 x164008 bt165.2 x164010 x164011 x164012)))) else (some false)))))
def laws_FnExactStreamNew.j1 : Nat → Int → Bool → Int → Int → Int → Int → ByteArray → Int → Int → Bool → ByteArray → List (S154) → Bool → Int → Int → Option (Bool)
  | 0, _, _, _, _, _, _, _, _, _, _, _, _, _, _, _ => none
  | k + 1, x9, x59, x164000, x164001, x164002, x164003, x164004, x164005, x164006, x164007, x164008, x164009, x164010, x164011, x164012 => if x59 = true then (some false) else ((laws_heldStream.f k x164000 x164001 x164002 x164003 x164004 x164005 x164006 x164007 x164008 x164009 x164010 x164011 x164012 1).bind fun t186 => (if t186 < 0 then (some false) else (if t186 = x9 then (some true) else (some false))))
end
def laws_FnExactStreamNew.f (k : Nat) (a0 : Int) (a1 : Bool) : Option (Bool) := (spec_StreamNew.f a0 a1).bind fun bt130 => ((impl_StreamNew.f a0 a1).bind fun bt147 => ((laws_eqStream.f k bt147.1 bt147.2.1 bt147.2.2.1 bt147.2.2.2.1 bt147.2.2.2.2.1 bt147.2.2.2.2.2.1 bt147.2.2.2.2.2.2.1 bt147.2.2.2.2.2.2.2.1 bt147.2.2.2.2.2.2.2.2.1 bt147.2.2.2.2.2.2.2.2.2.1 bt147.2.2.2.2.2.2.2.2.2.2.1 bt147.2.2.2.2.2.2.2.2.2.2.2.1 bt147.2.2.2.2.2.2.2.2.2.2.2.2.1 bt130.1 bt130.2.1 bt130.2.2.1 bt130.2.2.2.1 bt130.2.2.2.2.1 bt130.2.2.2.2.2.1 bt130.2.2.2.2.2.2.1 bt130.2.2.2.2.2.2.2.1 bt130.2.2.2.2.2.2.2.2.1 bt130.2.2.2.2.2.2.2.2.2.1 bt130.2.2.2.2.2.2.2.2.2.2.1 bt130.2.2.2.2.2.2.2.2.2.2.2.1 bt130.2.2.2.2.2.2.2.2.2.2.2.2.1).bind fun t164 => (if t164 = true then (laws_FnExactStreamNew.j0 k a0 a1 bt130.2.2.2.2.2.2.2.2.2.2.2.2.2 (bt147.2.2.2.2.2.2.2.2.2.2.2.2.2 != bt130.2.2.2.2.2.2.2.2.2.2.2.2.2) bt130.1 bt130.2.1 bt130.2.2.1 bt130.2.2.2.1 bt130.2.2.2.2.1 bt130.2.2.2.2.2.1 bt130.2.2.2.2.2.2.1 bt130.2.2.2.2.2.2.2.1 bt130.2.2.2.2.2.2.2.2.1 bt130.2.2.2.2.2.2.2.2.2.1 bt130.2.2.2.2.2.2.2.2.2.2.1 bt130.2.2.2.2.2.2.2.2.2.2.2.1 bt130.2.2.2.2.2.2.2.2.2.2.2.2.1 bt147.1 bt147.2.1 bt147.2.2.1 bt147.2.2.2.1 bt147.2.2.2.2.1 bt147.2.2.2.2.2.1 bt147.2.2.2.2.2.2.1 bt147.2.2.2.2.2.2.2.1 bt147.2.2.2.2.2.2.2.2.1 bt147.2.2.2.2.2.2.2.2.2.1 bt147.2.2.2.2.2.2.2.2.2.2.1 bt147.2.2.2.2.2.2.2.2.2.2.2.1 bt147.2.2.2.2.2.2.2.2.2.2.2.2.1) else (laws_FnExactStreamNew.j0 k a0 a1 bt130.2.2.2.2.2.2.2.2.2.2.2.2.2 true bt130.1 bt130.2.1 bt130.2.2.1 bt130.2.2.2.1 bt130.2.2.2.2.1 bt130.2.2.2.2.2.1 bt130.2.2.2.2.2.2.1 bt130.2.2.2.2.2.2.2.1 bt130.2.2.2.2.2.2.2.2.1 bt130.2.2.2.2.2.2.2.2.2.1 bt130.2.2.2.2.2.2.2.2.2.2.1 bt130.2.2.2.2.2.2.2.2.2.2.2.1 bt130.2.2.2.2.2.2.2.2.2.2.2.2.1 bt147.1 bt147.2.1 bt147.2.2.1 bt147.2.2.2.1 bt147.2.2.2.2.1 bt147.2.2.2.2.2.1 bt147.2.2.2.2.2.2.1 bt147.2.2.2.2.2.2.2.1 bt147.2.2.2.2.2.2.2.2.1 bt147.2.2.2.2.2.2.2.2.2.1 bt147.2.2.2.2.2.2.2.2.2.2.1 bt147.2.2.2.2.2.2.2.2.2.2.2.1 bt147.2.2.2.2.2.2.2.2.2.2.2.2.1))))
theorem laws_FnExactStreamNew.mono_l : ∀ k, (∀ y0 y1 y2 y3 y4 y5 y6 y7 y8 y9 y10 y11 y12 y13 y14 y15 y16 y17 y18 y19 y20 y21 y22 y23 y24 y25 y26 y27 y28 y29, LeO (laws_FnExactStreamNew.j0 k y0 y1 y2 y3 y4 y5 y6 y7 y8 y9 y10 y11 y12 y13 y14 y15 y16 y17 y18 y19 y20 y21 y22 y23 y24 y25 y26 y27 y28 y29) (laws_FnExactStreamNew.j0 (k + 1) y0 y1 y2 y3 y4 y5 y6 y7 y8 y9 y10 y11 y12 y13 y14 y15 y16 y17 y18 y19 y20 y21 y22 y23 y24 y25 y26 y27 y28 y29)) ∧ (∀ y0 y1 y2 y3 y4 y5 y6 y7 y8 y9 y10 y11 y12 y13 y14, LeO (laws_FnExactStreamNew.j1 k y0 y1 y2 y3 y4 y5 y6 y7 y8 y9 y10 y11 y12 y13 y14) (laws_FnExactStreamNew.j1 (k + 1) y0 y1 y2 y3 y4 y5 y6 y7 y8 y9 y10 y11 y12 y13 y14))
  | 0 => ⟨fun _ _ _ _ _ _ _ _ _ _ _ _ _ _ _ _ _ _ _ _ _ _ _ _ _ _ _ _ _ _ r h => by simp [laws_FnExactStreamNew.j0] at h, fun _ _ _ _ _ _ _ _ _ _ _ _ _ _ _ r h => by simp [laws_FnExactStreamNew.j1] at h⟩
  | k + 1 => by
    obtain ⟨ih0, ih1⟩ := laws_FnExactStreamNew.mono_l k
    refine ⟨?_, ?_⟩
    · intro y0 y1 y2 y3 y4 y5 y6 y7 y8 y9 y10 y11 y12 y13 y14 y15 y16 y17 y18 y19 y20 y21 y22 y23 y24 y25 y26 y27 y28 y29
      unfold laws_FnExactStreamNew.j0
      repeat' first
      | (with_reducible exact ih0 _ _ _ _ _ _ _ _ _ _ _ _ _ _ _ _ _ _ _ _ _ _ _ _ _ _ _ _ _ _)
      | (with_reducible exact ih1 _ _ _ _ _ _ _ _ _ _ _ _ _ _ _)
      | (with_reducible exact laws_eqStream.mono _ _ _ _ _ _ _ _ _ _ _ _ _ _ _ _ _ _ _ _ _ _ _ _ _ _ _)
      | (with_reducible exact laws_heldStream.mono _ _ _ _ _ _ _ _ _ _ _ _ _ _ _)
      | (with_reducible exact laws_markStream.mono _ _ _ _ _ _ _ _ _ _ _ _ _ _ _)
      | (with_reducible exact LeO.refl _)
      | (with_reducible exact LeO.none _)
      | (with_reducible refine LeO.ite ?_ ?_)
      | (with_reducible refine LeO.bind ?_ (fun _ => ?_))
      | exact ih0 _ _ _ _ _ _ _ _ _ _ _ _ _ _ _ _ _ _ _ _ _ _ _ _ _ _ _ _ _ _
      | exact ih1 _ _ _ _ _ _ _ _ _ _ _ _ _ _ _
      | exact laws_eqStream.mono _ _ _ _ _ _ _ _ _ _ _ _ _ _ _ _ _ _ _ _ _ _ _ _ _ _ _
      | exact laws_heldStream.mono _ _ _ _ _ _ _ _ _ _ _ _ _ _ _
      | exact laws_markStream.mono _ _ _ _ _ _ _ _ _ _ _ _ _ _ _
      | exact LeO.none _
      | refine LeO.ite ?_ ?_
      | refine LeO.bind ?_ (fun _ => ?_)
    · intro y0 y1 y2 y3 y4 y5 y6 y7 y8 y9 y10 y11 y12 y13 y14
      unfold laws_FnExactStreamNew.j1
      repeat' first
      | (with_reducible exact ih0 _ _ _ _ _ _ _ _ _ _ _ _ _ _ _ _ _ _ _ _ _ _ _ _ _ _ _ _ _ _)
      | (with_reducible exact ih1 _ _ _ _ _ _ _ _ _ _ _ _ _ _ _)
      | (with_reducible exact laws_eqStream.mono _ _ _ _ _ _ _ _ _ _ _ _ _ _ _ _ _ _ _ _ _ _ _ _ _ _ _)
      | (with_reducible exact laws_heldStream.mono _ _ _ _ _ _ _ _ _ _ _ _ _ _ _)
      | (with_reducible exact laws_markStream.mono _ _ _ _ _ _ _ _ _ _ _ _ _ _ _)
      | (with_reducible exact LeO.refl _)
      | (with_reducible exact LeO.none _)
      | (with_reducible refine LeO.ite ?_ ?_)
      | (with_reducible refine LeO.bind ?_ (fun _ => ?_))
      | exact ih0 _ _ _ _ _ _ _ _ _ _ _ _ _ _ _ _ _ _ _ _ _ _ _ _ _ _ _ _ _ _
      | exact ih1 _ _ _ _ _ _ _ _ _ _ _ _ _ _ _
      | exact laws_eqStream.mono _ _ _ _ _ _ _ _ _ _ _ _ _ _ _ _ _ _ _ _ _ _ _ _ _ _ _
      | exact laws_heldStream.mono _ _ _ _ _ _ _ _ _ _ _ _ _ _ _
      | exact laws_markStream.mono _ _ _ _ _ _ _ _ _ _ _ _ _ _ _
      | exact LeO.none _
      | refine LeO.ite ?_ ?_
      | refine LeO.bind ?_ (fun _ => ?_)
theorem laws_FnExactStreamNew.mono : ∀ a0 a1 k, LeO (laws_FnExactStreamNew.f k a0 a1) (laws_FnExactStreamNew.f (k + 1) a0 a1) := by
  intro a0 a1 k
  obtain ⟨ih0, ih1⟩ := laws_FnExactStreamNew.mono_l k
  unfold laws_FnExactStreamNew.f
  repeat' first
      | (with_reducible exact ih0 _ _ _ _ _ _ _ _ _ _ _ _ _ _ _ _ _ _ _ _ _ _ _ _ _ _ _ _ _ _)
      | (with_reducible exact ih1 _ _ _ _ _ _ _ _ _ _ _ _ _ _ _)
      | (with_reducible exact laws_eqStream.mono _ _ _ _ _ _ _ _ _ _ _ _ _ _ _ _ _ _ _ _ _ _ _ _ _ _ _)
      | (with_reducible exact laws_heldStream.mono _ _ _ _ _ _ _ _ _ _ _ _ _ _ _)
      | (with_reducible exact laws_markStream.mono _ _ _ _ _ _ _ _ _ _ _ _ _ _ _)
      | (with_reducible exact LeO.refl _)
      | (with_reducible exact LeO.none _)
      | (with_reducible refine LeO.ite ?_ ?_)
      | (with_reducible refine LeO.bind ?_ (fun _ => ?_))
      | exact ih0 _ _ _ _ _ _ _ _ _ _ _ _ _ _ _ _ _ _ _ _ _ _ _ _ _ _ _ _ _ _
      | exact ih1 _ _ _ _ _ _ _ _ _ _ _ _ _ _ _
      | exact laws_eqStream.mono _ _ _ _ _ _ _ _ _ _ _ _ _ _ _ _ _ _ _ _ _ _ _ _ _ _ _
      | exact laws_heldStream.mono _ _ _ _ _ _ _ _ _ _ _ _ _ _ _
      | exact laws_markStream.mono _ _ _ _ _ _ _ _ _ _ _ _ _ _ _
      | exact LeO.none _
      | refine LeO.ite ?_ ?_
      | refine LeO.bind ?_ (fun _ => ?_)
set_option maxHeartbeats 8000000 in
set_option maxRecDepth 100000 in
theorem laws_FnExactStreamNew.calls (k : Nat) (a0 : Int) (a1 : Bool) (r : Bool) (w : World) (h : laws_FnExactStreamNew.f k a0 a1 = some r) :
    Calls Try.prog 10 #[.int .i64 a0, .bool a1] w fun e w' => e = .returned (.bool r) ∧ Below w.heap.size w w' := by
  have hu68 := Try.underlying68
  have HB := Aside0.mk (Below.refl w.heap.size w)
  have H : ((spec_StreamNew.f a0 a1).bind fun bt130 => ((impl_StreamNew.f a0 a1).bind fun bt147 => ((laws_eqStream.f k bt147.1 bt147.2.1 bt147.2.2.1 bt147.2.2.2.1 bt147.2.2.2.2.1 bt147.2.2.2.2.2.1 bt147.2.2.2.2.2.2.1 bt147.2.2.2.2.2.2.2.1 bt147.2.2.2.2.2.2.2.2.1 bt147.2.2.2.2.2.2.2.2.2.1 bt147.2.2.2.2.2.2.2.2.2.2.1 bt147.2.2.2.2.2.2.2.2.2.2.2.1 bt147.2.2.2.2.2.2.2.2.2.2.2.2.1 bt130.1 bt130.2.1 bt130.2.2.1 bt130.2.2.2.1 bt130.2.2.2.2.1 bt130.2.2.2.2.2.1 bt130.2.2.2.2.2.2.1 bt130.2.2.2.2.2.2.2.1 bt130.2.2.2.2.2.2.2.2.1 bt130.2.2.2.2.2.2.2.2.2.1 bt130.2.2.2.2.2.2.2.2.2.2.1 bt130.2.2.2.2.2.2.2.2.2.2.2.1 bt130.2.2.2.2.2.2.2.2.2.2.2.2.1).bind fun t164 => (if t164 = true then (laws_FnExactStreamNew.j0 k a0 a1 bt130.2.2.2.2.2.2.2.2.2.2.2.2.2 (bt147.2.2.2.2.2.2.2.2.2.2.2.2.2 != bt130.2.2.2.2.2.2.2.2.2.2.2.2.2) bt130.1 bt130.2.1 bt130.2.2.1 bt130.2.2.2.1 bt130.2.2.2.2.1 bt130.2.2.2.2.2.1 bt130.2.2.2.2.2.2.1 bt130.2.2.2.2.2.2.2.1 bt130.2.2.2.2.2.2.2.2.1 bt130.2.2.2.2.2.2.2.2.2.1 bt130.2.2.2.2.2.2.2.2.2.2.1 bt130.2.2.2.2.2.2.2.2.2.2.2.1 bt130.2.2.2.2.2.2.2.2.2.2.2.2.1 bt147.1 bt147.2.1 bt147.2.2.1 bt147.2.2.2.1 bt147.2.2.2.2.1 bt147.2.2.2.2.2.1 bt147.2.2.2.2.2.2.1 bt147.2.2.2.2.2.2.2.1 bt147.2.2.2.2.2.2.2.2.1 bt147.2.2.2.2.2.2.2.2.2.1 bt147.2.2.2.2.2.2.2.2.2.2.1 bt147.2.2.2.2.2.2.2.2.2.2.2.1 bt147.2.2.2.2.2.2.2.2.2.2.2.2.1) else (laws_FnExactStreamNew.j0 k a0 a1 bt130.2.2.2.2.2.2.2.2.2.2.2.2.2 true bt130.1 bt130.2.1 bt130.2.2.1 bt130.2.2.2.1 bt130.2.2.2.2.1 bt130.2.2.2.2.2.1 bt130.2.2.2.2.2.2.1 bt130.2.2.2.2.2.2.2.1 bt130.2.2.2.2.2.2.2.2.1 bt130.2.2.2.2.2.2.2.2.2.1 bt130.2.2.2.2.2.2.2.2.2.2.1 bt130.2.2.2.2.2.2.2.2.2.2.2.1 bt130.2.2.2.2.2.2.2.2.2.2.2.2.1 bt147.1 bt147.2.1 bt147.2.2.1 bt147.2.2.2.1 bt147.2.2.2.2.1 bt147.2.2.2.2.2.1 bt147.2.2.2.2.2.2.1 bt147.2.2.2.2.2.2.2.1 bt147.2.2.2.2.2.2.2.2.1 bt147.2.2.2.2.2.2.2.2.2.1 bt147.2.2.2.2.2.2.2.2.2.2.1 bt147.2.2.2.2.2.2.2.2.2.2.2.1 bt147.2.2.2.2.2.2.2.2.2.2.2.2.1))))) = some r := h
  clear h
  replace H := Option.bind_eq_some_iff.mp H
  obtain ⟨⟨t130, t131, t132, t133, t134, t135, t136, t137, t138, t139, t142, t143, t144, t145⟩, A30, H⟩ := H
  replace H : ((impl_StreamNew.f a0 a1).bind fun bt147 => ((laws_eqStream.f k bt147.1 bt147.2.1 bt147.2.2.1 bt147.2.2.2.1 bt147.2.2.2.2.1 bt147.2.2.2.2.2.1 bt147.2.2.2.2.2.2.1 bt147.2.2.2.2.2.2.2.1 bt147.2.2.2.2.2.2.2.2.1 bt147.2.2.2.2.2.2.2.2.2.1 bt147.2.2.2.2.2.2.2.2.2.2.1 bt147.2.2.2.2.2.2.2.2.2.2.2.1 bt147.2.2.2.2.2.2.2.2.2.2.2.2.1 t130 t131 t132 t133 t134 t135 t136 t137 t138 t139 t142 t143 t144).bind fun t164 => (if t164 = true then (laws_FnExactStreamNew.j0 k a0 a1 t145 (bt147.2.2.2.2.2.2.2.2.2.2.2.2.2 != t145) t130 t131 t132 t133 t134 t135 t136 t137 t138 t139 t142 t143 t144 bt147.1 bt147.2.1 bt147.2.2.1 bt147.2.2.2.1 bt147.2.2.2.2.1 bt147.2.2.2.2.2.1 bt147.2.2.2.2.2.2.1 bt147.2.2.2.2.2.2.2.1 bt147.2.2.2.2.2.2.2.2.1 bt147.2.2.2.2.2.2.2.2.2.1 bt147.2.2.2.2.2.2.2.2.2.2.1 bt147.2.2.2.2.2.2.2.2.2.2.2.1 bt147.2.2.2.2.2.2.2.2.2.2.2.2.1) else (laws_FnExactStreamNew.j0 k a0 a1 t145 true t130 t131 t132 t133 t134 t135 t136 t137 t138 t139 t142 t143 t144 bt147.1 bt147.2.1 bt147.2.2.1 bt147.2.2.2.1 bt147.2.2.2.2.1 bt147.2.2.2.2.2.1 bt147.2.2.2.2.2.2.1 bt147.2.2.2.2.2.2.2.1 bt147.2.2.2.2.2.2.2.2.1 bt147.2.2.2.2.2.2.2.2.2.1 bt147.2.2.2.2.2.2.2.2.2.2.1 bt147.2.2.2.2.2.2.2.2.2.2.2.1 bt147.2.2.2.2.2.2.2.2.2.2.2.2.1)))) = some r := H
  have A3 := Aside0.mk A30
  clear A30
  replace H := Option.bind_eq_some_iff.mp H
  obtain ⟨⟨t147, t148, t149, t150, t151, t152, t153, t154, t155, t156, t159, t160, t161, t162⟩, A40, H⟩ := H
  replace H : ((laws_eqStream.f k t147 t148 t149 t150 t151 t152 t153 t154 t155 t156 t159 t160 t161 t130 t131 t132 t133 t134 t135 t136 t137 t138 t139 t142 t143 t144).bind fun t164 => (if t164 = true then (laws_FnExactStreamNew.j0 k a0 a1 t145 (t162 != t145) t130 t131 t132 t133 t134 t135 t136 t137 t138 t139 t142 t143 t144 t147 t148 t149 t150 t151 t152 t153 t154 t155 t156 t159 t160 t161) else (laws_FnExactStreamNew.j0 k a0 a1 t145 true t130 t131 t132 t133 t134 t135 t136 t137 t138 t139 t142 t143 t144 t147 t148 t149 t150 t151 t152 t153 t154 t155 t156 t159 t160 t161))) = some r := H
  have A4 := Aside0.mk A40
  clear A40
  have HC5 := Aside0.mk H
  clear H
  go_enter Try.func10, Try.ntmps10
  go_upto_region 3 with (first | ((with_reducible refine gate_callee (f := 45) rfl ?_); refine goesL_ (some 16) rfl rfl Try.func45 (by kernel_rfl) rfl #[.int .i64 a0, .bool a1] rfl (by (try simp only [List.map_toArray, List.map_cons, List.map_nil]); first | done | rfl | (simp only [List.length_drop, List.length_take]; rfl)) ?_; (with_reducible refine (spec_StreamNew.calls a0 a1 t130 t131 t132 t133 t134 t135 t136 t137 t138 t139 t142 t143 t144 t145 _ A3.out).mono ?_); rintro e w6 ⟨v140, rfl, ho0, hb⟩; refine ⟨_, rfl, ?_⟩; have n0_ := Aside0.mk (Kd.R_lower ho0 (below_size (by repeat (first | (with_reducible first | exact HB.out | apply below_alloc | apply pw_below_drewN | apply below_drew1) | exact HB.out)))); have n1_ := Aside0.mk (below_step (by repeat (first | (with_reducible first | exact HB.out | apply below_alloc | apply pw_below_drewN | apply below_drew1) | exact HB.out)) hb); clear HB; have HO141 := n0_; have HB := n1_; clear n0_ n1_; (try clear hb); (try clear hb2); (try clear hk); (try clear hi); (try clear ho0)) | ((with_reducible refine gate_dst (N := 5) rfl ?_); refine box_event ?hg (N := 5) ?hd (cs := #[.int .i64 0, .int .i64 0, .int .i64 0, .int .i64 0, .string (⟨#[]⟩ : ByteArray), .int .i64 0, .int .i64 0, .bool false, .string (⟨#[]⟩ : ByteArray), .slice none 0 0, .bool false, .int .i64 0, .int .i64 0]) (t := 68) ?hr ?_; (case hd => rfl); (case hg => rfl); (case hr => first | (go_simp; done) | (go_simp; rfl)); intro gb146 hg w7 hbox hb; have n0_ := Aside0.mk (Kd.R_below (by (with_reducible repeat (first | apply Kd.R_alloc | apply Kd.R_drewN | apply Kd.R_drew)); exact HO141.out) hb); have n1_ := Aside0.mk (below_step (by repeat (first | (with_reducible first | exact HB.out | apply below_alloc | apply pw_below_drewN | apply below_drew1) | exact HB.out)) hb); have n2_ := Aside0.mk (hbox); have n3_ := Aside0.mk ((by rw [hg]; exact (below_size (by repeat (first | (with_reducible first | exact HB.out | apply below_alloc | apply pw_below_drewN | apply below_drew1) | exact HB.out))) : w.heap.size ≤ gb146)); have n4_ := Aside0.mk ((by rw [hg]; exact (below_size (by repeat (first | (with_reducible first | exact HB.out | apply below_alloc | apply pw_below_drewN | apply below_drew1) | exact HB.out))) : w.heap.size ≤ gb146)); clear HO141; clear HB; have HO141 := n0_; have HB := n1_; have BK146 := n2_; have GW146 := n3_; have GE146 := n4_; clear n0_ n1_ n2_ n3_ n4_; clear hb hbox hg; have hcz8_0 : w7.cell? ⟨gb146, 0, none⟩ = some (.int .i64 0) := (blk_cell BK146.out 0).trans rfl; have hcz8_1 : w7.cell? ⟨gb146, 1, none⟩ = some (.int .i64 0) := (blk_cell BK146.out 1).trans rfl; have hcz8_2 : w7.cell? ⟨gb146, 2, none⟩ = some (.int .i64 0) := (blk_cell BK146.out 2).trans rfl; have hcz8_3 : w7.cell? ⟨gb146, 3, none⟩ = some (.int .i64 0) := (blk_cell BK146.out 3).trans rfl; have hcz8_4 : w7.cell? ⟨gb146, 4, none⟩ = some (.string (⟨#[]⟩ : ByteArray)) := (blk_cell BK146.out 4).trans rfl; have hcz8_5 : w7.cell? ⟨gb146, 5, none⟩ = some (.int .i64 0) := (blk_cell BK146.out 5).trans rfl; have hcz8_6 : w7.cell? ⟨gb146, 6, none⟩ = some (.int .i64 0) := (blk_cell BK146.out 6).trans rfl; have hcz8_7 : w7.cell? ⟨gb146, 7, none⟩ = some (.bool false) := (blk_cell BK146.out 7).trans rfl; have hcz8_8 : w7.cell? ⟨gb146, 8, none⟩ = some (.string (⟨#[]⟩ : ByteArray)) := (blk_cell BK146.out 8).trans rfl; have hcz8_9 : w7.cell? ⟨gb146, 9, none⟩ = some (.slice none 0 0) := (blk_cell BK146.out 9).trans rfl; have hcz8_10 : w7.cell? ⟨gb146, 10, none⟩ = some (.bool false) := (blk_cell BK146.out 10).trans rfl; have hcz8_11 : w7.cell? ⟨gb146, 11, none⟩ = some (.int .i64 0) := (blk_cell BK146.out 11).trans rfl; have hcz8_12 : w7.cell? ⟨gb146, 12, none⟩ = some (.int .i64 0) := (blk_cell BK146.out 12).trans rfl; have hfz8_0 := blk_frozen BK146.out 0; have hfz8_1 := blk_frozen BK146.out 1; have hfz8_2 := blk_frozen BK146.out 2; have hfz8_3 := blk_frozen BK146.out 3; have hfz8_4 := blk_frozen BK146.out 4; have hfz8_5 := blk_frozen BK146.out 5; have hfz8_6 := blk_frozen BK146.out 6; have hfz8_7 := blk_frozen BK146.out 7; have hfz8_8 := blk_frozen BK146.out 8; have hfz8_9 := blk_frozen BK146.out 9; have hfz8_10 := blk_frozen BK146.out 10; have hfz8_11 := blk_frozen BK146.out 11; have hfz8_12 := blk_frozen BK146.out 12; obtain ⟨Ao9, co9, eo9⟩ := Kd.R_slice HO141.out; subst eo9) | ((with_reducible refine gate_callee (f := 46) rfl ?_); refine goesL_ (some 22) rfl rfl Try.func46 (by kernel_rfl) rfl #[.int .i64 a0, .bool a1] rfl (by (try simp only [List.map_toArray, List.map_cons, List.map_nil]); first | done | rfl | (simp only [List.length_drop, List.length_take]; rfl)) ?_; (with_reducible refine (impl_StreamNew.calls a0 a1 t147 t148 t149 t150 t151 t152 t153 t154 t155 t156 t159 t160 t161 t162 _ A4.out).mono ?_); rintro e w10 ⟨v157, rfl, ho0, hb⟩; refine ⟨_, rfl, ?_⟩; have n0_ := Aside0.mk (Kd.R_elder' (by (with_reducible repeat (first | apply Kd.R_alloc | apply Kd.R_drewN | apply Kd.R_drew)); exact (Kd.R_mono (Kd.R_far (p := ⟨gb146, 12, none⟩) (Kd.R_far (p := ⟨gb146, 11, none⟩) (Kd.R_far (p := ⟨gb146, 10, none⟩) (Kd.R_far (p := ⟨gb146, 9, none⟩) (Kd.R_far (p := ⟨gb146, 8, none⟩) (Kd.R_far (p := ⟨gb146, 7, none⟩) (Kd.R_far (p := ⟨gb146, 6, none⟩) (Kd.R_far (p := ⟨gb146, 5, none⟩) (Kd.R_far (p := ⟨gb146, 4, none⟩) (Kd.R_far (p := ⟨gb146, 3, none⟩) (Kd.R_far (p := ⟨gb146, 2, none⟩) (Kd.R_far (p := ⟨gb146, 1, none⟩) (Kd.R_far (p := ⟨gb146, 0, none⟩) (Kd.R_types HO141.out BK146.out (by decide)) (fun _ hk => hk.2) (.int .i64 t130)) (fun _ hk => hk.2) (.int .i64 t131)) (fun _ hk => hk.2) (.int .i64 t132)) (fun _ hk => hk.2) (.int .i64 t133)) (fun _ hk => hk.2) (.string t134)) (fun _ hk => hk.2) (.int .i64 t135)) (fun _ hk => hk.2) (.int .i64 t136)) (fun _ hk => hk.2) (.bool t137)) (fun _ hk => hk.2) (.string t138)) (fun _ hk => hk.2) (.slice Ao9 t139.length co9)) (fun _ hk => hk.2) (.bool t142)) (fun _ hk => hk.2) (.int .i64 t143)) (fun _ hk => hk.2) (.int .i64 t144)) (fun _ h_ => h_.1))) (Kd.R_base ho0) hb); have n1_ := Aside0.mk (Kd.R_lower (Kd.R_new' ho0 (Kd.R_lt (by (with_reducible repeat (first | apply Kd.R_alloc | apply Kd.R_drewN | apply Kd.R_drew)); exact (Kd.R_mono (Kd.R_far (p := ⟨gb146, 12, none⟩) (Kd.R_far (p := ⟨gb146, 11, none⟩) (Kd.R_far (p := ⟨gb146, 10, none⟩) (Kd.R_far (p := ⟨gb146, 9, none⟩) (Kd.R_far (p := ⟨gb146, 8, none⟩) (Kd.R_far (p := ⟨gb146, 7, none⟩) (Kd.R_far (p := ⟨gb146, 6, none⟩) (Kd.R_far (p := ⟨gb146, 5, none⟩) (Kd.R_far (p := ⟨gb146, 4, none⟩) (Kd.R_far (p := ⟨gb146, 3, none⟩) (Kd.R_far (p := ⟨gb146, 2, none⟩) (Kd.R_far (p := ⟨gb146, 1, none⟩) (Kd.R_far (p := ⟨gb146, 0, none⟩) (Kd.R_types HO141.out BK146.out (by decide)) (fun _ hk => hk.2) (.int .i64 t130)) (fun _ hk => hk.2) (.int .i64 t131)) (fun _ hk => hk.2) (.int .i64 t132)) (fun _ hk => hk.2) (.int .i64 t133)) (fun _ hk => hk.2) (.string t134)) (fun _ hk => hk.2) (.int .i64 t135)) (fun _ hk => hk.2) (.int .i64 t136)) (fun _ hk => hk.2) (.bool t137)) (fun _ hk => hk.2) (.string t138)) (fun _ hk => hk.2) (.slice Ao9 t139.length co9)) (fun _ hk => hk.2) (.bool t142)) (fun _ hk => hk.2) (.int .i64 t143)) (fun _ hk => hk.2) (.int .i64 t144)) (fun _ h_ => h_.1))))) (below_size (by repeat (first | (with_reducible first | exact HB.out | apply below_alloc | apply pw_below_drewN | apply below_drew1 | refine below_set ?_ GE146.out) | exact HB.out)))); have n2_ := Aside0.mk (blk_below (g := gb146) (o := .cells #[.int .i64 t130, .int .i64 t131, .int .i64 t132, .int .i64 t133, .string t134, .int .i64 t135, .int .i64 t136, .bool t137, .string t138, .slice Ao9 t139.length co9, .bool t142, .int .i64 t143, .int .i64 t144] 68 (0, 0)) (by (with_reducible repeat (first | refine blk_drewN ?_ _ | refine blk_drew ?_ | refine blk_alloc ?_ _)); refine blk_put (cs := #[.int .i64 t130, .int .i64 t131, .int .i64 t132, .int .i64 t133, .string t134, .int .i64 t135, .int .i64 t136, .bool t137, .string t138, .slice Ao9 t139.length co9, .bool t142, .int .i64 t143, .int .i64 0]) ?_ 12 _ rfl; (with_reducible repeat (first | refine blk_drewN ?_ _ | refine blk_drew ?_ | refine blk_alloc ?_ _)); refine blk_put (cs := #[.int .i64 t130, .int .i64 t131, .int .i64 t132, .int .i64 t133, .string t134, .int .i64 t135, .int .i64 t136, .bool t137, .string t138, .slice Ao9 t139.length co9, .bool t142, .int .i64 0, .int .i64 0]) ?_ 11 _ rfl; (with_reducible repeat (first | refine blk_drewN ?_ _ | refine blk_drew ?_ | refine blk_alloc ?_ _)); refine blk_put (cs := #[.int .i64 t130, .int .i64 t131, .int .i64 t132, .int .i64 t133, .string t134, .int .i64 t135, .int .i64 t136, .bool t137, .string t138, .slice Ao9 t139.length co9, .bool false, .int .i64 0, .int .i64 0]) ?_ 10 _ rfl; (with_reducible repeat (first | refine blk_drewN ?_ _ | refine blk_drew ?_ | refine blk_alloc ?_ _)); refine blk_put (cs := #[.int .i64 t130, .int .i64 t131, .int .i64 t132, .int .i64 t133, .string t134, .int .i64 t135, .int .i64 t136, .bool t137, .string t138, .slice none 0 0, .bool false, .int .i64 0, .int .i64 0]) ?_ 9 _ rfl; (with_reducible repeat (first | refine blk_drewN ?_ _ | refine blk_drew ?_ | refine blk_alloc ?_ _)); refine blk_put (cs := #[.int .i64 t130, .int .i64 t131, .int .i64 t132, .int .i64 t133, .string t134, .int .i64 t135, .int .i64 t136, .bool t137, .string (⟨#[]⟩ : ByteArray), .slice none 0 0, .bool false, .int .i64 0, .int .i64 0]) ?_ 8 _ rfl; (with_reducible repeat (first | refine blk_drewN ?_ _ | refine blk_drew ?_ | refine blk_alloc ?_ _)); refine blk_put (cs := #[.int .i64 t130, .int .i64 t131, .int .i64 t132, .int .i64 t133, .string t134, .int .i64 t135, .int .i64 t136, .bool false, .string (⟨#[]⟩ : ByteArray), .slice none 0 0, .bool false, .int .i64 0, .int .i64 0]) ?_ 7 _ rfl; (with_reducible repeat (first | refine blk_drewN ?_ _ | refine blk_drew ?_ | refine blk_alloc ?_ _)); refine blk_put (cs := #[.int .i64 t130, .int .i64 t131, .int .i64 t132, .int .i64 t133, .string t134, .int .i64 t135, .int .i64 0, .bool false, .string (⟨#[]⟩ : ByteArray), .slice none 0 0, .bool false, .int .i64 0, .int .i64 0]) ?_ 6 _ rfl; (with_reducible repeat (first | refine blk_drewN ?_ _ | refine blk_drew ?_ | refine blk_alloc ?_ _)); refine blk_put (cs := #[.int .i64 t130, .int .i64 t131, .int .i64 t132, .int .i64 t133, .string t134, .int .i64 0, .int .i64 0, .bool false, .string (⟨#[]⟩ : ByteArray), .slice none 0 0, .bool false, .int .i64 0, .int .i64 0]) ?_ 5 _ rfl; (with_reducible repeat (first | refine blk_drewN ?_ _ | refine blk_drew ?_ | refine blk_alloc ?_ _)); refine blk_put (cs := #[.int .i64 t130, .int .i64 t131, .int .i64 t132, .int .i64 t133, .string (⟨#[]⟩ : ByteArray), .int .i64 0, .int .i64 0, .bool false, .string (⟨#[]⟩ : ByteArray), .slice none 0 0, .bool false, .int .i64 0, .int .i64 0]) ?_ 4 _ rfl; (with_reducible repeat (first | refine blk_drewN ?_ _ | refine blk_drew ?_ | refine blk_alloc ?_ _)); refine blk_put (cs := #[.int .i64 t130, .int .i64 t131, .int .i64 t132, .int .i64 0, .string (⟨#[]⟩ : ByteArray), .int .i64 0, .int .i64 0, .bool false, .string (⟨#[]⟩ : ByteArray), .slice none 0 0, .bool false, .int .i64 0, .int .i64 0]) ?_ 3 _ rfl; (with_reducible repeat (first | refine blk_drewN ?_ _ | refine blk_drew ?_ | refine blk_alloc ?_ _)); refine blk_put (cs := #[.int .i64 t130, .int .i64 t131, .int .i64 0, .int .i64 0, .string (⟨#[]⟩ : ByteArray), .int .i64 0, .int .i64 0, .bool false, .string (⟨#[]⟩ : ByteArray), .slice none 0 0, .bool false, .int .i64 0, .int .i64 0]) ?_ 2 _ rfl; (with_reducible repeat (first | refine blk_drewN ?_ _ | refine blk_drew ?_ | refine blk_alloc ?_ _)); refine blk_put (cs := #[.int .i64 t130, .int .i64 0, .int .i64 0, .int .i64 0, .string (⟨#[]⟩ : ByteArray), .int .i64 0, .int .i64 0, .bool false, .string (⟨#[]⟩ : ByteArray), .slice none 0 0, .bool false, .int .i64 0, .int .i64 0]) ?_ 1 _ rfl; (with_reducible repeat (first | refine blk_drewN ?_ _ | refine blk_drew ?_ | refine blk_alloc ?_ _)); refine blk_put (cs := #[.int .i64 0, .int .i64 0, .int .i64 0, .int .i64 0, .string (⟨#[]⟩ : ByteArray), .int .i64 0, .int .i64 0, .bool false, .string (⟨#[]⟩ : ByteArray), .slice none 0 0, .bool false, .int .i64 0, .int .i64 0]) ?_ 0 _ rfl; (with_reducible repeat (first | refine blk_drewN ?_ _ | refine blk_drew ?_ | refine blk_alloc ?_ _)); exact BK146.out) hb); have n3_ := Aside0.mk (below_step (by repeat (first | (with_reducible first | exact HB.out | apply below_alloc | apply pw_below_drewN | apply below_drew1 | refine below_set ?_ GE146.out) | exact HB.out)) hb); clear HO141; clear BK146; clear HB; have HO141 := n0_; have HO158 := n1_; have BK146 := n2_; have HB := n3_; clear n0_ n1_ n2_ n3_; (try clear hb); (try clear hb2); (try clear hk); (try clear hi); (try clear ho0)) | ((with_reducible refine gate_dst (N := 7) rfl ?_); refine box_event ?hg (N := 7) ?hd (cs := #[.int .i64 0, .int .i64 0, .int .i64 0, .int .i64 0, .string (⟨#[]⟩ : ByteArray), .int .i64 0, .int .i64 0, .bool false, .string (⟨#[]⟩ : ByteArray), .slice none 0 0, .bool false, .int .i64 0, .int .i64 0]) (t := 68) ?hr ?_; (case hd => rfl); (case hg => rfl); (case hr => first | (go_simp; done) | (go_simp; rfl)); intro gb163 hg w11 hbox hb; have n0_ := Aside0.mk (Kd.R_below (by (with_reducible repeat (first | apply Kd.R_alloc | apply Kd.R_drewN | apply Kd.R_drew)); exact HO141.out) hb); have n1_ := Aside0.mk (Kd.R_below (by (with_reducible repeat (first | apply Kd.R_alloc | apply Kd.R_drewN | apply Kd.R_drew)); exact HO158.out) hb); have n2_ := Aside0.mk (blk_below (g := gb146) (o := .cells #[.int .i64 t130, .int .i64 t131, .int .i64 t132, .int .i64 t133, .string t134, .int .i64 t135, .int .i64 t136, .bool t137, .string t138, .slice Ao9 t139.length co9, .bool t142, .int .i64 t143, .int .i64 t144] 68 (0, 0)) (by (with_reducible repeat (first | refine blk_drewN ?_ _ | refine blk_drew ?_ | refine blk_alloc ?_ _)); exact BK146.out) hb); have n3_ := Aside0.mk (below_step (by repeat (first | (with_reducible first | exact HB.out | apply below_alloc | apply pw_below_drewN | apply below_drew1 | refine below_set ?_ GE146.out) | exact HB.out)) hb); have n4_ := Aside0.mk (hbox); have n5_ := Aside0.mk ((by rw [hg]; exact (below_size (by repeat (first | (with_reducible first | exact HB.out | apply below_alloc | apply pw_below_drewN | apply below_drew1 | refine below_set ?_ GE146.out) | exact HB.out))) : w.heap.size ≤ gb163)); have n6_ := Aside0.mk ((by rw [hg]; exact (below_size (by repeat (first | (with_reducible first | exact HB.out | apply below_alloc | apply pw_below_drewN | apply below_drew1 | refine below_set ?_ GE146.out) | exact HB.out))) : w.heap.size ≤ gb163)); have n7_ := Aside0.mk ((by rw [hg]; exact Nat.ne_of_lt (blk_lt (g := gb146) (o := .cells #[.int .i64 t130, .int .i64 t131, .int .i64 t132, .int .i64 t133, .string t134, .int .i64 t135, .int .i64 t136, .bool t137, .string t138, .slice Ao9 t139.length co9, .bool t142, .int .i64 t143, .int .i64 t144] 68 (0, 0)) (by (with_reducible repeat (first | refine blk_drewN ?_ _ | refine blk_drew ?_ | refine blk_alloc ?_ _)); exact BK146.out)) : gb146 ≠ gb163)); have n8_ := Aside0.mk ((by rw [hg]; exact Nat.ne_of_gt (blk_lt (g := gb146) (o := .cells #[.int .i64 t130, .int .i64 t131, .int .i64 t132, .int .i64 t133, .string t134, .int .i64 t135, .int .i64 t136, .bool t137, .string t138, .slice Ao9 t139.length co9, .bool t142, .int .i64 t143, .int .i64 t144] 68 (0, 0)) (by (with_reducible repeat (first | refine blk_drewN ?_ _ | refine blk_drew ?_ | refine blk_alloc ?_ _)); exact BK146.out)) : gb163 ≠ gb146)); clear HO141; clear HO158; clear BK146; clear HB; have HO141 := n0_; have HO158 := n1_; have BK146 := n2_; have HB := n3_; have BK163 := n4_; have GW163 := n5_; have GE163 := n6_; have NB146_163 := n7_; have NB163_146 := n8_; clear n0_ n1_ n2_ n3_ n4_ n5_ n6_ n7_ n8_; clear hb hbox hg; have hnb12 := NB163_146.out; have hnc12 := NB146_163.out; have hcz13_0 : w11.cell? ⟨gb163, 0, none⟩ = some (.int .i64 0) := (blk_cell BK163.out 0).trans rfl; have hcz13_1 : w11.cell? ⟨gb163, 1, none⟩ = some (.int .i64 0) := (blk_cell BK163.out 1).trans rfl; have hcz13_2 : w11.cell? ⟨gb163, 2, none⟩ = some (.int .i64 0) := (blk_cell BK163.out 2).trans rfl; have hcz13_3 : w11.cell? ⟨gb163, 3, none⟩ = some (.int .i64 0) := (blk_cell BK163.out 3).trans rfl; have hcz13_4 : w11.cell? ⟨gb163, 4, none⟩ = some (.string (⟨#[]⟩ : ByteArray)) := (blk_cell BK163.out 4).trans rfl; have hcz13_5 : w11.cell? ⟨gb163, 5, none⟩ = some (.int .i64 0) := (blk_cell BK163.out 5).trans rfl; have hcz13_6 : w11.cell? ⟨gb163, 6, none⟩ = some (.int .i64 0) := (blk_cell BK163.out 6).trans rfl; have hcz13_7 : w11.cell? ⟨gb163, 7, none⟩ = some (.bool false) := (blk_cell BK163.out 7).trans rfl; have hcz13_8 : w11.cell? ⟨gb163, 8, none⟩ = some (.string (⟨#[]⟩ : ByteArray)) := (blk_cell BK163.out 8).trans rfl; have hcz13_9 : w11.cell? ⟨gb163, 9, none⟩ = some (.slice none 0 0) := (blk_cell BK163.out 9).trans rfl; have hcz13_10 : w11.cell? ⟨gb163, 10, none⟩ = some (.bool false) := (blk_cell BK163.out 10).trans rfl; have hcz13_11 : w11.cell? ⟨gb163, 11, none⟩ = some (.int .i64 0) := (blk_cell BK163.out 11).trans rfl; have hcz13_12 : w11.cell? ⟨gb163, 12, none⟩ = some (.int .i64 0) := (blk_cell BK163.out 12).trans rfl; have hfz13_0 := blk_frozen BK163.out 0; have hfz13_1 := blk_frozen BK163.out 1; have hfz13_2 := blk_frozen BK163.out 2; have hfz13_3 := blk_frozen BK163.out 3; have hfz13_4 := blk_frozen BK163.out 4; have hfz13_5 := blk_frozen BK163.out 5; have hfz13_6 := blk_frozen BK163.out 6; have hfz13_7 := blk_frozen BK163.out 7; have hfz13_8 := blk_frozen BK163.out 8; have hfz13_9 := blk_frozen BK163.out 9; have hfz13_10 := blk_frozen BK163.out 10; have hfz13_11 := blk_frozen BK163.out 11; have hfz13_12 := blk_frozen BK163.out 12; obtain ⟨Ao14, co14, eo14⟩ := Kd.R_slice HO158.out; subst eo14))
  (try simp only [Act.put, List.setIfInBounds_toArray, List.set_cons_zero, List.set_cons_succ])
  go_cut [33] (fun v33 wc => ∃ (kq : Nat) (x33_4 : Bool), v33 = .bool x33_4 ∧ Aside0 (laws_FnExactStreamNew.j0 kq a0 a1 t145 x33_4 t130 t131 t132 t133 t134 t135 t136 t137 t138 t139 t142 t143 t144 t147 t148 t149 t150 t151 t152 t153 t154 t155 t156 t159 t160 t161 = some r) ∧ Aside0 (kq ≤ k) ∧ Aside0 (Kd.R k154 154 wc w.heap.size (fun k_ => some k_ ≠ ((.slice Ao14 t156.length co14) : Value).ownBlock) (.slice Ao9 t139.length co9) t139) ∧ Aside0 (Kd.R k154 154 wc w.heap.size (fun k_ => some k_ ≠ ((.slice Ao9 t139.length co9) : Value).ownBlock) (.slice Ao14 t156.length co14) t156) ∧ Aside0 (wc.heap[gb146]? = some (.cells #[.int .i64 t130, .int .i64 t131, .int .i64 t132, .int .i64 t133, .string t134, .int .i64 t135, .int .i64 t136, .bool t137, .string t138, (.slice Ao9 t139.length co9), .bool t142, .int .i64 t143, .int .i64 t144] 68 (0, 0))) ∧ Aside0 (wc.heap[gb163]? = some (.cells #[.int .i64 t147, .int .i64 t148, .int .i64 t149, .int .i64 t150, .string t151, .int .i64 t152, .int .i64 t153, .bool t154, .string t155, (.slice Ao14 t156.length co14), .bool t159, .int .i64 t160, .int .i64 t161] 68 (0, 0))) ∧ Aside0 (Below w.heap.size w wc))
  case first =>
    have H := HC5.out
    clear HC5
    replace H := Option.bind_eq_some_iff.mp H
    obtain ⟨t164, A150, H⟩ := H
    replace H : (if t164 = true then (laws_FnExactStreamNew.j0 k a0 a1 t145 (t162 != t145) t130 t131 t132 t133 t134 t135 t136 t137 t138 t139 t142 t143 t144 t147 t148 t149 t150 t151 t152 t153 t154 t155 t156 t159 t160 t161) else (laws_FnExactStreamNew.j0 k a0 a1 t145 true t130 t131 t132 t133 t134 t135 t136 t137 t138 t139 t142 t143 t144 t147 t148 t149 t150 t151 t152 t153 t154 t155 t156 t159 t160 t161)) = some r := H
    have A15 := Aside0.mk A150
    clear A150
    by_cases c16 : t164 = true
    · subst c16
      have H1 : (laws_FnExactStreamNew.j0 k a0 a1 t145 (t162 != t145) t130 t131 t132 t133 t134 t135 t136 t137 t138 t139 t142 t143 t144 t147 t148 t149 t150 t151 t152 t153 t154 t155 t156 t159 t160 t161) = some r := by rw [if_pos rfl] at H; exact H
      clear H
      have H := H1
      clear H1
      have H' := Aside0.mk H
      clear H
      have hnb17 := NB163_146.out
      have hnc17 := NB146_163.out
      have hcz18_0 : w11.cell? ⟨gb163, 0, none⟩ = some (.int .i64 0) := (blk_cell BK163.out 0).trans rfl
      have hcz18_1 : w11.cell? ⟨gb163, 1, none⟩ = some (.int .i64 0) := (blk_cell BK163.out 1).trans rfl
      have hcz18_2 : w11.cell? ⟨gb163, 2, none⟩ = some (.int .i64 0) := (blk_cell BK163.out 2).trans rfl
      have hcz18_3 : w11.cell? ⟨gb163, 3, none⟩ = some (.int .i64 0) := (blk_cell BK163.out 3).trans rfl
      have hcz18_4 : w11.cell? ⟨gb163, 4, none⟩ = some (.string (⟨#[]⟩ : ByteArray)) := (blk_cell BK163.out 4).trans rfl
      have hcz18_5 : w11.cell? ⟨gb163, 5, none⟩ = some (.int .i64 0) := (blk_cell BK163.out 5).trans rfl
      have hcz18_6 : w11.cell? ⟨gb163, 6, none⟩ = some (.int .i64 0) := (blk_cell BK163.out 6).trans rfl
      have hcz18_7 : w11.cell? ⟨gb163, 7, none⟩ = some (.bool false) := (blk_cell BK163.out 7).trans rfl
      have hcz18_8 : w11.cell? ⟨gb163, 8, none⟩ = some (.string (⟨#[]⟩ : ByteArray)) := (blk_cell BK163.out 8).trans rfl
      have hcz18_9 : w11.cell? ⟨gb163, 9, none⟩ = some (.slice none 0 0) := (blk_cell BK163.out 9).trans rfl
      have hcz18_10 : w11.cell? ⟨gb163, 10, none⟩ = some (.bool false) := (blk_cell BK163.out 10).trans rfl
      have hcz18_11 : w11.cell? ⟨gb163, 11, none⟩ = some (.int .i64 0) := (blk_cell BK163.out 11).trans rfl
      have hcz18_12 : w11.cell? ⟨gb163, 12, none⟩ = some (.int .i64 0) := (blk_cell BK163.out 12).trans rfl
      have hfz18_0 := blk_frozen BK163.out 0
      have hfz18_1 := blk_frozen BK163.out 1
      have hfz18_2 := blk_frozen BK163.out 2
      have hfz18_3 := blk_frozen BK163.out 3
      have hfz18_4 := blk_frozen BK163.out 4
      have hfz18_5 := blk_frozen BK163.out 5
      have hfz18_6 := blk_frozen BK163.out 6
      have hfz18_7 := blk_frozen BK163.out 7
      have hfz18_8 := blk_frozen BK163.out 8
      have hfz18_9 := blk_frozen BK163.out 9
      have hfz18_10 := blk_frozen BK163.out 10
      have hfz18_11 := blk_frozen BK163.out 11
      have hfz18_12 := blk_frozen BK163.out 12
      have hcz19_0 : w11.cell? ⟨gb146, 0, none⟩ = some (.int .i64 t130) := (blk_cell BK146.out 0).trans rfl
      have hcz19_1 : w11.cell? ⟨gb146, 1, none⟩ = some (.int .i64 t131) := (blk_cell BK146.out 1).trans rfl
      have hcz19_2 : w11.cell? ⟨gb146, 2, none⟩ = some (.int .i64 t132) := (blk_cell BK146.out 2).trans rfl
      have hcz19_3 : w11.cell? ⟨gb146, 3, none⟩ = some (.int .i64 t133) := (blk_cell BK146.out 3).trans rfl
      have hcz19_4 : w11.cell? ⟨gb146, 4, none⟩ = some (.string t134) := (blk_cell BK146.out 4).trans rfl
      have hcz19_5 : w11.cell? ⟨gb146, 5, none⟩ = some (.int .i64 t135) := (blk_cell BK146.out 5).trans rfl
      have hcz19_6 : w11.cell? ⟨gb146, 6, none⟩ = some (.int .i64 t136) := (blk_cell BK146.out 6).trans rfl
      have hcz19_7 : w11.cell? ⟨gb146, 7, none⟩ = some (.bool t137) := (blk_cell BK146.out 7).trans rfl
      have hcz19_8 : w11.cell? ⟨gb146, 8, none⟩ = some (.string t138) := (blk_cell BK146.out 8).trans rfl
      have hcz19_9 : w11.cell? ⟨gb146, 9, none⟩ = some (.slice Ao9 t139.length co9) := (blk_cell BK146.out 9).trans rfl
      have hcz19_10 : w11.cell? ⟨gb146, 10, none⟩ = some (.bool t142) := (blk_cell BK146.out 10).trans rfl
      have hcz19_11 : w11.cell? ⟨gb146, 11, none⟩ = some (.int .i64 t143) := (blk_cell BK146.out 11).trans rfl
      have hcz19_12 : w11.cell? ⟨gb146, 12, none⟩ = some (.int .i64 t144) := (blk_cell BK146.out 12).trans rfl
      have hfz19_0 := blk_frozen BK146.out 0
      have hfz19_1 := blk_frozen BK146.out 1
      have hfz19_2 := blk_frozen BK146.out 2
      have hfz19_3 := blk_frozen BK146.out 3
      have hfz19_4 := blk_frozen BK146.out 4
      have hfz19_5 := blk_frozen BK146.out 5
      have hfz19_6 := blk_frozen BK146.out 6
      have hfz19_7 := blk_frozen BK146.out 7
      have hfz19_8 := blk_frozen BK146.out 8
      have hfz19_9 := blk_frozen BK146.out 9
      have hfz19_10 := blk_frozen BK146.out 10
      have hfz19_11 := blk_frozen BK146.out 11
      have hfz19_12 := blk_frozen BK146.out 12
      go_wp2_with (first | ((with_reducible refine gate_callee (f := 44) rfl ?_); refine goesL_ (some 27) rfl rfl Try.func44 (by kernel_rfl) rfl #[.agg #[.int .i64 t147, .int .i64 t148, .int .i64 t149, .int .i64 t150, .string t151, .int .i64 t152, .int .i64 t153, .bool t154, .string t155, .slice Ao14 t156.length co14, .bool t159, .int .i64 t160, .int .i64 t161], .agg #[.int .i64 t130, .int .i64 t131, .int .i64 t132, .int .i64 t133, .string t134, .int .i64 t135, .int .i64 t136, .bool t137, .string t138, .slice Ao9 t139.length co9, .bool t142, .int .i64 t143, .int .i64 t144]] rfl (by (try simp only [List.map_toArray, List.map_cons, List.map_nil]); first | done | rfl | (simp only [List.length_drop, List.length_take]; rfl)) ?_; (with_reducible refine (laws_eqStream.calls k t147 t148 t149 t150 t151 t152 t153 t154 t155 _ _ t156 t159 t160 t161 t130 t131 t132 t133 t134 t135 t136 t137 t138 _ _ t139 t142 t143 t144 true _ ?side1 ?side2 ?side3 ?side4 A15.out).mono ?_); (case side1 => refine (Kd.R_reads' (e := 154) (base := w.heap.size) (ok := fun k_ => (True ∧ some k_ ≠ (.slice Ao9 t139.length co9 : Value).ownBlock)) (n := t156.length) (c := co14) ?_).2.2; exact (by (with_reducible repeat (first | apply Kd.R_alloc | apply Kd.R_drewN | apply Kd.R_drew)); exact (Kd.R_mono (Kd.R_far (p := ⟨gb163, 12, none⟩) (Kd.R_far (p := ⟨gb163, 11, none⟩) (Kd.R_far (p := ⟨gb163, 10, none⟩) (Kd.R_far (p := ⟨gb163, 9, none⟩) (Kd.R_far (p := ⟨gb163, 8, none⟩) (Kd.R_far (p := ⟨gb163, 7, none⟩) (Kd.R_far (p := ⟨gb163, 6, none⟩) (Kd.R_far (p := ⟨gb163, 5, none⟩) (Kd.R_far (p := ⟨gb163, 4, none⟩) (Kd.R_far (p := ⟨gb163, 3, none⟩) (Kd.R_far (p := ⟨gb163, 2, none⟩) (Kd.R_far (p := ⟨gb163, 1, none⟩) (Kd.R_far (p := ⟨gb163, 0, none⟩) (Kd.R_types HO158.out BK163.out (by decide)) (fun _ hk => hk.2) (.int .i64 t147)) (fun _ hk => hk.2) (.int .i64 t148)) (fun _ hk => hk.2) (.int .i64 t149)) (fun _ hk => hk.2) (.int .i64 t150)) (fun _ hk => hk.2) (.string t151)) (fun _ hk => hk.2) (.int .i64 t152)) (fun _ hk => hk.2) (.int .i64 t153)) (fun _ hk => hk.2) (.bool t154)) (fun _ hk => hk.2) (.string t155)) (fun _ hk => hk.2) (.slice Ao14 t156.length co14)) (fun _ hk => hk.2) (.bool t159)) (fun _ hk => hk.2) (.int .i64 t160)) (fun _ hk => hk.2) (.int .i64 t161)) (fun _ h_ => h_.1)))); (case side2 => exact (Kd.R_reads' HO158.out).2.1); (case side3 => refine (Kd.R_reads' (e := 154) (base := w.heap.size) (ok := fun k_ => (True ∧ some k_ ≠ (.slice Ao14 t156.length co14 : Value).ownBlock)) (n := t139.length) (c := co9) ?_).2.2; exact (by (with_reducible repeat (first | apply Kd.R_alloc | apply Kd.R_drewN | apply Kd.R_drew)); exact (Kd.R_mono (Kd.R_far (p := ⟨gb163, 12, none⟩) (Kd.R_far (p := ⟨gb163, 11, none⟩) (Kd.R_far (p := ⟨gb163, 10, none⟩) (Kd.R_far (p := ⟨gb163, 9, none⟩) (Kd.R_far (p := ⟨gb163, 8, none⟩) (Kd.R_far (p := ⟨gb163, 7, none⟩) (Kd.R_far (p := ⟨gb163, 6, none⟩) (Kd.R_far (p := ⟨gb163, 5, none⟩) (Kd.R_far (p := ⟨gb163, 4, none⟩) (Kd.R_far (p := ⟨gb163, 3, none⟩) (Kd.R_far (p := ⟨gb163, 2, none⟩) (Kd.R_far (p := ⟨gb163, 1, none⟩) (Kd.R_far (p := ⟨gb163, 0, none⟩) (Kd.R_types HO141.out BK163.out (by decide)) (fun _ hk => hk.2) (.int .i64 t147)) (fun _ hk => hk.2) (.int .i64 t148)) (fun _ hk => hk.2) (.int .i64 t149)) (fun _ hk => hk.2) (.int .i64 t150)) (fun _ hk => hk.2) (.string t151)) (fun _ hk => hk.2) (.int .i64 t152)) (fun _ hk => hk.2) (.int .i64 t153)) (fun _ hk => hk.2) (.bool t154)) (fun _ hk => hk.2) (.string t155)) (fun _ hk => hk.2) (.slice Ao14 t156.length co14)) (fun _ hk => hk.2) (.bool t159)) (fun _ hk => hk.2) (.int .i64 t160)) (fun _ hk => hk.2) (.int .i64 t161)) (fun _ h_ => h_.1)))); (case side4 => exact (Kd.R_reads' HO141.out).2.1); rintro e w20 ⟨rfl, hb⟩; refine ⟨_, rfl, ?_⟩; have n0_ := Aside0.mk (Kd.R_below (by (with_reducible repeat (first | apply Kd.R_alloc | apply Kd.R_drewN | apply Kd.R_drew)); exact (Kd.R_mono (Kd.R_far (p := ⟨gb163, 12, none⟩) (Kd.R_far (p := ⟨gb163, 11, none⟩) (Kd.R_far (p := ⟨gb163, 10, none⟩) (Kd.R_far (p := ⟨gb163, 9, none⟩) (Kd.R_far (p := ⟨gb163, 8, none⟩) (Kd.R_far (p := ⟨gb163, 7, none⟩) (Kd.R_far (p := ⟨gb163, 6, none⟩) (Kd.R_far (p := ⟨gb163, 5, none⟩) (Kd.R_far (p := ⟨gb163, 4, none⟩) (Kd.R_far (p := ⟨gb163, 3, none⟩) (Kd.R_far (p := ⟨gb163, 2, none⟩) (Kd.R_far (p := ⟨gb163, 1, none⟩) (Kd.R_far (p := ⟨gb163, 0, none⟩) (Kd.R_types HO141.out BK163.out (by decide)) (fun _ hk => hk.2) (.int .i64 t147)) (fun _ hk => hk.2) (.int .i64 t148)) (fun _ hk => hk.2) (.int .i64 t149)) (fun _ hk => hk.2) (.int .i64 t150)) (fun _ hk => hk.2) (.string t151)) (fun _ hk => hk.2) (.int .i64 t152)) (fun _ hk => hk.2) (.int .i64 t153)) (fun _ hk => hk.2) (.bool t154)) (fun _ hk => hk.2) (.string t155)) (fun _ hk => hk.2) (.slice Ao14 t156.length co14)) (fun _ hk => hk.2) (.bool t159)) (fun _ hk => hk.2) (.int .i64 t160)) (fun _ hk => hk.2) (.int .i64 t161)) (fun _ h_ => h_.1))) hb); have n1_ := Aside0.mk (Kd.R_below (by (with_reducible repeat (first | apply Kd.R_alloc | apply Kd.R_drewN | apply Kd.R_drew)); exact (Kd.R_mono (Kd.R_far (p := ⟨gb163, 12, none⟩) (Kd.R_far (p := ⟨gb163, 11, none⟩) (Kd.R_far (p := ⟨gb163, 10, none⟩) (Kd.R_far (p := ⟨gb163, 9, none⟩) (Kd.R_far (p := ⟨gb163, 8, none⟩) (Kd.R_far (p := ⟨gb163, 7, none⟩) (Kd.R_far (p := ⟨gb163, 6, none⟩) (Kd.R_far (p := ⟨gb163, 5, none⟩) (Kd.R_far (p := ⟨gb163, 4, none⟩) (Kd.R_far (p := ⟨gb163, 3, none⟩) (Kd.R_far (p := ⟨gb163, 2, none⟩) (Kd.R_far (p := ⟨gb163, 1, none⟩) (Kd.R_far (p := ⟨gb163, 0, none⟩) (Kd.R_types HO158.out BK163.out (by decide)) (fun _ hk => hk.2) (.int .i64 t147)) (fun _ hk => hk.2) (.int .i64 t148)) (fun _ hk => hk.2) (.int .i64 t149)) (fun _ hk => hk.2) (.int .i64 t150)) (fun _ hk => hk.2) (.string t151)) (fun _ hk => hk.2) (.int .i64 t152)) (fun _ hk => hk.2) (.int .i64 t153)) (fun _ hk => hk.2) (.bool t154)) (fun _ hk => hk.2) (.string t155)) (fun _ hk => hk.2) (.slice Ao14 t156.length co14)) (fun _ hk => hk.2) (.bool t159)) (fun _ hk => hk.2) (.int .i64 t160)) (fun _ hk => hk.2) (.int .i64 t161)) (fun _ h_ => h_.1))) hb); have n2_ := Aside0.mk (blk_below (g := gb146) (o := .cells #[.int .i64 t130, .int .i64 t131, .int .i64 t132, .int .i64 t133, .string t134, .int .i64 t135, .int .i64 t136, .bool t137, .string t138, .slice Ao9 t139.length co9, .bool t142, .int .i64 t143, .int .i64 t144] 68 (0, 0)) (by (with_reducible repeat (first | refine blk_drewN ?_ _ | refine blk_drew ?_ | refine blk_alloc ?_ _)); refine blk_far ?_ NB146_163.out _; (with_reducible repeat (first | refine blk_drewN ?_ _ | refine blk_drew ?_ | refine blk_alloc ?_ _)); refine blk_far ?_ NB146_163.out _; (with_reducible repeat (first | refine blk_drewN ?_ _ | refine blk_drew ?_ | refine blk_alloc ?_ _)); refine blk_far ?_ NB146_163.out _; (with_reducible repeat (first | refine blk_drewN ?_ _ | refine blk_drew ?_ | refine blk_alloc ?_ _)); refine blk_far ?_ NB146_163.out _; (with_reducible repeat (first | refine blk_drewN ?_ _ | refine blk_drew ?_ | refine blk_alloc ?_ _)); refine blk_far ?_ NB146_163.out _; (with_reducible repeat (first | refine blk_drewN ?_ _ | refine blk_drew ?_ | refine blk_alloc ?_ _)); refine blk_far ?_ NB146_163.out _; (with_reducible repeat (first | refine blk_drewN ?_ _ | refine blk_drew ?_ | refine blk_alloc ?_ _)); refine blk_far ?_ NB146_163.out _; (with_reducible repeat (first | refine blk_drewN ?_ _ | refine blk_drew ?_ | refine blk_alloc ?_ _)); refine blk_far ?_ NB146_163.out _; (with_reducible repeat (first | refine blk_drewN ?_ _ | refine blk_drew ?_ | refine blk_alloc ?_ _)); refine blk_far ?_ NB146_163.out _; (with_reducible repeat (first | refine blk_drewN ?_ _ | refine blk_drew ?_ | refine blk_alloc ?_ _)); refine blk_far ?_ NB146_163.out _; (with_reducible repeat (first | refine blk_drewN ?_ _ | refine blk_drew ?_ | refine blk_alloc ?_ _)); refine blk_far ?_ NB146_163.out _; (with_reducible repeat (first | refine blk_drewN ?_ _ | refine blk_drew ?_ | refine blk_alloc ?_ _)); refine blk_far ?_ NB146_163.out _; (with_reducible repeat (first | refine blk_drewN ?_ _ | refine blk_drew ?_ | refine blk_alloc ?_ _)); refine blk_far ?_ NB146_163.out _; (with_reducible repeat (first | refine blk_drewN ?_ _ | refine blk_drew ?_ | refine blk_alloc ?_ _)); exact BK146.out) hb); have n3_ := Aside0.mk (blk_below (g := gb163) (o := .cells #[.int .i64 t147, .int .i64 t148, .int .i64 t149, .int .i64 t150, .string t151, .int .i64 t152, .int .i64 t153, .bool t154, .string t155, .slice Ao14 t156.length co14, .bool t159, .int .i64 t160, .int .i64 t161] 68 (0, 0)) (by (with_reducible repeat (first | refine blk_drewN ?_ _ | refine blk_drew ?_ | refine blk_alloc ?_ _)); refine blk_put (cs := #[.int .i64 t147, .int .i64 t148, .int .i64 t149, .int .i64 t150, .string t151, .int .i64 t152, .int .i64 t153, .bool t154, .string t155, .slice Ao14 t156.length co14, .bool t159, .int .i64 t160, .int .i64 0]) ?_ 12 _ rfl; (with_reducible repeat (first | refine blk_drewN ?_ _ | refine blk_drew ?_ | refine blk_alloc ?_ _)); refine blk_put (cs := #[.int .i64 t147, .int .i64 t148, .int .i64 t149, .int .i64 t150, .string t151, .int .i64 t152, .int .i64 t153, .bool t154, .string t155, .slice Ao14 t156.length co14, .bool t159, .int .i64 0, .int .i64 0]) ?_ 11 _ rfl; (with_reducible repeat (first | refine blk_drewN ?_ _ | refine blk_drew ?_ | refine blk_alloc ?_ _)); refine blk_put (cs := #[.int .i64 t147, .int .i64 t148, .int .i64 t149, .int .i64 t150, .string t151, .int .i64 t152, .int .i64 t153, .bool t154, .string t155, .slice Ao14 t156.length co14, .bool false, .int .i64 0, .int .i64 0]) ?_ 10 _ rfl; (with_reducible repeat (first | refine blk_drewN ?_ _ | refine blk_drew ?_ | refine blk_alloc ?_ _)); refine blk_put (cs := #[.int .i64 t147, .int .i64 t148, .int .i64 t149, .int .i64 t150, .string t151, .int .i64 t152, .int .i64 t153, .bool t154, .string t155, .slice none 0 0, .bool false, .int .i64 0, .int .i64 0]) ?_ 9 _ rfl; (with_reducible repeat (first | refine blk_drewN ?_ _ | refine blk_drew ?_ | refine blk_alloc ?_ _)); refine blk_put (cs := #[.int .i64 t147, .int .i64 t148, .int .i64 t149, .int .i64 t150, .string t151, .int .i64 t152, .int .i64 t153, .bool t154, .string (⟨#[]⟩ : ByteArray), .slice none 0 0, .bool false, .int .i64 0, .int .i64 0]) ?_ 8 _ rfl; (with_reducible repeat (first | refine blk_drewN ?_ _ | refine blk_drew ?_ | refine blk_alloc ?_ _)); refine blk_put (cs := #[.int .i64 t147, .int .i64 t148, .int .i64 t149, .int .i64 t150, .string t151, .int .i64 t152, .int .i64 t153, .bool false, .string (⟨#[]⟩ : ByteArray), .slice none 0 0, .bool false, .int .i64 0, .int .i64 0]) ?_ 7 _ rfl; (with_reducible repeat (first | refine blk_drewN ?_ _ | refine blk_drew ?_ | refine blk_alloc ?_ _)); refine blk_put (cs := #[.int .i64 t147, .int .i64 t148, .int .i64 t149, .int .i64 t150, .string t151, .int .i64 t152, .int .i64 0, .bool false, .string (⟨#[]⟩ : ByteArray), .slice none 0 0, .bool false, .int .i64 0, .int .i64 0]) ?_ 6 _ rfl; (with_reducible repeat (first | refine blk_drewN ?_ _ | refine blk_drew ?_ | refine blk_alloc ?_ _)); refine blk_put (cs := #[.int .i64 t147, .int .i64 t148, .int .i64 t149, .int .i64 t150, .string t151, .int .i64 0, .int .i64 0, .bool false, .string (⟨#[]⟩ : ByteArray), .slice none 0 0, .bool false, .int .i64 0, .int .i64 0]) ?_ 5 _ rfl; (with_reducible repeat (first | refine blk_drewN ?_ _ | refine blk_drew ?_ | refine blk_alloc ?_ _)); refine blk_put (cs := #[.int .i64 t147, .int .i64 t148, .int .i64 t149, .int .i64 t150, .string (⟨#[]⟩ : ByteArray), .int .i64 0, .int .i64 0, .bool false, .string (⟨#[]⟩ : ByteArray), .slice none 0 0, .bool false, .int .i64 0, .int .i64 0]) ?_ 4 _ rfl; (with_reducible repeat (first | refine blk_drewN ?_ _ | refine blk_drew ?_ | refine blk_alloc ?_ _)); refine blk_put (cs := #[.int .i64 t147, .int .i64 t148, .int .i64 t149, .int .i64 0, .string (⟨#[]⟩ : ByteArray), .int .i64 0, .int .i64 0, .bool false, .string (⟨#[]⟩ : ByteArray), .slice none 0 0, .bool false, .int .i64 0, .int .i64 0]) ?_ 3 _ rfl; (with_reducible repeat (first | refine blk_drewN ?_ _ | refine blk_drew ?_ | refine blk_alloc ?_ _)); refine blk_put (cs := #[.int .i64 t147, .int .i64 t148, .int .i64 0, .int .i64 0, .string (⟨#[]⟩ : ByteArray), .int .i64 0, .int .i64 0, .bool false, .string (⟨#[]⟩ : ByteArray), .slice none 0 0, .bool false, .int .i64 0, .int .i64 0]) ?_ 2 _ rfl; (with_reducible repeat (first | refine blk_drewN ?_ _ | refine blk_drew ?_ | refine blk_alloc ?_ _)); refine blk_put (cs := #[.int .i64 t147, .int .i64 0, .int .i64 0, .int .i64 0, .string (⟨#[]⟩ : ByteArray), .int .i64 0, .int .i64 0, .bool false, .string (⟨#[]⟩ : ByteArray), .slice none 0 0, .bool false, .int .i64 0, .int .i64 0]) ?_ 1 _ rfl; (with_reducible repeat (first | refine blk_drewN ?_ _ | refine blk_drew ?_ | refine blk_alloc ?_ _)); refine blk_put (cs := #[.int .i64 0, .int .i64 0, .int .i64 0, .int .i64 0, .string (⟨#[]⟩ : ByteArray), .int .i64 0, .int .i64 0, .bool false, .string (⟨#[]⟩ : ByteArray), .slice none 0 0, .bool false, .int .i64 0, .int .i64 0]) ?_ 0 _ rfl; (with_reducible repeat (first | refine blk_drewN ?_ _ | refine blk_drew ?_ | refine blk_alloc ?_ _)); exact BK163.out) hb); have n4_ := Aside0.mk (below_step (by repeat (first | (with_reducible first | exact HB.out | apply below_alloc | apply pw_below_drewN | apply below_drew1 | refine below_set ?_ GE146.out | refine below_set ?_ GE163.out) | exact HB.out)) hb); clear HO141; clear HO158; clear BK146; clear BK163; clear HB; have HO141 := n0_; have HO158 := n1_; have BK146 := n2_; have BK163 := n3_; have HB := n4_; clear n0_ n1_ n2_ n3_ n4_; (try clear hb); (try clear hb2); (try clear hk); (try clear hi)))
      go_meet
      case rel => exact ⟨_, ((t162 != t145)), (by first | rfl | (simp; done) | (simp [*]; done)), H', ⟨by first | omega | exact Nat.le_refl _⟩, ⟨by (with_reducible repeat (first | apply Kd.R_alloc | apply Kd.R_drewN | apply Kd.R_drew)); exact Kd.R_mono HO141.out (fun _ hk => hk.2)⟩, ⟨by (with_reducible repeat (first | apply Kd.R_alloc | apply Kd.R_drewN | apply Kd.R_drew)); exact Kd.R_mono HO158.out (fun _ hk => hk.2)⟩, ⟨by (with_reducible repeat (first | refine blk_drewN ?_ _ | refine blk_drew ?_ | refine blk_alloc ?_ _)); exact BK146.out⟩, ⟨by (with_reducible repeat (first | refine blk_drewN ?_ _ | refine blk_drew ?_ | refine blk_alloc ?_ _)); exact BK163.out⟩, ⟨by repeat (first | (with_reducible first | exact HB.out | apply below_alloc | apply pw_below_drewN | apply below_drew1 | refine below_set ?_ GE146.out | refine below_set ?_ GE163.out) | exact HB.out)⟩⟩
    · replace c16 := Bool.eq_false_iff.mpr c16
      subst c16
      have H1 : (laws_FnExactStreamNew.j0 k a0 a1 t145 true t130 t131 t132 t133 t134 t135 t136 t137 t138 t139 t142 t143 t144 t147 t148 t149 t150 t151 t152 t153 t154 t155 t156 t159 t160 t161) = some r := by rw [if_neg (show ¬ (false = true) by decide)] at H; exact H
      clear H
      have H := H1
      clear H1
      have H' := Aside0.mk H
      clear H
      have hnb21 := NB163_146.out
      have hnc21 := NB146_163.out
      have hcz22_0 : w11.cell? ⟨gb163, 0, none⟩ = some (.int .i64 0) := (blk_cell BK163.out 0).trans rfl
      have hcz22_1 : w11.cell? ⟨gb163, 1, none⟩ = some (.int .i64 0) := (blk_cell BK163.out 1).trans rfl
      have hcz22_2 : w11.cell? ⟨gb163, 2, none⟩ = some (.int .i64 0) := (blk_cell BK163.out 2).trans rfl
      have hcz22_3 : w11.cell? ⟨gb163, 3, none⟩ = some (.int .i64 0) := (blk_cell BK163.out 3).trans rfl
      have hcz22_4 : w11.cell? ⟨gb163, 4, none⟩ = some (.string (⟨#[]⟩ : ByteArray)) := (blk_cell BK163.out 4).trans rfl
      have hcz22_5 : w11.cell? ⟨gb163, 5, none⟩ = some (.int .i64 0) := (blk_cell BK163.out 5).trans rfl
      have hcz22_6 : w11.cell? ⟨gb163, 6, none⟩ = some (.int .i64 0) := (blk_cell BK163.out 6).trans rfl
      have hcz22_7 : w11.cell? ⟨gb163, 7, none⟩ = some (.bool false) := (blk_cell BK163.out 7).trans rfl
      have hcz22_8 : w11.cell? ⟨gb163, 8, none⟩ = some (.string (⟨#[]⟩ : ByteArray)) := (blk_cell BK163.out 8).trans rfl
      have hcz22_9 : w11.cell? ⟨gb163, 9, none⟩ = some (.slice none 0 0) := (blk_cell BK163.out 9).trans rfl
      have hcz22_10 : w11.cell? ⟨gb163, 10, none⟩ = some (.bool false) := (blk_cell BK163.out 10).trans rfl
      have hcz22_11 : w11.cell? ⟨gb163, 11, none⟩ = some (.int .i64 0) := (blk_cell BK163.out 11).trans rfl
      have hcz22_12 : w11.cell? ⟨gb163, 12, none⟩ = some (.int .i64 0) := (blk_cell BK163.out 12).trans rfl
      have hfz22_0 := blk_frozen BK163.out 0
      have hfz22_1 := blk_frozen BK163.out 1
      have hfz22_2 := blk_frozen BK163.out 2
      have hfz22_3 := blk_frozen BK163.out 3
      have hfz22_4 := blk_frozen BK163.out 4
      have hfz22_5 := blk_frozen BK163.out 5
      have hfz22_6 := blk_frozen BK163.out 6
      have hfz22_7 := blk_frozen BK163.out 7
      have hfz22_8 := blk_frozen BK163.out 8
      have hfz22_9 := blk_frozen BK163.out 9
      have hfz22_10 := blk_frozen BK163.out 10
      have hfz22_11 := blk_frozen BK163.out 11
      have hfz22_12 := blk_frozen BK163.out 12
      have hcz23_0 : w11.cell? ⟨gb146, 0, none⟩ = some (.int .i64 t130) := (blk_cell BK146.out 0).trans rfl
      have hcz23_1 : w11.cell? ⟨gb146, 1, none⟩ = some (.int .i64 t131) := (blk_cell BK146.out 1).trans rfl
      have hcz23_2 : w11.cell? ⟨gb146, 2, none⟩ = some (.int .i64 t132) := (blk_cell BK146.out 2).trans rfl
      have hcz23_3 : w11.cell? ⟨gb146, 3, none⟩ = some (.int .i64 t133) := (blk_cell BK146.out 3).trans rfl
      have hcz23_4 : w11.cell? ⟨gb146, 4, none⟩ = some (.string t134) := (blk_cell BK146.out 4).trans rfl
      have hcz23_5 : w11.cell? ⟨gb146, 5, none⟩ = some (.int .i64 t135) := (blk_cell BK146.out 5).trans rfl
      have hcz23_6 : w11.cell? ⟨gb146, 6, none⟩ = some (.int .i64 t136) := (blk_cell BK146.out 6).trans rfl
      have hcz23_7 : w11.cell? ⟨gb146, 7, none⟩ = some (.bool t137) := (blk_cell BK146.out 7).trans rfl
      have hcz23_8 : w11.cell? ⟨gb146, 8, none⟩ = some (.string t138) := (blk_cell BK146.out 8).trans rfl
      have hcz23_9 : w11.cell? ⟨gb146, 9, none⟩ = some (.slice Ao9 t139.length co9) := (blk_cell BK146.out 9).trans rfl
      have hcz23_10 : w11.cell? ⟨gb146, 10, none⟩ = some (.bool t142) := (blk_cell BK146.out 10).trans rfl
      have hcz23_11 : w11.cell? ⟨gb146, 11, none⟩ = some (.int .i64 t143) := (blk_cell BK146.out 11).trans rfl
      have hcz23_12 : w11.cell? ⟨gb146, 12, none⟩ = some (.int .i64 t144) := (blk_cell BK146.out 12).trans rfl
      have hfz23_0 := blk_frozen BK146.out 0
      have hfz23_1 := blk_frozen BK146.out 1
      have hfz23_2 := blk_frozen BK146.out 2
      have hfz23_3 := blk_frozen BK146.out 3
      have hfz23_4 := blk_frozen BK146.out 4
      have hfz23_5 := blk_frozen BK146.out 5
      have hfz23_6 := blk_frozen BK146.out 6
      have hfz23_7 := blk_frozen BK146.out 7
      have hfz23_8 := blk_frozen BK146.out 8
      have hfz23_9 := blk_frozen BK146.out 9
      have hfz23_10 := blk_frozen BK146.out 10
      have hfz23_11 := blk_frozen BK146.out 11
      have hfz23_12 := blk_frozen BK146.out 12
      go_wp2_with (first | ((with_reducible refine gate_callee (f := 44) rfl ?_); refine goesL_ (some 27) rfl rfl Try.func44 (by kernel_rfl) rfl #[.agg #[.int .i64 t147, .int .i64 t148, .int .i64 t149, .int .i64 t150, .string t151, .int .i64 t152, .int .i64 t153, .bool t154, .string t155, .slice Ao14 t156.length co14, .bool t159, .int .i64 t160, .int .i64 t161], .agg #[.int .i64 t130, .int .i64 t131, .int .i64 t132, .int .i64 t133, .string t134, .int .i64 t135, .int .i64 t136, .bool t137, .string t138, .slice Ao9 t139.length co9, .bool t142, .int .i64 t143, .int .i64 t144]] rfl (by (try simp only [List.map_toArray, List.map_cons, List.map_nil]); first | done | rfl | (simp only [List.length_drop, List.length_take]; rfl)) ?_; (with_reducible refine (laws_eqStream.calls k t147 t148 t149 t150 t151 t152 t153 t154 t155 _ _ t156 t159 t160 t161 t130 t131 t132 t133 t134 t135 t136 t137 t138 _ _ t139 t142 t143 t144 false _ ?side1 ?side2 ?side3 ?side4 A15.out).mono ?_); (case side1 => refine (Kd.R_reads' (e := 154) (base := w.heap.size) (ok := fun k_ => (True ∧ some k_ ≠ (.slice Ao9 t139.length co9 : Value).ownBlock)) (n := t156.length) (c := co14) ?_).2.2; exact (by (with_reducible repeat (first | apply Kd.R_alloc | apply Kd.R_drewN | apply Kd.R_drew)); exact (Kd.R_mono (Kd.R_far (p := ⟨gb163, 12, none⟩) (Kd.R_far (p := ⟨gb163, 11, none⟩) (Kd.R_far (p := ⟨gb163, 10, none⟩) (Kd.R_far (p := ⟨gb163, 9, none⟩) (Kd.R_far (p := ⟨gb163, 8, none⟩) (Kd.R_far (p := ⟨gb163, 7, none⟩) (Kd.R_far (p := ⟨gb163, 6, none⟩) (Kd.R_far (p := ⟨gb163, 5, none⟩) (Kd.R_far (p := ⟨gb163, 4, none⟩) (Kd.R_far (p := ⟨gb163, 3, none⟩) (Kd.R_far (p := ⟨gb163, 2, none⟩) (Kd.R_far (p := ⟨gb163, 1, none⟩) (Kd.R_far (p := ⟨gb163, 0, none⟩) (Kd.R_types HO158.out BK163.out (by decide)) (fun _ hk => hk.2) (.int .i64 t147)) (fun _ hk => hk.2) (.int .i64 t148)) (fun _ hk => hk.2) (.int .i64 t149)) (fun _ hk => hk.2) (.int .i64 t150)) (fun _ hk => hk.2) (.string t151)) (fun _ hk => hk.2) (.int .i64 t152)) (fun _ hk => hk.2) (.int .i64 t153)) (fun _ hk => hk.2) (.bool t154)) (fun _ hk => hk.2) (.string t155)) (fun _ hk => hk.2) (.slice Ao14 t156.length co14)) (fun _ hk => hk.2) (.bool t159)) (fun _ hk => hk.2) (.int .i64 t160)) (fun _ hk => hk.2) (.int .i64 t161)) (fun _ h_ => h_.1)))); (case side2 => exact (Kd.R_reads' HO158.out).2.1); (case side3 => refine (Kd.R_reads' (e := 154) (base := w.heap.size) (ok := fun k_ => (True ∧ some k_ ≠ (.slice Ao14 t156.length co14 : Value).ownBlock)) (n := t139.length) (c := co9) ?_).2.2; exact (by (with_reducible repeat (first | apply Kd.R_alloc | apply Kd.R_drewN | apply Kd.R_drew)); exact (Kd.R_mono (Kd.R_far (p := ⟨gb163, 12, none⟩) (Kd.R_far (p := ⟨gb163, 11, none⟩) (Kd.R_far (p := ⟨gb163, 10, none⟩) (Kd.R_far (p := ⟨gb163, 9, none⟩) (Kd.R_far (p := ⟨gb163, 8, none⟩) (Kd.R_far (p := ⟨gb163, 7, none⟩) (Kd.R_far (p := ⟨gb163, 6, none⟩) (Kd.R_far (p := ⟨gb163, 5, none⟩) (Kd.R_far (p := ⟨gb163, 4, none⟩) (Kd.R_far (p := ⟨gb163, 3, none⟩) (Kd.R_far (p := ⟨gb163, 2, none⟩) (Kd.R_far (p := ⟨gb163, 1, none⟩) (Kd.R_far (p := ⟨gb163, 0, none⟩) (Kd.R_types HO141.out BK163.out (by decide)) (fun _ hk => hk.2) (.int .i64 t147)) (fun _ hk => hk.2) (.int .i64 t148)) (fun _ hk => hk.2) (.int .i64 t149)) (fun _ hk => hk.2) (.int .i64 t150)) (fun _ hk => hk.2) (.string t151)) (fun _ hk => hk.2) (.int .i64 t152)) (fun _ hk => hk.2) (.int .i64 t153)) (fun _ hk => hk.2) (.bool t154)) (fun _ hk => hk.2) (.string t155)) (fun _ hk => hk.2) (.slice Ao14 t156.length co14)) (fun _ hk => hk.2) (.bool t159)) (fun _ hk => hk.2) (.int .i64 t160)) (fun _ hk => hk.2) (.int .i64 t161)) (fun _ h_ => h_.1)))); (case side4 => exact (Kd.R_reads' HO141.out).2.1); rintro e w24 ⟨rfl, hb⟩; refine ⟨_, rfl, ?_⟩; have n0_ := Aside0.mk (Kd.R_below (by (with_reducible repeat (first | apply Kd.R_alloc | apply Kd.R_drewN | apply Kd.R_drew)); exact (Kd.R_mono (Kd.R_far (p := ⟨gb163, 12, none⟩) (Kd.R_far (p := ⟨gb163, 11, none⟩) (Kd.R_far (p := ⟨gb163, 10, none⟩) (Kd.R_far (p := ⟨gb163, 9, none⟩) (Kd.R_far (p := ⟨gb163, 8, none⟩) (Kd.R_far (p := ⟨gb163, 7, none⟩) (Kd.R_far (p := ⟨gb163, 6, none⟩) (Kd.R_far (p := ⟨gb163, 5, none⟩) (Kd.R_far (p := ⟨gb163, 4, none⟩) (Kd.R_far (p := ⟨gb163, 3, none⟩) (Kd.R_far (p := ⟨gb163, 2, none⟩) (Kd.R_far (p := ⟨gb163, 1, none⟩) (Kd.R_far (p := ⟨gb163, 0, none⟩) (Kd.R_types HO141.out BK163.out (by decide)) (fun _ hk => hk.2) (.int .i64 t147)) (fun _ hk => hk.2) (.int .i64 t148)) (fun _ hk => hk.2) (.int .i64 t149)) (fun _ hk => hk.2) (.int .i64 t150)) (fun _ hk => hk.2) (.string t151)) (fun _ hk => hk.2) (.int .i64 t152)) (fun _ hk => hk.2) (.int .i64 t153)) (fun _ hk => hk.2) (.bool t154)) (fun _ hk => hk.2) (.string t155)) (fun _ hk => hk.2) (.slice Ao14 t156.length co14)) (fun _ hk => hk.2) (.bool t159)) (fun _ hk => hk.2) (.int .i64 t160)) (fun _ hk => hk.2) (.int .i64 t161)) (fun _ h_ => h_.1))) hb); have n1_ := Aside0.mk (Kd.R_below (by (with_reducible repeat (first | apply Kd.R_alloc | apply Kd.R_drewN | apply Kd.R_drew)); exact (Kd.R_mono (Kd.R_far (p := ⟨gb163, 12, none⟩) (Kd.R_far (p := ⟨gb163, 11, none⟩) (Kd.R_far (p := ⟨gb163, 10, none⟩) (Kd.R_far (p := ⟨gb163, 9, none⟩) (Kd.R_far (p := ⟨gb163, 8, none⟩) (Kd.R_far (p := ⟨gb163, 7, none⟩) (Kd.R_far (p := ⟨gb163, 6, none⟩) (Kd.R_far (p := ⟨gb163, 5, none⟩) (Kd.R_far (p := ⟨gb163, 4, none⟩) (Kd.R_far (p := ⟨gb163, 3, none⟩) (Kd.R_far (p := ⟨gb163, 2, none⟩) (Kd.R_far (p := ⟨gb163, 1, none⟩) (Kd.R_far (p := ⟨gb163, 0, none⟩) (Kd.R_types HO158.out BK163.out (by decide)) (fun _ hk => hk.2) (.int .i64 t147)) (fun _ hk => hk.2) (.int .i64 t148)) (fun _ hk => hk.2) (.int .i64 t149)) (fun _ hk => hk.2) (.int .i64 t150)) (fun _ hk => hk.2) (.string t151)) (fun _ hk => hk.2) (.int .i64 t152)) (fun _ hk => hk.2) (.int .i64 t153)) (fun _ hk => hk.2) (.bool t154)) (fun _ hk => hk.2) (.string t155)) (fun _ hk => hk.2) (.slice Ao14 t156.length co14)) (fun _ hk => hk.2) (.bool t159)) (fun _ hk => hk.2) (.int .i64 t160)) (fun _ hk => hk.2) (.int .i64 t161)) (fun _ h_ => h_.1))) hb); have n2_ := Aside0.mk (blk_below (g := gb146) (o := .cells #[.int .i64 t130, .int .i64 t131, .int .i64 t132, .int .i64 t133, .string t134, .int .i64 t135, .int .i64 t136, .bool t137, .string t138, .slice Ao9 t139.length co9, .bool t142, .int .i64 t143, .int .i64 t144] 68 (0, 0)) (by (with_reducible repeat (first | refine blk_drewN ?_ _ | refine blk_drew ?_ | refine blk_alloc ?_ _)); refine blk_far ?_ NB146_163.out _; (with_reducible repeat (first | refine blk_drewN ?_ _ | refine blk_drew ?_ | refine blk_alloc ?_ _)); refine blk_far ?_ NB146_163.out _; (with_reducible repeat (first | refine blk_drewN ?_ _ | refine blk_drew ?_ | refine blk_alloc ?_ _)); refine blk_far ?_ NB146_163.out _; (with_reducible repeat (first | refine blk_drewN ?_ _ | refine blk_drew ?_ | refine blk_alloc ?_ _)); refine blk_far ?_ NB146_163.out _; (with_reducible repeat (first | refine blk_drewN ?_ _ | refine blk_drew ?_ | refine blk_alloc ?_ _)); refine blk_far ?_ NB146_163.out _; (with_reducible repeat (first | refine blk_drewN ?_ _ | refine blk_drew ?_ | refine blk_alloc ?_ _)); refine blk_far ?_ NB146_163.out _; (with_reducible repeat (first | refine blk_drewN ?_ _ | refine blk_drew ?_ | refine blk_alloc ?_ _)); refine blk_far ?_ NB146_163.out _; (with_reducible repeat (first | refine blk_drewN ?_ _ | refine blk_drew ?_ | refine blk_alloc ?_ _)); refine blk_far ?_ NB146_163.out _; (with_reducible repeat (first | refine blk_drewN ?_ _ | refine blk_drew ?_ | refine blk_alloc ?_ _)); refine blk_far ?_ NB146_163.out _; (with_reducible repeat (first | refine blk_drewN ?_ _ | refine blk_drew ?_ | refine blk_alloc ?_ _)); refine blk_far ?_ NB146_163.out _; (with_reducible repeat (first | refine blk_drewN ?_ _ | refine blk_drew ?_ | refine blk_alloc ?_ _)); refine blk_far ?_ NB146_163.out _; (with_reducible repeat (first | refine blk_drewN ?_ _ | refine blk_drew ?_ | refine blk_alloc ?_ _)); refine blk_far ?_ NB146_163.out _; (with_reducible repeat (first | refine blk_drewN ?_ _ | refine blk_drew ?_ | refine blk_alloc ?_ _)); refine blk_far ?_ NB146_163.out _; (with_reducible repeat (first | refine blk_drewN ?_ _ | refine blk_drew ?_ | refine blk_alloc ?_ _)); exact BK146.out) hb); have n3_ := Aside0.mk (blk_below (g := gb163) (o := .cells #[.int .i64 t147, .int .i64 t148, .int .i64 t149, .int .i64 t150, .string t151, .int .i64 t152, .int .i64 t153, .bool t154, .string t155, .slice Ao14 t156.length co14, .bool t159, .int .i64 t160, .int .i64 t161] 68 (0, 0)) (by (with_reducible repeat (first | refine blk_drewN ?_ _ | refine blk_drew ?_ | refine blk_alloc ?_ _)); refine blk_put (cs := #[.int .i64 t147, .int .i64 t148, .int .i64 t149, .int .i64 t150, .string t151, .int .i64 t152, .int .i64 t153, .bool t154, .string t155, .slice Ao14 t156.length co14, .bool t159, .int .i64 t160, .int .i64 0]) ?_ 12 _ rfl; (with_reducible repeat (first | refine blk_drewN ?_ _ | refine blk_drew ?_ | refine blk_alloc ?_ _)); refine blk_put (cs := #[.int .i64 t147, .int .i64 t148, .int .i64 t149, .int .i64 t150, .string t151, .int .i64 t152, .int .i64 t153, .bool t154, .string t155, .slice Ao14 t156.length co14, .bool t159, .int .i64 0, .int .i64 0]) ?_ 11 _ rfl; (with_reducible repeat (first | refine blk_drewN ?_ _ | refine blk_drew ?_ | refine blk_alloc ?_ _)); refine blk_put (cs := #[.int .i64 t147, .int .i64 t148, .int .i64 t149, .int .i64 t150, .string t151, .int .i64 t152, .int .i64 t153, .bool t154, .string t155, .slice Ao14 t156.length co14, .bool false, .int .i64 0, .int .i64 0]) ?_ 10 _ rfl; (with_reducible repeat (first | refine blk_drewN ?_ _ | refine blk_drew ?_ | refine blk_alloc ?_ _)); refine blk_put (cs := #[.int .i64 t147, .int .i64 t148, .int .i64 t149, .int .i64 t150, .string t151, .int .i64 t152, .int .i64 t153, .bool t154, .string t155, .slice none 0 0, .bool false, .int .i64 0, .int .i64 0]) ?_ 9 _ rfl; (with_reducible repeat (first | refine blk_drewN ?_ _ | refine blk_drew ?_ | refine blk_alloc ?_ _)); refine blk_put (cs := #[.int .i64 t147, .int .i64 t148, .int .i64 t149, .int .i64 t150, .string t151, .int .i64 t152, .int .i64 t153, .bool t154, .string (⟨#[]⟩ : ByteArray), .slice none 0 0, .bool false, .int .i64 0, .int .i64 0]) ?_ 8 _ rfl; (with_reducible repeat (first | refine blk_drewN ?_ _ | refine blk_drew ?_ | refine blk_alloc ?_ _)); refine blk_put (cs := #[.int .i64 t147, .int .i64 t148, .int .i64 t149, .int .i64 t150, .string t151, .int .i64 t152, .int .i64 t153, .bool false, .string (⟨#[]⟩ : ByteArray), .slice none 0 0, .bool false, .int .i64 0, .int .i64 0]) ?_ 7 _ rfl; (with_reducible repeat (first | refine blk_drewN ?_ _ | refine blk_drew ?_ | refine blk_alloc ?_ _)); refine blk_put (cs := #[.int .i64 t147, .int .i64 t148, .int .i64 t149, .int .i64 t150, .string t151, .int .i64 t152, .int .i64 0, .bool false, .string (⟨#[]⟩ : ByteArray), .slice none 0 0, .bool false, .int .i64 0, .int .i64 0]) ?_ 6 _ rfl; (with_reducible repeat (first | refine blk_drewN ?_ _ | refine blk_drew ?_ | refine blk_alloc ?_ _)); refine blk_put (cs := #[.int .i64 t147, .int .i64 t148, .int .i64 t149, .int .i64 t150, .string t151, .int .i64 0, .int .i64 0, .bool false, .string (⟨#[]⟩ : ByteArray), .slice none 0 0, .bool false, .int .i64 0, .int .i64 0]) ?_ 5 _ rfl; (with_reducible repeat (first | refine blk_drewN ?_ _ | refine blk_drew ?_ | refine blk_alloc ?_ _)); refine blk_put (cs := #[.int .i64 t147, .int .i64 t148, .int .i64 t149, .int .i64 t150, .string (⟨#[]⟩ : ByteArray), .int .i64 0, .int .i64 0, .bool false, .string (⟨#[]⟩ : ByteArray), .slice none 0 0, .bool false, .int .i64 0, .int .i64 0]) ?_ 4 _ rfl; (with_reducible repeat (first | refine blk_drewN ?_ _ | refine blk_drew ?_ | refine blk_alloc ?_ _)); refine blk_put (cs := #[.int .i64 t147, .int .i64 t148, .int .i64 t149, .int .i64 0, .string (⟨#[]⟩ : ByteArray), .int .i64 0, .int .i64 0, .bool false, .string (⟨#[]⟩ : ByteArray), .slice none 0 0, .bool false, .int .i64 0, .int .i64 0]) ?_ 3 _ rfl; (with_reducible repeat (first | refine blk_drewN ?_ _ | refine blk_drew ?_ | refine blk_alloc ?_ _)); refine blk_put (cs := #[.int .i64 t147, .int .i64 t148, .int .i64 0, .int .i64 0, .string (⟨#[]⟩ : ByteArray), .int .i64 0, .int .i64 0, .bool false, .string (⟨#[]⟩ : ByteArray), .slice none 0 0, .bool false, .int .i64 0, .int .i64 0]) ?_ 2 _ rfl; (with_reducible repeat (first | refine blk_drewN ?_ _ | refine blk_drew ?_ | refine blk_alloc ?_ _)); refine blk_put (cs := #[.int .i64 t147, .int .i64 0, .int .i64 0, .int .i64 0, .string (⟨#[]⟩ : ByteArray), .int .i64 0, .int .i64 0, .bool false, .string (⟨#[]⟩ : ByteArray), .slice none 0 0, .bool false, .int .i64 0, .int .i64 0]) ?_ 1 _ rfl; (with_reducible repeat (first | refine blk_drewN ?_ _ | refine blk_drew ?_ | refine blk_alloc ?_ _)); refine blk_put (cs := #[.int .i64 0, .int .i64 0, .int .i64 0, .int .i64 0, .string (⟨#[]⟩ : ByteArray), .int .i64 0, .int .i64 0, .bool false, .string (⟨#[]⟩ : ByteArray), .slice none 0 0, .bool false, .int .i64 0, .int .i64 0]) ?_ 0 _ rfl; (with_reducible repeat (first | refine blk_drewN ?_ _ | refine blk_drew ?_ | refine blk_alloc ?_ _)); exact BK163.out) hb); have n4_ := Aside0.mk (below_step (by repeat (first | (with_reducible first | exact HB.out | apply below_alloc | apply pw_below_drewN | apply below_drew1 | refine below_set ?_ GE146.out | refine below_set ?_ GE163.out) | exact HB.out)) hb); clear HO141; clear HO158; clear BK146; clear BK163; clear HB; have HO141 := n0_; have HO158 := n1_; have BK146 := n2_; have BK163 := n3_; have HB := n4_; clear n0_ n1_ n2_ n3_ n4_; (try clear hb); (try clear hb2); (try clear hk); (try clear hi)))
      go_meet
      case rel => exact ⟨_, (true), (by first | rfl | (simp; done) | (simp [*]; done)), H', ⟨by first | omega | exact Nat.le_refl _⟩, ⟨by (with_reducible repeat (first | apply Kd.R_alloc | apply Kd.R_drewN | apply Kd.R_drew)); exact Kd.R_mono HO141.out (fun _ hk => hk.2)⟩, ⟨by (with_reducible repeat (first | apply Kd.R_alloc | apply Kd.R_drewN | apply Kd.R_drew)); exact Kd.R_mono HO158.out (fun _ hk => hk.2)⟩, ⟨by (with_reducible repeat (first | refine blk_drewN ?_ _ | refine blk_drew ?_ | refine blk_alloc ?_ _)); exact BK146.out⟩, ⟨by (with_reducible repeat (first | refine blk_drewN ?_ _ | refine blk_drew ?_ | refine blk_alloc ?_ _)); exact BK163.out⟩, ⟨by repeat (first | (with_reducible first | exact HB.out | apply below_alloc | apply pw_below_drewN | apply below_drew1 | refine below_set ?_ GE146.out | refine below_set ?_ GE163.out) | exact HB.out)⟩⟩
  case rest =>
    clear HC5
    try clear c1
    try clear c2
    try clear p2
    try clear c4
    try clear c10
    try clear c12
    try clear c16
    try clear c17
    try clear c21
    try clear hcz13_0
    try clear hcz13_1
    try clear hcz13_10
    try clear hcz13_11
    try clear hcz13_12
    try clear hcz13_2
    try clear hcz13_3
    try clear hcz13_4
    try clear hcz13_5
    try clear hcz13_6
    try clear hcz13_7
    try clear hcz13_8
    try clear hcz13_9
    try clear hcz18_0
    try clear hcz18_1
    try clear hcz18_10
    try clear hcz18_11
    try clear hcz18_12
    try clear hcz18_2
    try clear hcz18_3
    try clear hcz18_4
    try clear hcz18_5
    try clear hcz18_6
    try clear hcz18_7
    try clear hcz18_8
    try clear hcz18_9
    try clear hcz19_0
    try clear hcz19_1
    try clear hcz19_10
    try clear hcz19_11
    try clear hcz19_12
    try clear hcz19_2
    try clear hcz19_3
    try clear hcz19_4
    try clear hcz19_5
    try clear hcz19_6
    try clear hcz19_7
    try clear hcz19_8
    try clear hcz19_9
    try clear hcz22_0
    try clear hcz22_1
    try clear hcz22_10
    try clear hcz22_11
    try clear hcz22_12
    try clear hcz22_2
    try clear hcz22_3
    try clear hcz22_4
    try clear hcz22_5
    try clear hcz22_6
    try clear hcz22_7
    try clear hcz22_8
    try clear hcz22_9
    try clear hcz23_0
    try clear hcz23_1
    try clear hcz23_10
    try clear hcz23_11
    try clear hcz23_12
    try clear hcz23_2
    try clear hcz23_3
    try clear hcz23_4
    try clear hcz23_5
    try clear hcz23_6
    try clear hcz23_7
    try clear hcz23_8
    try clear hcz23_9
    try clear hcz8_0
    try clear hcz8_1
    try clear hcz8_10
    try clear hcz8_11
    try clear hcz8_12
    try clear hcz8_2
    try clear hcz8_3
    try clear hcz8_4
    try clear hcz8_5
    try clear hcz8_6
    try clear hcz8_7
    try clear hcz8_8
    try clear hcz8_9
    try clear hfz13_0
    try clear hfz13_1
    try clear hfz13_10
    try clear hfz13_11
    try clear hfz13_12
    try clear hfz13_2
    try clear hfz13_3
    try clear hfz13_4
    try clear hfz13_5
    try clear hfz13_6
    try clear hfz13_7
    try clear hfz13_8
    try clear hfz13_9
    try clear hfz18_0
    try clear hfz18_1
    try clear hfz18_10
    try clear hfz18_11
    try clear hfz18_12
    try clear hfz18_2
    try clear hfz18_3
    try clear hfz18_4
    try clear hfz18_5
    try clear hfz18_6
    try clear hfz18_7
    try clear hfz18_8
    try clear hfz18_9
    try clear hfz19_0
    try clear hfz19_1
    try clear hfz19_10
    try clear hfz19_11
    try clear hfz19_12
    try clear hfz19_2
    try clear hfz19_3
    try clear hfz19_4
    try clear hfz19_5
    try clear hfz19_6
    try clear hfz19_7
    try clear hfz19_8
    try clear hfz19_9
    try clear hfz22_0
    try clear hfz22_1
    try clear hfz22_10
    try clear hfz22_11
    try clear hfz22_12
    try clear hfz22_2
    try clear hfz22_3
    try clear hfz22_4
    try clear hfz22_5
    try clear hfz22_6
    try clear hfz22_7
    try clear hfz22_8
    try clear hfz22_9
    try clear hfz23_0
    try clear hfz23_1
    try clear hfz23_10
    try clear hfz23_11
    try clear hfz23_12
    try clear hfz23_2
    try clear hfz23_3
    try clear hfz23_4
    try clear hfz23_5
    try clear hfz23_6
    try clear hfz23_7
    try clear hfz23_8
    try clear hfz23_9
    try clear hfz8_0
    try clear hfz8_1
    try clear hfz8_10
    try clear hfz8_11
    try clear hfz8_12
    try clear hfz8_2
    try clear hfz8_3
    try clear hfz8_4
    try clear hfz8_5
    try clear hfz8_6
    try clear hfz8_7
    try clear hfz8_8
    try clear hfz8_9
    obtain ⟨kq, x33_4, rfl, HA, HJ4, HO_147009, HO_164009, BK146, BK163, HB⟩ := hcut
    cases kq with
    | zero => exact absurd HA.out (by simp [laws_FnExactStreamNew.j0])
    | succ kj4 =>
      have H := HA.out
      clear HA
      simp only [laws_FnExactStreamNew.j0] at H
      by_cases c25 : x33_4 = true
      · subst c25
        have H1 : (some false) = some r := by rw [if_pos rfl] at H; exact H
        clear H
        have H := H1
        clear H1
        obtain rfl := Option.some.inj H
        go_wp2
        go_ret
        exact ⟨by first | rfl | (simp [errW_none, errW_some] <;> rfl) | (simp [*, errW_none, errW_some] <;> rfl), by repeat (first | (with_reducible first | exact HB.out | apply below_alloc | apply pw_below_drewN | apply below_drew1 | refine below_set ?_ GE146.out | refine below_set ?_ GE163.out) | exact HB.out)⟩
      · replace c25 := Bool.eq_false_iff.mpr c25
        subst c25
        have H1 : ((laws_markStream.f kj4 t147 t148 t149 t150 t151 t152 t153 t154 t155 t156 t159 t160 t161 1).bind fun bt165 => ((laws_heldStream.f kj4 t147 t148 t149 t150 t151 t152 t153 t154 t155 bt165.2 t159 t160 t161 1).bind fun t167 => (if t167 < 0 then (some false) else (if t167 = bt165.1 then ((impl_StreamNew.f a0 a1).bind fun bt168 => ((laws_eqStream.f kj4 bt168.1 bt168.2.1 bt168.2.2.1 bt168.2.2.2.1 bt168.2.2.2.2.1 bt168.2.2.2.2.2.1 bt168.2.2.2.2.2.2.1 bt168.2.2.2.2.2.2.2.1 bt168.2.2.2.2.2.2.2.2.1 bt168.2.2.2.2.2.2.2.2.2.1 bt168.2.2.2.2.2.2.2.2.2.2.1 bt168.2.2.2.2.2.2.2.2.2.2.2.1 bt168.2.2.2.2.2.2.2.2.2.2.2.2.1 t130 t131 t132 t133 t134 t135 t136 t137 t138 t139 t142 t143 t144).bind fun t185 => (if t185 = true then (laws_FnExactStreamNew.j1 kj4 bt165.1 (bt168.2.2.2.2.2.2.2.2.2.2.2.2.2 != t145) t147 t148 t149 t150 t151 t152 t153 t154 t155 bt165.2 t159 t160 t161) else (laws_FnExactStreamNew.j1 kj4 bt165.1 true t147 t148 t149 t150 t151 t152 t153 t154 t155 bt165.2 t159 t160 t161)))) else (some false))))) = some r := by rw [if_neg (show ¬ (false = true) by decide)] at H; exact H
        clear H
        have H := H1
        clear H1
        replace H := Option.bind_eq_some_iff.mp H
        obtain ⟨⟨t165, t166⟩, A260, H⟩ := H
        replace H : ((laws_heldStream.f kj4 t147 t148 t149 t150 t151 t152 t153 t154 t155 t166 t159 t160 t161 1).bind fun t167 => (if t167 < 0 then (some false) else (if t167 = t165 then ((impl_StreamNew.f a0 a1).bind fun bt168 => ((laws_eqStream.f kj4 bt168.1 bt168.2.1 bt168.2.2.1 bt168.2.2.2.1 bt168.2.2.2.2.1 bt168.2.2.2.2.2.1 bt168.2.2.2.2.2.2.1 bt168.2.2.2.2.2.2.2.1 bt168.2.2.2.2.2.2.2.2.1 bt168.2.2.2.2.2.2.2.2.2.1 bt168.2.2.2.2.2.2.2.2.2.2.1 bt168.2.2.2.2.2.2.2.2.2.2.2.1 bt168.2.2.2.2.2.2.2.2.2.2.2.2.1 t130 t131 t132 t133 t134 t135 t136 t137 t138 t139 t142 t143 t144).bind fun t185 => (if t185 = true then (laws_FnExactStreamNew.j1 kj4 t165 (bt168.2.2.2.2.2.2.2.2.2.2.2.2.2 != t145) t147 t148 t149 t150 t151 t152 t153 t154 t155 t166 t159 t160 t161) else (laws_FnExactStreamNew.j1 kj4 t165 true t147 t148 t149 t150 t151 t152 t153 t154 t155 t166 t159 t160 t161)))) else (some false)))) = some r := H
        have A26 := Aside0.mk A260
        clear A260
        replace H := Option.bind_eq_some_iff.mp H
        obtain ⟨t167, A270, H⟩ := H
        replace H : (if t167 < 0 then (some false) else (if t167 = t165 then ((impl_StreamNew.f a0 a1).bind fun bt168 => ((laws_eqStream.f kj4 bt168.1 bt168.2.1 bt168.2.2.1 bt168.2.2.2.1 bt168.2.2.2.2.1 bt168.2.2.2.2.2.1 bt168.2.2.2.2.2.2.1 bt168.2.2.2.2.2.2.2.1 bt168.2.2.2.2.2.2.2.2.1 bt168.2.2.2.2.2.2.2.2.2.1 bt168.2.2.2.2.2.2.2.2.2.2.1 bt168.2.2.2.2.2.2.2.2.2.2.2.1 bt168.2.2.2.2.2.2.2.2.2.2.2.2.1 t130 t131 t132 t133 t134 t135 t136 t137 t138 t139 t142 t143 t144).bind fun t185 => (if t185 = true then (laws_FnExactStreamNew.j1 kj4 t165 (bt168.2.2.2.2.2.2.2.2.2.2.2.2.2 != t145) t147 t148 t149 t150 t151 t152 t153 t154 t155 t166 t159 t160 t161) else (laws_FnExactStreamNew.j1 kj4 t165 true t147 t148 t149 t150 t151 t152 t153 t154 t155 t166 t159 t160 t161)))) else (some false))) = some r := H
        have A27 := Aside0.mk A270
        clear A270
        by_cases c28 : t167 < 0
        · rw [if_pos c28] at H
          have c28b0 : decide (t167 < 0) = true := decide_eq_true c28
          clear c28
          obtain rfl := Option.some.inj H
          have hnb29 := NB163_146.out
          have hnc29 := NB146_163.out
          have hcz30_0 : wc.cell? ⟨gb163, 0, none⟩ = some (.int .i64 t147) := (blk_cell BK163.out 0).trans rfl
          have hcz30_1 : wc.cell? ⟨gb163, 1, none⟩ = some (.int .i64 t148) := (blk_cell BK163.out 1).trans rfl
          have hcz30_2 : wc.cell? ⟨gb163, 2, none⟩ = some (.int .i64 t149) := (blk_cell BK163.out 2).trans rfl
          have hcz30_3 : wc.cell? ⟨gb163, 3, none⟩ = some (.int .i64 t150) := (blk_cell BK163.out 3).trans rfl
          have hcz30_4 : wc.cell? ⟨gb163, 4, none⟩ = some (.string t151) := (blk_cell BK163.out 4).trans rfl
          have hcz30_5 : wc.cell? ⟨gb163, 5, none⟩ = some (.int .i64 t152) := (blk_cell BK163.out 5).trans rfl
          have hcz30_6 : wc.cell? ⟨gb163, 6, none⟩ = some (.int .i64 t153) := (blk_cell BK163.out 6).trans rfl
          have hcz30_7 : wc.cell? ⟨gb163, 7, none⟩ = some (.bool t154) := (blk_cell BK163.out 7).trans rfl
          have hcz30_8 : wc.cell? ⟨gb163, 8, none⟩ = some (.string t155) := (blk_cell BK163.out 8).trans rfl
          have hcz30_9 : wc.cell? ⟨gb163, 9, none⟩ = some (.slice Ao14 t156.length co14) := (blk_cell BK163.out 9).trans rfl
          have hcz30_10 : wc.cell? ⟨gb163, 10, none⟩ = some (.bool t159) := (blk_cell BK163.out 10).trans rfl
          have hcz30_11 : wc.cell? ⟨gb163, 11, none⟩ = some (.int .i64 t160) := (blk_cell BK163.out 11).trans rfl
          have hcz30_12 : wc.cell? ⟨gb163, 12, none⟩ = some (.int .i64 t161) := (blk_cell BK163.out 12).trans rfl
          have hfz30_0 := blk_frozen BK163.out 0
          have hfz30_1 := blk_frozen BK163.out 1
          have hfz30_2 := blk_frozen BK163.out 2
          have hfz30_3 := blk_frozen BK163.out 3
          have hfz30_4 := blk_frozen BK163.out 4
          have hfz30_5 := blk_frozen BK163.out 5
          have hfz30_6 := blk_frozen BK163.out 6
          have hfz30_7 := blk_frozen BK163.out 7
          have hfz30_8 := blk_frozen BK163.out 8
          have hfz30_9 := blk_frozen BK163.out 9
          have hfz30_10 := blk_frozen BK163.out 10
          have hfz30_11 := blk_frozen BK163.out 11
          have hfz30_12 := blk_frozen BK163.out 12
          go_wp2_with (first | ((with_reducible refine gate_callee (f := 47) rfl ?_); refine goesL_ (some 36) rfl rfl Try.func47 (by kernel_rfl) rfl #[.agg #[.int .i64 t147, .int .i64 t148, .int .i64 t149, .int .i64 t150, .string t151, .int .i64 t152, .int .i64 t153, .bool t154, .string t155, .slice Ao14 t156.length co14, .bool t159, .int .i64 t160, .int .i64 t161], .int .i64 1] rfl (by (try simp only [List.map_toArray, List.map_cons, List.map_nil]); first | done | rfl | (simp only [List.length_drop, List.length_take]; rfl)) ?_; (with_reducible refine (laws_markStream.calls kj4 t147 t148 t149 t150 t151 t152 t153 t154 t155 (fun k_ => some k_ = (.slice Ao14 t156.length co14 : Value).ownBlock) (.slice Ao14 t156.length co14) t156 t159 t160 t161 1 t165 t166 w _ ?side1 ?side2 A26.out).mono ?_); (case side1 => repeat (first | (with_reducible first | exact HB.out | apply below_alloc | apply pw_below_drewN | apply below_drew1 | refine below_set ?_ GE146.out | refine below_set ?_ GE163.out) | exact HB.out)); (case side2 => exact Kd.R_tight rfl HO_164009.out); rintro e w31 ⟨rfl, hy0, hb, hkp⟩; refine ⟨_, rfl, ?_⟩; have n0_ := Aside0.mk (Kd.R_mono (ok' := fun k_ => some k_ ≠ (.slice Ao14 t156.length co14 : Value).ownBlock) (Kd.R_keptB (HO_147009.out) hkp (fun k_ hk_ hs_ => (hk_) hs_)) (fun k_ hk_ => hk_.1)); have n1_ := Aside0.mk (Kd.R_reok rfl hy0 (fun k_ e_ => HO_164009.out.1 k_ e_)); have n2_ := Aside0.mk (blk_kept (by (with_reducible repeat (first | refine blk_drewN ?_ _ | refine blk_drew ?_ | refine blk_alloc ?_ _)); exact BK146.out) hkp (fun hs_ => (fun e_ => (Kd.R_ne HO_164009.out BK146.out (by decide)) e_) hs_)); have n3_ := Aside0.mk (blk_kept (by (with_reducible repeat (first | refine blk_drewN ?_ _ | refine blk_drew ?_ | refine blk_alloc ?_ _)); exact BK163.out) hkp (fun hs_ => (fun e_ => (Kd.R_ne HO_164009.out BK163.out (by decide)) e_) hs_)); have n4_ := Aside0.mk (hb); clear HO_147009; clear HO_164009; clear BK146; clear BK163; clear HB; have HO_147009 := n0_; have HO_164009 := n1_; have BK146 := n2_; have BK163 := n3_; have HB := n4_; clear n0_ n1_ n2_ n3_ n4_; (try clear hb); (try clear hkp); (try clear hy0); have hcz32_0 : w31.cell? ⟨gb163, 0, none⟩ = some (.int .i64 t147) := (blk_cell BK163.out 0).trans rfl; have hcz32_1 : w31.cell? ⟨gb163, 1, none⟩ = some (.int .i64 t148) := (blk_cell BK163.out 1).trans rfl; have hcz32_2 : w31.cell? ⟨gb163, 2, none⟩ = some (.int .i64 t149) := (blk_cell BK163.out 2).trans rfl; have hcz32_3 : w31.cell? ⟨gb163, 3, none⟩ = some (.int .i64 t150) := (blk_cell BK163.out 3).trans rfl; have hcz32_4 : w31.cell? ⟨gb163, 4, none⟩ = some (.string t151) := (blk_cell BK163.out 4).trans rfl; have hcz32_5 : w31.cell? ⟨gb163, 5, none⟩ = some (.int .i64 t152) := (blk_cell BK163.out 5).trans rfl; have hcz32_6 : w31.cell? ⟨gb163, 6, none⟩ = some (.int .i64 t153) := (blk_cell BK163.out 6).trans rfl; have hcz32_7 : w31.cell? ⟨gb163, 7, none⟩ = some (.bool t154) := (blk_cell BK163.out 7).trans rfl; have hcz32_8 : w31.cell? ⟨gb163, 8, none⟩ = some (.string t155) := (blk_cell BK163.out 8).trans rfl; have hcz32_9 : w31.cell? ⟨gb163, 9, none⟩ = some (.slice Ao14 t156.length co14) := (blk_cell BK163.out 9).trans rfl; have hcz32_10 : w31.cell? ⟨gb163, 10, none⟩ = some (.bool t159) := (blk_cell BK163.out 10).trans rfl; have hcz32_11 : w31.cell? ⟨gb163, 11, none⟩ = some (.int .i64 t160) := (blk_cell BK163.out 11).trans rfl; have hcz32_12 : w31.cell? ⟨gb163, 12, none⟩ = some (.int .i64 t161) := (blk_cell BK163.out 12).trans rfl; have hfz32_0 := blk_frozen BK163.out 0; have hfz32_1 := blk_frozen BK163.out 1; have hfz32_2 := blk_frozen BK163.out 2; have hfz32_3 := blk_frozen BK163.out 3; have hfz32_4 := blk_frozen BK163.out 4; have hfz32_5 := blk_frozen BK163.out 5; have hfz32_6 := blk_frozen BK163.out 6; have hfz32_7 := blk_frozen BK163.out 7; have hfz32_8 := blk_frozen BK163.out 8; have hfz32_9 := blk_frozen BK163.out 9; have hfz32_10 := blk_frozen BK163.out 10; have hfz32_11 := blk_frozen BK163.out 11; have hfz32_12 := blk_frozen BK163.out 12) | ((with_reducible refine gate_callee (f := 48) rfl ?_); refine goesL_ (some 39) rfl rfl Try.func48 (by kernel_rfl) rfl #[.agg #[.int .i64 t147, .int .i64 t148, .int .i64 t149, .int .i64 t150, .string t151, .int .i64 t152, .int .i64 t153, .bool t154, .string t155, .slice Ao14 t166.length co14, .bool t159, .int .i64 t160, .int .i64 t161], .int .i64 1] rfl (by (try simp only [List.map_toArray, List.map_cons, List.map_nil]); first | done | (rw [show t166.length = t156.length from (Kd.R_reads' HO_164009.out).1.symm] <;> rfl) | rfl | (simp only [List.length_drop, List.length_take]; rfl)) ?_; (with_reducible refine (laws_heldStream.calls kj4 t147 t148 t149 t150 t151 t152 t153 t154 t155 _ _ t166 t159 t160 t161 1 t167 _ ?side1 ?side2 A27.out).mono ?_); (case side1 => repeat (first | exact (Kd.R_reads' HO_164009.out).2.2 | (with_reducible refine Kd.C_alloc ?_ _) | (with_reducible refine Kd.C_drewN ?_ _) | (with_reducible refine Kd.C_drew ?_))); (case side2 => rw [show t166.length = t156.length from (Kd.R_reads' HO_164009.out).1.symm]; exact (Kd.R_reads' HO_164009.out).2.1); rintro e w33 ⟨rfl, hb⟩; refine ⟨_, rfl, ?_⟩; have n0_ := Aside0.mk (Kd.R_below (by (with_reducible repeat (first | apply Kd.R_alloc | apply Kd.R_drewN | apply Kd.R_drew)); exact HO_147009.out) hb); have n1_ := Aside0.mk (Kd.R_below (by (with_reducible repeat (first | apply Kd.R_alloc | apply Kd.R_drewN | apply Kd.R_drew)); exact HO_164009.out) hb); have n2_ := Aside0.mk (blk_below (g := gb146) (o := .cells #[.int .i64 t130, .int .i64 t131, .int .i64 t132, .int .i64 t133, .string t134, .int .i64 t135, .int .i64 t136, .bool t137, .string t138, .slice Ao9 t139.length co9, .bool t142, .int .i64 t143, .int .i64 t144] 68 (0, 0)) (by (with_reducible repeat (first | refine blk_drewN ?_ _ | refine blk_drew ?_ | refine blk_alloc ?_ _)); exact BK146.out) hb); have n3_ := Aside0.mk (blk_below (g := gb163) (o := .cells #[.int .i64 t147, .int .i64 t148, .int .i64 t149, .int .i64 t150, .string t151, .int .i64 t152, .int .i64 t153, .bool t154, .string t155, .slice Ao14 t156.length co14, .bool t159, .int .i64 t160, .int .i64 t161] 68 (0, 0)) (by (with_reducible repeat (first | refine blk_drewN ?_ _ | refine blk_drew ?_ | refine blk_alloc ?_ _)); exact BK163.out) hb); have n4_ := Aside0.mk (below_step (by repeat (first | (with_reducible first | exact HB.out | apply below_alloc | apply pw_below_drewN | apply below_drew1 | refine below_set ?_ GE146.out | refine below_set ?_ GE163.out) | exact HB.out)) hb); clear HO_147009; clear HO_164009; clear BK146; clear BK163; clear HB; have HO_147009 := n0_; have HO_164009 := n1_; have BK146 := n2_; have BK163 := n3_; have HB := n4_; clear n0_ n1_ n2_ n3_ n4_; (try clear hb); (try clear hb2); (try clear hk); (try clear hi)))
          go_ret
          exact ⟨by first | rfl | (simp [errW_none, errW_some] <;> rfl) | (simp [*, errW_none, errW_some] <;> rfl), by repeat (first | (with_reducible first | exact HB.out | apply below_alloc | apply pw_below_drewN | apply below_drew1 | refine below_set ?_ GE146.out | refine below_set ?_ GE163.out) | exact HB.out)⟩
        · rw [if_neg c28] at H
          have c28b0 : decide (t167 < 0) = false := decide_eq_false c28
          clear c28
          by_cases c34 : t167 = t165
          · rw [if_pos c34] at H
            have c34b0 : (t167 == t165) = true := beq_iff_eq.mpr c34
            have c34b1 : (t167 != t165) = false := bne_eq_false_iff_eq.mpr c34
            clear c34
            replace H := Option.bind_eq_some_iff.mp H
            obtain ⟨⟨t168, t169, t170, t171, t172, t173, t174, t175, t176, t177, t180, t181, t182, t183⟩, A350, H⟩ := H
            replace H : ((laws_eqStream.f kj4 t168 t169 t170 t171 t172 t173 t174 t175 t176 t177 t180 t181 t182 t130 t131 t132 t133 t134 t135 t136 t137 t138 t139 t142 t143 t144).bind fun t185 => (if t185 = true then (laws_FnExactStreamNew.j1 kj4 t165 (t183 != t145) t147 t148 t149 t150 t151 t152 t153 t154 t155 t166 t159 t160 t161) else (laws_FnExactStreamNew.j1 kj4 t165 true t147 t148 t149 t150 t151 t152 t153 t154 t155 t166 t159 t160 t161))) = some r := H
            have A35 := Aside0.mk A350
            clear A350
            have HC36 := Aside0.mk H
            clear H
            have hnb37 := NB163_146.out
            have hnc37 := NB146_163.out
            have hcz38_0 : wc.cell? ⟨gb163, 0, none⟩ = some (.int .i64 t147) := (blk_cell BK163.out 0).trans rfl
            have hcz38_1 : wc.cell? ⟨gb163, 1, none⟩ = some (.int .i64 t148) := (blk_cell BK163.out 1).trans rfl
            have hcz38_2 : wc.cell? ⟨gb163, 2, none⟩ = some (.int .i64 t149) := (blk_cell BK163.out 2).trans rfl
            have hcz38_3 : wc.cell? ⟨gb163, 3, none⟩ = some (.int .i64 t150) := (blk_cell BK163.out 3).trans rfl
            have hcz38_4 : wc.cell? ⟨gb163, 4, none⟩ = some (.string t151) := (blk_cell BK163.out 4).trans rfl
            have hcz38_5 : wc.cell? ⟨gb163, 5, none⟩ = some (.int .i64 t152) := (blk_cell BK163.out 5).trans rfl
            have hcz38_6 : wc.cell? ⟨gb163, 6, none⟩ = some (.int .i64 t153) := (blk_cell BK163.out 6).trans rfl
            have hcz38_7 : wc.cell? ⟨gb163, 7, none⟩ = some (.bool t154) := (blk_cell BK163.out 7).trans rfl
            have hcz38_8 : wc.cell? ⟨gb163, 8, none⟩ = some (.string t155) := (blk_cell BK163.out 8).trans rfl
            have hcz38_9 : wc.cell? ⟨gb163, 9, none⟩ = some (.slice Ao14 t156.length co14) := (blk_cell BK163.out 9).trans rfl
            have hcz38_10 : wc.cell? ⟨gb163, 10, none⟩ = some (.bool t159) := (blk_cell BK163.out 10).trans rfl
            have hcz38_11 : wc.cell? ⟨gb163, 11, none⟩ = some (.int .i64 t160) := (blk_cell BK163.out 11).trans rfl
            have hcz38_12 : wc.cell? ⟨gb163, 12, none⟩ = some (.int .i64 t161) := (blk_cell BK163.out 12).trans rfl
            have hfz38_0 := blk_frozen BK163.out 0
            have hfz38_1 := blk_frozen BK163.out 1
            have hfz38_2 := blk_frozen BK163.out 2
            have hfz38_3 := blk_frozen BK163.out 3
            have hfz38_4 := blk_frozen BK163.out 4
            have hfz38_5 := blk_frozen BK163.out 5
            have hfz38_6 := blk_frozen BK163.out 6
            have hfz38_7 := blk_frozen BK163.out 7
            have hfz38_8 := blk_frozen BK163.out 8
            have hfz38_9 := blk_frozen BK163.out 9
            have hfz38_10 := blk_frozen BK163.out 10
            have hfz38_11 := blk_frozen BK163.out 11
            have hfz38_12 := blk_frozen BK163.out 12
            go_upto_region 14 with (first | ((with_reducible refine gate_callee (f := 47) rfl ?_); refine goesL_ (some 36) rfl rfl Try.func47 (by kernel_rfl) rfl #[.agg #[.int .i64 t147, .int .i64 t148, .int .i64 t149, .int .i64 t150, .string t151, .int .i64 t152, .int .i64 t153, .bool t154, .string t155, .slice Ao14 t156.length co14, .bool t159, .int .i64 t160, .int .i64 t161], .int .i64 1] rfl (by (try simp only [List.map_toArray, List.map_cons, List.map_nil]); first | done | rfl | (simp only [List.length_drop, List.length_take]; rfl)) ?_; (with_reducible refine (laws_markStream.calls kj4 t147 t148 t149 t150 t151 t152 t153 t154 t155 (fun k_ => some k_ = (.slice Ao14 t156.length co14 : Value).ownBlock) (.slice Ao14 t156.length co14) t156 t159 t160 t161 1 t165 t166 w _ ?side1 ?side2 A26.out).mono ?_); (case side1 => repeat (first | (with_reducible first | exact HB.out | apply below_alloc | apply pw_below_drewN | apply below_drew1 | refine below_set ?_ GE146.out | refine below_set ?_ GE163.out) | exact HB.out)); (case side2 => exact Kd.R_tight rfl HO_164009.out); rintro e w39 ⟨rfl, hy0, hb, hkp⟩; refine ⟨_, rfl, ?_⟩; have n0_ := Aside0.mk (Kd.R_mono (ok' := fun k_ => some k_ ≠ (.slice Ao14 t156.length co14 : Value).ownBlock) (Kd.R_keptB (HO_147009.out) hkp (fun k_ hk_ hs_ => (hk_) hs_)) (fun k_ hk_ => hk_.1)); have n1_ := Aside0.mk (Kd.R_reok rfl hy0 (fun k_ e_ => HO_164009.out.1 k_ e_)); have n2_ := Aside0.mk (blk_kept (by (with_reducible repeat (first | refine blk_drewN ?_ _ | refine blk_drew ?_ | refine blk_alloc ?_ _)); exact BK146.out) hkp (fun hs_ => (fun e_ => (Kd.R_ne HO_164009.out BK146.out (by decide)) e_) hs_)); have n3_ := Aside0.mk (blk_kept (by (with_reducible repeat (first | refine blk_drewN ?_ _ | refine blk_drew ?_ | refine blk_alloc ?_ _)); exact BK163.out) hkp (fun hs_ => (fun e_ => (Kd.R_ne HO_164009.out BK163.out (by decide)) e_) hs_)); have n4_ := Aside0.mk (hb); clear HO_147009; clear HO_164009; clear BK146; clear BK163; clear HB; have HO_147009 := n0_; have HO_164009 := n1_; have BK146 := n2_; have BK163 := n3_; have HB := n4_; clear n0_ n1_ n2_ n3_ n4_; (try clear hb); (try clear hkp); (try clear hy0); have hcz40_0 : w39.cell? ⟨gb163, 0, none⟩ = some (.int .i64 t147) := (blk_cell BK163.out 0).trans rfl; have hcz40_1 : w39.cell? ⟨gb163, 1, none⟩ = some (.int .i64 t148) := (blk_cell BK163.out 1).trans rfl; have hcz40_2 : w39.cell? ⟨gb163, 2, none⟩ = some (.int .i64 t149) := (blk_cell BK163.out 2).trans rfl; have hcz40_3 : w39.cell? ⟨gb163, 3, none⟩ = some (.int .i64 t150) := (blk_cell BK163.out 3).trans rfl; have hcz40_4 : w39.cell? ⟨gb163, 4, none⟩ = some (.string t151) := (blk_cell BK163.out 4).trans rfl; have hcz40_5 : w39.cell? ⟨gb163, 5, none⟩ = some (.int .i64 t152) := (blk_cell BK163.out 5).trans rfl; have hcz40_6 : w39.cell? ⟨gb163, 6, none⟩ = some (.int .i64 t153) := (blk_cell BK163.out 6).trans rfl; have hcz40_7 : w39.cell? ⟨gb163, 7, none⟩ = some (.bool t154) := (blk_cell BK163.out 7).trans rfl; have hcz40_8 : w39.cell? ⟨gb163, 8, none⟩ = some (.string t155) := (blk_cell BK163.out 8).trans rfl; have hcz40_9 : w39.cell? ⟨gb163, 9, none⟩ = some (.slice Ao14 t156.length co14) := (blk_cell BK163.out 9).trans rfl; have hcz40_10 : w39.cell? ⟨gb163, 10, none⟩ = some (.bool t159) := (blk_cell BK163.out 10).trans rfl; have hcz40_11 : w39.cell? ⟨gb163, 11, none⟩ = some (.int .i64 t160) := (blk_cell BK163.out 11).trans rfl; have hcz40_12 : w39.cell? ⟨gb163, 12, none⟩ = some (.int .i64 t161) := (blk_cell BK163.out 12).trans rfl; have hfz40_0 := blk_frozen BK163.out 0; have hfz40_1 := blk_frozen BK163.out 1; have hfz40_2 := blk_frozen BK163.out 2; have hfz40_3 := blk_frozen BK163.out 3; have hfz40_4 := blk_frozen BK163.out 4; have hfz40_5 := blk_frozen BK163.out 5; have hfz40_6 := blk_frozen BK163.out 6; have hfz40_7 := blk_frozen BK163.out 7; have hfz40_8 := blk_frozen BK163.out 8; have hfz40_9 := blk_frozen BK163.out 9; have hfz40_10 := blk_frozen BK163.out 10; have hfz40_11 := blk_frozen BK163.out 11; have hfz40_12 := blk_frozen BK163.out 12) | ((with_reducible refine gate_callee (f := 48) rfl ?_); refine goesL_ (some 39) rfl rfl Try.func48 (by kernel_rfl) rfl #[.agg #[.int .i64 t147, .int .i64 t148, .int .i64 t149, .int .i64 t150, .string t151, .int .i64 t152, .int .i64 t153, .bool t154, .string t155, .slice Ao14 t166.length co14, .bool t159, .int .i64 t160, .int .i64 t161], .int .i64 1] rfl (by (try simp only [List.map_toArray, List.map_cons, List.map_nil]); first | done | (rw [show t166.length = t156.length from (Kd.R_reads' HO_164009.out).1.symm] <;> rfl) | rfl | (simp only [List.length_drop, List.length_take]; rfl)) ?_; (with_reducible refine (laws_heldStream.calls kj4 t147 t148 t149 t150 t151 t152 t153 t154 t155 _ _ t166 t159 t160 t161 1 t167 _ ?side1 ?side2 A27.out).mono ?_); (case side1 => repeat (first | exact (Kd.R_reads' HO_164009.out).2.2 | (with_reducible refine Kd.C_alloc ?_ _) | (with_reducible refine Kd.C_drewN ?_ _) | (with_reducible refine Kd.C_drew ?_))); (case side2 => rw [show t166.length = t156.length from (Kd.R_reads' HO_164009.out).1.symm]; exact (Kd.R_reads' HO_164009.out).2.1); rintro e w41 ⟨rfl, hb⟩; refine ⟨_, rfl, ?_⟩; have n0_ := Aside0.mk (Kd.R_below (by (with_reducible repeat (first | apply Kd.R_alloc | apply Kd.R_drewN | apply Kd.R_drew)); exact HO_147009.out) hb); have n1_ := Aside0.mk (Kd.R_below (by (with_reducible repeat (first | apply Kd.R_alloc | apply Kd.R_drewN | apply Kd.R_drew)); exact HO_164009.out) hb); have n2_ := Aside0.mk (blk_below (g := gb146) (o := .cells #[.int .i64 t130, .int .i64 t131, .int .i64 t132, .int .i64 t133, .string t134, .int .i64 t135, .int .i64 t136, .bool t137, .string t138, .slice Ao9 t139.length co9, .bool t142, .int .i64 t143, .int .i64 t144] 68 (0, 0)) (by (with_reducible repeat (first | refine blk_drewN ?_ _ | refine blk_drew ?_ | refine blk_alloc ?_ _)); exact BK146.out) hb); have n3_ := Aside0.mk (blk_below (g := gb163) (o := .cells #[.int .i64 t147, .int .i64 t148, .int .i64 t149, .int .i64 t150, .string t151, .int .i64 t152, .int .i64 t153, .bool t154, .string t155, .slice Ao14 t156.length co14, .bool t159, .int .i64 t160, .int .i64 t161] 68 (0, 0)) (by (with_reducible repeat (first | refine blk_drewN ?_ _ | refine blk_drew ?_ | refine blk_alloc ?_ _)); exact BK163.out) hb); have n4_ := Aside0.mk (below_step (by repeat (first | (with_reducible first | exact HB.out | apply below_alloc | apply pw_below_drewN | apply below_drew1 | refine below_set ?_ GE146.out | refine below_set ?_ GE163.out) | exact HB.out)) hb); clear HO_147009; clear HO_164009; clear BK146; clear BK163; clear HB; have HO_147009 := n0_; have HO_164009 := n1_; have BK146 := n2_; have BK163 := n3_; have HB := n4_; clear n0_ n1_ n2_ n3_ n4_; (try clear hb); (try clear hb2); (try clear hk); (try clear hi)) | ((with_reducible refine gate_callee (f := 46) rfl ?_); refine goesL_ (some 48) rfl rfl Try.func46 (by kernel_rfl) rfl #[.int .i64 a0, .bool a1] rfl (by (try simp only [List.map_toArray, List.map_cons, List.map_nil]); first | done | rfl | (simp only [List.length_drop, List.length_take]; rfl)) ?_; (with_reducible refine (impl_StreamNew.calls a0 a1 t168 t169 t170 t171 t172 t173 t174 t175 t176 t177 t180 t181 t182 t183 _ A35.out).mono ?_); rintro e w42 ⟨v178, rfl, ho0, hb⟩; refine ⟨_, rfl, ?_⟩; have n0_ := Aside0.mk (Kd.R_elder' (by (with_reducible repeat (first | apply Kd.R_alloc | apply Kd.R_drewN | apply Kd.R_drew)); exact HO_147009.out) (Kd.R_base ho0) hb); have n1_ := Aside0.mk (Kd.R_elder' (by (with_reducible repeat (first | apply Kd.R_alloc | apply Kd.R_drewN | apply Kd.R_drew)); exact HO_164009.out) (Kd.R_base ho0) hb); have n2_ := Aside0.mk (Kd.R_lower (Kd.R_new' (Kd.R_new' ho0 (Kd.R_lt (by (with_reducible repeat (first | apply Kd.R_alloc | apply Kd.R_drewN | apply Kd.R_drew)); exact HO_147009.out))) (Kd.R_lt (by (with_reducible repeat (first | apply Kd.R_alloc | apply Kd.R_drewN | apply Kd.R_drew)); exact HO_164009.out))) (below_size (by repeat (first | (with_reducible first | exact HB.out | apply below_alloc | apply pw_below_drewN | apply below_drew1 | refine below_set ?_ GE146.out | refine below_set ?_ GE163.out) | exact HB.out)))); have n3_ := Aside0.mk (blk_below (g := gb146) (o := .cells #[.int .i64 t130, .int .i64 t131, .int .i64 t132, .int .i64 t133, .string t134, .int .i64 t135, .int .i64 t136, .bool t137, .string t138, .slice Ao9 t139.length co9, .bool t142, .int .i64 t143, .int .i64 t144] 68 (0, 0)) (by (with_reducible repeat (first | refine blk_drewN ?_ _ | refine blk_drew ?_ | refine blk_alloc ?_ _)); exact BK146.out) hb); have n4_ := Aside0.mk (blk_below (g := gb163) (o := .cells #[.int .i64 t147, .int .i64 t148, .int .i64 t149, .int .i64 t150, .string t151, .int .i64 t152, .int .i64 t153, .bool t154, .string t155, .slice Ao14 t156.length co14, .bool t159, .int .i64 t160, .int .i64 t161] 68 (0, 0)) (by (with_reducible repeat (first | refine blk_drewN ?_ _ | refine blk_drew ?_ | refine blk_alloc ?_ _)); exact BK163.out) hb); have n5_ := Aside0.mk (below_step (by repeat (first | (with_reducible first | exact HB.out | apply below_alloc | apply pw_below_drewN | apply below_drew1 | refine below_set ?_ GE146.out | refine below_set ?_ GE163.out) | exact HB.out)) hb); clear HO_147009; clear HO_164009; clear BK146; clear BK163; clear HB; have HO_147009 := n0_; have HO_164009 := n1_; have HO179 := n2_; have BK146 := n3_; have BK163 := n4_; have HB := n5_; clear n0_ n1_ n2_ n3_ n4_ n5_; (try clear hb); (try clear hb2); (try clear hk); (try clear hi); (try clear ho0)) | ((with_reducible refine gate_dst (N := 11) rfl ?_); refine box_event ?hg (N := 11) ?hd (cs := #[.int .i64 0, .int .i64 0, .int .i64 0, .int .i64 0, .string (⟨#[]⟩ : ByteArray), .int .i64 0, .int .i64 0, .bool false, .string (⟨#[]⟩ : ByteArray), .slice none 0 0, .bool false, .int .i64 0, .int .i64 0]) (t := 68) ?hr ?_; (case hd => rfl); (case hg => rfl); (case hr => first | (go_simp; done) | (go_simp; rfl)); intro gb184 hg w43 hbox hb; have n0_ := Aside0.mk (Kd.R_below (by (with_reducible repeat (first | apply Kd.R_alloc | apply Kd.R_drewN | apply Kd.R_drew)); exact HO_147009.out) hb); have n1_ := Aside0.mk (Kd.R_below (by (with_reducible repeat (first | apply Kd.R_alloc | apply Kd.R_drewN | apply Kd.R_drew)); exact HO_164009.out) hb); have n2_ := Aside0.mk (Kd.R_below (by (with_reducible repeat (first | apply Kd.R_alloc | apply Kd.R_drewN | apply Kd.R_drew)); exact HO179.out) hb); have n3_ := Aside0.mk (blk_below (g := gb146) (o := .cells #[.int .i64 t130, .int .i64 t131, .int .i64 t132, .int .i64 t133, .string t134, .int .i64 t135, .int .i64 t136, .bool t137, .string t138, .slice Ao9 t139.length co9, .bool t142, .int .i64 t143, .int .i64 t144] 68 (0, 0)) (by (with_reducible repeat (first | refine blk_drewN ?_ _ | refine blk_drew ?_ | refine blk_alloc ?_ _)); exact BK146.out) hb); have n4_ := Aside0.mk (blk_below (g := gb163) (o := .cells #[.int .i64 t147, .int .i64 t148, .int .i64 t149, .int .i64 t150, .string t151, .int .i64 t152, .int .i64 t153, .bool t154, .string t155, .slice Ao14 t156.length co14, .bool t159, .int .i64 t160, .int .i64 t161] 68 (0, 0)) (by (with_reducible repeat (first | refine blk_drewN ?_ _ | refine blk_drew ?_ | refine blk_alloc ?_ _)); exact BK163.out) hb); have n5_ := Aside0.mk (below_step (by repeat (first | (with_reducible first | exact HB.out | apply below_alloc | apply pw_below_drewN | apply below_drew1 | refine below_set ?_ GE146.out | refine below_set ?_ GE163.out) | exact HB.out)) hb); have n6_ := Aside0.mk (hbox); have n7_ := Aside0.mk ((by rw [hg]; exact (below_size (by repeat (first | (with_reducible first | exact HB.out | apply below_alloc | apply pw_below_drewN | apply below_drew1 | refine below_set ?_ GE146.out | refine below_set ?_ GE163.out) | exact HB.out))) : w.heap.size ≤ gb184)); have n8_ := Aside0.mk ((by rw [hg]; exact (below_size (by repeat (first | (with_reducible first | exact HB.out | apply below_alloc | apply pw_below_drewN | apply below_drew1 | refine below_set ?_ GE146.out | refine below_set ?_ GE163.out) | exact HB.out))) : w.heap.size ≤ gb184)); have n9_ := Aside0.mk ((by rw [hg]; exact Nat.ne_of_lt (blk_lt (g := gb146) (o := .cells #[.int .i64 t130, .int .i64 t131, .int .i64 t132, .int .i64 t133, .string t134, .int .i64 t135, .int .i64 t136, .bool t137, .string t138, .slice Ao9 t139.length co9, .bool t142, .int .i64 t143, .int .i64 t144] 68 (0, 0)) (by (with_reducible repeat (first | refine blk_drewN ?_ _ | refine blk_drew ?_ | refine blk_alloc ?_ _)); exact BK146.out)) : gb146 ≠ gb184)); have n10_ := Aside0.mk ((by rw [hg]; exact Nat.ne_of_gt (blk_lt (g := gb146) (o := .cells #[.int .i64 t130, .int .i64 t131, .int .i64 t132, .int .i64 t133, .string t134, .int .i64 t135, .int .i64 t136, .bool t137, .string t138, .slice Ao9 t139.length co9, .bool t142, .int .i64 t143, .int .i64 t144] 68 (0, 0)) (by (with_reducible repeat (first | refine blk_drewN ?_ _ | refine blk_drew ?_ | refine blk_alloc ?_ _)); exact BK146.out)) : gb184 ≠ gb146)); have n11_ := Aside0.mk ((by rw [hg]; exact Nat.ne_of_lt (blk_lt (g := gb163) (o := .cells #[.int .i64 t147, .int .i64 t148, .int .i64 t149, .int .i64 t150, .string t151, .int .i64 t152, .int .i64 t153, .bool t154, .string t155, .slice Ao14 t156.length co14, .bool t159, .int .i64 t160, .int .i64 t161] 68 (0, 0)) (by (with_reducible repeat (first | refine blk_drewN ?_ _ | refine blk_drew ?_ | refine blk_alloc ?_ _)); exact BK163.out)) : gb163 ≠ gb184)); have n12_ := Aside0.mk ((by rw [hg]; exact Nat.ne_of_gt (blk_lt (g := gb163) (o := .cells #[.int .i64 t147, .int .i64 t148, .int .i64 t149, .int .i64 t150, .string t151, .int .i64 t152, .int .i64 t153, .bool t154, .string t155, .slice Ao14 t156.length co14, .bool t159, .int .i64 t160, .int .i64 t161] 68 (0, 0)) (by (with_reducible repeat (first | refine blk_drewN ?_ _ | refine blk_drew ?_ | refine blk_alloc ?_ _)); exact BK163.out)) : gb184 ≠ gb163)); clear HO_147009; clear HO_164009; clear HO179; clear BK146; clear BK163; clear HB; have HO_147009 := n0_; have HO_164009 := n1_; have HO179 := n2_; have BK146 := n3_; have BK163 := n4_; have HB := n5_; have BK184 := n6_; have GW184 := n7_; have GE184 := n8_; have NB146_184 := n9_; have NB184_146 := n10_; have NB163_184 := n11_; have NB184_163 := n12_; clear n0_ n1_ n2_ n3_ n4_ n5_ n6_ n7_ n8_ n9_ n10_ n11_ n12_; clear hb hbox hg; have hnb44 := NB184_146.out; have hnc44 := NB146_184.out; have hnb45 := NB184_163.out; have hnc45 := NB163_184.out; have hcz46_0 : w43.cell? ⟨gb184, 0, none⟩ = some (.int .i64 0) := (blk_cell BK184.out 0).trans rfl; have hcz46_1 : w43.cell? ⟨gb184, 1, none⟩ = some (.int .i64 0) := (blk_cell BK184.out 1).trans rfl; have hcz46_2 : w43.cell? ⟨gb184, 2, none⟩ = some (.int .i64 0) := (blk_cell BK184.out 2).trans rfl; have hcz46_3 : w43.cell? ⟨gb184, 3, none⟩ = some (.int .i64 0) := (blk_cell BK184.out 3).trans rfl; have hcz46_4 : w43.cell? ⟨gb184, 4, none⟩ = some (.string (⟨#[]⟩ : ByteArray)) := (blk_cell BK184.out 4).trans rfl; have hcz46_5 : w43.cell? ⟨gb184, 5, none⟩ = some (.int .i64 0) := (blk_cell BK184.out 5).trans rfl; have hcz46_6 : w43.cell? ⟨gb184, 6, none⟩ = some (.int .i64 0) := (blk_cell BK184.out 6).trans rfl; have hcz46_7 : w43.cell? ⟨gb184, 7, none⟩ = some (.bool false) := (blk_cell BK184.out 7).trans rfl; have hcz46_8 : w43.cell? ⟨gb184, 8, none⟩ = some (.string (⟨#[]⟩ : ByteArray)) := (blk_cell BK184.out 8).trans rfl; have hcz46_9 : w43.cell? ⟨gb184, 9, none⟩ = some (.slice none 0 0) := (blk_cell BK184.out 9).trans rfl; have hcz46_10 : w43.cell? ⟨gb184, 10, none⟩ = some (.bool false) := (blk_cell BK184.out 10).trans rfl; have hcz46_11 : w43.cell? ⟨gb184, 11, none⟩ = some (.int .i64 0) := (blk_cell BK184.out 11).trans rfl; have hcz46_12 : w43.cell? ⟨gb184, 12, none⟩ = some (.int .i64 0) := (blk_cell BK184.out 12).trans rfl; have hfz46_0 := blk_frozen BK184.out 0; have hfz46_1 := blk_frozen BK184.out 1; have hfz46_2 := blk_frozen BK184.out 2; have hfz46_3 := blk_frozen BK184.out 3; have hfz46_4 := blk_frozen BK184.out 4; have hfz46_5 := blk_frozen BK184.out 5; have hfz46_6 := blk_frozen BK184.out 6; have hfz46_7 := blk_frozen BK184.out 7; have hfz46_8 := blk_frozen BK184.out 8; have hfz46_9 := blk_frozen BK184.out 9; have hfz46_10 := blk_frozen BK184.out 10; have hfz46_11 := blk_frozen BK184.out 11; have hfz46_12 := blk_frozen BK184.out 12; obtain ⟨Ao47, co47, eo47⟩ := Kd.R_slice HO179.out; subst eo47))
            (try simp only [Act.put, List.setIfInBounds_toArray, List.set_cons_zero, List.set_cons_succ])
            go_cut [59] (fun v59 wc => ∃ (kq : Nat) (x59_35 : Bool), v59 = .bool x59_35 ∧ Aside0 (laws_FnExactStreamNew.j1 kq t165 x59_35 t147 t148 t149 t150 t151 t152 t153 t154 t155 t166 t159 t160 t161 = some r) ∧ Aside0 (kq ≤ kj4) ∧ Aside0 (Kd.R k154 154 wc w.heap.size (fun k_ => some k_ ≠ ((.slice Ao14 t156.length co14) : Value).ownBlock ∧ some k_ ≠ ((.slice Ao47 t177.length co47) : Value).ownBlock) (.slice Ao9 t139.length co9) t139) ∧ Aside0 (Kd.R k154 154 wc w.heap.size (fun k_ => some k_ ≠ ((.slice Ao9 t139.length co9) : Value).ownBlock ∧ some k_ ≠ ((.slice Ao47 t177.length co47) : Value).ownBlock) (.slice Ao14 t156.length co14) t166) ∧ Aside0 (Kd.R k154 154 wc w.heap.size (fun k_ => some k_ ≠ ((.slice Ao9 t139.length co9) : Value).ownBlock ∧ some k_ ≠ ((.slice Ao14 t156.length co14) : Value).ownBlock) (.slice Ao47 t177.length co47) t177) ∧ Aside0 (wc.heap[gb146]? = some (.cells #[.int .i64 t130, .int .i64 t131, .int .i64 t132, .int .i64 t133, .string t134, .int .i64 t135, .int .i64 t136, .bool t137, .string t138, (.slice Ao9 t139.length co9), .bool t142, .int .i64 t143, .int .i64 t144] 68 (0, 0))) ∧ Aside0 (wc.heap[gb163]? = some (.cells #[.int .i64 t147, .int .i64 t148, .int .i64 t149, .int .i64 t150, .string t151, .int .i64 t152, .int .i64 t153, .bool t154, .string t155, (.slice Ao14 t156.length co14), .bool t159, .int .i64 t160, .int .i64 t161] 68 (0, 0))) ∧ Aside0 (wc.heap[gb184]? = some (.cells #[.int .i64 t168, .int .i64 t169, .int .i64 t170, .int .i64 t171, .string t172, .int .i64 t173, .int .i64 t174, .bool t175, .string t176, (.slice Ao47 t177.length co47), .bool t180, .int .i64 t181, .int .i64 t182] 68 (0, 0))) ∧ Aside0 (Below w.heap.size w wc))
            case first =>
              have H := HC36.out
              clear HC36
              replace H := Option.bind_eq_some_iff.mp H
              obtain ⟨t185, A480, H⟩ := H
              replace H : (if t185 = true then (laws_FnExactStreamNew.j1 kj4 t165 (t183 != t145) t147 t148 t149 t150 t151 t152 t153 t154 t155 t166 t159 t160 t161) else (laws_FnExactStreamNew.j1 kj4 t165 true t147 t148 t149 t150 t151 t152 t153 t154 t155 t166 t159 t160 t161)) = some r := H
              have A48 := Aside0.mk A480
              clear A480
              by_cases c49 : t185 = true
              · subst c49
                have H1 : (laws_FnExactStreamNew.j1 kj4 t165 (t183 != t145) t147 t148 t149 t150 t151 t152 t153 t154 t155 t166 t159 t160 t161) = some r := by rw [if_pos rfl] at H; exact H
                clear H
                have H := H1
                clear H1
                have H' := Aside0.mk H
                clear H
                have hnb50 := NB184_146.out
                have hnc50 := NB146_184.out
                have hnb51 := NB184_163.out
                have hnc51 := NB163_184.out
                have hcz52_0 : w43.cell? ⟨gb184, 0, none⟩ = some (.int .i64 0) := (blk_cell BK184.out 0).trans rfl
                have hcz52_1 : w43.cell? ⟨gb184, 1, none⟩ = some (.int .i64 0) := (blk_cell BK184.out 1).trans rfl
                have hcz52_2 : w43.cell? ⟨gb184, 2, none⟩ = some (.int .i64 0) := (blk_cell BK184.out 2).trans rfl
                have hcz52_3 : w43.cell? ⟨gb184, 3, none⟩ = some (.int .i64 0) := (blk_cell BK184.out 3).trans rfl
                have hcz52_4 : w43.cell? ⟨gb184, 4, none⟩ = some (.string (⟨#[]⟩ : ByteArray)) := (blk_cell BK184.out 4).trans rfl
                have hcz52_5 : w43.cell? ⟨gb184, 5, none⟩ = some (.int .i64 0) := (blk_cell BK184.out 5).trans rfl
                have hcz52_6 : w43.cell? ⟨gb184, 6, none⟩ = some (.int .i64 0) := (blk_cell BK184.out 6).trans rfl
                have hcz52_7 : w43.cell? ⟨gb184, 7, none⟩ = some (.bool false) := (blk_cell BK184.out 7).trans rfl
                have hcz52_8 : w43.cell? ⟨gb184, 8, none⟩ = some (.string (⟨#[]⟩ : ByteArray)) := (blk_cell BK184.out 8).trans rfl
                have hcz52_9 : w43.cell? ⟨gb184, 9, none⟩ = some (.slice none 0 0) := (blk_cell BK184.out 9).trans rfl
                have hcz52_10 : w43.cell? ⟨gb184, 10, none⟩ = some (.bool false) := (blk_cell BK184.out 10).trans rfl
                have hcz52_11 : w43.cell? ⟨gb184, 11, none⟩ = some (.int .i64 0) := (blk_cell BK184.out 11).trans rfl
                have hcz52_12 : w43.cell? ⟨gb184, 12, none⟩ = some (.int .i64 0) := (blk_cell BK184.out 12).trans rfl
                have hfz52_0 := blk_frozen BK184.out 0
                have hfz52_1 := blk_frozen BK184.out 1
                have hfz52_2 := blk_frozen BK184.out 2
                have hfz52_3 := blk_frozen BK184.out 3
                have hfz52_4 := blk_frozen BK184.out 4
                have hfz52_5 := blk_frozen BK184.out 5
                have hfz52_6 := blk_frozen BK184.out 6
                have hfz52_7 := blk_frozen BK184.out 7
                have hfz52_8 := blk_frozen BK184.out 8
                have hfz52_9 := blk_frozen BK184.out 9
                have hfz52_10 := blk_frozen BK184.out 10
                have hfz52_11 := blk_frozen BK184.out 11
                have hfz52_12 := blk_frozen BK184.out 12
                have hnb53 := NB146_163.out
                have hnc53 := NB163_146.out
                have hcz54_0 : w43.cell? ⟨gb146, 0, none⟩ = some (.int .i64 t130) := (blk_cell BK146.out 0).trans rfl
                have hcz54_1 : w43.cell? ⟨gb146, 1, none⟩ = some (.int .i64 t131) := (blk_cell BK146.out 1).trans rfl
                have hcz54_2 : w43.cell? ⟨gb146, 2, none⟩ = some (.int .i64 t132) := (blk_cell BK146.out 2).trans rfl
                have hcz54_3 : w43.cell? ⟨gb146, 3, none⟩ = some (.int .i64 t133) := (blk_cell BK146.out 3).trans rfl
                have hcz54_4 : w43.cell? ⟨gb146, 4, none⟩ = some (.string t134) := (blk_cell BK146.out 4).trans rfl
                have hcz54_5 : w43.cell? ⟨gb146, 5, none⟩ = some (.int .i64 t135) := (blk_cell BK146.out 5).trans rfl
                have hcz54_6 : w43.cell? ⟨gb146, 6, none⟩ = some (.int .i64 t136) := (blk_cell BK146.out 6).trans rfl
                have hcz54_7 : w43.cell? ⟨gb146, 7, none⟩ = some (.bool t137) := (blk_cell BK146.out 7).trans rfl
                have hcz54_8 : w43.cell? ⟨gb146, 8, none⟩ = some (.string t138) := (blk_cell BK146.out 8).trans rfl
                have hcz54_9 : w43.cell? ⟨gb146, 9, none⟩ = some (.slice Ao9 t139.length co9) := (blk_cell BK146.out 9).trans rfl
                have hcz54_10 : w43.cell? ⟨gb146, 10, none⟩ = some (.bool t142) := (blk_cell BK146.out 10).trans rfl
                have hcz54_11 : w43.cell? ⟨gb146, 11, none⟩ = some (.int .i64 t143) := (blk_cell BK146.out 11).trans rfl
                have hcz54_12 : w43.cell? ⟨gb146, 12, none⟩ = some (.int .i64 t144) := (blk_cell BK146.out 12).trans rfl
                have hfz54_0 := blk_frozen BK146.out 0
                have hfz54_1 := blk_frozen BK146.out 1
                have hfz54_2 := blk_frozen BK146.out 2
                have hfz54_3 := blk_frozen BK146.out 3
                have hfz54_4 := blk_frozen BK146.out 4
                have hfz54_5 := blk_frozen BK146.out 5
                have hfz54_6 := blk_frozen BK146.out 6
                have hfz54_7 := blk_frozen BK146.out 7
                have hfz54_8 := blk_frozen BK146.out 8
                have hfz54_9 := blk_frozen BK146.out 9
                have hfz54_10 := blk_frozen BK146.out 10
                have hfz54_11 := blk_frozen BK146.out 11
                have hfz54_12 := blk_frozen BK146.out 12
                go_wp2_with (first | ((with_reducible refine gate_callee (f := 44) rfl ?_); refine goesL_ (some 53) rfl rfl Try.func44 (by kernel_rfl) rfl #[.agg #[.int .i64 t168, .int .i64 t169, .int .i64 t170, .int .i64 t171, .string t172, .int .i64 t173, .int .i64 t174, .bool t175, .string t176, .slice Ao47 t177.length co47, .bool t180, .int .i64 t181, .int .i64 t182], .agg #[.int .i64 t130, .int .i64 t131, .int .i64 t132, .int .i64 t133, .string t134, .int .i64 t135, .int .i64 t136, .bool t137, .string t138, .slice Ao9 t139.length co9, .bool t142, .int .i64 t143, .int .i64 t144]] rfl (by (try simp only [List.map_toArray, List.map_cons, List.map_nil]); first | done | rfl | (simp only [List.length_drop, List.length_take]; rfl)) ?_; (with_reducible refine (laws_eqStream.calls kj4 t168 t169 t170 t171 t172 t173 t174 t175 t176 _ _ t177 t180 t181 t182 t130 t131 t132 t133 t134 t135 t136 t137 t138 _ _ t139 t142 t143 t144 true _ ?side1 ?side2 ?side3 ?side4 A48.out).mono ?_); (case side1 => refine (Kd.R_reads' (e := 154) (base := w.heap.size) (ok := fun k_ => ((True ∧ some k_ ≠ (.slice Ao9 t139.length co9 : Value).ownBlock) ∧ some k_ ≠ (.slice Ao14 t156.length co14 : Value).ownBlock)) (n := t177.length) (c := co47) ?_).2.2; exact (by (with_reducible repeat (first | apply Kd.R_alloc | apply Kd.R_drewN | apply Kd.R_drew)); exact (Kd.R_mono (Kd.R_far (p := ⟨gb184, 12, none⟩) (Kd.R_far (p := ⟨gb184, 11, none⟩) (Kd.R_far (p := ⟨gb184, 10, none⟩) (Kd.R_far (p := ⟨gb184, 9, none⟩) (Kd.R_far (p := ⟨gb184, 8, none⟩) (Kd.R_far (p := ⟨gb184, 7, none⟩) (Kd.R_far (p := ⟨gb184, 6, none⟩) (Kd.R_far (p := ⟨gb184, 5, none⟩) (Kd.R_far (p := ⟨gb184, 4, none⟩) (Kd.R_far (p := ⟨gb184, 3, none⟩) (Kd.R_far (p := ⟨gb184, 2, none⟩) (Kd.R_far (p := ⟨gb184, 1, none⟩) (Kd.R_far (p := ⟨gb184, 0, none⟩) (Kd.R_types HO179.out BK184.out (by decide)) (fun _ hk => hk.2) (.int .i64 t168)) (fun _ hk => hk.2) (.int .i64 t169)) (fun _ hk => hk.2) (.int .i64 t170)) (fun _ hk => hk.2) (.int .i64 t171)) (fun _ hk => hk.2) (.string t172)) (fun _ hk => hk.2) (.int .i64 t173)) (fun _ hk => hk.2) (.int .i64 t174)) (fun _ hk => hk.2) (.bool t175)) (fun _ hk => hk.2) (.string t176)) (fun _ hk => hk.2) (.slice Ao47 t177.length co47)) (fun _ hk => hk.2) (.bool t180)) (fun _ hk => hk.2) (.int .i64 t181)) (fun _ hk => hk.2) (.int .i64 t182)) (fun _ h_ => h_.1)))); (case side2 => exact (Kd.R_reads' HO179.out).2.1); (case side3 => refine (Kd.R_reads' (e := 154) (base := w.heap.size) (ok := fun k_ => (some k_ ≠ (.slice Ao14 t156.length co14 : Value).ownBlock ∧ some k_ ≠ (.slice Ao47 t177.length co47 : Value).ownBlock)) (n := t139.length) (c := co9) ?_).2.2; exact (by (with_reducible repeat (first | apply Kd.R_alloc | apply Kd.R_drewN | apply Kd.R_drew)); exact (Kd.R_mono (Kd.R_far (p := ⟨gb184, 12, none⟩) (Kd.R_far (p := ⟨gb184, 11, none⟩) (Kd.R_far (p := ⟨gb184, 10, none⟩) (Kd.R_far (p := ⟨gb184, 9, none⟩) (Kd.R_far (p := ⟨gb184, 8, none⟩) (Kd.R_far (p := ⟨gb184, 7, none⟩) (Kd.R_far (p := ⟨gb184, 6, none⟩) (Kd.R_far (p := ⟨gb184, 5, none⟩) (Kd.R_far (p := ⟨gb184, 4, none⟩) (Kd.R_far (p := ⟨gb184, 3, none⟩) (Kd.R_far (p := ⟨gb184, 2, none⟩) (Kd.R_far (p := ⟨gb184, 1, none⟩) (Kd.R_far (p := ⟨gb184, 0, none⟩) (Kd.R_types HO_147009.out BK184.out (by decide)) (fun _ hk => hk.2) (.int .i64 t168)) (fun _ hk => hk.2) (.int .i64 t169)) (fun _ hk => hk.2) (.int .i64 t170)) (fun _ hk => hk.2) (.int .i64 t171)) (fun _ hk => hk.2) (.string t172)) (fun _ hk => hk.2) (.int .i64 t173)) (fun _ hk => hk.2) (.int .i64 t174)) (fun _ hk => hk.2) (.bool t175)) (fun _ hk => hk.2) (.string t176)) (fun _ hk => hk.2) (.slice Ao47 t177.length co47)) (fun _ hk => hk.2) (.bool t180)) (fun _ hk => hk.2) (.int .i64 t181)) (fun _ hk => hk.2) (.int .i64 t182)) (fun _ h_ => h_.1)))); (case side4 => exact (Kd.R_reads' HO_147009.out).2.1); rintro e w55 ⟨rfl, hb⟩; refine ⟨_, rfl, ?_⟩; have n0_ := Aside0.mk (Kd.R_below (by (with_reducible repeat (first | apply Kd.R_alloc | apply Kd.R_drewN | apply Kd.R_drew)); exact (Kd.R_mono (Kd.R_far (p := ⟨gb184, 12, none⟩) (Kd.R_far (p := ⟨gb184, 11, none⟩) (Kd.R_far (p := ⟨gb184, 10, none⟩) (Kd.R_far (p := ⟨gb184, 9, none⟩) (Kd.R_far (p := ⟨gb184, 8, none⟩) (Kd.R_far (p := ⟨gb184, 7, none⟩) (Kd.R_far (p := ⟨gb184, 6, none⟩) (Kd.R_far (p := ⟨gb184, 5, none⟩) (Kd.R_far (p := ⟨gb184, 4, none⟩) (Kd.R_far (p := ⟨gb184, 3, none⟩) (Kd.R_far (p := ⟨gb184, 2, none⟩) (Kd.R_far (p := ⟨gb184, 1, none⟩) (Kd.R_far (p := ⟨gb184, 0, none⟩) (Kd.R_types HO_147009.out BK184.out (by decide)) (fun _ hk => hk.2) (.int .i64 t168)) (fun _ hk => hk.2) (.int .i64 t169)) (fun _ hk => hk.2) (.int .i64 t170)) (fun _ hk => hk.2) (.int .i64 t171)) (fun _ hk => hk.2) (.string t172)) (fun _ hk => hk.2) (.int .i64 t173)) (fun _ hk => hk.2) (.int .i64 t174)) (fun _ hk => hk.2) (.bool t175)) (fun _ hk => hk.2) (.string t176)) (fun _ hk => hk.2) (.slice Ao47 t177.length co47)) (fun _ hk => hk.2) (.bool t180)) (fun _ hk => hk.2) (.int .i64 t181)) (fun _ hk => hk.2) (.int .i64 t182)) (fun _ h_ => h_.1))) hb); have n1_ := Aside0.mk (Kd.R_below (by (with_reducible repeat (first | apply Kd.R_alloc | apply Kd.R_drewN | apply Kd.R_drew)); exact (Kd.R_mono (Kd.R_far (p := ⟨gb184, 12, none⟩) (Kd.R_far (p := ⟨gb184, 11, none⟩) (Kd.R_far (p := ⟨gb184, 10, none⟩) (Kd.R_far (p := ⟨gb184, 9, none⟩) (Kd.R_far (p := ⟨gb184, 8, none⟩) (Kd.R_far (p := ⟨gb184, 7, none⟩) (Kd.R_far (p := ⟨gb184, 6, none⟩) (Kd.R_far (p := ⟨gb184, 5, none⟩) (Kd.R_far (p := ⟨gb184, 4, none⟩) (Kd.R_far (p := ⟨gb184, 3, none⟩) (Kd.R_far (p := ⟨gb184, 2, none⟩) (Kd.R_far (p := ⟨gb184, 1, none⟩) (Kd.R_far (p := ⟨gb184, 0, none⟩) (Kd.R_types HO_164009.out BK184.out (by decide)) (fun _ hk => hk.2) (.int .i64 t168)) (fun _ hk => hk.2) (.int .i64 t169)) (fun _ hk => hk.2) (.int .i64 t170)) (fun _ hk => hk.2) (.int .i64 t171)) (fun _ hk => hk.2) (.string t172)) (fun _ hk => hk.2) (.int .i64 t173)) (fun _ hk => hk.2) (.int .i64 t174)) (fun _ hk => hk.2) (.bool t175)) (fun _ hk => hk.2) (.string t176)) (fun _ hk => hk.2) (.slice Ao47 t177.length co47)) (fun _ hk => hk.2) (.bool t180)) (fun _ hk => hk.2) (.int .i64 t181)) (fun _ hk => hk.2) (.int .i64 t182)) (fun _ h_ => h_.1))) hb); have n2_ := Aside0.mk (Kd.R_below (by (with_reducible repeat (first | apply Kd.R_alloc | apply Kd.R_drewN | apply Kd.R_drew)); exact (Kd.R_mono (Kd.R_far (p := ⟨gb184, 12, none⟩) (Kd.R_far (p := ⟨gb184, 11, none⟩) (Kd.R_far (p := ⟨gb184, 10, none⟩) (Kd.R_far (p := ⟨gb184, 9, none⟩) (Kd.R_far (p := ⟨gb184, 8, none⟩) (Kd.R_far (p := ⟨gb184, 7, none⟩) (Kd.R_far (p := ⟨gb184, 6, none⟩) (Kd.R_far (p := ⟨gb184, 5, none⟩) (Kd.R_far (p := ⟨gb184, 4, none⟩) (Kd.R_far (p := ⟨gb184, 3, none⟩) (Kd.R_far (p := ⟨gb184, 2, none⟩) (Kd.R_far (p := ⟨gb184, 1, none⟩) (Kd.R_far (p := ⟨gb184, 0, none⟩) (Kd.R_types HO179.out BK184.out (by decide)) (fun _ hk => hk.2) (.int .i64 t168)) (fun _ hk => hk.2) (.int .i64 t169)) (fun _ hk => hk.2) (.int .i64 t170)) (fun _ hk => hk.2) (.int .i64 t171)) (fun _ hk => hk.2) (.string t172)) (fun _ hk => hk.2) (.int .i64 t173)) (fun _ hk => hk.2) (.int .i64 t174)) (fun _ hk => hk.2) (.bool t175)) (fun _ hk => hk.2) (.string t176)) (fun _ hk => hk.2) (.slice Ao47 t177.length co47)) (fun _ hk => hk.2) (.bool t180)) (fun _ hk => hk.2) (.int .i64 t181)) (fun _ hk => hk.2) (.int .i64 t182)) (fun _ h_ => h_.1))) hb); have n3_ := Aside0.mk (blk_below (g := gb146) (o := .cells #[.int .i64 t130, .int .i64 t131, .int .i64 t132, .int .i64 t133, .string t134, .int .i64 t135, .int .i64 t136, .bool t137, .string t138, .slice Ao9 t139.length co9, .bool t142, .int .i64 t143, .int .i64 t144] 68 (0, 0)) (by (with_reducible repeat (first | refine blk_drewN ?_ _ | refine blk_drew ?_ | refine blk_alloc ?_ _)); refine blk_far ?_ NB146_184.out _; (with_reducible repeat (first | refine blk_drewN ?_ _ | refine blk_drew ?_ | refine blk_alloc ?_ _)); refine blk_far ?_ NB146_184.out _; (with_reducible repeat (first | refine blk_drewN ?_ _ | refine blk_drew ?_ | refine blk_alloc ?_ _)); refine blk_far ?_ NB146_184.out _; (with_reducible repeat (first | refine blk_drewN ?_ _ | refine blk_drew ?_ | refine blk_alloc ?_ _)); refine blk_far ?_ NB146_184.out _; (with_reducible repeat (first | refine blk_drewN ?_ _ | refine blk_drew ?_ | refine blk_alloc ?_ _)); refine blk_far ?_ NB146_184.out _; (with_reducible repeat (first | refine blk_drewN ?_ _ | refine blk_drew ?_ | refine blk_alloc ?_ _)); refine blk_far ?_ NB146_184.out _; (with_reducible repeat (first | refine blk_drewN ?_ _ | refine blk_drew ?_ | refine blk_alloc ?_ _)); refine blk_far ?_ NB146_184.out _; (with_reducible repeat (first | refine blk_drewN ?_ _ | refine blk_drew ?_ | refine blk_alloc ?_ _)); refine blk_far ?_ NB146_184.out _; (with_reducible repeat (first | refine blk_drewN ?_ _ | refine blk_drew ?_ | refine blk_alloc ?_ _)); refine blk_far ?_ NB146_184.out _; (with_reducible repeat (first | refine blk_drewN ?_ _ | refine blk_drew ?_ | refine blk_alloc ?_ _)); refine blk_far ?_ NB146_184.out _; (with_reducible repeat (first | refine blk_drewN ?_ _ | refine blk_drew ?_ | refine blk_alloc ?_ _)); refine blk_far ?_ NB146_184.out _; (with_reducible repeat (first | refine blk_drewN ?_ _ | refine blk_drew ?_ | refine blk_alloc ?_ _)); refine blk_far ?_ NB146_184.out _; (with_reducible repeat (first | refine blk_drewN ?_ _ | refine blk_drew ?_ | refine blk_alloc ?_ _)); refine blk_far ?_ NB146_184.out _; (with_reducible repeat (first | refine blk_drewN ?_ _ | refine blk_drew ?_ | refine blk_alloc ?_ _)); exact BK146.out) hb); have n4_ := Aside0.mk (blk_below (g := gb163) (o := .cells #[.int .i64 t147, .int .i64 t148, .int .i64 t149, .int .i64 t150, .string t151, .int .i64 t152, .int .i64 t153, .bool t154, .string t155, .slice Ao14 t156.length co14, .bool t159, .int .i64 t160, .int .i64 t161] 68 (0, 0)) (by (with_reducible repeat (first | refine blk_drewN ?_ _ | refine blk_drew ?_ | refine blk_alloc ?_ _)); refine blk_far ?_ NB163_184.out _; (with_reducible repeat (first | refine blk_drewN ?_ _ | refine blk_drew ?_ | refine blk_alloc ?_ _)); refine blk_far ?_ NB163_184.out _; (with_reducible repeat (first | refine blk_drewN ?_ _ | refine blk_drew ?_ | refine blk_alloc ?_ _)); refine blk_far ?_ NB163_184.out _; (with_reducible repeat (first | refine blk_drewN ?_ _ | refine blk_drew ?_ | refine blk_alloc ?_ _)); refine blk_far ?_ NB163_184.out _; (with_reducible repeat (first | refine blk_drewN ?_ _ | refine blk_drew ?_ | refine blk_alloc ?_ _)); refine blk_far ?_ NB163_184.out _; (with_reducible repeat (first | refine blk_drewN ?_ _ | refine blk_drew ?_ | refine blk_alloc ?_ _)); refine blk_far ?_ NB163_184.out _; (with_reducible repeat (first | refine blk_drewN ?_ _ | refine blk_drew ?_ | refine blk_alloc ?_ _)); refine blk_far ?_ NB163_184.out _; (with_reducible repeat (first | refine blk_drewN ?_ _ | refine blk_drew ?_ | refine blk_alloc ?_ _)); refine blk_far ?_ NB163_184.out _; (with_reducible repeat (first | refine blk_drewN ?_ _ | refine blk_drew ?_ | refine blk_alloc ?_ _)); refine blk_far ?_ NB163_184.out _; (with_reducible repeat (first | refine blk_drewN ?_ _ | refine blk_drew ?_ | refine blk_alloc ?_ _)); refine blk_far ?_ NB163_184.out _; (with_reducible repeat (first | refine blk_drewN ?_ _ | refine blk_drew ?_ | refine blk_alloc ?_ _)); refine blk_far ?_ NB163_184.out _; (with_reducible repeat (first | refine blk_drewN ?_ _ | refine blk_drew ?_ | refine blk_alloc ?_ _)); refine blk_far ?_ NB163_184.out _; (with_reducible repeat (first | refine blk_drewN ?_ _ | refine blk_drew ?_ | refine blk_alloc ?_ _)); refine blk_far ?_ NB163_184.out _; (with_reducible repeat (first | refine blk_drewN ?_ _ | refine blk_drew ?_ | refine blk_alloc ?_ _)); exact BK163.out) hb); have n5_ := Aside0.mk (blk_below (g := gb184) (o := .cells #[.int .i64 t168, .int .i64 t169, .int .i64 t170, .int .i64 t171, .string t172, .int .i64 t173, .int .i64 t174, .bool t175, .string t176, .slice Ao47 t177.length co47, .bool t180, .int .i64 t181, .int .i64 t182] 68 (0, 0)) (by (with_reducible repeat (first | refine blk_drewN ?_ _ | refine blk_drew ?_ | refine blk_alloc ?_ _)); refine blk_put (cs := #[.int .i64 t168, .int .i64 t169, .int .i64 t170, .int .i64 t171, .string t172, .int .i64 t173, .int .i64 t174, .bool t175, .string t176, .slice Ao47 t177.length co47, .bool t180, .int .i64 t181, .int .i64 0]) ?_ 12 _ rfl; (with_reducible repeat (first | refine blk_drewN ?_ _ | refine blk_drew ?_ | refine blk_alloc ?_ _)); refine blk_put (cs := #[.int .i64 t168, .int .i64 t169, .int .i64 t170, .int .i64 t171, .string t172, .int .i64 t173, .int .i64 t174, .bool t175, .string t176, .slice Ao47 t177.length co47, .bool t180, .int .i64 0, .int .i64 0]) ?_ 11 _ rfl; (with_reducible repeat (first | refine blk_drewN ?_ _ | refine blk_drew ?_ | refine blk_alloc ?_ _)); refine blk_put (cs := #[.int .i64 t168, .int .i64 t169, .int .i64 t170, .int .i64 t171, .string t172, .int .i64 t173, .int .i64 t174, .bool t175, .string t176, .slice Ao47 t177.length co47, .bool false, .int .i64 0, .int .i64 0]) ?_ 10 _ rfl; (with_reducible repeat (first | refine blk_drewN ?_ _ | refine blk_drew ?_ | refine blk_alloc ?_ _)); refine blk_put (cs := #[.int .i64 t168, .int .i64 t169, .int .i64 t170, .int .i64 t171, .string t172, .int .i64 t173, .int .i64 t174, .bool t175, .string t176, .slice none 0 0, .bool false, .int .i64 0, .int .i64 0]) ?_ 9 _ rfl; (with_reducible repeat (first | refine blk_drewN ?_ _ | refine blk_drew ?_ | refine blk_alloc ?_ _)); refine blk_put (cs := #[.int .i64 t168, .int .i64 t169, .int .i64 t170, .int .i64 t171, .string t172, .int .i64 t173, .int .i64 t174, .bool t175, .string (⟨#[]⟩ : ByteArray), .slice none 0 0, .bool false, .int .i64 0, .int .i64 0]) ?_ 8 _ rfl; (with_reducible repeat (first | refine blk_drewN ?_ _ | refine blk_drew ?_ | refine blk_alloc ?_ _)); refine blk_put (cs := #[.int .i64 t168, .int .i64 t169, .int .i64 t170, .int .i64 t171, .string t172, .int .i64 t173, .int .i64 t174, .bool false, .string (⟨#[]⟩ : ByteArray), .slice none 0 0, .bool false, .int .i64 0, .int .i64 0]) ?_ 7 _ rfl; (with_reducible repeat (first | refine blk_drewN ?_ _ | refine blk_drew ?_ | refine blk_alloc ?_ _)); refine blk_put (cs := #[.int .i64 t168, .int .i64 t169, .int .i64 t170, .int .i64 t171, .string t172, .int .i64 t173, .int .i64 0, .bool false, .string (⟨#[]⟩ : ByteArray), .slice none 0 0, .bool false, .int .i64 0, .int .i64 0]) ?_ 6 _ rfl; (with_reducible repeat (first | refine blk_drewN ?_ _ | refine blk_drew ?_ | refine blk_alloc ?_ _)); refine blk_put (cs := #[.int .i64 t168, .int .i64 t169, .int .i64 t170, .int .i64 t171, .string t172, .int .i64 0, .int .i64 0, .bool false, .string (⟨#[]⟩ : ByteArray), .slice none 0 0, .bool false, .int .i64 0, .int .i64 0]) ?_ 5 _ rfl; (with_reducible repeat (first | refine blk_drewN ?_ _ | refine blk_drew ?_ | refine blk_alloc ?_ _)); refine blk_put (cs := #[.int .i64 t168, .int .i64 t169, .int .i64 t170, .int .i64 t171, .string (⟨#[]⟩ : ByteArray), .int .i64 0, .int .i64 0, .bool false, .string (⟨#[]⟩ : ByteArray), .slice none 0 0, .bool false, .int .i64 0, .int .i64 0]) ?_ 4 _ rfl; (with_reducible repeat (first | refine blk_drewN ?_ _ | refine blk_drew ?_ | refine blk_alloc ?_ _)); refine blk_put (cs := #[.int .i64 t168, .int .i64 t169, .int .i64 t170, .int .i64 0, .string (⟨#[]⟩ : ByteArray), .int .i64 0, .int .i64 0, .bool false, .string (⟨#[]⟩ : ByteArray), .slice none 0 0, .bool false, .int .i64 0, .int .i64 0]) ?_ 3 _ rfl; (with_reducible repeat (first | refine blk_drewN ?_ _ | refine blk_drew ?_ | refine blk_alloc ?_ _)); refine blk_put (cs := #[.int .i64 t168, .int .i64 t169, .int .i64 0, .int .i64 0, .string (⟨#[]⟩ : ByteArray), .int .i64 0, .int .i64 0, .bool false, .string (⟨#[]⟩ : ByteArray), .slice none 0 0, .bool false, .int .i64 0, .int .i64 0]) ?_ 2 _ rfl; (with_reducible repeat (first | refine blk_drewN ?_ _ | refine blk_drew ?_ | refine blk_alloc ?_ _)); refine blk_put (cs := #[.int .i64 t168, .int .i64 0, .int .i64 0, .int .i64 0, .string (⟨#[]⟩ : ByteArray), .int .i64 0, .int .i64 0, .bool false, .string (⟨#[]⟩ : ByteArray), .slice none 0 0, .bool false, .int .i64 0, .int .i64 0]) ?_ 1 _ rfl; (with_reducible repeat (first | refine blk_drewN ?_ _ | refine blk_drew ?_ | refine blk_alloc ?_ _)); refine blk_put (cs := #[.int .i64 0, .int .i64 0, .int .i64 0, .int .i64 0, .string (⟨#[]⟩ : ByteArray), .int .i64 0, .int .i64 0, .bool false, .string (⟨#[]⟩ : ByteArray), .slice none 0 0, .bool false, .int .i64 0, .int .i64 0]) ?_ 0 _ rfl; (with_reducible repeat (first | refine blk_drewN ?_ _ | refine blk_drew ?_ | refine blk_alloc ?_ _)); exact BK184.out) hb); have n6_ := Aside0.mk (below_step (by repeat (first | (with_reducible first | exact HB.out | apply below_alloc | apply pw_below_drewN | apply below_drew1 | refine below_set ?_ GE146.out | refine below_set ?_ GE163.out | refine below_set ?_ GE184.out) | exact HB.out)) hb); clear HO_147009; clear HO_164009; clear HO179; clear BK146; clear BK163; clear BK184; clear HB; have HO_147009 := n0_; have HO_164009 := n1_; have HO179 := n2_; have BK146 := n3_; have BK163 := n4_; have BK184 := n5_; have HB := n6_; clear n0_ n1_ n2_ n3_ n4_ n5_ n6_; (try clear hb); (try clear hb2); (try clear hk); (try clear hi)))
                go_meet
                case rel => exact ⟨_, ((t183 != t145)), (by first | rfl | (simp; done) | (simp [*]; done)), H', ⟨by have := HJ4.out; first | omega | exact Nat.le_refl _⟩, ⟨by (with_reducible repeat (first | apply Kd.R_alloc | apply Kd.R_drewN | apply Kd.R_drew)); exact HO_147009.out⟩, ⟨by (with_reducible repeat (first | apply Kd.R_alloc | apply Kd.R_drewN | apply Kd.R_drew)); exact HO_164009.out⟩, ⟨by (with_reducible repeat (first | apply Kd.R_alloc | apply Kd.R_drewN | apply Kd.R_drew)); exact Kd.R_mono HO179.out (fun _ hk => ⟨hk.1.2, hk.2⟩)⟩, ⟨by (with_reducible repeat (first | refine blk_drewN ?_ _ | refine blk_drew ?_ | refine blk_alloc ?_ _)); exact BK146.out⟩, ⟨by (with_reducible repeat (first | refine blk_drewN ?_ _ | refine blk_drew ?_ | refine blk_alloc ?_ _)); exact BK163.out⟩, ⟨by (with_reducible repeat (first | refine blk_drewN ?_ _ | refine blk_drew ?_ | refine blk_alloc ?_ _)); exact BK184.out⟩, ⟨by repeat (first | (with_reducible first | exact HB.out | apply below_alloc | apply pw_below_drewN | apply below_drew1 | refine below_set ?_ GE146.out | refine below_set ?_ GE163.out | refine below_set ?_ GE184.out) | exact HB.out)⟩⟩
              · replace c49 := Bool.eq_false_iff.mpr c49
                subst c49
                have H1 : (laws_FnExactStreamNew.j1 kj4 t165 true t147 t148 t149 t150 t151 t152 t153 t154 t155 t166 t159 t160 t161) = some r := by rw [if_neg (show ¬ (false = true) by decide)] at H; exact H
                clear H
                have H := H1
                clear H1
                have H' := Aside0.mk H
                clear H
                have hnb56 := NB184_146.out
                have hnc56 := NB146_184.out
                have hnb57 := NB184_163.out
                have hnc57 := NB163_184.out
                have hcz58_0 : w43.cell? ⟨gb184, 0, none⟩ = some (.int .i64 0) := (blk_cell BK184.out 0).trans rfl
                have hcz58_1 : w43.cell? ⟨gb184, 1, none⟩ = some (.int .i64 0) := (blk_cell BK184.out 1).trans rfl
                have hcz58_2 : w43.cell? ⟨gb184, 2, none⟩ = some (.int .i64 0) := (blk_cell BK184.out 2).trans rfl
                have hcz58_3 : w43.cell? ⟨gb184, 3, none⟩ = some (.int .i64 0) := (blk_cell BK184.out 3).trans rfl
                have hcz58_4 : w43.cell? ⟨gb184, 4, none⟩ = some (.string (⟨#[]⟩ : ByteArray)) := (blk_cell BK184.out 4).trans rfl
                have hcz58_5 : w43.cell? ⟨gb184, 5, none⟩ = some (.int .i64 0) := (blk_cell BK184.out 5).trans rfl
                have hcz58_6 : w43.cell? ⟨gb184, 6, none⟩ = some (.int .i64 0) := (blk_cell BK184.out 6).trans rfl
                have hcz58_7 : w43.cell? ⟨gb184, 7, none⟩ = some (.bool false) := (blk_cell BK184.out 7).trans rfl
                have hcz58_8 : w43.cell? ⟨gb184, 8, none⟩ = some (.string (⟨#[]⟩ : ByteArray)) := (blk_cell BK184.out 8).trans rfl
                have hcz58_9 : w43.cell? ⟨gb184, 9, none⟩ = some (.slice none 0 0) := (blk_cell BK184.out 9).trans rfl
                have hcz58_10 : w43.cell? ⟨gb184, 10, none⟩ = some (.bool false) := (blk_cell BK184.out 10).trans rfl
                have hcz58_11 : w43.cell? ⟨gb184, 11, none⟩ = some (.int .i64 0) := (blk_cell BK184.out 11).trans rfl
                have hcz58_12 : w43.cell? ⟨gb184, 12, none⟩ = some (.int .i64 0) := (blk_cell BK184.out 12).trans rfl
                have hfz58_0 := blk_frozen BK184.out 0
                have hfz58_1 := blk_frozen BK184.out 1
                have hfz58_2 := blk_frozen BK184.out 2
                have hfz58_3 := blk_frozen BK184.out 3
                have hfz58_4 := blk_frozen BK184.out 4
                have hfz58_5 := blk_frozen BK184.out 5
                have hfz58_6 := blk_frozen BK184.out 6
                have hfz58_7 := blk_frozen BK184.out 7
                have hfz58_8 := blk_frozen BK184.out 8
                have hfz58_9 := blk_frozen BK184.out 9
                have hfz58_10 := blk_frozen BK184.out 10
                have hfz58_11 := blk_frozen BK184.out 11
                have hfz58_12 := blk_frozen BK184.out 12
                have hnb59 := NB146_163.out
                have hnc59 := NB163_146.out
                have hcz60_0 : w43.cell? ⟨gb146, 0, none⟩ = some (.int .i64 t130) := (blk_cell BK146.out 0).trans rfl
                have hcz60_1 : w43.cell? ⟨gb146, 1, none⟩ = some (.int .i64 t131) := (blk_cell BK146.out 1).trans rfl
                have hcz60_2 : w43.cell? ⟨gb146, 2, none⟩ = some (.int .i64 t132) := (blk_cell BK146.out 2).trans rfl
                have hcz60_3 : w43.cell? ⟨gb146, 3, none⟩ = some (.int .i64 t133) := (blk_cell BK146.out 3).trans rfl
                have hcz60_4 : w43.cell? ⟨gb146, 4, none⟩ = some (.string t134) := (blk_cell BK146.out 4).trans rfl
                have hcz60_5 : w43.cell? ⟨gb146, 5, none⟩ = some (.int .i64 t135) := (blk_cell BK146.out 5).trans rfl
                have hcz60_6 : w43.cell? ⟨gb146, 6, none⟩ = some (.int .i64 t136) := (blk_cell BK146.out 6).trans rfl
                have hcz60_7 : w43.cell? ⟨gb146, 7, none⟩ = some (.bool t137) := (blk_cell BK146.out 7).trans rfl
                have hcz60_8 : w43.cell? ⟨gb146, 8, none⟩ = some (.string t138) := (blk_cell BK146.out 8).trans rfl
                have hcz60_9 : w43.cell? ⟨gb146, 9, none⟩ = some (.slice Ao9 t139.length co9) := (blk_cell BK146.out 9).trans rfl
                have hcz60_10 : w43.cell? ⟨gb146, 10, none⟩ = some (.bool t142) := (blk_cell BK146.out 10).trans rfl
                have hcz60_11 : w43.cell? ⟨gb146, 11, none⟩ = some (.int .i64 t143) := (blk_cell BK146.out 11).trans rfl
                have hcz60_12 : w43.cell? ⟨gb146, 12, none⟩ = some (.int .i64 t144) := (blk_cell BK146.out 12).trans rfl
                have hfz60_0 := blk_frozen BK146.out 0
                have hfz60_1 := blk_frozen BK146.out 1
                have hfz60_2 := blk_frozen BK146.out 2
                have hfz60_3 := blk_frozen BK146.out 3
                have hfz60_4 := blk_frozen BK146.out 4
                have hfz60_5 := blk_frozen BK146.out 5
                have hfz60_6 := blk_frozen BK146.out 6
                have hfz60_7 := blk_frozen BK146.out 7
                have hfz60_8 := blk_frozen BK146.out 8
                have hfz60_9 := blk_frozen BK146.out 9
                have hfz60_10 := blk_frozen BK146.out 10
                have hfz60_11 := blk_frozen BK146.out 11
                have hfz60_12 := blk_frozen BK146.out 12
                go_wp2_with (first | ((with_reducible refine gate_callee (f := 44) rfl ?_); refine goesL_ (some 53) rfl rfl Try.func44 (by kernel_rfl) rfl #[.agg #[.int .i64 t168, .int .i64 t169, .int .i64 t170, .int .i64 t171, .string t172, .int .i64 t173, .int .i64 t174, .bool t175, .string t176, .slice Ao47 t177.length co47, .bool t180, .int .i64 t181, .int .i64 t182], .agg #[.int .i64 t130, .int .i64 t131, .int .i64 t132, .int .i64 t133, .string t134, .int .i64 t135, .int .i64 t136, .bool t137, .string t138, .slice Ao9 t139.length co9, .bool t142, .int .i64 t143, .int .i64 t144]] rfl (by (try simp only [List.map_toArray, List.map_cons, List.map_nil]); first | done | rfl | (simp only [List.length_drop, List.length_take]; rfl)) ?_; (with_reducible refine (laws_eqStream.calls kj4 t168 t169 t170 t171 t172 t173 t174 t175 t176 _ _ t177 t180 t181 t182 t130 t131 t132 t133 t134 t135 t136 t137 t138 _ _ t139 t142 t143 t144 false _ ?side1 ?side2 ?side3 ?side4 A48.out).mono ?_); (case side1 => refine (Kd.R_reads' (e := 154) (base := w.heap.size) (ok := fun k_ => ((True ∧ some k_ ≠ (.slice Ao9 t139.length co9 : Value).ownBlock) ∧ some k_ ≠ (.slice Ao14 t156.length co14 : Value).ownBlock)) (n := t177.length) (c := co47) ?_).2.2; exact (by (with_reducible repeat (first | apply Kd.R_alloc | apply Kd.R_drewN | apply Kd.R_drew)); exact (Kd.R_mono (Kd.R_far (p := ⟨gb184, 12, none⟩) (Kd.R_far (p := ⟨gb184, 11, none⟩) (Kd.R_far (p := ⟨gb184, 10, none⟩) (Kd.R_far (p := ⟨gb184, 9, none⟩) (Kd.R_far (p := ⟨gb184, 8, none⟩) (Kd.R_far (p := ⟨gb184, 7, none⟩) (Kd.R_far (p := ⟨gb184, 6, none⟩) (Kd.R_far (p := ⟨gb184, 5, none⟩) (Kd.R_far (p := ⟨gb184, 4, none⟩) (Kd.R_far (p := ⟨gb184, 3, none⟩) (Kd.R_far (p := ⟨gb184, 2, none⟩) (Kd.R_far (p := ⟨gb184, 1, none⟩) (Kd.R_far (p := ⟨gb184, 0, none⟩) (Kd.R_types HO179.out BK184.out (by decide)) (fun _ hk => hk.2) (.int .i64 t168)) (fun _ hk => hk.2) (.int .i64 t169)) (fun _ hk => hk.2) (.int .i64 t170)) (fun _ hk => hk.2) (.int .i64 t171)) (fun _ hk => hk.2) (.string t172)) (fun _ hk => hk.2) (.int .i64 t173)) (fun _ hk => hk.2) (.int .i64 t174)) (fun _ hk => hk.2) (.bool t175)) (fun _ hk => hk.2) (.string t176)) (fun _ hk => hk.2) (.slice Ao47 t177.length co47)) (fun _ hk => hk.2) (.bool t180)) (fun _ hk => hk.2) (.int .i64 t181)) (fun _ hk => hk.2) (.int .i64 t182)) (fun _ h_ => h_.1)))); (case side2 => exact (Kd.R_reads' HO179.out).2.1); (case side3 => refine (Kd.R_reads' (e := 154) (base := w.heap.size) (ok := fun k_ => (some k_ ≠ (.slice Ao14 t156.length co14 : Value).ownBlock ∧ some k_ ≠ (.slice Ao47 t177.length co47 : Value).ownBlock)) (n := t139.length) (c := co9) ?_).2.2; exact (by (with_reducible repeat (first | apply Kd.R_alloc | apply Kd.R_drewN | apply Kd.R_drew)); exact (Kd.R_mono (Kd.R_far (p := ⟨gb184, 12, none⟩) (Kd.R_far (p := ⟨gb184, 11, none⟩) (Kd.R_far (p := ⟨gb184, 10, none⟩) (Kd.R_far (p := ⟨gb184, 9, none⟩) (Kd.R_far (p := ⟨gb184, 8, none⟩) (Kd.R_far (p := ⟨gb184, 7, none⟩) (Kd.R_far (p := ⟨gb184, 6, none⟩) (Kd.R_far (p := ⟨gb184, 5, none⟩) (Kd.R_far (p := ⟨gb184, 4, none⟩) (Kd.R_far (p := ⟨gb184, 3, none⟩) (Kd.R_far (p := ⟨gb184, 2, none⟩) (Kd.R_far (p := ⟨gb184, 1, none⟩) (Kd.R_far (p := ⟨gb184, 0, none⟩) (Kd.R_types HO_147009.out BK184.out (by decide)) (fun _ hk => hk.2) (.int .i64 t168)) (fun _ hk => hk.2) (.int .i64 t169)) (fun _ hk => hk.2) (.int .i64 t170)) (fun _ hk => hk.2) (.int .i64 t171)) (fun _ hk => hk.2) (.string t172)) (fun _ hk => hk.2) (.int .i64 t173)) (fun _ hk => hk.2) (.int .i64 t174)) (fun _ hk => hk.2) (.bool t175)) (fun _ hk => hk.2) (.string t176)) (fun _ hk => hk.2) (.slice Ao47 t177.length co47)) (fun _ hk => hk.2) (.bool t180)) (fun _ hk => hk.2) (.int .i64 t181)) (fun _ hk => hk.2) (.int .i64 t182)) (fun _ h_ => h_.1)))); (case side4 => exact (Kd.R_reads' HO_147009.out).2.1); rintro e w61 ⟨rfl, hb⟩; refine ⟨_, rfl, ?_⟩; have n0_ := Aside0.mk (Kd.R_below (by (with_reducible repeat (first | apply Kd.R_alloc | apply Kd.R_drewN | apply Kd.R_drew)); exact (Kd.R_mono (Kd.R_far (p := ⟨gb184, 12, none⟩) (Kd.R_far (p := ⟨gb184, 11, none⟩) (Kd.R_far (p := ⟨gb184, 10, none⟩) (Kd.R_far (p := ⟨gb184, 9, none⟩) (Kd.R_far (p := ⟨gb184, 8, none⟩) (Kd.R_far (p := ⟨gb184, 7, none⟩) (Kd.R_far (p := ⟨gb184, 6, none⟩) (Kd.R_far (p := ⟨gb184, 5, none⟩) (Kd.R_far (p := ⟨gb184, 4, none⟩) (Kd.R_far (p := ⟨gb184, 3, none⟩) (Kd.R_far (p := ⟨gb184, 2, none⟩) (Kd.R_far (p := ⟨gb184, 1, none⟩) (Kd.R_far (p := ⟨gb184, 0, none⟩) (Kd.R_types HO_147009.out BK184.out (by decide)) (fun _ hk => hk.2) (.int .i64 t168)) (fun _ hk => hk.2) (.int .i64 t169)) (fun _ hk => hk.2) (.int .i64 t170)) (fun _ hk => hk.2) (.int .i64 t171)) (fun _ hk => hk.2) (.string t172)) (fun _ hk => hk.2) (.int .i64 t173)) (fun _ hk => hk.2) (.int .i64 t174)) (fun _ hk => hk.2) (.bool t175)) (fun _ hk => hk.2) (.string t176)) (fun _ hk => hk.2) (.slice Ao47 t177.length co47)) (fun _ hk => hk.2) (.bool t180)) (fun _ hk => hk.2) (.int .i64 t181)) (fun _ hk => hk.2) (.int .i64 t182)) (fun _ h_ => h_.1))) hb); have n1_ := Aside0.mk (Kd.R_below (by (with_reducible repeat (first | apply Kd.R_alloc | apply Kd.R_drewN | apply Kd.R_drew)); exact (Kd.R_mono (Kd.R_far (p := ⟨gb184, 12, none⟩) (Kd.R_far (p := ⟨gb184, 11, none⟩) (Kd.R_far (p := ⟨gb184, 10, none⟩) (Kd.R_far (p := ⟨gb184, 9, none⟩) (Kd.R_far (p := ⟨gb184, 8, none⟩) (Kd.R_far (p := ⟨gb184, 7, none⟩) (Kd.R_far (p := ⟨gb184, 6, none⟩) (Kd.R_far (p := ⟨gb184, 5, none⟩) (Kd.R_far (p := ⟨gb184, 4, none⟩) (Kd.R_far (p := ⟨gb184, 3, none⟩) (Kd.R_far (p := ⟨gb184, 2, none⟩) (Kd.R_far (p := ⟨gb184, 1, none⟩) (Kd.R_far (p := ⟨gb184, 0, none⟩) (Kd.R_types HO_164009.out BK184.out (by decide)) (fun _ hk => hk.2) (.int .i64 t168)) (fun _ hk => hk.2) (.int .i64 t169)) (fun _ hk => hk.2) (.int .i64 t170)) (fun _ hk => hk.2) (.int .i64 t171)) (fun _ hk => hk.2) (.string t172)) (fun _ hk => hk.2) (.int .i64 t173)) (fun _ hk => hk.2) (.int .i64 t174)) (fun _ hk => hk.2) (.bool t175)) (fun _ hk => hk.2) (.string t176)) (fun _ hk => hk.2) (.slice Ao47 t177.length co47)) (fun _ hk => hk.2) (.bool t180)) (fun _ hk => hk.2) (.int .i64 t181)) (fun _ hk => hk.2) (.int .i64 t182)) (fun _ h_ => h_.1))) hb); have n2_ := Aside0.mk (Kd.R_below (by (with_reducible repeat (first | apply Kd.R_alloc | apply Kd.R_drewN | apply Kd.R_drew)); exact (Kd.R_mono (Kd.R_far (p := ⟨gb184, 12, none⟩) (Kd.R_far (p := ⟨gb184, 11, none⟩) (Kd.R_far (p := ⟨gb184, 10, none⟩) (Kd.R_far (p := ⟨gb184, 9, none⟩) (Kd.R_far (p := ⟨gb184, 8, none⟩) (Kd.R_far (p := ⟨gb184, 7, none⟩) (Kd.R_far (p := ⟨gb184, 6, none⟩) (Kd.R_far (p := ⟨gb184, 5, none⟩) (Kd.R_far (p := ⟨gb184, 4, none⟩) (Kd.R_far (p := ⟨gb184, 3, none⟩) (Kd.R_far (p := ⟨gb184, 2, none⟩) (Kd.R_far (p := ⟨gb184, 1, none⟩) (Kd.R_far (p := ⟨gb184, 0, none⟩) (Kd.R_types HO179.out BK184.out (by decide)) (fun _ hk => hk.2) (.int .i64 t168)) (fun _ hk => hk.2) (.int .i64 t169)) (fun _ hk => hk.2) (.int .i64 t170)) (fun _ hk => hk.2) (.int .i64 t171)) (fun _ hk => hk.2) (.string t172)) (fun _ hk => hk.2) (.int .i64 t173)) (fun _ hk => hk.2) (.int .i64 t174)) (fun _ hk => hk.2) (.bool t175)) (fun _ hk => hk.2) (.string t176)) (fun _ hk => hk.2) (.slice Ao47 t177.length co47)) (fun _ hk => hk.2) (.bool t180)) (fun _ hk => hk.2) (.int .i64 t181)) (fun _ hk => hk.2) (.int .i64 t182)) (fun _ h_ => h_.1))) hb); have n3_ := Aside0.mk (blk_below (g := gb146) (o := .cells #[.int .i64 t130, .int .i64 t131, .int .i64 t132, .int .i64 t133, .string t134, .int .i64 t135, .int .i64 t136, .bool t137, .string t138, .slice Ao9 t139.length co9, .bool t142, .int .i64 t143, .int .i64 t144] 68 (0, 0)) (by (with_reducible repeat (first | refine blk_drewN ?_ _ | refine blk_drew ?_ | refine blk_alloc ?_ _)); refine blk_far ?_ NB146_184.out _; (with_reducible repeat (first | refine blk_drewN ?_ _ | refine blk_drew ?_ | refine blk_alloc ?_ _)); refine blk_far ?_ NB146_184.out _; (with_reducible repeat (first | refine blk_drewN ?_ _ | refine blk_drew ?_ | refine blk_alloc ?_ _)); refine blk_far ?_ NB146_184.out _; (with_reducible repeat (first | refine blk_drewN ?_ _ | refine blk_drew ?_ | refine blk_alloc ?_ _)); refine blk_far ?_ NB146_184.out _; (with_reducible repeat (first | refine blk_drewN ?_ _ | refine blk_drew ?_ | refine blk_alloc ?_ _)); refine blk_far ?_ NB146_184.out _; (with_reducible repeat (first | refine blk_drewN ?_ _ | refine blk_drew ?_ | refine blk_alloc ?_ _)); refine blk_far ?_ NB146_184.out _; (with_reducible repeat (first | refine blk_drewN ?_ _ | refine blk_drew ?_ | refine blk_alloc ?_ _)); refine blk_far ?_ NB146_184.out _; (with_reducible repeat (first | refine blk_drewN ?_ _ | refine blk_drew ?_ | refine blk_alloc ?_ _)); refine blk_far ?_ NB146_184.out _; (with_reducible repeat (first | refine blk_drewN ?_ _ | refine blk_drew ?_ | refine blk_alloc ?_ _)); refine blk_far ?_ NB146_184.out _; (with_reducible repeat (first | refine blk_drewN ?_ _ | refine blk_drew ?_ | refine blk_alloc ?_ _)); refine blk_far ?_ NB146_184.out _; (with_reducible repeat (first | refine blk_drewN ?_ _ | refine blk_drew ?_ | refine blk_alloc ?_ _)); refine blk_far ?_ NB146_184.out _; (with_reducible repeat (first | refine blk_drewN ?_ _ | refine blk_drew ?_ | refine blk_alloc ?_ _)); refine blk_far ?_ NB146_184.out _; (with_reducible repeat (first | refine blk_drewN ?_ _ | refine blk_drew ?_ | refine blk_alloc ?_ _)); refine blk_far ?_ NB146_184.out _; (with_reducible repeat (first | refine blk_drewN ?_ _ | refine blk_drew ?_ | refine blk_alloc ?_ _)); exact BK146.out) hb); have n4_ := Aside0.mk (blk_below (g := gb163) (o := .cells #[.int .i64 t147, .int .i64 t148, .int .i64 t149, .int .i64 t150, .string t151, .int .i64 t152, .int .i64 t153, .bool t154, .string t155, .slice Ao14 t156.length co14, .bool t159, .int .i64 t160, .int .i64 t161] 68 (0, 0)) (by (with_reducible repeat (first | refine blk_drewN ?_ _ | refine blk_drew ?_ | refine blk_alloc ?_ _)); refine blk_far ?_ NB163_184.out _; (with_reducible repeat (first | refine blk_drewN ?_ _ | refine blk_drew ?_ | refine blk_alloc ?_ _)); refine blk_far ?_ NB163_184.out _; (with_reducible repeat (first | refine blk_drewN ?_ _ | refine blk_drew ?_ | refine blk_alloc ?_ _)); refine blk_far ?_ NB163_184.out _; (with_reducible repeat (first | refine blk_drewN ?_ _ | refine blk_drew ?_ | refine blk_alloc ?_ _)); refine blk_far ?_ NB163_184.out _; (with_reducible repeat (first | refine blk_drewN ?_ _ | refine blk_drew ?_ | refine blk_alloc ?_ _)); refine blk_far ?_ NB163_184.out _; (with_reducible repeat (first | refine blk_drewN ?_ _ | refine blk_drew ?_ | refine blk_alloc ?_ _)); refine blk_far ?_ NB163_184.out _; (with_reducible repeat (first | refine blk_drewN ?_ _ | refine blk_drew ?_ | refine blk_alloc ?_ _)); refine blk_far ?_ NB163_184.out _; (with_reducible repeat (first | refine blk_drewN ?_ _ | refine blk_drew ?_ | refine blk_alloc ?_ _)); refine blk_far ?_ NB163_184.out _; (with_reducible repeat (first | refine blk_drewN ?_ _ | refine blk_drew ?_ | refine blk_alloc ?_ _)); refine blk_far ?_ NB163_184.out _; (with_reducible repeat (first | refine blk_drewN ?_ _ | refine blk_drew ?_ | refine blk_alloc ?_ _)); refine blk_far ?_ NB163_184.out _; (with_reducible repeat (first | refine blk_drewN ?_ _ | refine blk_drew ?_ | refine blk_alloc ?_ _)); refine blk_far ?_ NB163_184.out _; (with_reducible repeat (first | refine blk_drewN ?_ _ | refine blk_drew ?_ | refine blk_alloc ?_ _)); refine blk_far ?_ NB163_184.out _; (with_reducible repeat (first | refine blk_drewN ?_ _ | refine blk_drew ?_ | refine blk_alloc ?_ _)); refine blk_far ?_ NB163_184.out _; (with_reducible repeat (first | refine blk_drewN ?_ _ | refine blk_drew ?_ | refine blk_alloc ?_ _)); exact BK163.out) hb); have n5_ := Aside0.mk (blk_below (g := gb184) (o := .cells #[.int .i64 t168, .int .i64 t169, .int .i64 t170, .int .i64 t171, .string t172, .int .i64 t173, .int .i64 t174, .bool t175, .string t176, .slice Ao47 t177.length co47, .bool t180, .int .i64 t181, .int .i64 t182] 68 (0, 0)) (by (with_reducible repeat (first | refine blk_drewN ?_ _ | refine blk_drew ?_ | refine blk_alloc ?_ _)); refine blk_put (cs := #[.int .i64 t168, .int .i64 t169, .int .i64 t170, .int .i64 t171, .string t172, .int .i64 t173, .int .i64 t174, .bool t175, .string t176, .slice Ao47 t177.length co47, .bool t180, .int .i64 t181, .int .i64 0]) ?_ 12 _ rfl; (with_reducible repeat (first | refine blk_drewN ?_ _ | refine blk_drew ?_ | refine blk_alloc ?_ _)); refine blk_put (cs := #[.int .i64 t168, .int .i64 t169, .int .i64 t170, .int .i64 t171, .string t172, .int .i64 t173, .int .i64 t174, .bool t175, .string t176, .slice Ao47 t177.length co47, .bool t180, .int .i64 0, .int .i64 0]) ?_ 11 _ rfl; (with_reducible repeat (first | refine blk_drewN ?_ _ | refine blk_drew ?_ | refine blk_alloc ?_ _)); refine blk_put (cs := #[.int .i64 t168, .int .i64 t169, .int .i64 t170, .int .i64 t171, .string t172, .int .i64 t173, .int .i64 t174, .bool t175, .string t176, .slice Ao47 t177.length co47, .bool false, .int .i64 0, .int .i64 0]) ?_ 10 _ rfl; (with_reducible repeat (first | refine blk_drewN ?_ _ | refine blk_drew ?_ | refine blk_alloc ?_ _)); refine blk_put (cs := #[.int .i64 t168, .int .i64 t169, .int .i64 t170, .int .i64 t171, .string t172, .int .i64 t173, .int .i64 t174, .bool t175, .string t176, .slice none 0 0, .bool false, .int .i64 0, .int .i64 0]) ?_ 9 _ rfl; (with_reducible repeat (first | refine blk_drewN ?_ _ | refine blk_drew ?_ | refine blk_alloc ?_ _)); refine blk_put (cs := #[.int .i64 t168, .int .i64 t169, .int .i64 t170, .int .i64 t171, .string t172, .int .i64 t173, .int .i64 t174, .bool t175, .string (⟨#[]⟩ : ByteArray), .slice none 0 0, .bool false, .int .i64 0, .int .i64 0]) ?_ 8 _ rfl; (with_reducible repeat (first | refine blk_drewN ?_ _ | refine blk_drew ?_ | refine blk_alloc ?_ _)); refine blk_put (cs := #[.int .i64 t168, .int .i64 t169, .int .i64 t170, .int .i64 t171, .string t172, .int .i64 t173, .int .i64 t174, .bool false, .string (⟨#[]⟩ : ByteArray), .slice none 0 0, .bool false, .int .i64 0, .int .i64 0]) ?_ 7 _ rfl; (with_reducible repeat (first | refine blk_drewN ?_ _ | refine blk_drew ?_ | refine blk_alloc ?_ _)); refine blk_put (cs := #[.int .i64 t168, .int .i64 t169, .int .i64 t170, .int .i64 t171, .string t172, .int .i64 t173, .int .i64 0, .bool false, .string (⟨#[]⟩ : ByteArray), .slice none 0 0, .bool false, .int .i64 0, .int .i64 0]) ?_ 6 _ rfl; (with_reducible repeat (first | refine blk_drewN ?_ _ | refine blk_drew ?_ | refine blk_alloc ?_ _)); refine blk_put (cs := #[.int .i64 t168, .int .i64 t169, .int .i64 t170, .int .i64 t171, .string t172, .int .i64 0, .int .i64 0, .bool false, .string (⟨#[]⟩ : ByteArray), .slice none 0 0, .bool false, .int .i64 0, .int .i64 0]) ?_ 5 _ rfl; (with_reducible repeat (first | refine blk_drewN ?_ _ | refine blk_drew ?_ | refine blk_alloc ?_ _)); refine blk_put (cs := #[.int .i64 t168, .int .i64 t169, .int .i64 t170, .int .i64 t171, .string (⟨#[]⟩ : ByteArray), .int .i64 0, .int .i64 0, .bool false, .string (⟨#[]⟩ : ByteArray), .slice none 0 0, .bool false, .int .i64 0, .int .i64 0]) ?_ 4 _ rfl; (with_reducible repeat (first | refine blk_drewN ?_ _ | refine blk_drew ?_ | refine blk_alloc ?_ _)); refine blk_put (cs := #[.int .i64 t168, .int .i64 t169, .int .i64 t170, .int .i64 0, .string (⟨#[]⟩ : ByteArray), .int .i64 0, .int .i64 0, .bool false, .string (⟨#[]⟩ : ByteArray), .slice none 0 0, .bool false, .int .i64 0, .int .i64 0]) ?_ 3 _ rfl; (with_reducible repeat (first | refine blk_drewN ?_ _ | refine blk_drew ?_ | refine blk_alloc ?_ _)); refine blk_put (cs := #[.int .i64 t168, .int .i64 t169, .int .i64 0, .int .i64 0, .string (⟨#[]⟩ : ByteArray), .int .i64 0, .int .i64 0, .bool false, .string (⟨#[]⟩ : ByteArray), .slice none 0 0, .bool false, .int .i64 0, .int .i64 0]) ?_ 2 _ rfl; (with_reducible repeat (first | refine blk_drewN ?_ _ | refine blk_drew ?_ | refine blk_alloc ?_ _)); refine blk_put (cs := #[.int .i64 t168, .int .i64 0, .int .i64 0, .int .i64 0, .string (⟨#[]⟩ : ByteArray), .int .i64 0, .int .i64 0, .bool false, .string (⟨#[]⟩ : ByteArray), .slice none 0 0, .bool false, .int .i64 0, .int .i64 0]) ?_ 1 _ rfl; (with_reducible repeat (first | refine blk_drewN ?_ _ | refine blk_drew ?_ | refine blk_alloc ?_ _)); refine blk_put (cs := #[.int .i64 0, .int .i64 0, .int .i64 0, .int .i64 0, .string (⟨#[]⟩ : ByteArray), .int .i64 0, .int .i64 0, .bool false, .string (⟨#[]⟩ : ByteArray), .slice none 0 0, .bool false, .int .i64 0, .int .i64 0]) ?_ 0 _ rfl; (with_reducible repeat (first | refine blk_drewN ?_ _ | refine blk_drew ?_ | refine blk_alloc ?_ _)); exact BK184.out) hb); have n6_ := Aside0.mk (below_step (by repeat (first | (with_reducible first | exact HB.out | apply below_alloc | apply pw_below_drewN | apply below_drew1 | refine below_set ?_ GE146.out | refine below_set ?_ GE163.out | refine below_set ?_ GE184.out) | exact HB.out)) hb); clear HO_147009; clear HO_164009; clear HO179; clear BK146; clear BK163; clear BK184; clear HB; have HO_147009 := n0_; have HO_164009 := n1_; have HO179 := n2_; have BK146 := n3_; have BK163 := n4_; have BK184 := n5_; have HB := n6_; clear n0_ n1_ n2_ n3_ n4_ n5_ n6_; (try clear hb); (try clear hb2); (try clear hk); (try clear hi)))
                go_meet
                case rel => exact ⟨_, (true), (by first | rfl | (simp; done) | (simp [*]; done)), H', ⟨by have := HJ4.out; first | omega | exact Nat.le_refl _⟩, ⟨by (with_reducible repeat (first | apply Kd.R_alloc | apply Kd.R_drewN | apply Kd.R_drew)); exact HO_147009.out⟩, ⟨by (with_reducible repeat (first | apply Kd.R_alloc | apply Kd.R_drewN | apply Kd.R_drew)); exact HO_164009.out⟩, ⟨by (with_reducible repeat (first | apply Kd.R_alloc | apply Kd.R_drewN | apply Kd.R_drew)); exact Kd.R_mono HO179.out (fun _ hk => ⟨hk.1.2, hk.2⟩)⟩, ⟨by (with_reducible repeat (first | refine blk_drewN ?_ _ | refine blk_drew ?_ | refine blk_alloc ?_ _)); exact BK146.out⟩, ⟨by (with_reducible repeat (first | refine blk_drewN ?_ _ | refine blk_drew ?_ | refine blk_alloc ?_ _)); exact BK163.out⟩, ⟨by (with_reducible repeat (first | refine blk_drewN ?_ _ | refine blk_drew ?_ | refine blk_alloc ?_ _)); exact BK184.out⟩, ⟨by repeat (first | (with_reducible first | exact HB.out | apply below_alloc | apply pw_below_drewN | apply below_drew1 | refine below_set ?_ GE146.out | refine below_set ?_ GE163.out | refine below_set ?_ GE184.out) | exact HB.out)⟩⟩
            case rest =>
              clear HC36
              try clear c1
              try clear c2
              try clear p2
              try clear c3
              try clear c4
              try clear c5
              try clear c10
              try clear c12
              try clear c16
              try clear c17
              try clear c21
              try clear c25
              try clear c28
              try clear c28b0
              try clear c29
              try clear c34
              try clear c34b0
              try clear c34b1
              try clear c37
              try clear c44
              try clear c45
              try clear c46
              try clear c47
              try clear c48
              try clear c49
              try clear c50
              try clear c51
              try clear c53
              try clear c56
              try clear c57
              try clear c59
              try clear hcz13_0
              try clear hcz13_1
              try clear hcz13_10
              try clear hcz13_11
              try clear hcz13_12
              try clear hcz13_2
              try clear hcz13_3
              try clear hcz13_4
              try clear hcz13_5
              try clear hcz13_6
              try clear hcz13_7
              try clear hcz13_8
              try clear hcz13_9
              try clear hcz18_0
              try clear hcz18_1
              try clear hcz18_10
              try clear hcz18_11
              try clear hcz18_12
              try clear hcz18_2
              try clear hcz18_3
              try clear hcz18_4
              try clear hcz18_5
              try clear hcz18_6
              try clear hcz18_7
              try clear hcz18_8
              try clear hcz18_9
              try clear hcz19_0
              try clear hcz19_1
              try clear hcz19_10
              try clear hcz19_11
              try clear hcz19_12
              try clear hcz19_2
              try clear hcz19_3
              try clear hcz19_4
              try clear hcz19_5
              try clear hcz19_6
              try clear hcz19_7
              try clear hcz19_8
              try clear hcz19_9
              try clear hcz22_0
              try clear hcz22_1
              try clear hcz22_10
              try clear hcz22_11
              try clear hcz22_12
              try clear hcz22_2
              try clear hcz22_3
              try clear hcz22_4
              try clear hcz22_5
              try clear hcz22_6
              try clear hcz22_7
              try clear hcz22_8
              try clear hcz22_9
              try clear hcz23_0
              try clear hcz23_1
              try clear hcz23_10
              try clear hcz23_11
              try clear hcz23_12
              try clear hcz23_2
              try clear hcz23_3
              try clear hcz23_4
              try clear hcz23_5
              try clear hcz23_6
              try clear hcz23_7
              try clear hcz23_8
              try clear hcz23_9
              try clear hcz30_0
              try clear hcz30_1
              try clear hcz30_10
              try clear hcz30_11
              try clear hcz30_12
              try clear hcz30_2
              try clear hcz30_3
              try clear hcz30_4
              try clear hcz30_5
              try clear hcz30_6
              try clear hcz30_7
              try clear hcz30_8
              try clear hcz30_9
              try clear hcz32_0
              try clear hcz32_1
              try clear hcz32_10
              try clear hcz32_11
              try clear hcz32_12
              try clear hcz32_2
              try clear hcz32_3
              try clear hcz32_4
              try clear hcz32_5
              try clear hcz32_6
              try clear hcz32_7
              try clear hcz32_8
              try clear hcz32_9
              try clear hcz38_0
              try clear hcz38_1
              try clear hcz38_10
              try clear hcz38_11
              try clear hcz38_12
              try clear hcz38_2
              try clear hcz38_3
              try clear hcz38_4
              try clear hcz38_5
              try clear hcz38_6
              try clear hcz38_7
              try clear hcz38_8
              try clear hcz38_9
              try clear hcz40_0
              try clear hcz40_1
              try clear hcz40_10
              try clear hcz40_11
              try clear hcz40_12
              try clear hcz40_2
              try clear hcz40_3
              try clear hcz40_4
              try clear hcz40_5
              try clear hcz40_6
              try clear hcz40_7
              try clear hcz40_8
              try clear hcz40_9
              try clear hcz46_0
              try clear hcz46_1
              try clear hcz46_10
              try clear hcz46_11
              try clear hcz46_12
              try clear hcz46_2
              try clear hcz46_3
              try clear hcz46_4
              try clear hcz46_5
              try clear hcz46_6
              try clear hcz46_7
              try clear hcz46_8
              try clear hcz46_9
              try clear hcz52_0
              try clear hcz52_1
              try clear hcz52_10
              try clear hcz52_11
              try clear hcz52_12
              try clear hcz52_2
              try clear hcz52_3
              try clear hcz52_4
              try clear hcz52_5
              try clear hcz52_6
              try clear hcz52_7
              try clear hcz52_8
              try clear hcz52_9
              try clear hcz54_0
              try clear hcz54_1
              try clear hcz54_10
              try clear hcz54_11
              try clear hcz54_12
              try clear hcz54_2
              try clear hcz54_3
              try clear hcz54_4
              try clear hcz54_5
              try clear hcz54_6
              try clear hcz54_7
              try clear hcz54_8
              try clear hcz54_9
              try clear hcz58_0
              try clear hcz58_1
              try clear hcz58_10
              try clear hcz58_11
              try clear hcz58_12
              try clear hcz58_2
              try clear hcz58_3
              try clear hcz58_4
              try clear hcz58_5
              try clear hcz58_6
              try clear hcz58_7
              try clear hcz58_8
              try clear hcz58_9
              try clear hcz60_0
              try clear hcz60_1
              try clear hcz60_10
              try clear hcz60_11
              try clear hcz60_12
              try clear hcz60_2
              try clear hcz60_3
              try clear hcz60_4
              try clear hcz60_5
              try clear hcz60_6
              try clear hcz60_7
              try clear hcz60_8
              try clear hcz60_9
              try clear hcz8_0
              try clear hcz8_1
              try clear hcz8_10
              try clear hcz8_11
              try clear hcz8_12
              try clear hcz8_2
              try clear hcz8_3
              try clear hcz8_4
              try clear hcz8_5
              try clear hcz8_6
              try clear hcz8_7
              try clear hcz8_8
              try clear hcz8_9
              try clear hfz13_0
              try clear hfz13_1
              try clear hfz13_10
              try clear hfz13_11
              try clear hfz13_12
              try clear hfz13_2
              try clear hfz13_3
              try clear hfz13_4
              try clear hfz13_5
              try clear hfz13_6
              try clear hfz13_7
              try clear hfz13_8
              try clear hfz13_9
              try clear hfz18_0
              try clear hfz18_1
              try clear hfz18_10
              try clear hfz18_11
              try clear hfz18_12
              try clear hfz18_2
              try clear hfz18_3
              try clear hfz18_4
              try clear hfz18_5
              try clear hfz18_6
              try clear hfz18_7
              try clear hfz18_8
              try clear hfz18_9
              try clear hfz19_0
              try clear hfz19_1
              try clear hfz19_10
              try clear hfz19_11
              try clear hfz19_12
              try clear hfz19_2
              try clear hfz19_3
              try clear hfz19_4
              try clear hfz19_5
              try clear hfz19_6
              try clear hfz19_7
              try clear hfz19_8
              try clear hfz19_9
              try clear hfz22_0
              try clear hfz22_1
              try clear hfz22_10
              try clear hfz22_11
              try clear hfz22_12
              try clear hfz22_2
              try clear hfz22_3
              try clear hfz22_4
              try clear hfz22_5
              try clear hfz22_6
              try clear hfz22_7
              try clear hfz22_8
              try clear hfz22_9
              try clear hfz23_0
              try clear hfz23_1
              try clear hfz23_10
              try clear hfz23_11
              try clear hfz23_12
              try clear hfz23_2
              try clear hfz23_3
              try clear hfz23_4
              try clear hfz23_5
              try clear hfz23_6
              try clear hfz23_7
              try clear hfz23_8
              try clear hfz23_9
              try clear hfz30_0
              try clear hfz30_1
              try clear hfz30_10
              try clear hfz30_11
              try clear hfz30_12
              try clear hfz30_2
              try clear hfz30_3
              try clear hfz30_4
              try clear hfz30_5
              try clear hfz30_6
              try clear hfz30_7
              try clear hfz30_8
              try clear hfz30_9
              try clear hfz32_0
              try clear hfz32_1
              try clear hfz32_10
              try clear hfz32_11
              try clear hfz32_12
              try clear hfz32_2
              try clear hfz32_3
              try clear hfz32_4
              try clear hfz32_5
              try clear hfz32_6
              try clear hfz32_7
              try clear hfz32_8
              try clear hfz32_9
              try clear hfz38_0
              try clear hfz38_1
              try clear hfz38_10
              try clear hfz38_11
              try clear hfz38_12
              try clear hfz38_2
              try clear hfz38_3
              try clear hfz38_4
              try clear hfz38_5
              try clear hfz38_6
              try clear hfz38_7
              try clear hfz38_8
              try clear hfz38_9
              try clear hfz40_0
              try clear hfz40_1
              try clear hfz40_10
              try clear hfz40_11
              try clear hfz40_12
              try clear hfz40_2
              try clear hfz40_3
              try clear hfz40_4
              try clear hfz40_5
              try clear hfz40_6
              try clear hfz40_7
              try clear hfz40_8
              try clear hfz40_9
              try clear hfz46_0
              try clear hfz46_1
              try clear hfz46_10
              try clear hfz46_11
              try clear hfz46_12
              try clear hfz46_2
              try clear hfz46_3
              try clear hfz46_4
              try clear hfz46_5
              try clear hfz46_6
              try clear hfz46_7
              try clear hfz46_8
              try clear hfz46_9
              try clear hfz52_0
              try clear hfz52_1
              try clear hfz52_10
              try clear hfz52_11
              try clear hfz52_12
              try clear hfz52_2
              try clear hfz52_3
              try clear hfz52_4
              try clear hfz52_5
              try clear hfz52_6
              try clear hfz52_7
              try clear hfz52_8
              try clear hfz52_9
              try clear hfz54_0
              try clear hfz54_1
              try clear hfz54_10
              try clear hfz54_11
              try clear hfz54_12
              try clear hfz54_2
              try clear hfz54_3
              try clear hfz54_4
              try clear hfz54_5
              try clear hfz54_6
              try clear hfz54_7
              try clear hfz54_8
              try clear hfz54_9
              try clear hfz58_0
              try clear hfz58_1
              try clear hfz58_10
              try clear hfz58_11
              try clear hfz58_12
              try clear hfz58_2
              try clear hfz58_3
              try clear hfz58_4
              try clear hfz58_5
              try clear hfz58_6
              try clear hfz58_7
              try clear hfz58_8
              try clear hfz58_9
              try clear hfz60_0
              try clear hfz60_1
              try clear hfz60_10
              try clear hfz60_11
              try clear hfz60_12
              try clear hfz60_2
              try clear hfz60_3
              try clear hfz60_4
              try clear hfz60_5
              try clear hfz60_6
              try clear hfz60_7
              try clear hfz60_8
              try clear hfz60_9
              try clear hfz8_0
              try clear hfz8_1
              try clear hfz8_10
              try clear hfz8_11
              try clear hfz8_12
              try clear hfz8_2
              try clear hfz8_3
              try clear hfz8_4
              try clear hfz8_5
              try clear hfz8_6
              try clear hfz8_7
              try clear hfz8_8
              try clear hfz8_9
              try clear p2
              obtain ⟨kq, x59_35, rfl, HA, HJ35, HO_147009, HO_164009, HO_185009, BK146, BK163, BK184, HB⟩ := hcut
              have hl164009_35 := (Kd.R_reads' HO_164009.out).1
              rw [hl164009_35] at HO_164009
              (try simp only [hl164009_35])
              (try simp only [hl164009_35] at BK146)
              (try simp only [hl164009_35] at BK163)
              (try simp only [hl164009_35] at BK184)
              (try simp only [hl164009_35] at HO_147009)
              (try simp only [hl164009_35] at HO_185009)
              cases kq with
              | zero => exact absurd HA.out (by simp [laws_FnExactStreamNew.j1])
              | succ kj35 =>
                have H := HA.out
                clear HA
                simp only [laws_FnExactStreamNew.j1] at H
                by_cases c62 : x59_35 = true
                · subst c62
                  have H1 : (some false) = some r := by rw [if_pos rfl] at H; exact H
                  clear H
                  have H := H1
                  clear H1
                  obtain rfl := Option.some.inj H
                  go_wp2
                  go_ret
                  exact ⟨by first | rfl | (simp [errW_none, errW_some] <;> rfl) | (simp [*, errW_none, errW_some] <;> rfl), by repeat (first | (with_reducible first | exact HB.out | apply below_alloc | apply pw_below_drewN | apply below_drew1 | refine below_set ?_ GE146.out | refine below_set ?_ GE163.out | refine below_set ?_ GE184.out) | exact HB.out)⟩
                · replace c62 := Bool.eq_false_iff.mpr c62
                  subst c62
                  have H1 : ((laws_heldStream.f kj35 t147 t148 t149 t150 t151 t152 t153 t154 t155 t166 t159 t160 t161 1).bind fun t186 => (if t186 < 0 then (some false) else (if t186 = t165 then (some true) else (some false)))) = some r := by rw [if_neg (show ¬ (false = true) by decide)] at H; exact H
                  clear H
                  have H := H1
                  clear H1
                  replace H := Option.bind_eq_some_iff.mp H
                  obtain ⟨t186, A630, H⟩ := H
                  replace H : (if t186 < 0 then (some false) else (if t186 = t165 then (some true) else (some false))) = some r := H
                  have A63 := Aside0.mk A630
                  clear A630
                  by_cases c64 : t186 < 0
                  · rw [if_pos c64] at H
                    have c64b0 : decide (t186 < 0) = true := decide_eq_true c64
                    clear c64
                    obtain rfl := Option.some.inj H
                    have hnb65 := NB163_146.out
                    have hnc65 := NB146_163.out
                    have hnb66 := NB163_184.out
                    have hnc66 := NB184_163.out
                    have hcz67_0 : wc.cell? ⟨gb163, 0, none⟩ = some (.int .i64 t147) := (blk_cell BK163.out 0).trans rfl
                    have hcz67_1 : wc.cell? ⟨gb163, 1, none⟩ = some (.int .i64 t148) := (blk_cell BK163.out 1).trans rfl
                    have hcz67_2 : wc.cell? ⟨gb163, 2, none⟩ = some (.int .i64 t149) := (blk_cell BK163.out 2).trans rfl
                    have hcz67_3 : wc.cell? ⟨gb163, 3, none⟩ = some (.int .i64 t150) := (blk_cell BK163.out 3).trans rfl
                    have hcz67_4 : wc.cell? ⟨gb163, 4, none⟩ = some (.string t151) := (blk_cell BK163.out 4).trans rfl
                    have hcz67_5 : wc.cell? ⟨gb163, 5, none⟩ = some (.int .i64 t152) := (blk_cell BK163.out 5).trans rfl
                    have hcz67_6 : wc.cell? ⟨gb163, 6, none⟩ = some (.int .i64 t153) := (blk_cell BK163.out 6).trans rfl
                    have hcz67_7 : wc.cell? ⟨gb163, 7, none⟩ = some (.bool t154) := (blk_cell BK163.out 7).trans rfl
                    have hcz67_8 : wc.cell? ⟨gb163, 8, none⟩ = some (.string t155) := (blk_cell BK163.out 8).trans rfl
                    have hcz67_9 : wc.cell? ⟨gb163, 9, none⟩ = some (.slice Ao14 t166.length co14) := (blk_cell BK163.out 9).trans rfl
                    have hcz67_10 : wc.cell? ⟨gb163, 10, none⟩ = some (.bool t159) := (blk_cell BK163.out 10).trans rfl
                    have hcz67_11 : wc.cell? ⟨gb163, 11, none⟩ = some (.int .i64 t160) := (blk_cell BK163.out 11).trans rfl
                    have hcz67_12 : wc.cell? ⟨gb163, 12, none⟩ = some (.int .i64 t161) := (blk_cell BK163.out 12).trans rfl
                    have hfz67_0 := blk_frozen BK163.out 0
                    have hfz67_1 := blk_frozen BK163.out 1
                    have hfz67_2 := blk_frozen BK163.out 2
                    have hfz67_3 := blk_frozen BK163.out 3
                    have hfz67_4 := blk_frozen BK163.out 4
                    have hfz67_5 := blk_frozen BK163.out 5
                    have hfz67_6 := blk_frozen BK163.out 6
                    have hfz67_7 := blk_frozen BK163.out 7
                    have hfz67_8 := blk_frozen BK163.out 8
                    have hfz67_9 := blk_frozen BK163.out 9
                    have hfz67_10 := blk_frozen BK163.out 10
                    have hfz67_11 := blk_frozen BK163.out 11
                    have hfz67_12 := blk_frozen BK163.out 12
                    go_wp2_with (first | ((with_reducible refine gate_callee (f := 48) rfl ?_); refine goesL_ (some 62) rfl rfl Try.func48 (by kernel_rfl) rfl #[.agg #[.int .i64 t147, .int .i64 t148, .int .i64 t149, .int .i64 t150, .string t151, .int .i64 t152, .int .i64 t153, .bool t154, .string t155, .slice Ao14 t166.length co14, .bool t159, .int .i64 t160, .int .i64 t161], .int .i64 1] rfl (by (try simp only [List.map_toArray, List.map_cons, List.map_nil]); first | done | rfl | (simp only [List.length_drop, List.length_take]; rfl)) ?_; (with_reducible refine (laws_heldStream.calls kj35 t147 t148 t149 t150 t151 t152 t153 t154 t155 _ _ t166 t159 t160 t161 1 t186 _ ?side1 ?side2 A63.out).mono ?_); (case side1 => repeat (first | exact (Kd.R_reads' HO_164009.out).2.2 | (with_reducible refine Kd.C_alloc ?_ _) | (with_reducible refine Kd.C_drewN ?_ _) | (with_reducible refine Kd.C_drew ?_))); (case side2 => exact (Kd.R_reads' HO_164009.out).2.1); rintro e w68 ⟨rfl, hb⟩; refine ⟨_, rfl, ?_⟩; have n0_ := Aside0.mk (Kd.R_below (by (with_reducible repeat (first | apply Kd.R_alloc | apply Kd.R_drewN | apply Kd.R_drew)); exact HO_147009.out) hb); have n1_ := Aside0.mk (Kd.R_below (by (with_reducible repeat (first | apply Kd.R_alloc | apply Kd.R_drewN | apply Kd.R_drew)); exact HO_164009.out) hb); have n2_ := Aside0.mk (Kd.R_below (by (with_reducible repeat (first | apply Kd.R_alloc | apply Kd.R_drewN | apply Kd.R_drew)); exact HO_185009.out) hb); have n3_ := Aside0.mk (blk_below (g := gb146) (o := .cells #[.int .i64 t130, .int .i64 t131, .int .i64 t132, .int .i64 t133, .string t134, .int .i64 t135, .int .i64 t136, .bool t137, .string t138, .slice Ao9 t139.length co9, .bool t142, .int .i64 t143, .int .i64 t144] 68 (0, 0)) (by (with_reducible repeat (first | refine blk_drewN ?_ _ | refine blk_drew ?_ | refine blk_alloc ?_ _)); exact BK146.out) hb); have n4_ := Aside0.mk (blk_below (g := gb163) (o := .cells #[.int .i64 t147, .int .i64 t148, .int .i64 t149, .int .i64 t150, .string t151, .int .i64 t152, .int .i64 t153, .bool t154, .string t155, .slice Ao14 t166.length co14, .bool t159, .int .i64 t160, .int .i64 t161] 68 (0, 0)) (by (with_reducible repeat (first | refine blk_drewN ?_ _ | refine blk_drew ?_ | refine blk_alloc ?_ _)); exact BK163.out) hb); have n5_ := Aside0.mk (blk_below (g := gb184) (o := .cells #[.int .i64 t168, .int .i64 t169, .int .i64 t170, .int .i64 t171, .string t172, .int .i64 t173, .int .i64 t174, .bool t175, .string t176, .slice Ao47 t177.length co47, .bool t180, .int .i64 t181, .int .i64 t182] 68 (0, 0)) (by (with_reducible repeat (first | refine blk_drewN ?_ _ | refine blk_drew ?_ | refine blk_alloc ?_ _)); exact BK184.out) hb); have n6_ := Aside0.mk (below_step (by repeat (first | (with_reducible first | exact HB.out | apply below_alloc | apply pw_below_drewN | apply below_drew1 | refine below_set ?_ GE146.out | refine below_set ?_ GE163.out | refine below_set ?_ GE184.out) | exact HB.out)) hb); clear HO_147009; clear HO_164009; clear HO_185009; clear BK146; clear BK163; clear BK184; clear HB; have HO_147009 := n0_; have HO_164009 := n1_; have HO_185009 := n2_; have BK146 := n3_; have BK163 := n4_; have BK184 := n5_; have HB := n6_; clear n0_ n1_ n2_ n3_ n4_ n5_ n6_; (try clear hb); (try clear hb2); (try clear hk); (try clear hi)))
                    go_ret
                    exact ⟨by first | rfl | (simp [errW_none, errW_some] <;> rfl) | (simp [*, errW_none, errW_some] <;> rfl), by repeat (first | (with_reducible first | exact HB.out | apply below_alloc | apply pw_below_drewN | apply below_drew1 | refine below_set ?_ GE146.out | refine below_set ?_ GE163.out | refine below_set ?_ GE184.out) | exact HB.out)⟩
                  · rw [if_neg c64] at H
                    have c64b0 : decide (t186 < 0) = false := decide_eq_false c64
                    clear c64
                    by_cases c69 : t186 = t165
                    · rw [if_pos c69] at H
                      have c69b0 : (t186 == t165) = true := beq_iff_eq.mpr c69
                      have c69b1 : (t186 != t165) = false := bne_eq_false_iff_eq.mpr c69
                      clear c69
                      obtain rfl := Option.some.inj H
                      have hnb70 := NB163_146.out
                      have hnc70 := NB146_163.out
                      have hnb71 := NB163_184.out
                      have hnc71 := NB184_163.out
                      have hcz72_0 : wc.cell? ⟨gb163, 0, none⟩ = some (.int .i64 t147) := (blk_cell BK163.out 0).trans rfl
                      have hcz72_1 : wc.cell? ⟨gb163, 1, none⟩ = some (.int .i64 t148) := (blk_cell BK163.out 1).trans rfl
                      have hcz72_2 : wc.cell? ⟨gb163, 2, none⟩ = some (.int .i64 t149) := (blk_cell BK163.out 2).trans rfl
                      have hcz72_3 : wc.cell? ⟨gb163, 3, none⟩ = some (.int .i64 t150) := (blk_cell BK163.out 3).trans rfl
                      have hcz72_4 : wc.cell? ⟨gb163, 4, none⟩ = some (.string t151) := (blk_cell BK163.out 4).trans rfl
                      have hcz72_5 : wc.cell? ⟨gb163, 5, none⟩ = some (.int .i64 t152) := (blk_cell BK163.out 5).trans rfl
                      have hcz72_6 : wc.cell? ⟨gb163, 6, none⟩ = some (.int .i64 t153) := (blk_cell BK163.out 6).trans rfl
                      have hcz72_7 : wc.cell? ⟨gb163, 7, none⟩ = some (.bool t154) := (blk_cell BK163.out 7).trans rfl
                      have hcz72_8 : wc.cell? ⟨gb163, 8, none⟩ = some (.string t155) := (blk_cell BK163.out 8).trans rfl
                      have hcz72_9 : wc.cell? ⟨gb163, 9, none⟩ = some (.slice Ao14 t166.length co14) := (blk_cell BK163.out 9).trans rfl
                      have hcz72_10 : wc.cell? ⟨gb163, 10, none⟩ = some (.bool t159) := (blk_cell BK163.out 10).trans rfl
                      have hcz72_11 : wc.cell? ⟨gb163, 11, none⟩ = some (.int .i64 t160) := (blk_cell BK163.out 11).trans rfl
                      have hcz72_12 : wc.cell? ⟨gb163, 12, none⟩ = some (.int .i64 t161) := (blk_cell BK163.out 12).trans rfl
                      have hfz72_0 := blk_frozen BK163.out 0
                      have hfz72_1 := blk_frozen BK163.out 1
                      have hfz72_2 := blk_frozen BK163.out 2
                      have hfz72_3 := blk_frozen BK163.out 3
                      have hfz72_4 := blk_frozen BK163.out 4
                      have hfz72_5 := blk_frozen BK163.out 5
                      have hfz72_6 := blk_frozen BK163.out 6
                      have hfz72_7 := blk_frozen BK163.out 7
                      have hfz72_8 := blk_frozen BK163.out 8
                      have hfz72_9 := blk_frozen BK163.out 9
                      have hfz72_10 := blk_frozen BK163.out 10
                      have hfz72_11 := blk_frozen BK163.out 11
                      have hfz72_12 := blk_frozen BK163.out 12
                      go_wp2_with (first | ((with_reducible refine gate_callee (f := 48) rfl ?_); refine goesL_ (some 62) rfl rfl Try.func48 (by kernel_rfl) rfl #[.agg #[.int .i64 t147, .int .i64 t148, .int .i64 t149, .int .i64 t150, .string t151, .int .i64 t152, .int .i64 t153, .bool t154, .string t155, .slice Ao14 t166.length co14, .bool t159, .int .i64 t160, .int .i64 t161], .int .i64 1] rfl (by (try simp only [List.map_toArray, List.map_cons, List.map_nil]); first | done | rfl | (simp only [List.length_drop, List.length_take]; rfl)) ?_; (with_reducible refine (laws_heldStream.calls kj35 t147 t148 t149 t150 t151 t152 t153 t154 t155 _ _ t166 t159 t160 t161 1 t186 _ ?side1 ?side2 A63.out).mono ?_); (case side1 => repeat (first | exact (Kd.R_reads' HO_164009.out).2.2 | (with_reducible refine Kd.C_alloc ?_ _) | (with_reducible refine Kd.C_drewN ?_ _) | (with_reducible refine Kd.C_drew ?_))); (case side2 => exact (Kd.R_reads' HO_164009.out).2.1); rintro e w73 ⟨rfl, hb⟩; refine ⟨_, rfl, ?_⟩; have n0_ := Aside0.mk (Kd.R_below (by (with_reducible repeat (first | apply Kd.R_alloc | apply Kd.R_drewN | apply Kd.R_drew)); exact HO_147009.out) hb); have n1_ := Aside0.mk (Kd.R_below (by (with_reducible repeat (first | apply Kd.R_alloc | apply Kd.R_drewN | apply Kd.R_drew)); exact HO_164009.out) hb); have n2_ := Aside0.mk (Kd.R_below (by (with_reducible repeat (first | apply Kd.R_alloc | apply Kd.R_drewN | apply Kd.R_drew)); exact HO_185009.out) hb); have n3_ := Aside0.mk (blk_below (g := gb146) (o := .cells #[.int .i64 t130, .int .i64 t131, .int .i64 t132, .int .i64 t133, .string t134, .int .i64 t135, .int .i64 t136, .bool t137, .string t138, .slice Ao9 t139.length co9, .bool t142, .int .i64 t143, .int .i64 t144] 68 (0, 0)) (by (with_reducible repeat (first | refine blk_drewN ?_ _ | refine blk_drew ?_ | refine blk_alloc ?_ _)); exact BK146.out) hb); have n4_ := Aside0.mk (blk_below (g := gb163) (o := .cells #[.int .i64 t147, .int .i64 t148, .int .i64 t149, .int .i64 t150, .string t151, .int .i64 t152, .int .i64 t153, .bool t154, .string t155, .slice Ao14 t166.length co14, .bool t159, .int .i64 t160, .int .i64 t161] 68 (0, 0)) (by (with_reducible repeat (first | refine blk_drewN ?_ _ | refine blk_drew ?_ | refine blk_alloc ?_ _)); exact BK163.out) hb); have n5_ := Aside0.mk (blk_below (g := gb184) (o := .cells #[.int .i64 t168, .int .i64 t169, .int .i64 t170, .int .i64 t171, .string t172, .int .i64 t173, .int .i64 t174, .bool t175, .string t176, .slice Ao47 t177.length co47, .bool t180, .int .i64 t181, .int .i64 t182] 68 (0, 0)) (by (with_reducible repeat (first | refine blk_drewN ?_ _ | refine blk_drew ?_ | refine blk_alloc ?_ _)); exact BK184.out) hb); have n6_ := Aside0.mk (below_step (by repeat (first | (with_reducible first | exact HB.out | apply below_alloc | apply pw_below_drewN | apply below_drew1 | refine below_set ?_ GE146.out | refine below_set ?_ GE163.out | refine below_set ?_ GE184.out) | exact HB.out)) hb); clear HO_147009; clear HO_164009; clear HO_185009; clear BK146; clear BK163; clear BK184; clear HB; have HO_147009 := n0_; have HO_164009 := n1_; have HO_185009 := n2_; have BK146 := n3_; have BK163 := n4_; have BK184 := n5_; have HB := n6_; clear n0_ n1_ n2_ n3_ n4_ n5_ n6_; (try clear hb); (try clear hb2); (try clear hk); (try clear hi)))
                      go_ret
                      exact ⟨by first | rfl | (simp [errW_none, errW_some] <;> rfl) | (simp [*, errW_none, errW_some] <;> rfl), by repeat (first | (with_reducible first | exact HB.out | apply below_alloc | apply pw_below_drewN | apply below_drew1 | refine below_set ?_ GE146.out | refine below_set ?_ GE163.out | refine below_set ?_ GE184.out) | exact HB.out)⟩
                    · rw [if_neg c69] at H
                      have c69b0 : (t186 == t165) = false := beq_eq_false_iff_ne.mpr c69
                      have c69b1 : (t186 != t165) = true := bne_iff_ne.mpr c69
                      obtain rfl := Option.some.inj H
                      have hnb74 := NB163_146.out
                      have hnc74 := NB146_163.out
                      have hnb75 := NB163_184.out
                      have hnc75 := NB184_163.out
                      have hcz76_0 : wc.cell? ⟨gb163, 0, none⟩ = some (.int .i64 t147) := (blk_cell BK163.out 0).trans rfl
                      have hcz76_1 : wc.cell? ⟨gb163, 1, none⟩ = some (.int .i64 t148) := (blk_cell BK163.out 1).trans rfl
                      have hcz76_2 : wc.cell? ⟨gb163, 2, none⟩ = some (.int .i64 t149) := (blk_cell BK163.out 2).trans rfl
                      have hcz76_3 : wc.cell? ⟨gb163, 3, none⟩ = some (.int .i64 t150) := (blk_cell BK163.out 3).trans rfl
                      have hcz76_4 : wc.cell? ⟨gb163, 4, none⟩ = some (.string t151) := (blk_cell BK163.out 4).trans rfl
                      have hcz76_5 : wc.cell? ⟨gb163, 5, none⟩ = some (.int .i64 t152) := (blk_cell BK163.out 5).trans rfl
                      have hcz76_6 : wc.cell? ⟨gb163, 6, none⟩ = some (.int .i64 t153) := (blk_cell BK163.out 6).trans rfl
                      have hcz76_7 : wc.cell? ⟨gb163, 7, none⟩ = some (.bool t154) := (blk_cell BK163.out 7).trans rfl
                      have hcz76_8 : wc.cell? ⟨gb163, 8, none⟩ = some (.string t155) := (blk_cell BK163.out 8).trans rfl
                      have hcz76_9 : wc.cell? ⟨gb163, 9, none⟩ = some (.slice Ao14 t166.length co14) := (blk_cell BK163.out 9).trans rfl
                      have hcz76_10 : wc.cell? ⟨gb163, 10, none⟩ = some (.bool t159) := (blk_cell BK163.out 10).trans rfl
                      have hcz76_11 : wc.cell? ⟨gb163, 11, none⟩ = some (.int .i64 t160) := (blk_cell BK163.out 11).trans rfl
                      have hcz76_12 : wc.cell? ⟨gb163, 12, none⟩ = some (.int .i64 t161) := (blk_cell BK163.out 12).trans rfl
                      have hfz76_0 := blk_frozen BK163.out 0
                      have hfz76_1 := blk_frozen BK163.out 1
                      have hfz76_2 := blk_frozen BK163.out 2
                      have hfz76_3 := blk_frozen BK163.out 3
                      have hfz76_4 := blk_frozen BK163.out 4
                      have hfz76_5 := blk_frozen BK163.out 5
                      have hfz76_6 := blk_frozen BK163.out 6
                      have hfz76_7 := blk_frozen BK163.out 7
                      have hfz76_8 := blk_frozen BK163.out 8
                      have hfz76_9 := blk_frozen BK163.out 9
                      have hfz76_10 := blk_frozen BK163.out 10
                      have hfz76_11 := blk_frozen BK163.out 11
                      have hfz76_12 := blk_frozen BK163.out 12
                      go_wp2_with (first | ((with_reducible refine gate_callee (f := 48) rfl ?_); refine goesL_ (some 62) rfl rfl Try.func48 (by kernel_rfl) rfl #[.agg #[.int .i64 t147, .int .i64 t148, .int .i64 t149, .int .i64 t150, .string t151, .int .i64 t152, .int .i64 t153, .bool t154, .string t155, .slice Ao14 t166.length co14, .bool t159, .int .i64 t160, .int .i64 t161], .int .i64 1] rfl (by (try simp only [List.map_toArray, List.map_cons, List.map_nil]); first | done | rfl | (simp only [List.length_drop, List.length_take]; rfl)) ?_; (with_reducible refine (laws_heldStream.calls kj35 t147 t148 t149 t150 t151 t152 t153 t154 t155 _ _ t166 t159 t160 t161 1 t186 _ ?side1 ?side2 A63.out).mono ?_); (case side1 => repeat (first | exact (Kd.R_reads' HO_164009.out).2.2 | (with_reducible refine Kd.C_alloc ?_ _) | (with_reducible refine Kd.C_drewN ?_ _) | (with_reducible refine Kd.C_drew ?_))); (case side2 => exact (Kd.R_reads' HO_164009.out).2.1); rintro e w77 ⟨rfl, hb⟩; refine ⟨_, rfl, ?_⟩; have n0_ := Aside0.mk (Kd.R_below (by (with_reducible repeat (first | apply Kd.R_alloc | apply Kd.R_drewN | apply Kd.R_drew)); exact HO_147009.out) hb); have n1_ := Aside0.mk (Kd.R_below (by (with_reducible repeat (first | apply Kd.R_alloc | apply Kd.R_drewN | apply Kd.R_drew)); exact HO_164009.out) hb); have n2_ := Aside0.mk (Kd.R_below (by (with_reducible repeat (first | apply Kd.R_alloc | apply Kd.R_drewN | apply Kd.R_drew)); exact HO_185009.out) hb); have n3_ := Aside0.mk (blk_below (g := gb146) (o := .cells #[.int .i64 t130, .int .i64 t131, .int .i64 t132, .int .i64 t133, .string t134, .int .i64 t135, .int .i64 t136, .bool t137, .string t138, .slice Ao9 t139.length co9, .bool t142, .int .i64 t143, .int .i64 t144] 68 (0, 0)) (by (with_reducible repeat (first | refine blk_drewN ?_ _ | refine blk_drew ?_ | refine blk_alloc ?_ _)); exact BK146.out) hb); have n4_ := Aside0.mk (blk_below (g := gb163) (o := .cells #[.int .i64 t147, .int .i64 t148, .int .i64 t149, .int .i64 t150, .string t151, .int .i64 t152, .int .i64 t153, .bool t154, .string t155, .slice Ao14 t166.length co14, .bool t159, .int .i64 t160, .int .i64 t161] 68 (0, 0)) (by (with_reducible repeat (first | refine blk_drewN ?_ _ | refine blk_drew ?_ | refine blk_alloc ?_ _)); exact BK163.out) hb); have n5_ := Aside0.mk (blk_below (g := gb184) (o := .cells #[.int .i64 t168, .int .i64 t169, .int .i64 t170, .int .i64 t171, .string t172, .int .i64 t173, .int .i64 t174, .bool t175, .string t176, .slice Ao47 t177.length co47, .bool t180, .int .i64 t181, .int .i64 t182] 68 (0, 0)) (by (with_reducible repeat (first | refine blk_drewN ?_ _ | refine blk_drew ?_ | refine blk_alloc ?_ _)); exact BK184.out) hb); have n6_ := Aside0.mk (below_step (by repeat (first | (with_reducible first | exact HB.out | apply below_alloc | apply pw_below_drewN | apply below_drew1 | refine below_set ?_ GE146.out | refine below_set ?_ GE163.out | refine below_set ?_ GE184.out) | exact HB.out)) hb); clear HO_147009; clear HO_164009; clear HO_185009; clear BK146; clear BK163; clear BK184; clear HB; have HO_147009 := n0_; have HO_164009 := n1_; have HO_185009 := n2_; have BK146 := n3_; have BK163 := n4_; have BK184 := n5_; have HB := n6_; clear n0_ n1_ n2_ n3_ n4_ n5_ n6_; (try clear hb); (try clear hb2); (try clear hk); (try clear hi)))
                      go_ret
                      exact ⟨by first | rfl | (simp [errW_none, errW_some] <;> rfl) | (simp [*, errW_none, errW_some] <;> rfl), by repeat (first | (with_reducible first | exact HB.out | apply below_alloc | apply pw_below_drewN | apply below_drew1 | refine below_set ?_ GE146.out | refine below_set ?_ GE163.out | refine below_set ?_ GE184.out) | exact HB.out)⟩
          · rw [if_neg c34] at H
            have c34b0 : (t167 == t165) = false := beq_eq_false_iff_ne.mpr c34
            have c34b1 : (t167 != t165) = true := bne_iff_ne.mpr c34
            obtain rfl := Option.some.inj H
            have hnb78 := NB163_146.out
            have hnc78 := NB146_163.out
            have hcz79_0 : wc.cell? ⟨gb163, 0, none⟩ = some (.int .i64 t147) := (blk_cell BK163.out 0).trans rfl
            have hcz79_1 : wc.cell? ⟨gb163, 1, none⟩ = some (.int .i64 t148) := (blk_cell BK163.out 1).trans rfl
            have hcz79_2 : wc.cell? ⟨gb163, 2, none⟩ = some (.int .i64 t149) := (blk_cell BK163.out 2).trans rfl
            have hcz79_3 : wc.cell? ⟨gb163, 3, none⟩ = some (.int .i64 t150) := (blk_cell BK163.out 3).trans rfl
            have hcz79_4 : wc.cell? ⟨gb163, 4, none⟩ = some (.string t151) := (blk_cell BK163.out 4).trans rfl
            have hcz79_5 : wc.cell? ⟨gb163, 5, none⟩ = some (.int .i64 t152) := (blk_cell BK163.out 5).trans rfl
            have hcz79_6 : wc.cell? ⟨gb163, 6, none⟩ = some (.int .i64 t153) := (blk_cell BK163.out 6).trans rfl
            have hcz79_7 : wc.cell? ⟨gb163, 7, none⟩ = some (.bool t154) := (blk_cell BK163.out 7).trans rfl
            have hcz79_8 : wc.cell? ⟨gb163, 8, none⟩ = some (.string t155) := (blk_cell BK163.out 8).trans rfl
            have hcz79_9 : wc.cell? ⟨gb163, 9, none⟩ = some (.slice Ao14 t156.length co14) := (blk_cell BK163.out 9).trans rfl
            have hcz79_10 : wc.cell? ⟨gb163, 10, none⟩ = some (.bool t159) := (blk_cell BK163.out 10).trans rfl
            have hcz79_11 : wc.cell? ⟨gb163, 11, none⟩ = some (.int .i64 t160) := (blk_cell BK163.out 11).trans rfl
            have hcz79_12 : wc.cell? ⟨gb163, 12, none⟩ = some (.int .i64 t161) := (blk_cell BK163.out 12).trans rfl
            have hfz79_0 := blk_frozen BK163.out 0
            have hfz79_1 := blk_frozen BK163.out 1
            have hfz79_2 := blk_frozen BK163.out 2
            have hfz79_3 := blk_frozen BK163.out 3
            have hfz79_4 := blk_frozen BK163.out 4
            have hfz79_5 := blk_frozen BK163.out 5
            have hfz79_6 := blk_frozen BK163.out 6
            have hfz79_7 := blk_frozen BK163.out 7
            have hfz79_8 := blk_frozen BK163.out 8
            have hfz79_9 := blk_frozen BK163.out 9
            have hfz79_10 := blk_frozen BK163.out 10
            have hfz79_11 := blk_frozen BK163.out 11
            have hfz79_12 := blk_frozen BK163.out 12
            go_wp2_with (first | ((with_reducible refine gate_callee (f := 47) rfl ?_); refine goesL_ (some 36) rfl rfl Try.func47 (by kernel_rfl) rfl #[.agg #[.int .i64 t147, .int .i64 t148, .int .i64 t149, .int .i64 t150, .string t151, .int .i64 t152, .int .i64 t153, .bool t154, .string t155, .slice Ao14 t156.length co14, .bool t159, .int .i64 t160, .int .i64 t161], .int .i64 1] rfl (by (try simp only [List.map_toArray, List.map_cons, List.map_nil]); first | done | rfl | (simp only [List.length_drop, List.length_take]; rfl)) ?_; (with_reducible refine (laws_markStream.calls kj4 t147 t148 t149 t150 t151 t152 t153 t154 t155 (fun k_ => some k_ = (.slice Ao14 t156.length co14 : Value).ownBlock) (.slice Ao14 t156.length co14) t156 t159 t160 t161 1 t165 t166 w _ ?side1 ?side2 A26.out).mono ?_); (case side1 => repeat (first | (with_reducible first | exact HB.out | apply below_alloc | apply pw_below_drewN | apply below_drew1 | refine below_set ?_ GE146.out | refine below_set ?_ GE163.out) | exact HB.out)); (case side2 => exact Kd.R_tight rfl HO_164009.out); rintro e w80 ⟨rfl, hy0, hb, hkp⟩; refine ⟨_, rfl, ?_⟩; have n0_ := Aside0.mk (Kd.R_mono (ok' := fun k_ => some k_ ≠ (.slice Ao14 t156.length co14 : Value).ownBlock) (Kd.R_keptB (HO_147009.out) hkp (fun k_ hk_ hs_ => (hk_) hs_)) (fun k_ hk_ => hk_.1)); have n1_ := Aside0.mk (Kd.R_reok rfl hy0 (fun k_ e_ => HO_164009.out.1 k_ e_)); have n2_ := Aside0.mk (blk_kept (by (with_reducible repeat (first | refine blk_drewN ?_ _ | refine blk_drew ?_ | refine blk_alloc ?_ _)); exact BK146.out) hkp (fun hs_ => (fun e_ => (Kd.R_ne HO_164009.out BK146.out (by decide)) e_) hs_)); have n3_ := Aside0.mk (blk_kept (by (with_reducible repeat (first | refine blk_drewN ?_ _ | refine blk_drew ?_ | refine blk_alloc ?_ _)); exact BK163.out) hkp (fun hs_ => (fun e_ => (Kd.R_ne HO_164009.out BK163.out (by decide)) e_) hs_)); have n4_ := Aside0.mk (hb); clear HO_147009; clear HO_164009; clear BK146; clear BK163; clear HB; have HO_147009 := n0_; have HO_164009 := n1_; have BK146 := n2_; have BK163 := n3_; have HB := n4_; clear n0_ n1_ n2_ n3_ n4_; (try clear hb); (try clear hkp); (try clear hy0); have hcz81_0 : w80.cell? ⟨gb163, 0, none⟩ = some (.int .i64 t147) := (blk_cell BK163.out 0).trans rfl; have hcz81_1 : w80.cell? ⟨gb163, 1, none⟩ = some (.int .i64 t148) := (blk_cell BK163.out 1).trans rfl; have hcz81_2 : w80.cell? ⟨gb163, 2, none⟩ = some (.int .i64 t149) := (blk_cell BK163.out 2).trans rfl; have hcz81_3 : w80.cell? ⟨gb163, 3, none⟩ = some (.int .i64 t150) := (blk_cell BK163.out 3).trans rfl; have hcz81_4 : w80.cell? ⟨gb163, 4, none⟩ = some (.string t151) := (blk_cell BK163.out 4).trans rfl; have hcz81_5 : w80.cell? ⟨gb163, 5, none⟩ = some (.int .i64 t152) := (blk_cell BK163.out 5).trans rfl; have hcz81_6 : w80.cell? ⟨gb163, 6, none⟩ = some (.int .i64 t153) := (blk_cell BK163.out 6).trans rfl; have hcz81_7 : w80.cell? ⟨gb163, 7, none⟩ = some (.bool t154) := (blk_cell BK163.out 7).trans rfl; have hcz81_8 : w80.cell? ⟨gb163, 8, none⟩ = some (.string t155) := (blk_cell BK163.out 8).trans rfl; have hcz81_9 : w80.cell? ⟨gb163, 9, none⟩ = some (.slice Ao14 t156.length co14) := (blk_cell BK163.out 9).trans rfl; have hcz81_10 : w80.cell? ⟨gb163, 10, none⟩ = some (.bool t159) := (blk_cell BK163.out 10).trans rfl; have hcz81_11 : w80.cell? ⟨gb163, 11, none⟩ = some (.int .i64 t160) := (blk_cell BK163.out 11).trans rfl; have hcz81_12 : w80.cell? ⟨gb163, 12, none⟩ = some (.int .i64 t161) := (blk_cell BK163.out 12).trans rfl; have hfz81_0 := blk_frozen BK163.out 0; have hfz81_1 := blk_frozen BK163.out 1; have hfz81_2 := blk_frozen BK163.out 2; have hfz81_3 := blk_frozen BK163.out 3; have hfz81_4 := blk_frozen BK163.out 4; have hfz81_5 := blk_frozen BK163.out 5; have hfz81_6 := blk_frozen BK163.out 6; have hfz81_7 := blk_frozen BK163.out 7; have hfz81_8 := blk_frozen BK163.out 8; have hfz81_9 := blk_frozen BK163.out 9; have hfz81_10 := blk_frozen BK163.out 10; have hfz81_11 := blk_frozen BK163.out 11; have hfz81_12 := blk_frozen BK163.out 12) | ((with_reducible refine gate_callee (f := 48) rfl ?_); refine goesL_ (some 39) rfl rfl Try.func48 (by kernel_rfl) rfl #[.agg #[.int .i64 t147, .int .i64 t148, .int .i64 t149, .int .i64 t150, .string t151, .int .i64 t152, .int .i64 t153, .bool t154, .string t155, .slice Ao14 t166.length co14, .bool t159, .int .i64 t160, .int .i64 t161], .int .i64 1] rfl (by (try simp only [List.map_toArray, List.map_cons, List.map_nil]); first | done | (rw [show t166.length = t156.length from (Kd.R_reads' HO_164009.out).1.symm] <;> rfl) | rfl | (simp only [List.length_drop, List.length_take]; rfl)) ?_; (with_reducible refine (laws_heldStream.calls kj4 t147 t148 t149 t150 t151 t152 t153 t154 t155 _ _ t166 t159 t160 t161 1 t167 _ ?side1 ?side2 A27.out).mono ?_); (case side1 => repeat (first | exact (Kd.R_reads' HO_164009.out).2.2 | (with_reducible refine Kd.C_alloc ?_ _) | (with_reducible refine Kd.C_drewN ?_ _) | (with_reducible refine Kd.C_drew ?_))); (case side2 => rw [show t166.length = t156.length from (Kd.R_reads' HO_164009.out).1.symm]; exact (Kd.R_reads' HO_164009.out).2.1); rintro e w82 ⟨rfl, hb⟩; refine ⟨_, rfl, ?_⟩; have n0_ := Aside0.mk (Kd.R_below (by (with_reducible repeat (first | apply Kd.R_alloc | apply Kd.R_drewN | apply Kd.R_drew)); exact HO_147009.out) hb); have n1_ := Aside0.mk (Kd.R_below (by (with_reducible repeat (first | apply Kd.R_alloc | apply Kd.R_drewN | apply Kd.R_drew)); exact HO_164009.out) hb); have n2_ := Aside0.mk (blk_below (g := gb146) (o := .cells #[.int .i64 t130, .int .i64 t131, .int .i64 t132, .int .i64 t133, .string t134, .int .i64 t135, .int .i64 t136, .bool t137, .string t138, .slice Ao9 t139.length co9, .bool t142, .int .i64 t143, .int .i64 t144] 68 (0, 0)) (by (with_reducible repeat (first | refine blk_drewN ?_ _ | refine blk_drew ?_ | refine blk_alloc ?_ _)); exact BK146.out) hb); have n3_ := Aside0.mk (blk_below (g := gb163) (o := .cells #[.int .i64 t147, .int .i64 t148, .int .i64 t149, .int .i64 t150, .string t151, .int .i64 t152, .int .i64 t153, .bool t154, .string t155, .slice Ao14 t156.length co14, .bool t159, .int .i64 t160, .int .i64 t161] 68 (0, 0)) (by (with_reducible repeat (first | refine blk_drewN ?_ _ | refine blk_drew ?_ | refine blk_alloc ?_ _)); exact BK163.out) hb); have n4_ := Aside0.mk (below_step (by repeat (first | (with_reducible first | exact HB.out | apply below_alloc | apply pw_below_drewN | apply below_drew1 | refine below_set ?_ GE146.out | refine below_set ?_ GE163.out) | exact HB.out)) hb); clear HO_147009; clear HO_164009; clear BK146; clear BK163; clear HB; have HO_147009 := n0_; have HO_164009 := n1_; have BK146 := n2_; have BK163 := n3_; have HB := n4_; clear n0_ n1_ n2_ n3_ n4_; (try clear hb); (try clear hb2); (try clear hk); (try clear hi)))
            go_ret
            exact ⟨by first | rfl | (simp [errW_none, errW_some] <;> rfl) | (simp [*, errW_none, errW_some] <;> rfl), by repeat (first | (with_reducible first | exact HB.out | apply below_alloc | apply pw_below_drewN | apply below_drew1 | refine below_set ?_ GE146.out | refine below_set ?_ GE163.out) | exact HB.out)⟩

/-- THE ONE PURE STATEMENT of laws_FnExactStreamNew: yours. -/
def laws_FnExactStreamNew.Pure : Prop := ∀ (a0 : Int) (a1 : Bool), (Lit.int .i64 a0).wf = true → ∃ k, laws_FnExactStreamNew.f k a0 a1 = some true
theorem laws_FnExactStreamNew.walk (P : laws_FnExactStreamNew.Pure) (a0 : Int) (a1 : Bool) (w : World) (w0 : (Lit.int .i64 a0).wf = true) :
    Calls Try.prog 10 #[.int .i64 a0, .bool a1] w fun e w' => e = .returned (.bool true) ∧ Below w.heap.size w w' := by
  obtain ⟨k, h⟩ := P a0 a1 w0
  refine (laws_FnExactStreamNew.calls k a0 a1 true w h).mono ?_
  rintro e w' ⟨rfl, hd⟩
  exact ⟨rfl, hd⟩

end Go.Proofs.Ytakapoionaaimaa.PFnExactStreamNew
