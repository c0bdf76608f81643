/- The law 'FnExactSameKeep' of the given program answers true at every input, and each argument reads behind the call as it read before it. No condition. -/
import Derived.Test.YtjijbffecppeiaaRows
import Derived.Test.YtjijbffecppeiaaStFnExactSameKeep
import Derived.Test.YtjijbffecppeiaaPureFnExactSameKeep
import Derived.WalkKit
import Derived.ProofKit
import Derived.OpenShut
import Derived.ShutString
import Derived.ChangeOld
import Derived.Below
import Derived.Carry
import Derived.SizedLaws
namespace Go.Proofs.Ytjijbffecppeiaa.fnExactSameKeep
open Go.ChangeShapes Go.WideShapes Go.ChangeAt Go.RowKit Go.Proofs.Ytjijbffecppeiaa.Opens Go.Proofs.Ytjijbffecppeiaa.StFnExactSameKeep Go.Proofs.YtjijbffecppeiaaW.PrintWords
open Go.ChangeMaps (open_string shut_string)
set_option linter.unusedVariables false
set_option linter.unusedSimpArgs false
theorem own : ownKnob Try.prog.godebug = none := by kernel_rfl
theorem laidOut : laidOutB Try.prog = true := by kernel_rfl
set_option maxRecDepth 100000 in
theorem lifted (os : Os) (started : os.Started) (H : Type) (enc : TypeId × Value → H) :
    ReturnsInHanded {} Try.checked os 4 .any (Rows.fnExactSameKeepSpec.pre6 enc Try.prog Try.f4 Rows.fnExactSameKeepRow.domain false) (Rows.fnExactSameKeepSpec.post enc Try.prog Try.f4 false true false false) := by
  refine returnsInHanded_of_change_sized (C := Try.checked) own started (by kernel_rfl) Try.func4
    (ChangeSpec.witness6 (enc := enc) (C := Try.checked) false ⟨#[], #[.agg #[.slice none 0 0, .slice none 0 0], .agg #[.slice none 0 0, .slice none 0 0]], []⟩ 8 (by kernel_rfl) (by kernel_rfl) (by kernel_rfl) (by kernel_rfl)) ?_
  intro W base args ds gs before hval0 hW hcnd hsz0 _
  have hsz : (DataW.weightsEach Try.prog (Try.f4.params.toList ++ Rows.fnExactSameKeepSpec.plain.varTypes Try.prog) (ds ++ gs)).all (· ≤ reachBytes) = true := hsz0
  have hval : ∀ (j : Nat) t v, Try.f4.params[j]? = some t → args[j]? = some v → Value.okWide Try.prog W .any base t v := hval0
  have hW' := hW
  obtain ⟨p, q, hA0, hV, rfl, hfz, hnd⟩ := hW
  have hA : DataW.TrodAll enc Try.prog W 0 (fun _ => true) true Try.f4.params.toList args.toList ds p := hA0
  rw [Try.params4] at hA hval hsz
  obtain ⟨v0, vs0, d0, ds0, p0, q0, hargs, rfl, rfl, h0, r0⟩ := trodAll_cons hA
  obtain ⟨v1, vs1, d1, ds1, p1, q1, rfl, rfl, rfl, h1, r1⟩ := trodAll_cons r0
  obtain ⟨rfl, rfl, rfl⟩ := trodAll_nil r1
  obtain rfl : args = #[v0, v1] := by cases args; simp_all
  obtain ⟨rfl, rfl⟩ := trodVars_none hV
  have k0 := h0
  have lt0 : ∀ x ∈ p0, x.block < W.heap.size := by obtain ⟨m, hm⟩ := k0; exact DataW.trod_lt m _ _ _ hm
  obtain ⟨⟨a0_0, a0_1⟩, K0, ⟨f0_0, f0_1⟩⟩ := opens_arg (opens_struct Try.underlying36 (by kernel_rfl) (opensF_cons rfl (opens_slice 174 Try.underlying33 (by kernel_rfl) (o174) (B := 32) (by kernel_rfl)) rfl (opensF_one rfl (opens_slice 176 Try.underlying34 (by kernel_rfl) (o176) (B := 40) (by kernel_rfl))))) h0 hsz (j := 0) rfl rfl
  obtain ⟨cs0, rfl, hs0⟩ := okWide_struct Try.underlying36 (hval 0 36 v0 rfl rfl)
  obtain ⟨_, _, e0_0, ⟨A0_0, c0_0, rfl, hc0_0, hC0_0⟩, ⟨A0_1, c0_1, rfl, hc0_1, hC0_1⟩⟩ := K0
  obtain ⟨cs0⟩ := cs0
  obtain rfl : cs0 = _ := e0_0
  have k1 := h1
  have lt1 : ∀ x ∈ p1, x.block < W.heap.size := by obtain ⟨m, hm⟩ := k1; exact DataW.trod_lt m _ _ _ hm
  obtain ⟨⟨a1_0, a1_1⟩, K1, ⟨f1_0, f1_1⟩⟩ := opens_arg (opens_struct Try.underlying36 (by kernel_rfl) (opensF_cons rfl (opens_slice 174 Try.underlying33 (by kernel_rfl) (o174) (B := 32) (by kernel_rfl)) rfl (opensF_one rfl (opens_slice 176 Try.underlying34 (by kernel_rfl) (o176) (B := 40) (by kernel_rfl))))) h1 hsz (j := 1) rfl rfl
  obtain ⟨cs1, rfl, hs1⟩ := okWide_struct Try.underlying36 (hval 1 36 v1 rfl rfl)
  obtain ⟨_, _, e1_0, ⟨A1_0, c1_0, rfl, hc1_0, hC1_0⟩, ⟨A1_1, c1_1, rfl, hc1_1, hC1_1⟩⟩ := K1
  obtain ⟨cs1⟩ := cs1
  obtain rfl : cs1 = _ := e1_0
  clear hA0 hval0 hsz0 hsz
  obtain ⟨k, hk⟩ := Pure.FnExactSameKeep a0_0 a0_1 a1_0 a1_1 f0_0 f0_1 f1_0 f1_1
  refine (QFnExactSameKeep.laws_FnExactSameKeep.calls k _ _ a0_0 _ _ a0_1 _ _ a1_0 _ _ a1_1 true _ hC0_0 hc0_0 hC0_1 hc0_1 hC1_0 hc1_0 hC1_1 hc1_1 hk ⟨rfl⟩).mono fun e W' ⟨he, bel0⟩ => ?_
  have bel : Below W.heap.size W W' := bel0
  subst he
  exact ⟨_, rfl, _, _, _, [], _, [], hW', trodAll_mk1 (shut_bool Try.underlying4 _), (trodAll_cons_mk (Below.trod laidOut (by kernel_rfl) (of_decide_eq_true (by kernel_rfl)) k0 bel lt0) (trodAll_cons_mk (Below.trod laidOut (by kernel_rfl) (of_decide_eq_true (by kernel_rfl)) k1 bel lt1) trodAll_mk0)), rfl, bel.frame _, fun h => by cases h⟩
theorem over : Rows.fnExactSameKeepRow.holds Try.pinned (OpenSpec.ofChange Rows.fnExactSameKeepSpec) :=
  OpenClaim.holds_of_wide 4 Try.f4 rfl rfl rfl rfl rfl rfl rfl ⟨rfl, rfl, rfl, rfl, rfl⟩ rfl rfl rfl rfl rfl (by kernel_rfl) Try.func4 (by kernel_rfl)
    (of_decide_eq_true (by kernel_rfl)) (by unfold Func.isWrapper; first | (rw [if_pos (by decide +kernel)]; kernel_rfl) | (rw [if_neg (by decide +kernel)]; exact ⟨rfl, rfl⟩))
    (fun os started H enc _ => lifted os started H enc)
theorem proved : Rows.FnExactSameKeepSaid := over
#print axioms proved
end Go.Proofs.Ytjijbffecppeiaa.fnExactSameKeep
namespace Go.Proofs.Ytjijbffecppeiaa
/-- The row, under a short name, for the claim. -/
theorem fnExactSameKeep_holds : Rows.FnExactSameKeepSaid := fnExactSameKeep.proved
end Go.Proofs.Ytjijbffecppeiaa
