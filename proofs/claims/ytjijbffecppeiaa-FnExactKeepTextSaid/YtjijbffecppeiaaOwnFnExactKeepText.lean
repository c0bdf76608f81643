/- The law 'FnExactKeepText' of the given program answers true at every input, and each argument reads behind the call as it read before it. No condition. -/
import Derived.Test.YtjijbffecppeiaaRows
import Derived.Test.YtjijbffecppeiaaStFnExactKeepText
import Derived.Test.YtjijbffecppeiaaPureFnExactKeepText
import Derived.WalkKit
import Derived.ProofKit
import Derived.OpenShut
import Derived.ShutString
import Derived.ChangeOld
import Derived.Below
import Derived.Carry
import Derived.SizedLaws
namespace Go.Proofs.Ytjijbffecppeiaa.fnExactKeepText
open Go.ChangeShapes Go.WideShapes Go.ChangeAt Go.RowKit Go.Proofs.Ytjijbffecppeiaa.Opens Go.Proofs.Ytjijbffecppeiaa.StFnExactKeepText Go.Proofs.YtjijbffecppeiaaW.PrintWords
open Go.ChangeMaps (open_string shut_string)
set_option linter.unusedVariables false
set_option linter.unusedSimpArgs false
theorem own : ownKnob Try.prog.godebug = none := by kernel_rfl
theorem laidOut : laidOutB Try.prog = true := by kernel_rfl
set_option maxRecDepth 100000 in
theorem lifted (os : Os) (started : os.Started) (H : Type) (enc : TypeId × Value → H) :
    ReturnsInHanded {} Try.checked os 14 .any (Rows.fnExactKeepTextSpec.pre6 enc Try.prog Try.f14 Rows.fnExactKeepTextRow.domain false) (Rows.fnExactKeepTextSpec.post enc Try.prog Try.f14 false true false false) := by
  refine returnsInHanded_of_change_sized (C := Try.checked) own started (by kernel_rfl) Try.func14
    (ChangeSpec.witness6 (enc := enc) (C := Try.checked) false ⟨#[], #[.agg #[.slice none 0 0, .slice none 0 0]], []⟩ 8 (by kernel_rfl) (by kernel_rfl) (by kernel_rfl) (by kernel_rfl)) ?_
  intro W base args ds gs before hval0 hW hcnd hsz0 _
  have hsz : (DataW.weightsEach Try.prog (Try.f14.params.toList ++ Rows.fnExactKeepTextSpec.plain.varTypes Try.prog) (ds ++ gs)).all (· ≤ reachBytes) = true := hsz0
  have hval : ∀ (j : Nat) t v, Try.f14.params[j]? = some t → args[j]? = some v → Value.okWide Try.prog W .any base t v := hval0
  have hW' := hW
  obtain ⟨p, q, hA0, hV, rfl, hfz, hnd⟩ := hW
  have hA : DataW.TrodAll enc Try.prog W 0 (fun _ => true) true Try.f14.params.toList args.toList ds p := hA0
  rw [Try.params14] at hA hval hsz
  obtain ⟨v0, vs0, d0, ds0, p0, q0, hargs, rfl, rfl, h0, r0⟩ := trodAll_cons hA
  obtain ⟨rfl, rfl, rfl⟩ := trodAll_nil r0
  obtain rfl : args = #[v0] := by cases args; simp_all
  obtain ⟨rfl, rfl⟩ := trodVars_none hV
  have k0 := h0
  have lt0 : ∀ x ∈ p0, x.block < W.heap.size := by obtain ⟨m, hm⟩ := k0; exact DataW.trod_lt m _ _ _ hm
  obtain ⟨⟨a0_0, a0_1⟩, K0, ⟨f0_0, f0_1⟩⟩ := opens_arg (opens_struct Try.underlying36 (by kernel_rfl) (opensF_cons rfl (opens_slice 174 Try.underlying33 (by kernel_rfl) (o174) (B := 32) (by kernel_rfl)) rfl (opensF_one rfl (opens_slice 176 Try.underlying34 (by kernel_rfl) (o176) (B := 40) (by kernel_rfl))))) h0 hsz (j := 0) rfl rfl
  obtain ⟨cs0, rfl, hs0⟩ := okWide_struct Try.underlying36 (hval 0 36 v0 rfl rfl)
  obtain ⟨_, _, e0_0, ⟨A0_0, c0_0, rfl, hc0_0, hC0_0⟩, ⟨A0_1, c0_1, rfl, hc0_1, hC0_1⟩⟩ := K0
  obtain ⟨cs0⟩ := cs0
  obtain rfl : cs0 = _ := e0_0
  clear hA0 hval0 hsz0 hsz
  obtain ⟨k, hk⟩ := Pure.FnExactKeepText a0_0 a0_1 f0_0 f0_1
  refine (QFnExactKeepText.laws_FnExactKeepText.calls k _ _ a0_0 _ _ a0_1 true _ hC0_0 hc0_0 hC0_1 hc0_1 hk ⟨rfl⟩).mono fun e W' ⟨he, bel0⟩ => ?_
  have bel : Below W.heap.size W W' := bel0
  subst he
  exact ⟨_, rfl, _, _, _, [], _, [], hW', trodAll_mk1 (shut_bool Try.underlying4 _), (trodAll_cons_mk (Below.trod laidOut (by kernel_rfl) (of_decide_eq_true (by kernel_rfl)) k0 bel lt0) trodAll_mk0), rfl, bel.frame _, fun h => by cases h⟩
theorem over : Rows.fnExactKeepTextRow.holds Try.pinned (OpenSpec.ofChange Rows.fnExactKeepTextSpec) :=
  OpenClaim.holds_of_wide 14 Try.f14 rfl rfl rfl rfl rfl rfl rfl ⟨rfl, rfl, rfl, rfl, rfl⟩ rfl rfl rfl rfl rfl (by kernel_rfl) Try.func14 (by kernel_rfl)
    (of_decide_eq_true (by kernel_rfl)) (by unfold Func.isWrapper; first | (rw [if_pos (by decide +kernel)]; kernel_rfl) | (rw [if_neg (by decide +kernel)]; exact ⟨rfl, rfl⟩))
    (fun os started H enc _ => lifted os started H enc)
theorem proved : Rows.FnExactKeepTextSaid := over
#print axioms proved
end Go.Proofs.Ytjijbffecppeiaa.fnExactKeepText
namespace Go.Proofs.Ytjijbffecppeiaa
/-- The row, under a short name, for the claim. -/
theorem fnExactKeepText_holds : Rows.FnExactKeepTextSaid := fnExactKeepText.proved
end Go.Proofs.Ytjijbffecppeiaa
