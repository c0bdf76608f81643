/- The law 'FnExactEncode' of the given program answers true at every input, and each argument reads behind the call as it read before it. No condition. -/
import Derived.Test.YthgjcijcmacpmaaRows
import Derived.Test.YthgjcijcmacpmaaStFnExactEncode
import Derived.Test.YthgjcijcmacpmaaPureFnExactEncode
import Derived.WalkKit
import Derived.ProofKit
import Derived.OpenShut
import Derived.ShutString
import Derived.ChangeOld
import Derived.Below
import Derived.Carry
import Derived.SizedLaws
namespace Go.Proofs.Ythgjcijcmacpmaa.fnExactEncode
open Go.ChangeShapes Go.WideShapes Go.ChangeAt Go.RowKit Go.Proofs.Ythgjcijcmacpmaa.Opens Go.Proofs.Ythgjcijcmacpmaa.StFnExactEncode Go.Proofs.YthgjcijcmacpmaaW.PrintWords
open Go.ChangeMaps (open_string shut_string)
set_option linter.unusedVariables false
set_option linter.unusedSimpArgs false
theorem own : ownKnob Try.prog.godebug = none := by kernel_rfl
theorem laidOut : laidOutB Try.prog = true := by kernel_rfl
set_option maxRecDepth 100000 in
theorem lifted (os : Os) (started : os.Started) (H : Type) (enc : TypeId × Value → H) :
    ReturnsInHanded {} Try.checked os 6 .any (Rows.fnExactEncodeSpec.pre6 enc Try.prog Try.f6 Rows.fnExactEncodeRow.domain false) (Rows.fnExactEncodeSpec.post enc Try.prog Try.f6 false true false false) := by
  refine returnsInHanded_of_change_sized (C := Try.checked) own started (by kernel_rfl) Try.func6
    (ChangeSpec.witness6 (enc := enc) (C := Try.checked) false ⟨#[], #[.agg #[.int .i64 0, .int .i64 0, .int .i64 0, .int .i64 0, .int .i64 0, .int .i64 0, .int .i64 0, .bool false, .slice none 0 0, .slice none 0 0, .string ByteArray.empty, .bool false]], []⟩ 8 (by kernel_rfl) (by kernel_rfl) (by kernel_rfl) (by kernel_rfl)) ?_
  intro W base args ds gs before hval0 hW hcnd hsz0 _
  have hsz : (DataW.weightsEach Try.prog (Try.f6.params.toList ++ Rows.fnExactEncodeSpec.plain.varTypes Try.prog) (ds ++ gs)).all (· ≤ reachBytes) = true := hsz0
  have hval : ∀ (j : Nat) t v, Try.f6.params[j]? = some t → args[j]? = some v → Value.okWide Try.prog W .any base t v := hval0
  have hW' := hW
  obtain ⟨p, q, hA0, hV, rfl, hfz, hnd⟩ := hW
  have hA : DataW.TrodAll enc Try.prog W 0 (fun _ => true) true Try.f6.params.toList args.toList ds p := hA0
  rw [Try.params6] at hA hval hsz
  obtain ⟨v0, vs0, d0, ds0, p0, q0, hargs, rfl, rfl, h0, r0⟩ := trodAll_cons hA
  obtain ⟨rfl, rfl, rfl⟩ := trodAll_nil r0
  obtain rfl : args = #[v0] := by cases args; simp_all
  obtain ⟨rfl, rfl⟩ := trodVars_none hV
  have k0 := h0
  have lt0 : ∀ x ∈ p0, x.block < W.heap.size := by obtain ⟨m, hm⟩ := k0; exact DataW.trod_lt m _ _ _ hm
  obtain ⟨⟨a0_0, a0_1, a0_2, a0_3, a0_4, a0_5, a0_6, a0_7, a0_8, a0_9, a0_10, a0_11⟩, K0, ⟨f0_0, f0_1, f0_2, f0_3, f0_4, f0_5, f0_6, f0_7, f0_8, f0_9, f0_10, f0_11⟩⟩ := opens_arg (opens_struct Try.underlying25 (by kernel_rfl) (opensF_cons rfl (opens_int (k := .i64) Try.underlying3 (by kernel_rfl)) rfl (opensF_cons rfl (opens_int (k := .i64) Try.underlying3 (by kernel_rfl)) rfl (opensF_cons rfl (opens_int (k := .i64) Try.underlying3 (by kernel_rfl)) rfl (opensF_cons rfl (opens_int (k := .i64) Try.underlying3 (by kernel_rfl)) rfl (opensF_cons rfl (opens_int (k := .i64) Try.underlying3 (by kernel_rfl)) rfl (opensF_cons rfl (opens_int (k := .i64) Try.underlying3 (by kernel_rfl)) rfl (opensF_cons rfl (opens_int (k := .i64) Try.underlying3 (by kernel_rfl)) rfl (opensF_cons rfl (opens_bool Try.underlying4 (by kernel_rfl)) rfl (opensF_cons rfl (opens_slice 142 Try.underlying22 (by kernel_rfl) (o142) (B := 32) (by kernel_rfl)) rfl (opensF_cons rfl (opens_slice 3 Try.underlying23 (by kernel_rfl) (opens_int (k := .i64) Try.underlying3 (by kernel_rfl)) (B := 8) (by kernel_rfl)) rfl (opensF_cons rfl (opens_string Try.underlying9 (by kernel_rfl)) rfl (opensF_one rfl (opens_bool Try.underlying4 (by kernel_rfl))))))))))))))) h0 hsz (j := 0) rfl rfl
  obtain ⟨cs0, rfl, hs0⟩ := okWide_struct Try.underlying25 (hval 0 25 v0 rfl rfl)
  obtain ⟨_, _, e0_0, rfl, ⟨_, _, rfl, rfl, ⟨_, _, rfl, rfl, ⟨_, _, rfl, rfl, ⟨_, _, rfl, rfl, ⟨_, _, rfl, rfl, ⟨_, _, rfl, rfl, ⟨_, _, rfl, rfl, ⟨_, _, rfl, ⟨A0_8, c0_8, rfl, hc0_8, hC0_8⟩, ⟨_, _, rfl, ⟨A0_9, c0_9, rfl, hc0_9, hC0_9⟩, ⟨_, _, rfl, rfl, rfl⟩⟩⟩⟩⟩⟩⟩⟩⟩⟩⟩ := K0
  obtain ⟨cs0⟩ := cs0
  obtain rfl : cs0 = _ := e0_0
  clear hA0 hval0 hsz0 hsz
  obtain ⟨k, hk⟩ := Pure.FnExactEncode a0_0 a0_1 a0_2 a0_3 a0_4 a0_5 a0_6 a0_7 a0_8 a0_9 a0_10 a0_11 f0_0 f0_1 f0_2 f0_3 f0_4 f0_5 f0_6 f0_7 f0_8 f0_9 f0_10 f0_11
  refine (QFnExactEncode.laws_FnExactEncode.calls k a0_0 a0_1 a0_2 a0_3 a0_4 a0_5 a0_6 a0_7 _ _ a0_8 _ _ a0_9 a0_10 a0_11 true _ hC0_8 hc0_8 hC0_9 hc0_9 hk ⟨rfl⟩).mono fun e W' ⟨he, bel0⟩ => ?_
  have bel : Below W.heap.size W W' := bel0
  subst he
  exact ⟨_, rfl, _, _, _, [], _, [], hW', trodAll_mk1 (shut_bool Try.underlying4 _), (trodAll_cons_mk (Below.trod laidOut (by kernel_rfl) (of_decide_eq_true (by kernel_rfl)) k0 bel lt0) trodAll_mk0), rfl, bel.frame _, fun h => by cases h⟩
theorem over : Rows.fnExactEncodeRow.holds Try.pinned (OpenSpec.ofChange Rows.fnExactEncodeSpec) :=
  OpenClaim.holds_of_wide 6 Try.f6 rfl rfl rfl rfl rfl rfl rfl ⟨rfl, rfl, rfl, rfl, rfl⟩ rfl rfl rfl rfl rfl (by kernel_rfl) Try.func6 (by kernel_rfl)
    (of_decide_eq_true (by kernel_rfl)) (by unfold Func.isWrapper; first | (rw [if_pos (by decide +kernel)]; kernel_rfl) | (rw [if_neg (by decide +kernel)]; exact ⟨rfl, rfl⟩))
    (fun os started H enc _ => lifted os started H enc)
theorem proved : Rows.FnExactEncodeSaid := over
#print axioms proved
end Go.Proofs.Ythgjcijcmacpmaa.fnExactEncode
namespace Go.Proofs.Ythgjcijcmacpmaa
/-- The row, under a short name, for the claim. -/
theorem fnExactEncode_holds : Rows.FnExactEncodeSaid := fnExactEncode.proved
end Go.Proofs.Ythgjcijcmacpmaa
