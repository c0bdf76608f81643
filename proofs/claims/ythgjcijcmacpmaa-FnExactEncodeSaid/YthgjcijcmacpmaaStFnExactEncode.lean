/- What the parameters of the law 'FnExactEncode' read as, and its pure statement. No condition beyond the reading itself. -/
import Derived.Test.YthgjcijcmacpmaaQFnExactEncodex0
import Derived.Test.YthgjcijcmacpmaaQFnExactEncodex1
import Derived.Test.YthgjcijcmacpmaaQFnExactEncodex2
import Derived.Test.YthgjcijcmacpmaaQFnExactEncodex3
import Derived.Test.YthgjcijcmacpmaaQFnExactEncodex4
import Derived.Test.YthgjcijcmacpmaaQFnExactEncodex5
import Derived.Test.YthgjcijcmacpmaaQFnExactEncodex6
import Derived.Test.YthgjcijcmacpmaaQFnExactEncodex7
import Derived.Test.YthgjcijcmacpmaaQFnExactEncodex8
import Derived.Test.YthgjcijcmacpmaaQFnExactEncodex9
import Derived.Test.YthgjcijcmacpmaaQFnExactEncodex10
import Derived.Test.YthgjcijcmacpmaaQFnExactEncodex11
import Derived.Test.YthgjcijcmacpmaaQFnExactEncodex12
import Derived.Test.YthgjcijcmacpmaaQFnExactEncodex13
import Derived.Test.YthgjcijcmacpmaaVFnExactEncodeOpens
import Derived.KernelRfl
namespace Go.Proofs.Ythgjcijcmacpmaa.StFnExactEncode
open Go.RowKit Go.Proofs.Ythgjcijcmacpmaa.QFnExactEncode Go.Proofs.YthgjcijcmacpmaaW.PrintWords Go.Proofs.Ythgjcijcmacpmaa.Opens
set_option maxRecDepth 100000
def wf142 (x : S142) : Prop := (wfPair (wfInt .i64) (wfPair (wfInt .i64) (wfStr))) (x.f0, x.f1, x.f2)
theorem o142 : Opens Try.prog 142 k142 wf142 :=
  opens_iso (fun x : S142 => (x.f0, x.f1, x.f2)) (fun a => ⟨a.1, a.2.1, a.2.2⟩) (fun a => rfl) (opens_struct Try.underlying142 (by kernel_rfl) (opensF_cons rfl (opens_int (k := .i64) Try.underlying3 (by kernel_rfl)) rfl (opensF_cons rfl (opens_int (k := .i64) Try.underlying3 (by kernel_rfl)) rfl (opensF_one rfl (opens_string Try.underlying9 (by kernel_rfl))))))
/-- The pure statement. -/
def Pure : Prop := ∀ (a0_0 : Int) (a0_1 : Int) (a0_2 : Int) (a0_3 : Int) (a0_4 : Int) (a0_5 : Int) (a0_6 : Int) (a0_7 : Bool) (a0_8 : List S142) (a0_9 : List Int) (a0_10 : ByteArray) (a0_11 : Bool), wfInt .i64 a0_0 → wfInt .i64 a0_1 → wfInt .i64 a0_2 → wfInt .i64 a0_3 → wfInt .i64 a0_4 → wfInt .i64 a0_5 → wfInt .i64 a0_6 → wfBool a0_7 → (wfList 32 (wf142)) a0_8 → (wfList 8 (wfInt .i64)) a0_9 → wfStr a0_10 → wfBool a0_11 → ∃ k, laws_FnExactEncode.f k a0_0 a0_1 a0_2 a0_3 a0_4 a0_5 a0_6 a0_7 a0_8 a0_9 a0_10 a0_11 = some true
end Go.Proofs.Ythgjcijcmacpmaa.StFnExactEncode
