/- What the parameters of the law 'FnExactPush' read as, and its pure statement. No condition beyond the reading itself. -/
import Derived.Test.YtmknnoeggkgkgaaQFnExactPushx0
import Derived.Test.YtmknnoeggkgkgaaQFnExactPushx1
import Derived.Test.YtmknnoeggkgkgaaQFnExactPushx2
import Derived.Test.YtmknnoeggkgkgaaQFnExactPushx3
import Derived.Test.YtmknnoeggkgkgaaQFnExactPushx4
import Derived.Test.YtmknnoeggkgkgaaQFnExactPushx5
import Derived.Test.YtmknnoeggkgkgaaQFnExactPushx6
import Derived.Test.YtmknnoeggkgkgaaQFnExactPushx7
import Derived.Test.YtmknnoeggkgkgaaQFnExactPushx8
import Derived.Test.YtmknnoeggkgkgaaQFnExactPushx9
import Derived.Test.YtmknnoeggkgkgaaQFnExactPushx10
import Derived.Test.YtmknnoeggkgkgaaQFnExactPushx11
import Derived.Test.YtmknnoeggkgkgaaQFnExactPushx12
import Derived.Test.YtmknnoeggkgkgaaQFnExactPushx13
import Derived.Test.YtmknnoeggkgkgaaQFnExactPushx14
import Derived.Test.YtmknnoeggkgkgaaVFnExactPushOpens
import Derived.KernelRfl
namespace Go.Proofs.Ytmknnoeggkgkgaa.StFnExactPush
open Go.RowKit Go.Proofs.Ytmknnoeggkgkgaa.QFnExactPush Go.Proofs.YtmknnoeggkgkgaaW.PrintWords Go.Proofs.Ytmknnoeggkgkgaa.Opens
set_option maxRecDepth 100000
def wf152 (x : S152) : Prop := (wfPair (wfInt .i64) (wfStr)) (x.f0, x.f1)
theorem o152 : Opens Try.prog 152 k152 wf152 :=
  opens_iso (fun x : S152 => (x.f0, x.f1)) (fun a => ⟨a.1, a.2⟩) (fun a => rfl) (opens_struct Try.underlying152 (by kernel_rfl) (opensF_cons rfl (opens_int (k := .i64) Try.underlying3 (by kernel_rfl)) rfl (opensF_one rfl (opens_string Try.underlying9 (by kernel_rfl)))))
/-- The pure statement. -/
def Pure : Prop := ∀ (a0_0 : Int) (a0_1 : Int) (a0_2 : Int) (a0_3 : Int) (a0_4 : ByteArray) (a0_5 : Int) (a0_6 : Int) (a0_7 : Bool) (a0_8 : ByteArray) (a0_9 : List S152) (a0_10 : Bool) (a0_11 : Int) (a0_12 : Int) (a1 : Int), wfInt .i64 a0_0 → wfInt .i64 a0_1 → wfInt .i64 a0_2 → wfInt .i64 a0_3 → wfStr a0_4 → wfInt .i64 a0_5 → wfInt .i64 a0_6 → wfBool a0_7 → wfStr a0_8 → (wfList 24 (wf152)) a0_9 → wfBool a0_10 → wfInt .i64 a0_11 → wfInt .i64 a0_12 → wfInt .i64 a1 → ∃ k, laws_FnExactPush.f k a0_0 a0_1 a0_2 a0_3 a0_4 a0_5 a0_6 a0_7 a0_8 a0_9 a0_10 a0_11 a0_12 a1 = some true
end Go.Proofs.Ytmknnoeggkgkgaa.StFnExactPush
