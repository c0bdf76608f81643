/- What the parameters of the law 'FnExactKeepOk' read as, and its pure statement. No condition beyond the reading itself. -/
import Derived.Test.YtjijbffecppeiaaQFnExactKeepOkx0
import Derived.Test.YtjijbffecppeiaaQFnExactKeepOkx1
import Derived.Test.YtjijbffecppeiaaQFnExactKeepOkx2
import Derived.Test.YtjijbffecppeiaaQFnExactKeepOkx3
import Derived.Test.YtjijbffecppeiaaQFnExactKeepOkx4
import Derived.Test.YtjijbffecppeiaaQFnExactKeepOkx5
import Derived.Test.YtjijbffecppeiaaQFnExactKeepOkx6
import Derived.Test.YtjijbffecppeiaaQFnExactKeepOkx7
import Derived.Test.YtjijbffecppeiaaQFnExactKeepOkx8
import Derived.Test.YtjijbffecppeiaaOpens
import Derived.KernelRfl
namespace Go.Proofs.Ytjijbffecppeiaa.StFnExactKeepOk
open Go.RowKit Go.Proofs.Ytjijbffecppeiaa.QFnExactKeepOk Go.Proofs.YtjijbffecppeiaaW.PrintWords Go.Proofs.Ytjijbffecppeiaa.Opens
set_option maxRecDepth 100000
def wf174 (x : S174) : Prop := (wfPair (wfInt .i64) (wfPair (wfInt .i64) (wfStr))) (x.f0, x.f1, x.f2)
theorem o174 : Opens Try.prog 174 k174 wf174 :=
  opens_iso (fun x : S174 => (x.f0, x.f1, x.f2)) (fun a => ⟨a.1, a.2.1, a.2.2⟩) (fun a => rfl) (opens_struct Try.underlying174 (by kernel_rfl) (opensF_cons rfl (opens_int (k := .i64) Try.underlying3 (by kernel_rfl)) rfl (opensF_cons rfl (opens_int (k := .i64) Try.underlying3 (by kernel_rfl)) rfl (opensF_one rfl (opens_string Try.underlying9 (by kernel_rfl))))))
def wf176 (x : S176) : Prop := (wfPair (wfStr) (wfPair (wfStr) (wfInt .i64))) (x.f0, x.f1, x.f2)
theorem o176 : Opens Try.prog 176 k176 wf176 :=
  opens_iso (fun x : S176 => (x.f0, x.f1, x.f2)) (fun a => ⟨a.1, a.2.1, a.2.2⟩) (fun a => rfl) (opens_struct Try.underlying176 (by kernel_rfl) (opensF_cons rfl (opens_string Try.underlying9 (by kernel_rfl)) rfl (opensF_cons rfl (opens_string Try.underlying9 (by kernel_rfl)) rfl (opensF_one rfl (opens_int (k := .i64) Try.underlying3 (by kernel_rfl))))))
/-- The pure statement. -/
def Pure : Prop := ∀ (a0_0 : List S174) (a0_1 : List S176), (wfList 32 (wf174)) a0_0 → (wfList 40 (wf176)) a0_1 → ∃ k, laws_FnExactKeepOk.f k a0_0 a0_1 = some true
end Go.Proofs.Ytjijbffecppeiaa.StFnExactKeepOk
