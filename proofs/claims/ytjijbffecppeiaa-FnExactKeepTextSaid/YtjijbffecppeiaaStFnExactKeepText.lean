/- What the parameters of the law 'FnExactKeepText' read as, and its pure statement. No condition beyond the reading itself. -/
import Derived.Test.YtjijbffecppeiaaQFnExactKeepTextx0
import Derived.Test.YtjijbffecppeiaaQFnExactKeepTextx1
import Derived.Test.YtjijbffecppeiaaQFnExactKeepTextx2
import Derived.Test.YtjijbffecppeiaaQFnExactKeepTextx3
import Derived.Test.YtjijbffecppeiaaQFnExactKeepTextx4
import Derived.Test.YtjijbffecppeiaaQFnExactKeepTextx5
import Derived.Test.YtjijbffecppeiaaQFnExactKeepTextx6
import Derived.Test.YtjijbffecppeiaaQFnExactKeepTextx7
import Derived.Test.YtjijbffecppeiaaQFnExactKeepTextx8
import Derived.Test.YtjijbffecppeiaaQFnExactKeepTextx9
import Derived.Test.YtjijbffecppeiaaQFnExactKeepTextx10
import Derived.Test.YtjijbffecppeiaaQFnExactKeepTextx11
import Derived.Test.YtjijbffecppeiaaVFnExactKeepTextOpens
import Derived.KernelRfl
namespace Go.Proofs.Ytjijbffecppeiaa.StFnExactKeepText
open Go.RowKit Go.Proofs.Ytjijbffecppeiaa.QFnExactKeepText Go.Proofs.YtjijbffecppeiaaW.PrintWords Go.Proofs.Ytjijbffecppeiaa.Opens
set_option maxRecDepth 100000
def wf174 (x : S174) : Prop := (wfPair (wfInt .i64) (wfPair (wfInt .i64) (wfStr))) (x.f0, x.f1, x.f2)
theorem o174 : Opens Try.prog 174 k174 wf174 :=
  opens_iso (fun x : S174 => (x.f0, x.f1, x.f2)) (fun a => ⟨a.1, a.2.1, a.2.2⟩) (fun a => rfl) (opens_struct Try.underlying174 (by kernel_rfl) (opensF_cons rfl (opens_int (k := .i64) Try.underlying3 (by kernel_rfl)) rfl (opensF_cons rfl (opens_int (k := .i64) Try.underlying3 (by kernel_rfl)) rfl (opensF_one rfl (opens_string Try.underlying9 (by kernel_rfl))))))
def wf176 (x : S176) : Prop := (wfPair (wfStr) (wfPair (wfStr) (wfInt .i64))) (x.f0, x.f1, x.f2)
theorem o176 : Opens Try.prog 176 k176 wf176 :=
  opens_iso (fun x : S176 => (x.f0, x.f1, x.f2)) (fun a => ⟨a.1, a.2.1, a.2.2⟩) (fun a => rfl) (opens_struct Try.underlying176 (by kernel_rfl) (opensF_cons rfl (opens_string Try.underlying9 (by kernel_rfl)) rfl (opensF_cons rfl (opens_string Try.underlying9 (by kernel_rfl)) rfl (opensF_one rfl (opens_int (k := .i64) Try.underlying3 (by kernel_rfl))))))
/-- The pure statement. -/
def Pure : Prop := ∀ (a0_0 : List S174) (a0_1 : List S176), (wfList 32 (wf174)) a0_0 → (wfList 40 (wf176)) a0_1 → ∃ k, laws_FnExactKeepText.f k a0_0 a0_1 = some true
end Go.Proofs.Ytjijbffecppeiaa.StFnExactKeepText
