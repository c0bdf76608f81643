/- What the parameters of the law 'FnExactItemOf' read as, and its pure statement. No condition beyond the reading itself. -/
import Derived.Test.YtakapoionaaimaaPFnExactItemOfx0
import Derived.Test.YtakapoionaaimaaPFnExactItemOfx1
import Derived.Test.YtakapoionaaimaaPFnExactItemOfx2
import Derived.Test.YtakapoionaaimaaPFnExactItemOfx3
import Derived.Test.YtakapoionaaimaaPFnExactItemOfx4
import Derived.Test.YtakapoionaaimaaOpens
import Derived.KernelRfl
namespace Go.Proofs.Ytakapoionaaimaa.StFnExactItemOf
open Go.RowKit Go.Proofs.Ytakapoionaaimaa.PFnExactItemOf Go.Proofs.YtakapoionaaimaaW.PrintWords Go.Proofs.Ytakapoionaaimaa.Opens
set_option maxRecDepth 100000
def wf161 (x : S161) : Prop := (wfPair (wfInt .i64) (wfPair (wfInt .i64) (wfStr))) (x.f0, x.f1, x.f2)
theorem o161 : Opens Try.prog 161 k161 wf161 :=
  opens_iso (fun x : S161 => (x.f0, x.f1, x.f2)) (fun a => ⟨a.1, a.2.1, a.2.2⟩) (fun a => rfl) (opens_struct Try.underlying161 (by kernel_rfl) (opensF_cons rfl (opens_int (k := .i64) Try.underlying3 (by kernel_rfl)) rfl (opensF_cons rfl (opens_int (k := .i64) Try.underlying3 (by kernel_rfl)) rfl (opensF_one rfl (opens_string Try.underlying9 (by kernel_rfl))))))
def wf163 (x : S163) : Prop := (wfPair (wfStr) (wfPair (wfStr) (wfInt .i64))) (x.f0, x.f1, x.f2)
theorem o163 : Opens Try.prog 163 k163 wf163 :=
  opens_iso (fun x : S163 => (x.f0, x.f1, x.f2)) (fun a => ⟨a.1, a.2.1, a.2.2⟩) (fun a => rfl) (opens_struct Try.underlying163 (by kernel_rfl) (opensF_cons rfl (opens_string Try.underlying9 (by kernel_rfl)) rfl (opensF_cons rfl (opens_string Try.underlying9 (by kernel_rfl)) rfl (opensF_one rfl (opens_int (k := .i64) Try.underlying3 (by kernel_rfl))))))
/-- The pure statement. -/
def Pure : Prop := ∀ (a0_0 : List S161) (a0_1 : List S163) (a1 : ByteArray), (wfList 32 (wf161)) a0_0 → (wfList 40 (wf163)) a0_1 → wfStr a1 → ∃ k, laws_FnExactItemOf.f k a0_0 a0_1 a1 = some true
end Go.Proofs.Ytakapoionaaimaa.StFnExactItemOf
