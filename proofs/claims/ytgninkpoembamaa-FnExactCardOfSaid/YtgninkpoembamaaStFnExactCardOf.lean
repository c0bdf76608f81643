/- What the parameters of the law 'FnExactCardOf' read as, and its pure statement. No condition beyond the reading itself. -/
import Derived.Test.YtgninkpoembamaaPFnExactCardOfx0
import Derived.Test.YtgninkpoembamaaPFnExactCardOfx1
import Derived.Test.YtgninkpoembamaaPFnExactCardOfx2
import Derived.Test.YtgninkpoembamaaOpens
import Derived.KernelRfl
namespace Go.Proofs.Ytgninkpoembamaa.StFnExactCardOf
open Go.RowKit Go.Proofs.Ytgninkpoembamaa.PFnExactCardOf Go.Proofs.YtgninkpoembamaaW.PrintWords Go.Proofs.Ytgninkpoembamaa.Opens
set_option maxRecDepth 100000
def wf89 (x : S89) : Prop := (wfPair (wfInt .i64) (wfInt .i64)) (x.f0, x.f1)
theorem o89 : Opens Try.prog 89 k89 wf89 :=
  opens_iso (fun x : S89 => (x.f0, x.f1)) (fun a => ⟨a.1, a.2⟩) (fun a => rfl) (opens_struct Try.underlying89 (by kernel_rfl) (opensF_cons rfl (opens_int (k := .i64) Try.underlying3 (by kernel_rfl)) rfl (opensF_one rfl (opens_int (k := .i64) Try.underlying3 (by kernel_rfl)))))
/-- The pure statement. -/
def Pure : Prop := ∀ (l0 : List S89) (a1 : Int), (wfList 16 (wf89)) l0 → wfInt .i64 a1 → ∃ k, laws_FnExactCardOf.f k l0 a1 = some true
end Go.Proofs.Ytgninkpoembamaa.StFnExactCardOf
