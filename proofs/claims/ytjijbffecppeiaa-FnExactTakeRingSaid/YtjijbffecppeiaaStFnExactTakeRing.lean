/- What the parameters of the law 'FnExactTakeRing' read as, and its pure statement. No condition beyond the reading itself. -/
import Derived.Test.YtjijbffecppeiaaQFnExactTakeRingx0
import Derived.Test.YtjijbffecppeiaaQFnExactTakeRingx1
import Derived.Test.YtjijbffecppeiaaQFnExactTakeRingx2
import Derived.Test.YtjijbffecppeiaaQFnExactTakeRingx3
import Derived.Test.YtjijbffecppeiaaQFnExactTakeRingx4
import Derived.Test.YtjijbffecppeiaaQFnExactTakeRingx5
import Derived.Test.YtjijbffecppeiaaQFnExactTakeRingx6
import Derived.Test.YtjijbffecppeiaaQFnExactTakeRingx7
import Derived.Test.YtjijbffecppeiaaQFnExactTakeRingx8
import Derived.Test.YtjijbffecppeiaaOpens
import Derived.KernelRfl
namespace Go.Proofs.Ytjijbffecppeiaa.StFnExactTakeRing
open Go.RowKit Go.Proofs.Ytjijbffecppeiaa.QFnExactTakeRing Go.Proofs.YtjijbffecppeiaaW.PrintWords Go.Proofs.Ytjijbffecppeiaa.Opens
set_option maxRecDepth 100000
def wf185 (x : S185) : Prop := (wfPair (wfInt .i64) (wfStr)) (x.f0, x.f1)
theorem o185 : Opens Try.prog 185 k185 wf185 :=
  opens_iso (fun x : S185 => (x.f0, x.f1)) (fun a => ⟨a.1, a.2⟩) (fun a => rfl) (opens_struct Try.underlying185 (by kernel_rfl) (opensF_cons rfl (opens_int (k := .i64) Try.underlying3 (by kernel_rfl)) rfl (opensF_one rfl (opens_string Try.underlying9 (by kernel_rfl)))))
/-- The pure statement. -/
def Pure : Prop := ∀ (a0_0 : List S185) (a0_1 : Int) (a0_2 : Int), (wfList 24 (wf185)) a0_0 → wfInt .i64 a0_1 → wfInt .i64 a0_2 → ∃ k, laws_FnExactTakeRing.f k a0_0 a0_1 a0_2 = some true
end Go.Proofs.Ytjijbffecppeiaa.StFnExactTakeRing
