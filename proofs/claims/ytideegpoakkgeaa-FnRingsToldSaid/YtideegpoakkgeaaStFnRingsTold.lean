/- What the parameters of the law 'FnRingsTold' read as, and its pure statement. No condition beyond the reading itself. -/
import Derived.Test.YtideegpoakkgeaaQFnRingsToldx0
import Derived.Test.YtideegpoakkgeaaQFnRingsToldx1
import Derived.Test.YtideegpoakkgeaaQFnRingsToldx2
import Derived.Test.YtideegpoakkgeaaQFnRingsToldx3
import Derived.Test.YtideegpoakkgeaaQFnRingsToldx4
import Derived.Test.YtideegpoakkgeaaQFnRingsToldx5
import Derived.Test.YtideegpoakkgeaaQFnRingsToldx6
import Derived.Test.YtideegpoakkgeaaQFnRingsToldx7
import Derived.Test.YtideegpoakkgeaaQFnRingsToldx8
import Derived.Test.YtideegpoakkgeaaQFnRingsToldx9
import Derived.Test.YtideegpoakkgeaaVFnRingsToldOpens
import Derived.KernelRfl
namespace Go.Proofs.Ytideegpoakkgeaa.StFnRingsTold
open Go.RowKit Go.Proofs.Ytideegpoakkgeaa.QFnRingsTold Go.Proofs.YtideegpoakkgeaaW.PrintWords Go.Proofs.Ytideegpoakkgeaa.Opens
set_option maxRecDepth 100000

/-- The pure statement. -/
def Pure : Prop := ∀ (l0 : List Int), (wfList 1 (wfInt .u8)) l0 → ∃ k, laws_FnRingsTold.f k l0 = some true
end Go.Proofs.Ytideegpoakkgeaa.StFnRingsTold
