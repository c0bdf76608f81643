/- What the parameters of the law 'FnExactReadCommand' read as, and its pure statement. No condition beyond the reading itself. -/
import Derived.Test.YtideegpoakkgeaaQFnExactReadCommandx0
import Derived.Test.YtideegpoakkgeaaQFnExactReadCommandx1
import Derived.Test.YtideegpoakkgeaaQFnExactReadCommandx2
import Derived.Test.YtideegpoakkgeaaQFnExactReadCommandx3
import Derived.Test.YtideegpoakkgeaaQFnExactReadCommandx4
import Derived.Test.YtideegpoakkgeaaQFnExactReadCommandx5
import Derived.Test.YtideegpoakkgeaaQFnExactReadCommandx6
import Derived.Test.YtideegpoakkgeaaQFnExactReadCommandx7
import Derived.Test.YtideegpoakkgeaaQFnExactReadCommandx8
import Derived.Test.YtideegpoakkgeaaQFnExactReadCommandx9
import Derived.Test.YtideegpoakkgeaaQFnExactReadCommandx10
import Derived.Test.YtideegpoakkgeaaOpens
import Derived.KernelRfl
namespace Go.Proofs.Ytideegpoakkgeaa.StFnExactReadCommand
open Go.RowKit Go.Proofs.Ytideegpoakkgeaa.QFnExactReadCommand Go.Proofs.YtideegpoakkgeaaW.PrintWords Go.Proofs.Ytideegpoakkgeaa.Opens
set_option maxRecDepth 100000

/-- The pure statement. -/
def Pure : Prop := ∀ (a0 : ByteArray), wfStr a0 → ∃ k, laws_FnExactReadCommand.f k a0 = some true
end Go.Proofs.Ytideegpoakkgeaa.StFnExactReadCommand
