/- What the parameters of the law 'FnExactWrap' read as, and its pure statement. No condition beyond the reading itself. -/
import Derived.Test.YtmknnoeggkgkgaaQFnExactWrapx0
import Derived.Test.YtmknnoeggkgkgaaQFnExactWrapx1
import Derived.Test.YtmknnoeggkgkgaaQFnExactWrapx2
import Derived.Test.YtmknnoeggkgkgaaQFnExactWrapx3
import Derived.Test.YtmknnoeggkgkgaaQFnExactWrapx4
import Derived.Test.YtmknnoeggkgkgaaQFnExactWrapx5
import Derived.Test.YtmknnoeggkgkgaaQFnExactWrapx6
import Derived.Test.YtmknnoeggkgkgaaQFnExactWrapx7
import Derived.Test.YtmknnoeggkgkgaaQFnExactWrapx8
import Derived.Test.YtmknnoeggkgkgaaQFnExactWrapx9
import Derived.Test.YtmknnoeggkgkgaaQFnExactWrapx10
import Derived.Test.YtmknnoeggkgkgaaQFnExactWrapx11
import Derived.Test.YtmknnoeggkgkgaaVFnExactWrapOpens
import Derived.KernelRfl
namespace Go.Proofs.Ytmknnoeggkgkgaa.StFnExactWrap
open Go.RowKit Go.Proofs.Ytmknnoeggkgkgaa.QFnExactWrap Go.Proofs.YtmknnoeggkgkgaaW.PrintWords Go.Proofs.Ytmknnoeggkgkgaa.Opens
set_option maxRecDepth 100000

/-- The pure statement. -/
def Pure : Prop := ∀ (a0_0 : Int) (a0_1 : Int) (a0_2 : Int) (a0_3 : ByteArray) (a1 : Int) (a2 : Int) (a3 : Int), wfInt .i64 a0_0 → wfInt .i64 a0_1 → wfInt .i64 a0_2 → wfStr a0_3 → wfInt .i64 a1 → wfInt .i64 a2 → wfInt .i64 a3 → ∃ k, laws_FnExactWrap.f k a0_0 a0_1 a0_2 a0_3 a1 a2 a3 = some true
end Go.Proofs.Ytmknnoeggkgkgaa.StFnExactWrap
