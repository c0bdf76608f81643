/- What the parameters of the law 'FnExactEndsNew' read as, and its pure statement. No condition beyond the reading itself. -/
import Derived.Test.YtmknnoeggkgkgaaQFnExactEndsNewx0
import Derived.Test.YtmknnoeggkgkgaaQFnExactEndsNewx1
import Derived.Test.YtmknnoeggkgkgaaQFnExactEndsNewx2
import Derived.Test.YtmknnoeggkgkgaaQFnExactEndsNewx3
import Derived.Test.YtmknnoeggkgkgaaQFnExactEndsNewx4
import Derived.Test.YtmknnoeggkgkgaaQFnExactEndsNewx5
import Derived.Test.YtmknnoeggkgkgaaQFnExactEndsNewx6
import Derived.Test.YtmknnoeggkgkgaaQFnExactEndsNewx7
import Derived.Test.YtmknnoeggkgkgaaQFnExactEndsNewx8
import Derived.Test.YtmknnoeggkgkgaaQFnExactEndsNewx9
import Derived.Test.YtmknnoeggkgkgaaQFnExactEndsNewx10
import Derived.Test.YtmknnoeggkgkgaaVFnExactEndsNewOpens
import Derived.KernelRfl
namespace Go.Proofs.Ytmknnoeggkgkgaa.StFnExactEndsNew
open Go.RowKit Go.Proofs.Ytmknnoeggkgkgaa.QFnExactEndsNew Go.Proofs.YtmknnoeggkgkgaaW.PrintWords Go.Proofs.Ytmknnoeggkgkgaa.Opens
set_option maxRecDepth 100000

/-- The pure statement. -/
def Pure : Prop := ∀ (a0 : Int) (a1 : Int), wfInt .i64 a0 → wfInt .i64 a1 → ∃ k, laws_FnExactEndsNew.f k a0 a1 = some true
end Go.Proofs.Ytmknnoeggkgkgaa.StFnExactEndsNew
