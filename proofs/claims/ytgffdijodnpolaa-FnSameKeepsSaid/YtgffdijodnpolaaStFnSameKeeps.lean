/- What the parameters of the law 'FnSameKeeps' read as, and its pure statement. No condition beyond the reading itself. -/
import Derived.Test.YtgffdijodnpolaaQFnSameKeepsx0
import Derived.Test.YtgffdijodnpolaaQFnSameKeepsx1
import Derived.Test.YtgffdijodnpolaaQFnSameKeepsx2
import Derived.Test.YtgffdijodnpolaaQFnSameKeepsx3
import Derived.Test.YtgffdijodnpolaaQFnSameKeepsx4
import Derived.Test.YtgffdijodnpolaaQFnSameKeepsx5
import Derived.Test.YtgffdijodnpolaaQFnSameKeepsx6
import Derived.Test.YtgffdijodnpolaaQFnSameKeepsx7
import Derived.Test.YtgffdijodnpolaaQFnSameKeepsx8
import Derived.Test.YtgffdijodnpolaaQFnSameKeepsx9
import Derived.Test.YtgffdijodnpolaaQFnSameKeepsx10
import Derived.Test.YtgffdijodnpolaaQFnSameKeepsx11
import Derived.Test.YtgffdijodnpolaaQFnSameKeepsx12
import Derived.Test.YtgffdijodnpolaaQFnSameKeepsx13
import Derived.Test.YtgffdijodnpolaaQFnSameKeepsx14
import Derived.Test.YtgffdijodnpolaaQFnSameKeepsx15
import Derived.Test.YtgffdijodnpolaaQFnSameKeepsx16
import Derived.Test.YtgffdijodnpolaaQFnSameKeepsx17
import Derived.Test.YtgffdijodnpolaaQFnSameKeepsx18
import Derived.Test.YtgffdijodnpolaaQFnSameKeepsx19
import Derived.Test.YtgffdijodnpolaaQFnSameKeepsx20
import Derived.Test.YtgffdijodnpolaaQFnSameKeepsx21
import Derived.Test.YtgffdijodnpolaaVFnSameKeepsOpens
import Derived.KernelRfl
namespace Go.Proofs.Ytgffdijodnpolaa.StFnSameKeeps
open Go.RowKit Go.Proofs.Ytgffdijodnpolaa.QFnSameKeeps Go.Proofs.YtgffdijodnpolaaW.PrintWords Go.Proofs.Ytgffdijodnpolaa.Opens
set_option maxRecDepth 100000

/-- The pure statement. -/
def Pure : Prop := ∀ (l0 : List Int), (wfList 1 (wfInt .u8)) l0 → ∃ k, laws_FnSameKeeps.f k l0 = some true
end Go.Proofs.Ytgffdijodnpolaa.StFnSameKeeps
