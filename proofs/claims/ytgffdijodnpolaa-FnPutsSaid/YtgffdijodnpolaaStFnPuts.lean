/- What the parameters of the law 'FnPuts' read as, and its pure statement. No condition beyond the reading itself. -/
import Derived.Test.YtgffdijodnpolaaQFnPutsx0
import Derived.Test.YtgffdijodnpolaaQFnPutsx1
import Derived.Test.YtgffdijodnpolaaQFnPutsx2
import Derived.Test.YtgffdijodnpolaaQFnPutsx3
import Derived.Test.YtgffdijodnpolaaQFnPutsx4
import Derived.Test.YtgffdijodnpolaaQFnPutsx5
import Derived.Test.YtgffdijodnpolaaQFnPutsx6
import Derived.Test.YtgffdijodnpolaaQFnPutsx7
import Derived.Test.YtgffdijodnpolaaQFnPutsx8
import Derived.Test.YtgffdijodnpolaaQFnPutsx9
import Derived.Test.YtgffdijodnpolaaQFnPutsx10
import Derived.Test.YtgffdijodnpolaaQFnPutsx11
import Derived.Test.YtgffdijodnpolaaQFnPutsx12
import Derived.Test.YtgffdijodnpolaaQFnPutsx13
import Derived.Test.YtgffdijodnpolaaQFnPutsx14
import Derived.Test.YtgffdijodnpolaaQFnPutsx15
import Derived.Test.YtgffdijodnpolaaQFnPutsx16
import Derived.Test.YtgffdijodnpolaaVFnPutsOpens
import Derived.KernelRfl
namespace Go.Proofs.Ytgffdijodnpolaa.StFnPuts
open Go.RowKit Go.Proofs.Ytgffdijodnpolaa.QFnPuts Go.Proofs.YtgffdijodnpolaaW.PrintWords Go.Proofs.Ytgffdijodnpolaa.Opens
set_option maxRecDepth 100000

/-- The pure statement. -/
def Pure : Prop := ∀ (l0 : List Int), (wfList 1 (wfInt .u8)) l0 → ∃ k, laws_FnPuts.f k l0 = some true
end Go.Proofs.Ytgffdijodnpolaa.StFnPuts
