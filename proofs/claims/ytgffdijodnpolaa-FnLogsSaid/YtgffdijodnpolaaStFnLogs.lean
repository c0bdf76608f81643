/- What the parameters of the law 'FnLogs' read as, and its pure statement. No condition beyond the reading itself. -/
import Derived.Test.YtgffdijodnpolaaQFnLogsx0
import Derived.Test.YtgffdijodnpolaaQFnLogsx1
import Derived.Test.YtgffdijodnpolaaQFnLogsx2
import Derived.Test.YtgffdijodnpolaaQFnLogsx3
import Derived.Test.YtgffdijodnpolaaQFnLogsx4
import Derived.Test.YtgffdijodnpolaaQFnLogsx5
import Derived.Test.YtgffdijodnpolaaQFnLogsx6
import Derived.Test.YtgffdijodnpolaaQFnLogsx7
import Derived.Test.YtgffdijodnpolaaQFnLogsx8
import Derived.Test.YtgffdijodnpolaaQFnLogsx9
import Derived.Test.YtgffdijodnpolaaQFnLogsx10
import Derived.Test.YtgffdijodnpolaaQFnLogsx11
import Derived.Test.YtgffdijodnpolaaQFnLogsx12
import Derived.Test.YtgffdijodnpolaaQFnLogsx13
import Derived.Test.YtgffdijodnpolaaQFnLogsx14
import Derived.Test.YtgffdijodnpolaaQFnLogsx15
import Derived.Test.YtgffdijodnpolaaQFnLogsx16
import Derived.Test.YtgffdijodnpolaaVFnLogsOpens
import Derived.KernelRfl
namespace Go.Proofs.Ytgffdijodnpolaa.StFnLogs
open Go.RowKit Go.Proofs.Ytgffdijodnpolaa.QFnLogs Go.Proofs.YtgffdijodnpolaaW.PrintWords Go.Proofs.Ytgffdijodnpolaa.Opens
set_option maxRecDepth 100000

/-- The pure statement. -/
def Pure : Prop := ∀ (l0 : List Int), (wfList 1 (wfInt .u8)) l0 → ∃ k, laws_FnLogs.f k l0 = some true
end Go.Proofs.Ytgffdijodnpolaa.StFnLogs
