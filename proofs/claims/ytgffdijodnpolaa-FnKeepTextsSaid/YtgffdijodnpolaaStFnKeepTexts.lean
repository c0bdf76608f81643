/- What the parameters of the law 'FnKeepTexts' read as, and its pure statement. No condition beyond the reading itself. -/
import Derived.Test.YtgffdijodnpolaaQFnKeepTextsx0
import Derived.Test.YtgffdijodnpolaaQFnKeepTextsx1
import Derived.Test.YtgffdijodnpolaaQFnKeepTextsx2
import Derived.Test.YtgffdijodnpolaaQFnKeepTextsx3
import Derived.Test.YtgffdijodnpolaaQFnKeepTextsx4
import Derived.Test.YtgffdijodnpolaaQFnKeepTextsx5
import Derived.Test.YtgffdijodnpolaaQFnKeepTextsx6
import Derived.Test.YtgffdijodnpolaaQFnKeepTextsx7
import Derived.Test.YtgffdijodnpolaaQFnKeepTextsx8
import Derived.Test.YtgffdijodnpolaaQFnKeepTextsx9
import Derived.Test.YtgffdijodnpolaaQFnKeepTextsx10
import Derived.Test.YtgffdijodnpolaaQFnKeepTextsx11
import Derived.Test.YtgffdijodnpolaaQFnKeepTextsx12
import Derived.Test.YtgffdijodnpolaaQFnKeepTextsx13
import Derived.Test.YtgffdijodnpolaaVFnKeepTextsOpens
import Derived.KernelRfl
namespace Go.Proofs.Ytgffdijodnpolaa.StFnKeepTexts
open Go.RowKit Go.Proofs.Ytgffdijodnpolaa.QFnKeepTexts Go.Proofs.YtgffdijodnpolaaW.PrintWords Go.Proofs.Ytgffdijodnpolaa.Opens
set_option maxRecDepth 100000

/-- The pure statement. -/
def Pure : Prop := ∀ (l0 : List Int), (wfList 1 (wfInt .u8)) l0 → ∃ k, laws_FnKeepTexts.f k l0 = some true
end Go.Proofs.Ytgffdijodnpolaa.StFnKeepTexts
