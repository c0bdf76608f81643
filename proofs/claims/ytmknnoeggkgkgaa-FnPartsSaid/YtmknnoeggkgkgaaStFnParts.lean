/- What the parameters of the law 'FnParts' read as, and its pure statement. No condition beyond the reading itself. -/
import Derived.Test.YtmknnoeggkgkgaaQFnPartsx0
import Derived.Test.YtmknnoeggkgkgaaQFnPartsx1
import Derived.Test.YtmknnoeggkgkgaaQFnPartsx2
import Derived.Test.YtmknnoeggkgkgaaQFnPartsx3
import Derived.Test.YtmknnoeggkgkgaaQFnPartsx4
import Derived.Test.YtmknnoeggkgkgaaQFnPartsx5
import Derived.Test.YtmknnoeggkgkgaaQFnPartsx6
import Derived.Test.YtmknnoeggkgkgaaQFnPartsx7
import Derived.Test.YtmknnoeggkgkgaaQFnPartsx8
import Derived.Test.YtmknnoeggkgkgaaOpens
import Derived.KernelRfl
namespace Go.Proofs.Ytmknnoeggkgkgaa.StFnParts
open Go.RowKit Go.Proofs.Ytmknnoeggkgkgaa.QFnParts Go.Proofs.YtmknnoeggkgkgaaW.PrintWords Go.Proofs.Ytmknnoeggkgkgaa.Opens
set_option maxRecDepth 100000

/-- The pure statement. -/
def Pure : Prop := ∀ (l0 : List Int), (wfList 1 (wfInt .u8)) l0 → ∃ k, laws_FnParts.f k l0 = some true
end Go.Proofs.Ytmknnoeggkgkgaa.StFnParts
