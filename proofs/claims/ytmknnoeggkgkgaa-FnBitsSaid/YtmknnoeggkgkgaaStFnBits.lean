/- What the parameters of the law 'FnBits' read as, and its pure statement. No condition beyond the reading itself. -/
import Derived.Test.YtmknnoeggkgkgaaQFnBitsx0
import Derived.Test.YtmknnoeggkgkgaaQFnBitsx1
import Derived.Test.YtmknnoeggkgkgaaQFnBitsx2
import Derived.Test.YtmknnoeggkgkgaaQFnBitsx3
import Derived.Test.YtmknnoeggkgkgaaQFnBitsx4
import Derived.Test.YtmknnoeggkgkgaaQFnBitsx5
import Derived.Test.YtmknnoeggkgkgaaQFnBitsx6
import Derived.Test.YtmknnoeggkgkgaaQFnBitsx7
import Derived.Test.YtmknnoeggkgkgaaQFnBitsx8
import Derived.Test.YtmknnoeggkgkgaaQFnBitsx9
import Derived.Test.YtmknnoeggkgkgaaQFnBitsx10
import Derived.Test.YtmknnoeggkgkgaaQFnBitsx11
import Derived.Test.YtmknnoeggkgkgaaVFnBitsOpens
import Derived.KernelRfl
namespace Go.Proofs.Ytmknnoeggkgkgaa.StFnBits
open Go.RowKit Go.Proofs.Ytmknnoeggkgkgaa.QFnBits Go.Proofs.YtmknnoeggkgkgaaW.PrintWords Go.Proofs.Ytmknnoeggkgkgaa.Opens
set_option maxRecDepth 100000

/-- The pure statement. -/
def Pure : Prop := ∀ (l0 : List Int), (wfList 1 (wfInt .u8)) l0 → ∃ k, laws_FnBits.f k l0 = some true
end Go.Proofs.Ytmknnoeggkgkgaa.StFnBits
