/- What the parameters of the law 'FnKnown' read as, and its pure statement. No condition beyond the reading itself. -/
import Derived.Test.YtgninkpoembamaaQFnKnownx0
import Derived.Test.YtgninkpoembamaaQFnKnownx1
import Derived.Test.YtgninkpoembamaaQFnKnownx2
import Derived.Test.YtgninkpoembamaaOpens
import Derived.KernelRfl
namespace Go.Proofs.Ytgninkpoembamaa.StFnKnown
open Go.RowKit Go.Proofs.Ytgninkpoembamaa.PFnKnown Go.Proofs.YtgninkpoembamaaW.PrintWords Go.Proofs.Ytgninkpoembamaa.Opens
set_option maxRecDepth 100000

/-- The pure statement. -/
def Pure : Prop := ∀ (l0 : List Int), (wfList 1 (wfInt .u8)) l0 → ∃ k, laws_FnKnown.f k l0 = some true
end Go.Proofs.Ytgninkpoembamaa.StFnKnown
