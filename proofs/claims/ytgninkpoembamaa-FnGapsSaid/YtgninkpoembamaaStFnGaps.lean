/- What the parameters of the law 'FnGaps' read as, and its pure statement. No condition beyond the reading itself. -/
import Derived.Test.YtgninkpoembamaaQFnGapsx0
import Derived.Test.YtgninkpoembamaaQFnGapsx1
import Derived.Test.YtgninkpoembamaaQFnGapsx2
import Derived.Test.YtgninkpoembamaaOpens
import Derived.KernelRfl
namespace Go.Proofs.Ytgninkpoembamaa.StFnGaps
open Go.RowKit Go.Proofs.Ytgninkpoembamaa.PFnGaps Go.Proofs.YtgninkpoembamaaW.PrintWords Go.Proofs.Ytgninkpoembamaa.Opens
set_option maxRecDepth 100000

/-- The pure statement. -/
def Pure : Prop := ∀ (l0 : List Int), (wfList 1 (wfInt .u8)) l0 → ∃ k, laws_FnGaps.f k l0 = some true
end Go.Proofs.Ytgninkpoembamaa.StFnGaps
