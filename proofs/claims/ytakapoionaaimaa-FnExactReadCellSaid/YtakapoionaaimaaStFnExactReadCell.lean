/- What the parameters of the law 'FnExactReadCell' read as, and its pure statement. No condition beyond the reading itself. -/
import Derived.Test.YtakapoionaaimaaQFnExactReadCellx0
import Derived.Test.YtakapoionaaimaaQFnExactReadCellx1
import Derived.Test.YtakapoionaaimaaQFnExactReadCellx2
import Derived.Test.YtakapoionaaimaaQFnExactReadCellx3
import Derived.Test.YtakapoionaaimaaQFnExactReadCellx4
import Derived.Test.YtakapoionaaimaaOpens
import Derived.KernelRfl
namespace Go.Proofs.Ytakapoionaaimaa.StFnExactReadCell
open Go.RowKit Go.Proofs.Ytakapoionaaimaa.QFnExactReadCell Go.Proofs.YtakapoionaaimaaW.PrintWords Go.Proofs.Ytakapoionaaimaa.Opens
set_option maxRecDepth 100000

/-- The pure statement. -/
def Pure : Prop := ∀ (a0 : ByteArray), wfStr a0 → ∃ k, laws_FnExactReadCell.f k a0 = some true
end Go.Proofs.Ytakapoionaaimaa.StFnExactReadCell
