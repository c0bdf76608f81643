/- What the parameters of the law 'FnExactCellText' read as, and its pure statement. No condition beyond the reading itself. -/
import Derived.Test.YtakapoionaaimaaPFnExactCellTextx0
import Derived.Test.YtakapoionaaimaaPFnExactCellTextx1
import Derived.Test.YtakapoionaaimaaPFnExactCellTextx2
import Derived.Test.YtakapoionaaimaaOpens
import Derived.KernelRfl
namespace Go.Proofs.Ytakapoionaaimaa.StFnExactCellText
open Go.RowKit Go.Proofs.Ytakapoionaaimaa.PFnExactCellText Go.Proofs.YtakapoionaaimaaW.PrintWords Go.Proofs.Ytakapoionaaimaa.Opens
set_option maxRecDepth 100000

/-- The pure statement. -/
def Pure : Prop := ∀ (a0_0 : Int) (a0_1 : Int) (a0_2 : Int) (a0_3 : ByteArray), wfInt .i64 a0_0 → wfInt .i64 a0_1 → wfInt .i64 a0_2 → wfStr a0_3 → ∃ k, laws_FnExactCellText.f k a0_0 a0_1 a0_2 a0_3 = some true
end Go.Proofs.Ytakapoionaaimaa.StFnExactCellText
