/- What the parameters of the law 'FnExactDgramText' read as, and its pure statement. No condition beyond the reading itself. -/
import Derived.Test.YtakapoionaaimaaQFnExactDgramTextx0
import Derived.Test.YtakapoionaaimaaQFnExactDgramTextx1
import Derived.Test.YtakapoionaaimaaQFnExactDgramTextx2
import Derived.Test.YtakapoionaaimaaQFnExactDgramTextx3
import Derived.Test.YtakapoionaaimaaQFnExactDgramTextx4
import Derived.Test.YtakapoionaaimaaOpens
import Derived.KernelRfl
namespace Go.Proofs.Ytakapoionaaimaa.StFnExactDgramText
open Go.RowKit Go.Proofs.Ytakapoionaaimaa.QFnExactDgramText Go.Proofs.YtakapoionaaimaaW.PrintWords Go.Proofs.Ytakapoionaaimaa.Opens
set_option maxRecDepth 100000

/-- The pure statement. -/
def Pure : Prop := ∀ (a0_0 : Int) (a0_1 : Int) (a0_2 : Int) (a0_3 : Int) (a0_4 : Bool) (a0_5 : ByteArray), wfInt .i64 a0_0 → wfInt .i64 a0_1 → wfInt .i64 a0_2 → wfInt .i64 a0_3 → wfBool a0_4 → wfStr a0_5 → ∃ k, laws_FnExactDgramText.f k a0_0 a0_1 a0_2 a0_3 a0_4 a0_5 = some true
end Go.Proofs.Ytakapoionaaimaa.StFnExactDgramText
