/- What the parameters of the law 'FnExactCommandText' read as, and its pure statement. No condition beyond the reading itself. -/
import Derived.Test.YtakapoionaaimaaQFnExactCommandTextx0
import Derived.Test.YtakapoionaaimaaQFnExactCommandTextx1
import Derived.Test.YtakapoionaaimaaQFnExactCommandTextx2
import Derived.Test.YtakapoionaaimaaQFnExactCommandTextx3
import Derived.Test.YtakapoionaaimaaQFnExactCommandTextx4
import Derived.Test.YtakapoionaaimaaQFnExactCommandTextx5
import Derived.Test.YtakapoionaaimaaQFnExactCommandTextx6
import Derived.Test.YtakapoionaaimaaOpens
import Derived.KernelRfl
namespace Go.Proofs.Ytakapoionaaimaa.StFnExactCommandText
open Go.RowKit Go.Proofs.Ytakapoionaaimaa.QFnExactCommandText Go.Proofs.YtakapoionaaimaaW.PrintWords Go.Proofs.Ytakapoionaaimaa.Opens
set_option maxRecDepth 100000

/-- The pure statement. -/
def Pure : Prop := ∀ (a0_0 : Int) (a0_1 : Int) (a0_2 : Int) (a0_3 : ByteArray) (a0_4 : ByteArray) (a0_5 : Int), wfInt .i64 a0_0 → wfInt .i64 a0_1 → wfInt .i64 a0_2 → wfStr a0_3 → wfStr a0_4 → wfInt .i64 a0_5 → ∃ k, laws_FnExactCommandText.f k a0_0 a0_1 a0_2 a0_3 a0_4 a0_5 = some true
end Go.Proofs.Ytakapoionaaimaa.StFnExactCommandText
