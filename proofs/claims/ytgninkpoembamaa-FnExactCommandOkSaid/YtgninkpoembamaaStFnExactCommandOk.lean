/- What the parameters of the law 'FnExactCommandOk' read as, and its pure statement. No condition beyond the reading itself. -/
import Derived.Test.YtgninkpoembamaaPFnExactCommandOkx0
import Derived.Test.YtgninkpoembamaaPFnExactCommandOkx1
import Derived.Test.YtgninkpoembamaaPFnExactCommandOkx2
import Derived.Test.YtgninkpoembamaaPFnExactCommandOkx3
import Derived.Test.YtgninkpoembamaaOpens
import Derived.KernelRfl
namespace Go.Proofs.Ytgninkpoembamaa.StFnExactCommandOk
open Go.RowKit Go.Proofs.Ytgninkpoembamaa.PFnExactCommandOk Go.Proofs.YtgninkpoembamaaW.PrintWords Go.Proofs.Ytgninkpoembamaa.Opens
set_option maxRecDepth 100000

/-- The pure statement. -/
def Pure : Prop := ∀ (a0_0 : Int) (a0_1 : Int) (a0_2 : Int) (a0_3 : ByteArray) (a0_4 : ByteArray) (a0_5 : Int), wfInt .i64 a0_0 → wfInt .i64 a0_1 → wfInt .i64 a0_2 → wfStr a0_3 → wfStr a0_4 → wfInt .i64 a0_5 → ∃ k, laws_FnExactCommandOk.f k a0_0 a0_1 a0_2 a0_3 a0_4 a0_5 = some true
end Go.Proofs.Ytgninkpoembamaa.StFnExactCommandOk
