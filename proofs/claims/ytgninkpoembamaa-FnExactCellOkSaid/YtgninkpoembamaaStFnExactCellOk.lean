/- What the parameters of the law 'FnExactCellOk' read as, and its pure statement. No condition beyond the reading itself. -/
import Derived.Test.YtgninkpoembamaaPFnExactCellOkx0
import Derived.Test.YtgninkpoembamaaPFnExactCellOkx1
import Derived.Test.YtgninkpoembamaaOpens
import Derived.KernelRfl
namespace Go.Proofs.Ytgninkpoembamaa.StFnExactCellOk
open Go.RowKit Go.Proofs.Ytgninkpoembamaa.PFnExactCellOk Go.Proofs.YtgninkpoembamaaW.PrintWords Go.Proofs.Ytgninkpoembamaa.Opens
set_option maxRecDepth 100000

/-- The pure statement. -/
def Pure : Prop := ∀ (a0_0 : Int) (a0_1 : Int) (a0_2 : Int) (a0_3 : ByteArray), wfInt .i64 a0_0 → wfInt .i64 a0_1 → wfInt .i64 a0_2 → wfStr a0_3 → laws_FnExactCellOk.f a0_0 a0_1 a0_2 a0_3 = some true
end Go.Proofs.Ytgninkpoembamaa.StFnExactCellOk
