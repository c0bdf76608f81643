/- What the parameters of the law 'FnExactTurnOk' read as, and its pure statement. No condition beyond the reading itself. -/
import Derived.Test.YtgninkpoembamaaPFnExactTurnOkx0
import Derived.Test.YtgninkpoembamaaPFnExactTurnOkx1
import Derived.Test.YtgninkpoembamaaOpens
import Derived.KernelRfl
namespace Go.Proofs.Ytgninkpoembamaa.StFnExactTurnOk
open Go.RowKit Go.Proofs.Ytgninkpoembamaa.PFnExactTurnOk Go.Proofs.YtgninkpoembamaaW.PrintWords Go.Proofs.Ytgninkpoembamaa.Opens
set_option maxRecDepth 100000

/-- The pure statement. -/
def Pure : Prop := ∀ (a0_0 : Int) (a0_1 : Int) (a0_2 : Int), wfInt .i64 a0_0 → wfInt .i64 a0_1 → wfInt .i64 a0_2 → laws_FnExactTurnOk.f a0_0 a0_1 a0_2 = some true
end Go.Proofs.Ytgninkpoembamaa.StFnExactTurnOk
