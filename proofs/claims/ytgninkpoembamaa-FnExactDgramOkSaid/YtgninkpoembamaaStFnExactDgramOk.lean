/- What the parameters of the law 'FnExactDgramOk' read as, and its pure statement. No condition beyond the reading itself. -/
import Derived.Test.YtgninkpoembamaaPFnExactDgramOkx0
import Derived.Test.YtgninkpoembamaaPFnExactDgramOkx1
import Derived.Test.YtgninkpoembamaaOpens
import Derived.KernelRfl
namespace Go.Proofs.Ytgninkpoembamaa.StFnExactDgramOk
open Go.RowKit Go.Proofs.Ytgninkpoembamaa.PFnExactDgramOk Go.Proofs.YtgninkpoembamaaW.PrintWords Go.Proofs.Ytgninkpoembamaa.Opens
set_option maxRecDepth 100000

/-- The pure statement. -/
def Pure : Prop := ∀ (a0_0 : Int) (a0_1 : Int) (a0_2 : Int) (a0_3 : Int) (a0_4 : Bool) (a0_5 : ByteArray), wfInt .i64 a0_0 → wfInt .i64 a0_1 → wfInt .i64 a0_2 → wfInt .i64 a0_3 → wfBool a0_4 → wfStr a0_5 → laws_FnExactDgramOk.f a0_0 a0_1 a0_2 a0_3 a0_4 a0_5 = some true
end Go.Proofs.Ytgninkpoembamaa.StFnExactDgramOk
