/- What the parameters of the law 'FnExactReadSeg' read as, and its pure statement. No condition beyond the reading itself. -/
import Derived.Test.YtakapoionaaimaaQFnExactReadSegx0
import Derived.Test.YtakapoionaaimaaQFnExactReadSegx1
import Derived.Test.YtakapoionaaimaaQFnExactReadSegx2
import Derived.Test.YtakapoionaaimaaQFnExactReadSegx3
import Derived.Test.YtakapoionaaimaaOpens
import Derived.KernelRfl
namespace Go.Proofs.Ytakapoionaaimaa.StFnExactReadSeg
open Go.RowKit Go.Proofs.Ytakapoionaaimaa.QFnExactReadSeg Go.Proofs.YtakapoionaaimaaW.PrintWords Go.Proofs.Ytakapoionaaimaa.Opens
set_option maxRecDepth 100000

/-- The pure statement. -/
def Pure : Prop := ∀ (a0 : ByteArray), wfStr a0 → ∃ k, laws_FnExactReadSeg.f k a0 = some true
end Go.Proofs.Ytakapoionaaimaa.StFnExactReadSeg
