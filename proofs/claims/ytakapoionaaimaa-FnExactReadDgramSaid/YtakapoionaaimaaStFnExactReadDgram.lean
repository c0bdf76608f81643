/- What the parameters of the law 'FnExactReadDgram' read as, and its pure statement. No condition beyond the reading itself. -/
import Derived.Test.YtakapoionaaimaaQFnExactReadDgramx0
import Derived.Test.YtakapoionaaimaaQFnExactReadDgramx1
import Derived.Test.YtakapoionaaimaaQFnExactReadDgramx2
import Derived.Test.YtakapoionaaimaaQFnExactReadDgramx3
import Derived.Test.YtakapoionaaimaaQFnExactReadDgramx4
import Derived.Test.YtakapoionaaimaaQFnExactReadDgramx5
import Derived.Test.YtakapoionaaimaaQFnExactReadDgramx6
import Derived.Test.YtakapoionaaimaaQFnExactReadDgramx7
import Derived.Test.YtakapoionaaimaaOpens
import Derived.KernelRfl
namespace Go.Proofs.Ytakapoionaaimaa.StFnExactReadDgram
open Go.RowKit Go.Proofs.Ytakapoionaaimaa.QFnExactReadDgram Go.Proofs.YtakapoionaaimaaW.PrintWords Go.Proofs.Ytakapoionaaimaa.Opens
set_option maxRecDepth 100000

/-- The pure statement. -/
def Pure : Prop := ∀ (a0 : ByteArray), wfStr a0 → ∃ k, laws_FnExactReadDgram.f k a0 = some true
end Go.Proofs.Ytakapoionaaimaa.StFnExactReadDgram
