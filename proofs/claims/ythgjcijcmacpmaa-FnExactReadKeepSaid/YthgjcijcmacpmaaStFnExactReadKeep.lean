/- What the parameters of the law 'FnExactReadKeep' read as, and its pure statement. No condition beyond the reading itself. -/
import Derived.Test.YthgjcijcmacpmaaQFnExactReadKeepx0
import Derived.Test.YthgjcijcmacpmaaQFnExactReadKeepx1
import Derived.Test.YthgjcijcmacpmaaQFnExactReadKeepx2
import Derived.Test.YthgjcijcmacpmaaQFnExactReadKeepx3
import Derived.Test.YthgjcijcmacpmaaQFnExactReadKeepx4
import Derived.Test.YthgjcijcmacpmaaQFnExactReadKeepx5
import Derived.Test.YthgjcijcmacpmaaQFnExactReadKeepx6
import Derived.Test.YthgjcijcmacpmaaQFnExactReadKeepx7
import Derived.Test.YthgjcijcmacpmaaQFnExactReadKeepx8
import Derived.Test.YthgjcijcmacpmaaQFnExactReadKeepx9
import Derived.Test.YthgjcijcmacpmaaQFnExactReadKeepx10
import Derived.Test.YthgjcijcmacpmaaQFnExactReadKeepx11
import Derived.Test.YthgjcijcmacpmaaQFnExactReadKeepx12
import Derived.Test.YthgjcijcmacpmaaQFnExactReadKeepx13
import Derived.Test.YthgjcijcmacpmaaQFnExactReadKeepx14
import Derived.Test.YthgjcijcmacpmaaQFnExactReadKeepx15
import Derived.Test.YthgjcijcmacpmaaQFnExactReadKeepx16
import Derived.Test.YthgjcijcmacpmaaVFnExactReadKeepOpens
import Derived.KernelRfl
namespace Go.Proofs.Ythgjcijcmacpmaa.StFnExactReadKeep
open Go.RowKit Go.Proofs.Ythgjcijcmacpmaa.QFnExactReadKeep Go.Proofs.YthgjcijcmacpmaaW.PrintWords Go.Proofs.Ythgjcijcmacpmaa.Opens
set_option maxRecDepth 100000

/-- The pure statement. -/
def Pure : Prop := ∀ (a0 : ByteArray), wfStr a0 → ∃ k, laws_FnExactReadKeep.f k a0 = some true
end Go.Proofs.Ythgjcijcmacpmaa.StFnExactReadKeep
