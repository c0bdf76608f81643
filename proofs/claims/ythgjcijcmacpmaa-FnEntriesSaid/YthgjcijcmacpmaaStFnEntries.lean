/- What the parameters of the law 'FnEntries' read as, and its pure statement. No condition beyond the reading itself. -/
import Derived.Test.YthgjcijcmacpmaaQFnEntriesx0
import Derived.Test.YthgjcijcmacpmaaQFnEntriesx1
import Derived.Test.YthgjcijcmacpmaaQFnEntriesx2
import Derived.Test.YthgjcijcmacpmaaQFnEntriesx3
import Derived.Test.YthgjcijcmacpmaaQFnEntriesx4
import Derived.Test.YthgjcijcmacpmaaQFnEntriesx5
import Derived.Test.YthgjcijcmacpmaaQFnEntriesx6
import Derived.Test.YthgjcijcmacpmaaQFnEntriesx7
import Derived.Test.YthgjcijcmacpmaaQFnEntriesx8
import Derived.Test.YthgjcijcmacpmaaQFnEntriesx9
import Derived.Test.YthgjcijcmacpmaaQFnEntriesx10
import Derived.Test.YthgjcijcmacpmaaQFnEntriesx11
import Derived.Test.YthgjcijcmacpmaaQFnEntriesx12
import Derived.Test.YthgjcijcmacpmaaQFnEntriesx13
import Derived.Test.YthgjcijcmacpmaaQFnEntriesx14
import Derived.Test.YthgjcijcmacpmaaVFnEntriesOpens
import Derived.KernelRfl
namespace Go.Proofs.Ythgjcijcmacpmaa.StFnEntries
open Go.RowKit Go.Proofs.Ythgjcijcmacpmaa.QFnEntries Go.Proofs.YthgjcijcmacpmaaW.PrintWords Go.Proofs.Ythgjcijcmacpmaa.Opens
set_option maxRecDepth 100000

/-- The pure statement. -/
def Pure : Prop := ∀ (l0 : List Int), (wfList 1 (wfInt .u8)) l0 → ∃ k, laws_FnEntries.f k l0 = some true
end Go.Proofs.Ythgjcijcmacpmaa.StFnEntries
