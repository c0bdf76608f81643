/- What the parameters of the law 'FnSegs' read as, and its pure statement. No condition beyond the reading itself. -/
import Derived.Test.YtjijbffecppeiaaQFnSegsx0
import Derived.Test.YtjijbffecppeiaaQFnSegsx1
import Derived.Test.YtjijbffecppeiaaQFnSegsx2
import Derived.Test.YtjijbffecppeiaaQFnSegsx3
import Derived.Test.YtjijbffecppeiaaQFnSegsx4
import Derived.Test.YtjijbffecppeiaaQFnSegsx5
import Derived.Test.YtjijbffecppeiaaQFnSegsx6
import Derived.Test.YtjijbffecppeiaaQFnSegsx7
import Derived.Test.YtjijbffecppeiaaQFnSegsx8
import Derived.Test.YtjijbffecppeiaaQFnSegsx9
import Derived.Test.YtjijbffecppeiaaOpens
import Derived.KernelRfl
namespace Go.Proofs.Ytjijbffecppeiaa.StFnSegs
open Go.RowKit Go.Proofs.Ytjijbffecppeiaa.QFnSegs Go.Proofs.YtjijbffecppeiaaW.PrintWords Go.Proofs.Ytjijbffecppeiaa.Opens
set_option maxRecDepth 100000

/-- The pure statement. -/
def Pure : Prop := ∀ (l0 : List Int), (wfList 1 (wfInt .u8)) l0 → ∃ k, laws_FnSegs.f k l0 = some true
end Go.Proofs.Ytjijbffecppeiaa.StFnSegs
