/- What the parameters of the law 'FnDgrams' read as, and its pure statement. No condition beyond the reading itself. -/
import Derived.Test.YtjijbffecppeiaaQFnDgramsx0
import Derived.Test.YtjijbffecppeiaaQFnDgramsx1
import Derived.Test.YtjijbffecppeiaaQFnDgramsx2
import Derived.Test.YtjijbffecppeiaaQFnDgramsx3
import Derived.Test.YtjijbffecppeiaaQFnDgramsx4
import Derived.Test.YtjijbffecppeiaaQFnDgramsx5
import Derived.Test.YtjijbffecppeiaaQFnDgramsx6
import Derived.Test.YtjijbffecppeiaaQFnDgramsx7
import Derived.Test.YtjijbffecppeiaaQFnDgramsx8
import Derived.Test.YtjijbffecppeiaaQFnDgramsx9
import Derived.Test.YtjijbffecppeiaaVFnDgramsOpens
import Derived.KernelRfl
namespace Go.Proofs.Ytjijbffecppeiaa.StFnDgrams
open Go.RowKit Go.Proofs.Ytjijbffecppeiaa.QFnDgrams Go.Proofs.YtjijbffecppeiaaW.PrintWords Go.Proofs.Ytjijbffecppeiaa.Opens
set_option maxRecDepth 100000

/-- The pure statement. -/
def Pure : Prop := ∀ (l0 : List Int), (wfList 1 (wfInt .u8)) l0 → ∃ k, laws_FnDgrams.f k l0 = some true
end Go.Proofs.Ytjijbffecppeiaa.StFnDgrams
