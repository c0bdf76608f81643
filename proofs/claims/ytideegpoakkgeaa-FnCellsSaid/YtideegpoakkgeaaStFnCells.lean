/- What the parameters of the law 'FnCells' read as, and its pure statement. No condition beyond the reading itself. -/
import Derived.Test.YtideegpoakkgeaaQFnCellsx0
import Derived.Test.YtideegpoakkgeaaQFnCellsx1
import Derived.Test.YtideegpoakkgeaaQFnCellsx2
import Derived.Test.YtideegpoakkgeaaQFnCellsx3
import Derived.Test.YtideegpoakkgeaaQFnCellsx4
import Derived.Test.YtideegpoakkgeaaQFnCellsx5
import Derived.Test.YtideegpoakkgeaaQFnCellsx6
import Derived.Test.YtideegpoakkgeaaQFnCellsx7
import Derived.Test.YtideegpoakkgeaaQFnCellsx8
import Derived.Test.YtideegpoakkgeaaOpens
import Derived.KernelRfl
namespace Go.Proofs.Ytideegpoakkgeaa.StFnCells
open Go.RowKit Go.Proofs.Ytideegpoakkgeaa.QFnCells Go.Proofs.YtideegpoakkgeaaW.PrintWords Go.Proofs.Ytideegpoakkgeaa.Opens
set_option maxRecDepth 100000

/-- The pure statement. -/
def Pure : Prop := ∀ (l0 : List Int), (wfList 1 (wfInt .u8)) l0 → ∃ k, laws_FnCells.f k l0 = some true
end Go.Proofs.Ytideegpoakkgeaa.StFnCells
