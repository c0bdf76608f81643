/- What the parameters of the law 'FnSnapsCut' read as, and its pure statement. No condition beyond the reading itself. -/
import Derived.Test.YtofmbomonkbeaaaGreatDoorQFnSnapsCutx0
import Derived.Test.YtofmbomonkbeaaaGreatDoorQFnSnapsCutx1
import Derived.Test.YtofmbomonkbeaaaGreatDoorQFnSnapsCutx2
import Derived.Test.YtofmbomonkbeaaaGreatDoorQFnSnapsCutx3
import Derived.Test.YtofmbomonkbeaaaGreatDoorQFnSnapsCutx4
import Derived.Test.YtofmbomonkbeaaaGreatDoorQFnSnapsCutx5
import Derived.Test.YtofmbomonkbeaaaGreatDoorQFnSnapsCutx6
import Derived.Test.YtofmbomonkbeaaaGreatDoorQFnSnapsCutx7
import Derived.Test.YtofmbomonkbeaaaGreatDoorQFnSnapsCutx8
import Derived.Test.YtofmbomonkbeaaaGreatDoorQFnSnapsCutx9
import Derived.Test.YtofmbomonkbeaaaGreatDoorQFnSnapsCutx10
import Derived.Test.YtofmbomonkbeaaaGreatDoorQFnSnapsCutx11
import Derived.Test.YtofmbomonkbeaaaGreatDoorVFnSnapsCutpens
import Derived.KernelRfl
namespace Go.Proofs.YtofmbomonkbeaaaGreatDoor.StFnSnapsCut
open Go.RowKit Go.Proofs.YtofmbomonkbeaaaGreatDoor.QFnSnapsCut Go.Proofs.YtofmbomonkbeaaaGreatDoorW.PrintWords Go.Proofs.YtofmbomonkbeaaaGreatDoor.Opens
set_option maxRecDepth 100000

/-- The pure statement. -/
def Pure:Prop:=∀ (l0:List Int),(wfList 1 (wfInt .u8)) l0→∃ k,laws_FnSnapsCut.f k l0=some true
end Go.Proofs.YtofmbomonkbeaaaGreatDoor.StFnSnapsCut
