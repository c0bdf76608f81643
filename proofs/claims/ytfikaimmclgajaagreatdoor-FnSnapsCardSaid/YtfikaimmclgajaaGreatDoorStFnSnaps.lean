/- What the parameters of the law 'FnSnaps' read as, and its pure statement. No condition beyond the reading itself. -/
import Derived.Test.YtfikaimmclgajaaGreatDoorQFnSnapsx0
import Derived.Test.YtfikaimmclgajaaGreatDoorQFnSnapsx1
import Derived.Test.YtfikaimmclgajaaGreatDoorQFnSnapsx2
import Derived.Test.YtfikaimmclgajaaGreatDoorQFnSnapsx3
import Derived.Test.YtfikaimmclgajaaGreatDoorQFnSnapsx4
import Derived.Test.YtfikaimmclgajaaGreatDoorQFnSnapsx5
import Derived.Test.YtfikaimmclgajaaGreatDoorQFnSnapsx6
import Derived.Test.YtfikaimmclgajaaGreatDoorQFnSnapsx7
import Derived.Test.YtfikaimmclgajaaGreatDoorQFnSnapsx8
import Derived.Test.YtfikaimmclgajaaGreatDoorQFnSnapsx9
import Derived.Test.YtfikaimmclgajaaGreatDoorQFnSnapsx10
import Derived.Test.YtfikaimmclgajaaGreatDoorVFnSnapsOpens
import Derived.KernelRfl
namespace Go.Proofs.YtfikaimmclgajaaGreatDoor.StFnSnaps
open Go.RowKit Go.Proofs.YtfikaimmclgajaaGreatDoor.QFnSnaps Go.Proofs.YtfikaimmclgajaaGreatDoorW.PrintWords Go.Proofs.YtfikaimmclgajaaGreatDoor.Opens
set_option maxRecDepth 100000

/-- The pure statement. -/
def Pure : Prop := ∀ (l0 : List Int), (wfList 1 (wfInt .u8)) l0 → ∃ k, laws_FnSnaps.f k l0 = some true
end Go.Proofs.YtfikaimmclgajaaGreatDoor.StFnSnaps
