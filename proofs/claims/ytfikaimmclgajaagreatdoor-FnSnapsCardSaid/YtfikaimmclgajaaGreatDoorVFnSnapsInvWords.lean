/- Words by which the walks of this claim go: of the printed words those that the claim needs. No condition. -/
import Derived.Test.YtfikaimmclgajaaGreatDoorVFnSnapsInv
import Derived.Test.YtfikaimmclgajaaGreatDoorVFnSnapsFootNe
namespace Go.Proofs.YtfikaimmclgajaaGreatDoorW.PrintWords
open Go.RowKit
end Go.Proofs.YtfikaimmclgajaaGreatDoorW.PrintWords
namespace Go.Proofs.YtfikaimmclgajaaGreatDoorW.PrintLast
section
variable {ops : Array Oper} {a : Act} {o og : Oper} {g : Nat} {t : Tmp} {u : Bool}
end
end Go.Proofs.YtfikaimmclgajaaGreatDoorW.PrintLast
