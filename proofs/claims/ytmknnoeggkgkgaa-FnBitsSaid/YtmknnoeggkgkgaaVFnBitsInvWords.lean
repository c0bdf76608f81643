/- Words by which the walks of this claim go: of the printed words those that the claim needs. No condition. -/
import Derived.Test.YtmknnoeggkgkgaaVFnBitsInv
import Derived.Test.YtmknnoeggkgkgaaVFnBitsFootNe
namespace Go.Proofs.YtmknnoeggkgkgaaW.PrintWords
open Go.RowKit
end Go.Proofs.YtmknnoeggkgkgaaW.PrintWords
namespace Go.Proofs.YtmknnoeggkgkgaaW.PrintLast
section
variable {ops : Array Oper} {a : Act} {o og : Oper} {g : Nat} {t : Tmp} {u : Bool}
end
end Go.Proofs.YtmknnoeggkgkgaaW.PrintLast
