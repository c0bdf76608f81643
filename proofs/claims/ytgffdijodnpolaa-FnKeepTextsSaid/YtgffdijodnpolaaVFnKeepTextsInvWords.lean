/- Words by which the walks of this claim go: of the printed words those that the claim needs. No condition. -/
import Derived.Test.YtgffdijodnpolaaVFnKeepTextsInv
import Derived.Test.YtgffdijodnpolaaVFnKeepTextsFootNe
namespace Go.Proofs.YtgffdijodnpolaaW.PrintWords
open Go.RowKit
end Go.Proofs.YtgffdijodnpolaaW.PrintWords
namespace Go.Proofs.YtgffdijodnpolaaW.PrintLast
section
variable {ops : Array Oper} {a : Act} {o og : Oper} {g : Nat} {t : Tmp} {u : Bool}
end
end Go.Proofs.YtgffdijodnpolaaW.PrintLast
