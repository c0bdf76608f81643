/- Words by which the walks of this claim go: of the printed words those that the claim needs. No condition. -/
import Derived.Test.YtjijbffecppeiaaVFnExactWriteInv
import Derived.Test.YtjijbffecppeiaaVFnExactWriteFootNe
namespace Go.Proofs.YtjijbffecppeiaaW.PrintWords
open Go.RowKit
end Go.Proofs.YtjijbffecppeiaaW.PrintWords
namespace Go.Proofs.YtjijbffecppeiaaW.PrintLast
section
variable {ops : Array Oper} {a : Act} {o og : Oper} {g : Nat} {t : Tmp} {u : Bool}
end
end Go.Proofs.YtjijbffecppeiaaW.PrintLast
