/- Words by which the walks of this claim go: of the printed words those that the claim needs. No condition. -/
import Derived.Test.YthgjcijcmacpmaaVFnExactReadKeepInv
import Derived.Test.YthgjcijcmacpmaaVFnExactReadKeepFootNe
namespace Go.Proofs.YthgjcijcmacpmaaW.PrintWords
open Go.RowKit
end Go.Proofs.YthgjcijcmacpmaaW.PrintWords
namespace Go.Proofs.YthgjcijcmacpmaaW.PrintLast
section
variable {ops : Array Oper} {a : Act} {o og : Oper} {g : Nat} {t : Tmp} {u : Bool}
end
end Go.Proofs.YthgjcijcmacpmaaW.PrintLast
