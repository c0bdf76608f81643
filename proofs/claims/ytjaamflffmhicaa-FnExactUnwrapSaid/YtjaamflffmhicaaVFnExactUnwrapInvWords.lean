/- Words by which the walks of this claim go: of the printed words those that the claim needs. No condition. -/
import Derived.Test.YtjaamflffmhicaaVFnExactUnwrapInv
import Derived.Test.YtjaamflffmhicaaVFnExactUnwrapFootNe
namespace Go.Proofs.YtjaamflffmhicaaW.PrintWords
open Go.RowKit
end Go.Proofs.YtjaamflffmhicaaW.PrintWords
namespace Go.Proofs.YtjaamflffmhicaaW.PrintLast
section
variable {ops : Array Oper} {a : Act} {o og : Oper} {g : Nat} {t : Tmp} {u : Bool}
end
end Go.Proofs.YtjaamflffmhicaaW.PrintLast
