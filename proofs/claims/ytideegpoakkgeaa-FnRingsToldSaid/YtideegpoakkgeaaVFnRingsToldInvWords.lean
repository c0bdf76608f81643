/- Words by which the walks of this claim go: of the printed words those that the claim needs. No condition. -/
import Derived.Test.YtideegpoakkgeaaVFnRingsToldInv
import Derived.Test.YtideegpoakkgeaaVFnRingsToldFootNe
namespace Go.Proofs.YtideegpoakkgeaaW.PrintWords
open Go.RowKit
end Go.Proofs.YtideegpoakkgeaaW.PrintWords
namespace Go.Proofs.YtideegpoakkgeaaW.PrintLast
section
variable {ops : Array Oper} {a : Act} {o og : Oper} {g : Nat} {t : Tmp} {u : Bool}
end
end Go.Proofs.YtideegpoakkgeaaW.PrintLast
