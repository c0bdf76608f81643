/- Words by which the walks of this claim go: of the printed words those that the claim needs. No condition. -/
import Derived.Test.YtofmbomonkbeaaaGreatDoorVFnSnapsCutInv
import Derived.Test.YtofmbomonkbeaaaGreatDoorVFnSnapsCutFootNe
namespace Go.Proofs.YtofmbomonkbeaaaGreatDoorW.PrintWords
open Go.RowKit
end Go.Proofs.YtofmbomonkbeaaaGreatDoorW.PrintWords
namespace Go.Proofs.YtofmbomonkbeaaaGreatDoorW.PrintLast
section
variable {ops:Array Oper} {a:Act} {o og:Oper} {g:Nat} {t:Tmp} {u:Bool}
end
end Go.Proofs.YtofmbomonkbeaaaGreatDoorW.PrintLast
