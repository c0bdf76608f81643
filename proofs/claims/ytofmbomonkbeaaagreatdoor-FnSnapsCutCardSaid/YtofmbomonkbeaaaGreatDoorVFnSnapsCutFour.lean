/- Words by which the walks of this claim go: of the printed words those that the claim needs. No condition. -/
import Derived.Test.YtofmbomonkbeaaaGreatDoorVFnSnapsCutTab
namespace Go.Proofs.YtofmbomonkbeaaaGreatDoorW.PrintLast
section
variable {P:Program} {ops:Array Oper} {Q:Exit→Act→World→Prop} {md:Region.Mode} {S:World→Prop} {ds:List Nat} {T:Bool × List (List Nat × List Nat)}
end
end Go.Proofs.YtofmbomonkbeaaaGreatDoorW.PrintLast
