/- Words by which the walks of this claim go: of the printed words those that the claim needs. No condition. -/
import Derived.Test.YtmknnoeggkgkgaaVFnExactEndsNewWords
namespace Go.Proofs.YtmknnoeggkgkgaaW.PrintWords
open Go.RowKit
section
variable {P : Program} {ops : Array Oper} {rest : List Oper} {o : Oper} {a : Act} {Q : Exit → Act → World → Prop} {W : World}
end
end Go.Proofs.YtmknnoeggkgkgaaW.PrintWords
