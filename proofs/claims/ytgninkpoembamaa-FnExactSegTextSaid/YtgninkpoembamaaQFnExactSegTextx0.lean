/- Functions that the law FnExactSegText reaches, as functions of Lean, and the walks that show that the calls come to their answers. Begun as the print of the kit and turned by our program wip/gen/q.py. No condition. -/
import Derived.Test.YtgninkpoembamaaProg
import Derived.Below
import Derived.Deep.Draws
import Derived.Deep.AppendLies
import Derived.Maps.AppendAt
import Derived.OwnWalk
import Derived.Laws.BytesArg
import Derived.Laws.MakeOwn
import Derived.Laws.OwnMore
import Derived.Deep.OwnRows
import Derived.Tactics
import Derived.Lib.ConvBytes
import Derived.Laws.Slices
import Derived.WalkKit
import Derived.KernelRfl
import Derived.RowKit3
import Derived.Deep.LoopGhost
import Derived.Deep.QuietTactic
import Derived.BigQuiet
import Derived.WideLaws
import Derived.Deep.DeepCutAuto
import Derived.Deep.CutBlock
import Derived.Deep.RegionHeld3
import Derived.Laws.Rows
import Derived.Lib.AppendStr
import Derived.ArgAppend
import Derived.Laws.IdiomCopy
import Derived.OrdersHeld
import Derived.Laws.BitsLemmas
import Derived.RowKit
import Derived.Test.YtgninkpoembamaaWWords
import Derived.Test.YtgninkpoembamaaWLast
import Derived.Test.YtgninkpoembamaaWTab
import Derived.Test.YtgninkpoembamaaWFour
import Derived.Test.YtgninkpoembamaaWQPut
import Derived.Test.YtgninkpoembamaaWApart
import Derived.Test.YtgninkpoembamaaWArr
import Derived.Test.YtgninkpoembamaaWZeros
import Derived.Test.YtgninkpoembamaaWFoot
import Derived.Test.YtgninkpoembamaaWKept
import Derived.Test.YtgninkpoembamaaWShare
import Derived.Test.YtgninkpoembamaaWN
import Derived.Test.YtgninkpoembamaaWFootNe
import Derived.Test.YtgninkpoembamaaWAt
import Derived.Test.YtgninkpoembamaaWEqStruct
import Derived.Test.YtgninkpoembamaaWRepsOne
import Derived.Test.YtgninkpoembamaaWInv
import Derived.Test.YtgninkpoembamaaWInvWords
import Derived.Test.YtgninkpoembamaaWGuard
import Derived.Test.YtgninkpoembamaaWNEv
import Derived.Test.YtgninkpoembamaaWMore
namespace Go.Proofs.Ytgninkpoembamaa.PFnExactSegText
open Go.RowKit Go.Proofs.YtgninkpoembamaaW.PrintWords Go.Proofs.YtgninkpoembamaaW.PrintLast Go.Proofs.YtgninkpoembamaaW.PrintMore
attribute [local go_sem] max2_int min2_int max_two min_two max_three min_three max_four min_four   -- for this text's walks alone
set_option linter.unusedVariables false
set_option linter.unusedSimpArgs false



def errW : Option Int → Value
  | none => .nilIface
  | some c => .iface 0 (.int .i64 c)
theorem errW_none : errW none = .nilIface := rfl
theorem errW_some (c : Int) : errW (some c) = .iface 0 (.int .i64 c) := rfl

theorem info3 : (Try.prog.info? 3).map (fun i => (i.zero, i.size, i.bytes)) = some (some (.int .i64 0), 1, 8) := by kernel_rfl
theorem info5 : (Try.prog.info? 5).map (fun i => (i.zero, i.size, i.bytes)) = some (some (.int .u8 0), 1, 1) := by kernel_rfl
-- the values' own types

end Go.Proofs.Ytgninkpoembamaa.PFnExactSegText
