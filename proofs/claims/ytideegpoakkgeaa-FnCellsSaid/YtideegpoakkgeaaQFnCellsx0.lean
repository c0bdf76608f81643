/- Functions that a law reaches, as functions of Lean, and the walks that show that the calls come to their answers: written by a program of this project out of the translation. No condition. -/
import Derived.Test.YtideegpoakkgeaaProg
import Derived.Below
import Derived.Deep.Draws
import Derived.Deep.AppendLies
import Derived.Maps.AppendAt
import Derived.OwnWalk
import Derived.Laws.BytesArg
import Derived.Laws.MakeOwn
import Derived.Laws.OwnMore
import Derived.Deep.OwnRows
import Derived.Tactics
import Derived.Lib.ConvBytes
import Derived.Laws.Slices
import Derived.WalkKit
import Derived.KernelRfl
import Derived.RowKit3
import Derived.Deep.LoopGhost
import Derived.Deep.QuietTactic
import Derived.BigQuiet
import Derived.WideLaws
import Derived.Deep.DeepCutAuto
import Derived.Deep.CutBlock
import Derived.Deep.RegionHeld3
import Derived.Laws.Rows
import Derived.Lib.AppendStr
import Derived.ArgAppend
import Derived.Laws.IdiomCopy
import Derived.OrdersHeld
import Derived.Laws.BitsLemmas
import Derived.RowKit
import Derived.Test.YtideegpoakkgeaaWWords
import Derived.Test.YtideegpoakkgeaaWLast
import Derived.Test.YtideegpoakkgeaaWTab
import Derived.Test.YtideegpoakkgeaaWFour
import Derived.Test.YtideegpoakkgeaaWQPut
import Derived.Test.YtideegpoakkgeaaWApart
import Derived.Test.YtideegpoakkgeaaWArr
import Derived.Test.YtideegpoakkgeaaWZeros
import Derived.Test.YtideegpoakkgeaaWFoot
import Derived.Test.YtideegpoakkgeaaWKept
import Derived.Test.YtideegpoakkgeaaWShare
import Derived.Test.YtideegpoakkgeaaWN
import Derived.Test.YtideegpoakkgeaaWFootNe
import Derived.Test.YtideegpoakkgeaaWAt
import Derived.Test.YtideegpoakkgeaaWEqStruct
import Derived.Test.YtideegpoakkgeaaWRepsOne
import Derived.Test.YtideegpoakkgeaaWInv
import Derived.Test.YtideegpoakkgeaaWInvWords
import Derived.Test.YtideegpoakkgeaaWGuard
import Derived.Test.YtideegpoakkgeaaWNEv
import Derived.Test.YtideegpoakkgeaaWMore
namespace Go.Proofs.Ytideegpoakkgeaa.QFnCells
open Go.RowKit Go.Proofs.YtideegpoakkgeaaW.PrintWords Go.Proofs.YtideegpoakkgeaaW.PrintLast Go.Proofs.YtideegpoakkgeaaW.PrintMore
attribute [local go_sem] max2_int min2_int max_two min_two max_three min_three max_four min_four   -- for this text's walks alone
set_option linter.unusedVariables false
set_option linter.unusedSimpArgs false



def errW : Option Int → Value
 | none => .nilIface
 | some c => .iface 0 (.int .i64 c)
theorem errW_none : errW none = .nilIface := rfl
theorem errW_some (c : Int) : errW (some c) = .iface 0 (.int .i64 c) := rfl

theorem info3 : (Try.prog.info? 3).map (fun i => (i.zero, i.size, i.bytes)) = some (some (.int .i64 0), 1, 8) := by kernel_rfl
theorem info5 : (Try.prog.info? 5).map (fun i => (i.zero, i.size, i.bytes)) = some (some (.int .u8 0), 1, 1) := by kernel_rfl
-- the values' own types

end Go.Proofs.Ytideegpoakkgeaa.QFnCells
