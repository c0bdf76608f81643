/- Functions that a law reaches, as functions of Lean, and the walks that show that the calls come to their answers: written by a program of this project out of the translation. No condition. -/
import Derived.Test.YtjijbffecppeiaaProg
import Derived.Below
import Derived.Deep.Draws
import Derived.Deep.AppendLies
import Derived.Maps.AppendAt
import Derived.OwnWalk
import Derived.Laws.BytesArg
import Derived.Laws.MakeOwn
import Derived.Laws.OwnMore
import Derived.Deep.OwnRows
import Derived.Tactics
import Derived.Lib.ConvBytes
import Derived.Laws.Slices
import Derived.WalkKit
import Derived.KernelRfl
import Derived.RowKit3
import Derived.Deep.LoopGhost
import Derived.Deep.QuietTactic
import Derived.BigQuiet
import Derived.WideLaws
import Derived.Deep.DeepCutAuto
import Derived.Deep.CutBlock
import Derived.Deep.RegionHeld3
import Derived.Laws.Rows
import Derived.Lib.AppendStr
import Derived.ArgAppend
import Derived.Laws.IdiomCopy
import Derived.OrdersHeld
import Derived.Laws.BitsLemmas
import Derived.RowKit
import Derived.Test.YtjijbffecppeiaaVFnDgramsWords
import Derived.Test.YtjijbffecppeiaaVFnDgramsLast
import Derived.Test.YtjijbffecppeiaaVFnDgramsTab
import Derived.Test.YtjijbffecppeiaaVFnDgramsFour
import Derived.Test.YtjijbffecppeiaaVFnDgramsQPut
import Derived.Test.YtjijbffecppeiaaVFnDgramsApart
import Derived.Test.YtjijbffecppeiaaVFnDgramsArr
import Derived.Test.YtjijbffecppeiaaVFnDgramsZeros
import Derived.Test.YtjijbffecppeiaaVFnDgramsFoot
import Derived.Test.YtjijbffecppeiaaVFnDgramsKept
import Derived.Test.YtjijbffecppeiaaVFnDgramsShare
import Derived.Test.YtjijbffecppeiaaVFnDgramsN
import Derived.Test.YtjijbffecppeiaaVFnDgramsFootNe
import Derived.Test.YtjijbffecppeiaaVFnDgramsAt
import Derived.Test.YtjijbffecppeiaaVFnDgramsEqStruct
import Derived.Test.YtjijbffecppeiaaVFnDgramsRepsOne
import Derived.Test.YtjijbffecppeiaaVFnDgramsInv
import Derived.Test.YtjijbffecppeiaaVFnDgramsInvWords
import Derived.Test.YtjijbffecppeiaaVFnDgramsGuard
import Derived.Test.YtjijbffecppeiaaVFnDgramsNEv
import Derived.Test.YtjijbffecppeiaaVFnDgramsMore
namespace Go.Proofs.Ytjijbffecppeiaa.QFnDgrams
open Go.RowKit Go.Proofs.YtjijbffecppeiaaW.PrintWords Go.Proofs.YtjijbffecppeiaaW.PrintLast Go.Proofs.YtjijbffecppeiaaW.PrintMore
attribute [local go_sem] max2_int min2_int max_two min_two max_three min_three max_four min_four   -- for this text's walks alone
set_option linter.unusedVariables false
set_option linter.unusedSimpArgs false



def errW : Option Int → Value
 | none => .nilIface
 | some c => .iface 0 (.int .i64 c)
theorem errW_none : errW none = .nilIface := rfl
theorem errW_some (c : Int) : errW (some c) = .iface 0 (.int .i64 c) := rfl

theorem info3 : (Try.prog.info? 3).map (fun i => (i.zero, i.size, i.bytes)) = some (some (.int .i64 0), 1, 8) := by kernel_rfl
theorem info5 : (Try.prog.info? 5).map (fun i => (i.zero, i.size, i.bytes)) = some (some (.int .u8 0), 1, 1) := by kernel_rfl
-- the values' own types

end Go.Proofs.Ytjijbffecppeiaa.QFnDgrams
