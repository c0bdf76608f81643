/-
  No cell of these rows narrows 'for every input' (looked for: loops, veiled, ifaces, maps, wideKeys, modest, calm, conditions, laid).
  DERIVED. THE GIVEN ROWS OF THIS SEAT. 4 by the template 'for every input the law returns true; each argument reads behind the call as it read before'; 0 by the template 'total and deterministic' (their statements: YtgffdijodnpolaaTotals.lean).
  GIVEN WITH THE SEED: the statements are not yours to turn. If you find one false, say at which input.
  Laid BY PROGRAM, IN A SANDBOX (cutbox-rows.mjs): the forced cells as the released guide's own fill.sh prints them over the translation 2067f1174880dff5… (all of the seat's roots in one cut). By AI agents, Wed Nov 11 2026. No macro, syntax, notation, axiom, sorry.
-/
import Derived.Test.YtgffdijodnpolaaChecked
import GoSem.Claim
import GoSem.ClaimJoined
import GoSem.ClaimMapViews
import Derived.JoinedTies
import Derived.KernelRfl
namespace Go.Proofs.Ytgffdijodnpolaa
/- THE CELL 'sum', in the pinned program and in every row, IS THE sha256 OF THE DUMP (.gsa) THAT YtgffdijodnpolaaProg.lean LOADS. Nothing in Lean hashes anything: it is a label: what it is worth is what the hold of that sum in a sandbox is worth. -/
noncomputable def Try.pinned : Pinned := { name := "ytgffdijodnpolaa", sum := "2067f1174880dff59fb5bb9548bde3aa14aa2cd925b2693e54afb9d248d780ea", checked := Try.checked }
namespace Rows
def none {H : Type} : Left H := { results := [], args := [] }

/-- 'laws.FnPuts': WHATEVER THE INPUT: true; the input reads as it did. -/
def fnPutsSpec : ChangeSpec := { name := "fnPuts", fn := fun _ => fun
  | [d] => { results := [.lit (.bool true)], args := [d] }
  | _ => none }
def fnPutsRow : OpenClaim := { program := "ytgffdijodnpolaa", sum := "2067f1174880dff59fb5bb9548bde3aa14aa2cd925b2693e54afb9d248d780ea", func := "loop.example/g00232/laws.FnPuts", spec := "fnPuts", apart := false }
def FnPutsSaid : Prop := fnPutsRow.holds Try.pinned (OpenSpec.ofChange fnPutsSpec)

/-- ITS FALSE NEIGHBOUR: 'it returns false'. Refute it at one input. -/
def fnPutsWrong : ChangeSpec := { name := "fnPuts", fn := fun _ => fun
  | [d] => { results := [.lit (.bool false)], args := [d] }
  | _ => none }
def FnPutsWrongFalsely : Prop := fnPutsRow.holds Try.pinned (OpenSpec.ofChange fnPutsWrong)

/-- 'laws.FnLogs': WHATEVER THE INPUT: true; the input reads as it did. -/
def fnLogsSpec : ChangeSpec := { name := "fnLogs", fn := fun _ => fun
  | [d] => { results := [.lit (.bool true)], args := [d] }
  | _ => none }
def fnLogsRow : OpenClaim := { program := "ytgffdijodnpolaa", sum := "2067f1174880dff59fb5bb9548bde3aa14aa2cd925b2693e54afb9d248d780ea", func := "loop.example/g00232/laws.FnLogs", spec := "fnLogs", apart := false }
def FnLogsSaid : Prop := fnLogsRow.holds Try.pinned (OpenSpec.ofChange fnLogsSpec)

/-- ITS FALSE NEIGHBOUR: 'it returns false'. Refute it at one input. -/
def fnLogsWrong : ChangeSpec := { name := "fnLogs", fn := fun _ => fun
  | [d] => { results := [.lit (.bool false)], args := [d] }
  | _ => none }
def FnLogsWrongFalsely : Prop := fnLogsRow.holds Try.pinned (OpenSpec.ofChange fnLogsWrong)

/-- 'laws.FnSameKeeps': WHATEVER THE INPUT: true; the input reads as it did. -/
def fnSameKeepsSpec : ChangeSpec := { name := "fnSameKeeps", fn := fun _ => fun
  | [d] => { results := [.lit (.bool true)], args := [d] }
  | _ => none }
def fnSameKeepsRow : OpenClaim := { program := "ytgffdijodnpolaa", sum := "2067f1174880dff59fb5bb9548bde3aa14aa2cd925b2693e54afb9d248d780ea", func := "loop.example/g00232/laws.FnSameKeeps", spec := "fnSameKeeps", apart := false }
def FnSameKeepsSaid : Prop := fnSameKeepsRow.holds Try.pinned (OpenSpec.ofChange fnSameKeepsSpec)

/-- ITS FALSE NEIGHBOUR: 'it returns false'. Refute it at one input. -/
def fnSameKeepsWrong : ChangeSpec := { name := "fnSameKeeps", fn := fun _ => fun
  | [d] => { results := [.lit (.bool false)], args := [d] }
  | _ => none }
def FnSameKeepsWrongFalsely : Prop := fnSameKeepsRow.holds Try.pinned (OpenSpec.ofChange fnSameKeepsWrong)

/-- 'laws.FnKeepTexts': WHATEVER THE INPUT: true; the input reads as it did. -/
def fnKeepTextsSpec : ChangeSpec := { name := "fnKeepTexts", fn := fun _ => fun
  | [d] => { results := [.lit (.bool true)], args := [d] }
  | _ => none }
def fnKeepTextsRow : OpenClaim := { program := "ytgffdijodnpolaa", sum := "2067f1174880dff59fb5bb9548bde3aa14aa2cd925b2693e54afb9d248d780ea", func := "loop.example/g00232/laws.FnKeepTexts", spec := "fnKeepTexts", apart := false }
def FnKeepTextsSaid : Prop := fnKeepTextsRow.holds Try.pinned (OpenSpec.ofChange fnKeepTextsSpec)

/-- ITS FALSE NEIGHBOUR: 'it returns false'. Refute it at one input. -/
def fnKeepTextsWrong : ChangeSpec := { name := "fnKeepTexts", fn := fun _ => fun
  | [d] => { results := [.lit (.bool false)], args := [d] }
  | _ => none }
def FnKeepTextsWrongFalsely : Prop := fnKeepTextsRow.holds Try.pinned (OpenSpec.ofChange fnKeepTextsWrong)

/- THE SECOND FORM. 'bulk': how many values and letters a reading holds, each counted each time it is reached (what is shared counts as often as it is met; a slice's spare places count too). A statement '..UptoSaid' is the law's where the arguments, and the package variables that the reading takes, are together of bulk at most 1048576: NARROWER than '..Said'. Prove '..Said' where nothing that the law and all that it calls make is longer than what came in: it says more and counts as full. Else prove '..UptoSaid'. A law counts once. -/
mutual
def uptoBulk {H : Type} : DataW H → Nat
  | .lit (.string bytes) => bytes.length + 1
  | .lit _ => 1
  | .nil => 1
  | .ptr d => uptoBulk d + 1
  | .slice elems spare => uptoBulkAll elems + uptoBulkAll spare + 1
  | .agg parts => uptoBulkAll parts + 1
  | .iface _ d => uptoBulk d + 1
  | .map entries => uptoBulkEntries entries + 1
  | .held _ => 1
def uptoBulkAll {H : Type} : List (DataW H) → Nat
  | [] => 0
  | d :: r => uptoBulk d + uptoBulkAll r
def uptoBulkEntries {H : Type} : List (Lit × DataW H) → Nat
  | [] => 0
  | x :: r => uptoBulkEntry x + uptoBulkEntries r
def uptoBulkEntry {H : Type} : Lit × DataW H → Nat
  | (.string bytes, d) => bytes.length + uptoBulk d + 1
  | (_, d) => uptoBulk d + 1
 end
def uptoSmall : (H : Type) → List (DataW H) → Bool := fun _ ds => decide (uptoBulkAll ds ≤ 1048576)
def OpenSpec.upto (s : _root_.Go.ChangeSpec) : _root_.Go.OpenSpec := { _root_.Go.OpenSpec.ofChange s with cond := some uptoSmall }

/-- 'laws.FnPuts', WHERE WHAT IT READS IS OF BULK AT MOST 1048576: true; the input reads as it did. -/
def fnPutsUptoRow : OpenClaim := { program := "ytgffdijodnpolaa", sum := "2067f1174880dff59fb5bb9548bde3aa14aa2cd925b2693e54afb9d248d780ea", func := "loop.example/g00232/laws.FnPuts", spec := "fnPuts", apart := false, narrowed := true }
def FnPutsUptoSaid : Prop := fnPutsUptoRow.holds Try.pinned (OpenSpec.upto fnPutsSpec)

/-- 'laws.FnLogs', WHERE WHAT IT READS IS OF BULK AT MOST 1048576: true; the input reads as it did. -/
def fnLogsUptoRow : OpenClaim := { program := "ytgffdijodnpolaa", sum := "2067f1174880dff59fb5bb9548bde3aa14aa2cd925b2693e54afb9d248d780ea", func := "loop.example/g00232/laws.FnLogs", spec := "fnLogs", apart := false, narrowed := true }
def FnLogsUptoSaid : Prop := fnLogsUptoRow.holds Try.pinned (OpenSpec.upto fnLogsSpec)

/-- 'laws.FnSameKeeps', WHERE WHAT IT READS IS OF BULK AT MOST 1048576: true; the input reads as it did. -/
def fnSameKeepsUptoRow : OpenClaim := { program := "ytgffdijodnpolaa", sum := "2067f1174880dff59fb5bb9548bde3aa14aa2cd925b2693e54afb9d248d780ea", func := "loop.example/g00232/laws.FnSameKeeps", spec := "fnSameKeeps", apart := false, narrowed := true }
def FnSameKeepsUptoSaid : Prop := fnSameKeepsUptoRow.holds Try.pinned (OpenSpec.upto fnSameKeepsSpec)

/-- 'laws.FnKeepTexts', WHERE WHAT IT READS IS OF BULK AT MOST 1048576: true; the input reads as it did. -/
def fnKeepTextsUptoRow : OpenClaim := { program := "ytgffdijodnpolaa", sum := "2067f1174880dff59fb5bb9548bde3aa14aa2cd925b2693e54afb9d248d780ea", func := "loop.example/g00232/laws.FnKeepTexts", spec := "fnKeepTexts", apart := false, narrowed := true }
def FnKeepTextsUptoSaid : Prop := fnKeepTextsUptoRow.holds Try.pinned (OpenSpec.upto fnKeepTextsSpec)

end Rows
end Go.Proofs.Ytgffdijodnpolaa
