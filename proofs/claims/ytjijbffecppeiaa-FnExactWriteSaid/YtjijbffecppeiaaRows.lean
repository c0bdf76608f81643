/-
  No cell of these rows narrows 'for every input' (looked for: loops, veiled, ifaces, maps, wideKeys, modest, calm, conditions, laid).
  DERIVED. THE GIVEN ROWS OF THIS SEAT. 12 by the template 'for every input the law returns true; each argument reads behind the call as it read before'; 0 by the template 'total and deterministic' (their statements: YtjijbffecppeiaaTotals.lean).
  GIVEN WITH THE SEED: the statements are not yours to turn. If you find one false, say at which input.
  Laid BY PROGRAM, IN A SANDBOX (cutbox-rows.mjs): the forced cells as the released guide's own fill.sh prints them over the translation 63fbad3c9cc4bc4c… (all of the seat's roots in one cut). By AI agents, Wed Nov 11 2026. No macro, syntax, notation, axiom, sorry.
-/
import Derived.Test.YtjijbffecppeiaaChecked
import GoSem.Claim
import GoSem.ClaimJoined
import GoSem.ClaimMapViews
import Derived.JoinedTies
import Derived.KernelRfl
namespace Go.Proofs.Ytjijbffecppeiaa
/- THE CELL 'sum', in the pinned program and in every row, IS THE sha256 OF THE DUMP (.gsa) THAT YtjijbffecppeiaaProg.lean LOADS. Nothing in Lean hashes anything: it is a label: what it is worth is what the hold of that sum in a sandbox is worth. -/
noncomputable def Try.pinned : Pinned := { name := "ytjijbffecppeiaa", sum := "63fbad3c9cc4bc4c10d198db7d4a97252472d060e2dcde4db5e3ea056764a65b", checked := Try.checked }
namespace Rows
def none {H : Type} : Left H := { results := [], args := [] }

/-- 'laws.FnExactStreamOk': WHATEVER THE INPUT: true; the input reads as it did. -/
def fnExactStreamOkSpec : ChangeSpec := { name := "fnExactStreamOk", fn := fun _ => fun
  | [d] => { results := [.lit (.bool true)], args := [d] }
  | _ => none }
def fnExactStreamOkRow : OpenClaim := { program := "ytjijbffecppeiaa", sum := "63fbad3c9cc4bc4c10d198db7d4a97252472d060e2dcde4db5e3ea056764a65b", func := "loop.example/g00232/laws.FnExactStreamOk", spec := "fnExactStreamOk", apart := false }
def FnExactStreamOkSaid : Prop := fnExactStreamOkRow.holds Try.pinned (OpenSpec.ofChange fnExactStreamOkSpec)

/-- ITS FALSE NEIGHBOUR: 'it returns false'. Refute it at one input. -/
def fnExactStreamOkWrong : ChangeSpec := { name := "fnExactStreamOk", fn := fun _ => fun
  | [d] => { results := [.lit (.bool false)], args := [d] }
  | _ => none }
def FnExactStreamOkWrongFalsely : Prop := fnExactStreamOkRow.holds Try.pinned (OpenSpec.ofChange fnExactStreamOkWrong)

/-- 'laws.FnExactSameKeep': WHATEVER THE INPUT: true; the input reads as it did. -/
def fnExactSameKeepSpec : ChangeSpec := { name := "fnExactSameKeep", fn := fun _ => fun
  | [d1, d2] => { results := [.lit (.bool true)], args := [d1, d2] }
  | _ => none }
def fnExactSameKeepRow : OpenClaim := { program := "ytjijbffecppeiaa", sum := "63fbad3c9cc4bc4c10d198db7d4a97252472d060e2dcde4db5e3ea056764a65b", func := "loop.example/g00232/laws.FnExactSameKeep", spec := "fnExactSameKeep", apart := false }
def FnExactSameKeepSaid : Prop := fnExactSameKeepRow.holds Try.pinned (OpenSpec.ofChange fnExactSameKeepSpec)

/-- ITS FALSE NEIGHBOUR: 'it returns false'. Refute it at one input. -/
def fnExactSameKeepWrong : ChangeSpec := { name := "fnExactSameKeep", fn := fun _ => fun
  | [d1, d2] => { results := [.lit (.bool false)], args := [d1, d2] }
  | _ => none }
def FnExactSameKeepWrongFalsely : Prop := fnExactSameKeepRow.holds Try.pinned (OpenSpec.ofChange fnExactSameKeepWrong)

/-- 'laws.FnSegs': WHATEVER THE INPUT: true; the input reads as it did. -/
def fnSegsSpec : ChangeSpec := { name := "fnSegs", fn := fun _ => fun
  | [d] => { results := [.lit (.bool true)], args := [d] }
  | _ => none }
def fnSegsRow : OpenClaim := { program := "ytjijbffecppeiaa", sum := "63fbad3c9cc4bc4c10d198db7d4a97252472d060e2dcde4db5e3ea056764a65b", func := "loop.example/g00232/laws.FnSegs", spec := "fnSegs", apart := false }
def FnSegsSaid : Prop := fnSegsRow.holds Try.pinned (OpenSpec.ofChange fnSegsSpec)

/-- ITS FALSE NEIGHBOUR: 'it returns false'. Refute it at one input. -/
def fnSegsWrong : ChangeSpec := { name := "fnSegs", fn := fun _ => fun
  | [d] => { results := [.lit (.bool false)], args := [d] }
  | _ => none }
def FnSegsWrongFalsely : Prop := fnSegsRow.holds Try.pinned (OpenSpec.ofChange fnSegsWrong)

/-- 'laws.FnExactKeepOk': WHATEVER THE INPUT: true; the input reads as it did. -/
def fnExactKeepOkSpec : ChangeSpec := { name := "fnExactKeepOk", fn := fun _ => fun
  | [d] => { results := [.lit (.bool true)], args := [d] }
  | _ => none }
def fnExactKeepOkRow : OpenClaim := { program := "ytjijbffecppeiaa", sum := "63fbad3c9cc4bc4c10d198db7d4a97252472d060e2dcde4db5e3ea056764a65b", func := "loop.example/g00232/laws.FnExactKeepOk", spec := "fnExactKeepOk", apart := false }
def FnExactKeepOkSaid : Prop := fnExactKeepOkRow.holds Try.pinned (OpenSpec.ofChange fnExactKeepOkSpec)

/-- ITS FALSE NEIGHBOUR: 'it returns false'. Refute it at one input. -/
def fnExactKeepOkWrong : ChangeSpec := { name := "fnExactKeepOk", fn := fun _ => fun
  | [d] => { results := [.lit (.bool false)], args := [d] }
  | _ => none }
def FnExactKeepOkWrongFalsely : Prop := fnExactKeepOkRow.holds Try.pinned (OpenSpec.ofChange fnExactKeepOkWrong)

/-- 'laws.FnExactTakeRing': WHATEVER THE INPUT: true; the input reads as it did. -/
def fnExactTakeRingSpec : ChangeSpec := { name := "fnExactTakeRing", fn := fun _ => fun
  | [d] => { results := [.lit (.bool true)], args := [d] }
  | _ => none }
def fnExactTakeRingRow : OpenClaim := { program := "ytjijbffecppeiaa", sum := "63fbad3c9cc4bc4c10d198db7d4a97252472d060e2dcde4db5e3ea056764a65b", func := "loop.example/g00232/laws.FnExactTakeRing", spec := "fnExactTakeRing", apart := false }
def FnExactTakeRingSaid : Prop := fnExactTakeRingRow.holds Try.pinned (OpenSpec.ofChange fnExactTakeRingSpec)

/-- ITS FALSE NEIGHBOUR: 'it returns false'. Refute it at one input. -/
def fnExactTakeRingWrong : ChangeSpec := { name := "fnExactTakeRing", fn := fun _ => fun
  | [d] => { results := [.lit (.bool false)], args := [d] }
  | _ => none }
def FnExactTakeRingWrongFalsely : Prop := fnExactTakeRingRow.holds Try.pinned (OpenSpec.ofChange fnExactTakeRingWrong)

/-- 'laws.FnRingsTold': WHATEVER THE INPUT: true; the input reads as it did. -/
def fnRingsToldSpec : ChangeSpec := { name := "fnRingsTold", fn := fun _ => fun
  | [d] => { results := [.lit (.bool true)], args := [d] }
  | _ => none }
def fnRingsToldRow : OpenClaim := { program := "ytjijbffecppeiaa", sum := "63fbad3c9cc4bc4c10d198db7d4a97252472d060e2dcde4db5e3ea056764a65b", func := "loop.example/g00232/laws.FnRingsTold", spec := "fnRingsTold", apart := false }
def FnRingsToldSaid : Prop := fnRingsToldRow.holds Try.pinned (OpenSpec.ofChange fnRingsToldSpec)

/-- ITS FALSE NEIGHBOUR: 'it returns false'. Refute it at one input. -/
def fnRingsToldWrong : ChangeSpec := { name := "fnRingsTold", fn := fun _ => fun
  | [d] => { results := [.lit (.bool false)], args := [d] }
  | _ => none }
def FnRingsToldWrongFalsely : Prop := fnRingsToldRow.holds Try.pinned (OpenSpec.ofChange fnRingsToldWrong)

/-- 'laws.FnExactReadCommand': WHATEVER THE INPUT: true; the input reads as it did. -/
def fnExactReadCommandSpec : ChangeSpec := { name := "fnExactReadCommand", fn := fun _ => fun
  | [d] => { results := [.lit (.bool true)], args := [d] }
  | _ => none }
def fnExactReadCommandRow : OpenClaim := { program := "ytjijbffecppeiaa", sum := "63fbad3c9cc4bc4c10d198db7d4a97252472d060e2dcde4db5e3ea056764a65b", func := "loop.example/g00232/laws.FnExactReadCommand", spec := "fnExactReadCommand", apart := false }
def FnExactReadCommandSaid : Prop := fnExactReadCommandRow.holds Try.pinned (OpenSpec.ofChange fnExactReadCommandSpec)

/-- ITS FALSE NEIGHBOUR: 'it returns false'. Refute it at one input. -/
def fnExactReadCommandWrong : ChangeSpec := { name := "fnExactReadCommand", fn := fun _ => fun
  | [d] => { results := [.lit (.bool false)], args := [d] }
  | _ => none }
def FnExactReadCommandWrongFalsely : Prop := fnExactReadCommandRow.holds Try.pinned (OpenSpec.ofChange fnExactReadCommandWrong)

/-- 'laws.FnDgrams': WHATEVER THE INPUT: true; the input reads as it did. -/
def fnDgramsSpec : ChangeSpec := { name := "fnDgrams", fn := fun _ => fun
  | [d] => { results := [.lit (.bool true)], args := [d] }
  | _ => none }
def fnDgramsRow : OpenClaim := { program := "ytjijbffecppeiaa", sum := "63fbad3c9cc4bc4c10d198db7d4a97252472d060e2dcde4db5e3ea056764a65b", func := "loop.example/g00232/laws.FnDgrams", spec := "fnDgrams", apart := false }
def FnDgramsSaid : Prop := fnDgramsRow.holds Try.pinned (OpenSpec.ofChange fnDgramsSpec)

/-- ITS FALSE NEIGHBOUR: 'it returns false'. Refute it at one input. -/
def fnDgramsWrong : ChangeSpec := { name := "fnDgrams", fn := fun _ => fun
  | [d] => { results := [.lit (.bool false)], args := [d] }
  | _ => none }
def FnDgramsWrongFalsely : Prop := fnDgramsRow.holds Try.pinned (OpenSpec.ofChange fnDgramsWrong)

/-- 'laws.FnExactShut': WHATEVER THE INPUT: true; the input reads as it did. -/
def fnExactShutSpec : ChangeSpec := { name := "fnExactShut", fn := fun _ => fun
  | [d] => { results := [.lit (.bool true)], args := [d] }
  | _ => none }
def fnExactShutRow : OpenClaim := { program := "ytjijbffecppeiaa", sum := "63fbad3c9cc4bc4c10d198db7d4a97252472d060e2dcde4db5e3ea056764a65b", func := "loop.example/g00232/laws.FnExactShut", spec := "fnExactShut", apart := false }
def FnExactShutSaid : Prop := fnExactShutRow.holds Try.pinned (OpenSpec.ofChange fnExactShutSpec)

/-- ITS FALSE NEIGHBOUR: 'it returns false'. Refute it at one input. -/
def fnExactShutWrong : ChangeSpec := { name := "fnExactShut", fn := fun _ => fun
  | [d] => { results := [.lit (.bool false)], args := [d] }
  | _ => none }
def FnExactShutWrongFalsely : Prop := fnExactShutRow.holds Try.pinned (OpenSpec.ofChange fnExactShutWrong)

/-- 'laws.FnExactWrite': WHATEVER THE INPUT: true; the input reads as it did. -/
def fnExactWriteSpec : ChangeSpec := { name := "fnExactWrite", fn := fun _ => fun
  | [d1, d2] => { results := [.lit (.bool true)], args := [d1, d2] }
  | _ => none }
def fnExactWriteRow : OpenClaim := { program := "ytjijbffecppeiaa", sum := "63fbad3c9cc4bc4c10d198db7d4a97252472d060e2dcde4db5e3ea056764a65b", func := "loop.example/g00232/laws.FnExactWrite", spec := "fnExactWrite", apart := false }
def FnExactWriteSaid : Prop := fnExactWriteRow.holds Try.pinned (OpenSpec.ofChange fnExactWriteSpec)

/-- ITS FALSE NEIGHBOUR: 'it returns false'. Refute it at one input. -/
def fnExactWriteWrong : ChangeSpec := { name := "fnExactWrite", fn := fun _ => fun
  | [d1, d2] => { results := [.lit (.bool false)], args := [d1, d2] }
  | _ => none }
def FnExactWriteWrongFalsely : Prop := fnExactWriteRow.holds Try.pinned (OpenSpec.ofChange fnExactWriteWrong)

/-- 'laws.FnCells': WHATEVER THE INPUT: true; the input reads as it did. -/
def fnCellsSpec : ChangeSpec := { name := "fnCells", fn := fun _ => fun
  | [d] => { results := [.lit (.bool true)], args := [d] }
  | _ => none }
def fnCellsRow : OpenClaim := { program := "ytjijbffecppeiaa", sum := "63fbad3c9cc4bc4c10d198db7d4a97252472d060e2dcde4db5e3ea056764a65b", func := "loop.example/g00232/laws.FnCells", spec := "fnCells", apart := false }
def FnCellsSaid : Prop := fnCellsRow.holds Try.pinned (OpenSpec.ofChange fnCellsSpec)

/-- ITS FALSE NEIGHBOUR: 'it returns false'. Refute it at one input. -/
def fnCellsWrong : ChangeSpec := { name := "fnCells", fn := fun _ => fun
  | [d] => { results := [.lit (.bool false)], args := [d] }
  | _ => none }
def FnCellsWrongFalsely : Prop := fnCellsRow.holds Try.pinned (OpenSpec.ofChange fnCellsWrong)

/-- 'laws.FnExactKeepText': WHATEVER THE INPUT: true; the input reads as it did. -/
def fnExactKeepTextSpec : ChangeSpec := { name := "fnExactKeepText", fn := fun _ => fun
  | [d] => { results := [.lit (.bool true)], args := [d] }
  | _ => none }
def fnExactKeepTextRow : OpenClaim := { program := "ytjijbffecppeiaa", sum := "63fbad3c9cc4bc4c10d198db7d4a97252472d060e2dcde4db5e3ea056764a65b", func := "loop.example/g00232/laws.FnExactKeepText", spec := "fnExactKeepText", apart := false }
def FnExactKeepTextSaid : Prop := fnExactKeepTextRow.holds Try.pinned (OpenSpec.ofChange fnExactKeepTextSpec)

/-- ITS FALSE NEIGHBOUR: 'it returns false'. Refute it at one input. -/
def fnExactKeepTextWrong : ChangeSpec := { name := "fnExactKeepText", fn := fun _ => fun
  | [d] => { results := [.lit (.bool false)], args := [d] }
  | _ => none }
def FnExactKeepTextWrongFalsely : Prop := fnExactKeepTextRow.holds Try.pinned (OpenSpec.ofChange fnExactKeepTextWrong)

/- THE SECOND FORM. 'bulk': how many values and letters a reading holds, each counted each time it is reached (what is shared counts as often as it is met; a slice's spare places count too). A statement '..UptoSaid' is the law's where the arguments, and the package variables that the reading takes, are together of bulk at most 1048576: NARROWER than '..Said'. Prove '..Said' where nothing that the law and all that it calls make is longer than what came in: it says more and counts as full. Else prove '..UptoSaid'. A law counts once. -/
mutual
def uptoBulk {H : Type} : DataW H → Nat
  | .lit (.string bytes) => bytes.length + 1
  | .lit _ => 1
  | .nil => 1
  | .ptr d => uptoBulk d + 1
  | .slice elems spare => uptoBulkAll elems + uptoBulkAll spare + 1
  | .agg parts => uptoBulkAll parts + 1
  | .iface _ d => uptoBulk d + 1
  | .map entries => uptoBulkEntries entries + 1
  | .held _ => 1
def uptoBulkAll {H : Type} : List (DataW H) → Nat
  | [] => 0
  | d :: r => uptoBulk d + uptoBulkAll r
def uptoBulkEntries {H : Type} : List (Lit × DataW H) → Nat
  | [] => 0
  | x :: r => uptoBulkEntry x + uptoBulkEntries r
def uptoBulkEntry {H : Type} : Lit × DataW H → Nat
  | (.string bytes, d) => bytes.length + uptoBulk d + 1
  | (_, d) => uptoBulk d + 1
 end
def uptoSmall : (H : Type) → List (DataW H) → Bool := fun _ ds => decide (uptoBulkAll ds ≤ 1048576)
def OpenSpec.upto (s : _root_.Go.ChangeSpec) : _root_.Go.OpenSpec := { _root_.Go.OpenSpec.ofChange s with cond := some uptoSmall }

/-- 'laws.FnExactStreamOk', WHERE WHAT IT READS IS OF BULK AT MOST 1048576: true; the input reads as it did. -/
def fnExactStreamOkUptoRow : OpenClaim := { program := "ytjijbffecppeiaa", sum := "63fbad3c9cc4bc4c10d198db7d4a97252472d060e2dcde4db5e3ea056764a65b", func := "loop.example/g00232/laws.FnExactStreamOk", spec := "fnExactStreamOk", apart := false, narrowed := true }
def FnExactStreamOkUptoSaid : Prop := fnExactStreamOkUptoRow.holds Try.pinned (OpenSpec.upto fnExactStreamOkSpec)

/-- 'laws.FnExactSameKeep', WHERE WHAT IT READS IS OF BULK AT MOST 1048576: true; the input reads as it did. -/
def fnExactSameKeepUptoRow : OpenClaim := { program := "ytjijbffecppeiaa", sum := "63fbad3c9cc4bc4c10d198db7d4a97252472d060e2dcde4db5e3ea056764a65b", func := "loop.example/g00232/laws.FnExactSameKeep", spec := "fnExactSameKeep", apart := false, narrowed := true }
def FnExactSameKeepUptoSaid : Prop := fnExactSameKeepUptoRow.holds Try.pinned (OpenSpec.upto fnExactSameKeepSpec)

/-- 'laws.FnSegs', WHERE WHAT IT READS IS OF BULK AT MOST 1048576: true; the input reads as it did. -/
def fnSegsUptoRow : OpenClaim := { program := "ytjijbffecppeiaa", sum := "63fbad3c9cc4bc4c10d198db7d4a97252472d060e2dcde4db5e3ea056764a65b", func := "loop.example/g00232/laws.FnSegs", spec := "fnSegs", apart := false, narrowed := true }
def FnSegsUptoSaid : Prop := fnSegsUptoRow.holds Try.pinned (OpenSpec.upto fnSegsSpec)

/-- 'laws.FnExactKeepOk', WHERE WHAT IT READS IS OF BULK AT MOST 1048576: true; the input reads as it did. -/
def fnExactKeepOkUptoRow : OpenClaim := { program := "ytjijbffecppeiaa", sum := "63fbad3c9cc4bc4c10d198db7d4a97252472d060e2dcde4db5e3ea056764a65b", func := "loop.example/g00232/laws.FnExactKeepOk", spec := "fnExactKeepOk", apart := false, narrowed := true }
def FnExactKeepOkUptoSaid : Prop := fnExactKeepOkUptoRow.holds Try.pinned (OpenSpec.upto fnExactKeepOkSpec)

/-- 'laws.FnExactTakeRing', WHERE WHAT IT READS IS OF BULK AT MOST 1048576: true; the input reads as it did. -/
def fnExactTakeRingUptoRow : OpenClaim := { program := "ytjijbffecppeiaa", sum := "63fbad3c9cc4bc4c10d198db7d4a97252472d060e2dcde4db5e3ea056764a65b", func := "loop.example/g00232/laws.FnExactTakeRing", spec := "fnExactTakeRing", apart := false, narrowed := true }
def FnExactTakeRingUptoSaid : Prop := fnExactTakeRingUptoRow.holds Try.pinned (OpenSpec.upto fnExactTakeRingSpec)

/-- 'laws.FnRingsTold', WHERE WHAT IT READS IS OF BULK AT MOST 1048576: true; the input reads as it did. -/
def fnRingsToldUptoRow : OpenClaim := { program := "ytjijbffecppeiaa", sum := "63fbad3c9cc4bc4c10d198db7d4a97252472d060e2dcde4db5e3ea056764a65b", func := "loop.example/g00232/laws.FnRingsTold", spec := "fnRingsTold", apart := false, narrowed := true }
def FnRingsToldUptoSaid : Prop := fnRingsToldUptoRow.holds Try.pinned (OpenSpec.upto fnRingsToldSpec)

/-- 'laws.FnExactReadCommand', WHERE WHAT IT READS IS OF BULK AT MOST 1048576: true; the input reads as it did. -/
def fnExactReadCommandUptoRow : OpenClaim := { program := "ytjijbffecppeiaa", sum := "63fbad3c9cc4bc4c10d198db7d4a97252472d060e2dcde4db5e3ea056764a65b", func := "loop.example/g00232/laws.FnExactReadCommand", spec := "fnExactReadCommand", apart := false, narrowed := true }
def FnExactReadCommandUptoSaid : Prop := fnExactReadCommandUptoRow.holds Try.pinned (OpenSpec.upto fnExactReadCommandSpec)

/-- 'laws.FnDgrams', WHERE WHAT IT READS IS OF BULK AT MOST 1048576: true; the input reads as it did. -/
def fnDgramsUptoRow : OpenClaim := { program := "ytjijbffecppeiaa", sum := "63fbad3c9cc4bc4c10d198db7d4a97252472d060e2dcde4db5e3ea056764a65b", func := "loop.example/g00232/laws.FnDgrams", spec := "fnDgrams", apart := false, narrowed := true }
def FnDgramsUptoSaid : Prop := fnDgramsUptoRow.holds Try.pinned (OpenSpec.upto fnDgramsSpec)

/-- 'laws.FnExactShut', WHERE WHAT IT READS IS OF BULK AT MOST 1048576: true; the input reads as it did. -/
def fnExactShutUptoRow : OpenClaim := { program := "ytjijbffecppeiaa", sum := "63fbad3c9cc4bc4c10d198db7d4a97252472d060e2dcde4db5e3ea056764a65b", func := "loop.example/g00232/laws.FnExactShut", spec := "fnExactShut", apart := false, narrowed := true }
def FnExactShutUptoSaid : Prop := fnExactShutUptoRow.holds Try.pinned (OpenSpec.upto fnExactShutSpec)

/-- 'laws.FnExactWrite', WHERE WHAT IT READS IS OF BULK AT MOST 1048576: true; the input reads as it did. -/
def fnExactWriteUptoRow : OpenClaim := { program := "ytjijbffecppeiaa", sum := "63fbad3c9cc4bc4c10d198db7d4a97252472d060e2dcde4db5e3ea056764a65b", func := "loop.example/g00232/laws.FnExactWrite", spec := "fnExactWrite", apart := false, narrowed := true }
def FnExactWriteUptoSaid : Prop := fnExactWriteUptoRow.holds Try.pinned (OpenSpec.upto fnExactWriteSpec)

/-- 'laws.FnCells', WHERE WHAT IT READS IS OF BULK AT MOST 1048576: true; the input reads as it did. -/
def fnCellsUptoRow : OpenClaim := { program := "ytjijbffecppeiaa", sum := "63fbad3c9cc4bc4c10d198db7d4a97252472d060e2dcde4db5e3ea056764a65b", func := "loop.example/g00232/laws.FnCells", spec := "fnCells", apart := false, narrowed := true }
def FnCellsUptoSaid : Prop := fnCellsUptoRow.holds Try.pinned (OpenSpec.upto fnCellsSpec)

/-- 'laws.FnExactKeepText', WHERE WHAT IT READS IS OF BULK AT MOST 1048576: true; the input reads as it did. -/
def fnExactKeepTextUptoRow : OpenClaim := { program := "ytjijbffecppeiaa", sum := "63fbad3c9cc4bc4c10d198db7d4a97252472d060e2dcde4db5e3ea056764a65b", func := "loop.example/g00232/laws.FnExactKeepText", spec := "fnExactKeepText", apart := false, narrowed := true }
def FnExactKeepTextUptoSaid : Prop := fnExactKeepTextUptoRow.holds Try.pinned (OpenSpec.upto fnExactKeepTextSpec)

end Rows
end Go.Proofs.Ytjijbffecppeiaa
