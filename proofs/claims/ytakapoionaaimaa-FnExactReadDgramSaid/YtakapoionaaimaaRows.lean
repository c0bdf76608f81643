/-
  No cell of these rows narrows 'for every input' (looked for: loops, veiled, ifaces, maps, wideKeys, modest, calm, conditions, laid).
  DERIVED. THE GIVEN ROWS OF THIS SEAT. 12 by the template 'for every input the law returns true; each argument reads behind the call as it read before'; 0 by the template 'total and deterministic' (their statements: YtakapoionaaimaaTotals.lean).
  GIVEN WITH THE SEED: the statements are not yours to turn. If you find one false, say at which input.
  Laid BY PROGRAM, IN A SANDBOX (cutbox-rows.mjs): the forced cells as the released guide's own fill.sh prints them over the translation ff64d25b4702b92f… (all of the seat's roots in one cut). By AI agents, Wed Nov 11 2026. No macro, syntax, notation, axiom, sorry.
-/
import Derived.Test.YtakapoionaaimaaChecked
import GoSem.Claim
import GoSem.ClaimJoined
import GoSem.ClaimMapViews
import Derived.JoinedTies
import Derived.KernelRfl
namespace Go.Proofs.Ytakapoionaaimaa
/- THE CELL 'sum', in the pinned program and in every row, IS THE sha256 OF THE DUMP (.gsa) THAT YtakapoionaaimaaProg.lean LOADS. Nothing in Lean hashes anything: it is a label: what it is worth is what the hold of that sum in a sandbox is worth. -/
noncomputable def Try.pinned : Pinned := { name := "ytakapoionaaimaa", sum := "ff64d25b4702b92f739aca8b8c4d345fe098f5c709fb5822cee169b9459f6188", checked := Try.checked }
namespace Rows
def none {H : Type} : Left H := { results := [], args := [] }

/-- 'laws.FnExactReadSeg': WHATEVER THE INPUT: true; the input reads as it did. -/
def fnExactReadSegSpec : ChangeSpec := { name := "fnExactReadSeg", fn := fun _ => fun
  | [d] => { results := [.lit (.bool true)], args := [d] }
  | _ => none }
def fnExactReadSegRow : OpenClaim := { program := "ytakapoionaaimaa", sum := "ff64d25b4702b92f739aca8b8c4d345fe098f5c709fb5822cee169b9459f6188", func := "loop.example/g00232/laws.FnExactReadSeg", spec := "fnExactReadSeg", apart := false }
def FnExactReadSegSaid : Prop := fnExactReadSegRow.holds Try.pinned (OpenSpec.ofChange fnExactReadSegSpec)

/-- ITS FALSE NEIGHBOUR: 'it returns false'. Refute it at one input. -/
def fnExactReadSegWrong : ChangeSpec := { name := "fnExactReadSeg", fn := fun _ => fun
  | [d] => { results := [.lit (.bool false)], args := [d] }
  | _ => none }
def FnExactReadSegWrongFalsely : Prop := fnExactReadSegRow.holds Try.pinned (OpenSpec.ofChange fnExactReadSegWrong)

/-- 'laws.FnExactLearn': WHATEVER THE INPUT: true; the input reads as it did. -/
def fnExactLearnSpec : ChangeSpec := { name := "fnExactLearn", fn := fun _ => fun
  | [d1, d2, d3] => { results := [.lit (.bool true)], args := [d1, d2, d3] }
  | _ => none }
def fnExactLearnRow : OpenClaim := { program := "ytakapoionaaimaa", sum := "ff64d25b4702b92f739aca8b8c4d345fe098f5c709fb5822cee169b9459f6188", func := "loop.example/g00232/laws.FnExactLearn", spec := "fnExactLearn", apart := false }
def FnExactLearnSaid : Prop := fnExactLearnRow.holds Try.pinned (OpenSpec.ofChange fnExactLearnSpec)

/-- ITS FALSE NEIGHBOUR: 'it returns false'. Refute it at one input. -/
def fnExactLearnWrong : ChangeSpec := { name := "fnExactLearn", fn := fun _ => fun
  | [d1, d2, d3] => { results := [.lit (.bool false)], args := [d1, d2, d3] }
  | _ => none }
def FnExactLearnWrongFalsely : Prop := fnExactLearnRow.holds Try.pinned (OpenSpec.ofChange fnExactLearnWrong)

/-- 'laws.FnExactCellText': WHATEVER THE INPUT: true; the input reads as it did. -/
def fnExactCellTextSpec : ChangeSpec := { name := "fnExactCellText", fn := fun _ => fun
  | [d] => { results := [.lit (.bool true)], args := [d] }
  | _ => none }
def fnExactCellTextRow : OpenClaim := { program := "ytakapoionaaimaa", sum := "ff64d25b4702b92f739aca8b8c4d345fe098f5c709fb5822cee169b9459f6188", func := "loop.example/g00232/laws.FnExactCellText", spec := "fnExactCellText", apart := false }
def FnExactCellTextSaid : Prop := fnExactCellTextRow.holds Try.pinned (OpenSpec.ofChange fnExactCellTextSpec)

/-- ITS FALSE NEIGHBOUR: 'it returns false'. Refute it at one input. -/
def fnExactCellTextWrong : ChangeSpec := { name := "fnExactCellText", fn := fun _ => fun
  | [d] => { results := [.lit (.bool false)], args := [d] }
  | _ => none }
def FnExactCellTextWrongFalsely : Prop := fnExactCellTextRow.holds Try.pinned (OpenSpec.ofChange fnExactCellTextWrong)

/-- 'laws.FnExactDgramText': WHATEVER THE INPUT: true; the input reads as it did. -/
def fnExactDgramTextSpec : ChangeSpec := { name := "fnExactDgramText", fn := fun _ => fun
  | [d] => { results := [.lit (.bool true)], args := [d] }
  | _ => none }
def fnExactDgramTextRow : OpenClaim := { program := "ytakapoionaaimaa", sum := "ff64d25b4702b92f739aca8b8c4d345fe098f5c709fb5822cee169b9459f6188", func := "loop.example/g00232/laws.FnExactDgramText", spec := "fnExactDgramText", apart := false }
def FnExactDgramTextSaid : Prop := fnExactDgramTextRow.holds Try.pinned (OpenSpec.ofChange fnExactDgramTextSpec)

/-- ITS FALSE NEIGHBOUR: 'it returns false'. Refute it at one input. -/
def fnExactDgramTextWrong : ChangeSpec := { name := "fnExactDgramText", fn := fun _ => fun
  | [d] => { results := [.lit (.bool false)], args := [d] }
  | _ => none }
def FnExactDgramTextWrongFalsely : Prop := fnExactDgramTextRow.holds Try.pinned (OpenSpec.ofChange fnExactDgramTextWrong)

/-- 'laws.FnExactCommandText': WHATEVER THE INPUT: true; the input reads as it did. -/
def fnExactCommandTextSpec : ChangeSpec := { name := "fnExactCommandText", fn := fun _ => fun
  | [d] => { results := [.lit (.bool true)], args := [d] }
  | _ => none }
def fnExactCommandTextRow : OpenClaim := { program := "ytakapoionaaimaa", sum := "ff64d25b4702b92f739aca8b8c4d345fe098f5c709fb5822cee169b9459f6188", func := "loop.example/g00232/laws.FnExactCommandText", spec := "fnExactCommandText", apart := false }
def FnExactCommandTextSaid : Prop := fnExactCommandTextRow.holds Try.pinned (OpenSpec.ofChange fnExactCommandTextSpec)

/-- ITS FALSE NEIGHBOUR: 'it returns false'. Refute it at one input. -/
def fnExactCommandTextWrong : ChangeSpec := { name := "fnExactCommandText", fn := fun _ => fun
  | [d] => { results := [.lit (.bool false)], args := [d] }
  | _ => none }
def FnExactCommandTextWrongFalsely : Prop := fnExactCommandTextRow.holds Try.pinned (OpenSpec.ofChange fnExactCommandTextWrong)

/-- 'laws.FnExactReadCell': WHATEVER THE INPUT: true; the input reads as it did. -/
def fnExactReadCellSpec : ChangeSpec := { name := "fnExactReadCell", fn := fun _ => fun
  | [d] => { results := [.lit (.bool true)], args := [d] }
  | _ => none }
def fnExactReadCellRow : OpenClaim := { program := "ytakapoionaaimaa", sum := "ff64d25b4702b92f739aca8b8c4d345fe098f5c709fb5822cee169b9459f6188", func := "loop.example/g00232/laws.FnExactReadCell", spec := "fnExactReadCell", apart := false }
def FnExactReadCellSaid : Prop := fnExactReadCellRow.holds Try.pinned (OpenSpec.ofChange fnExactReadCellSpec)

/-- ITS FALSE NEIGHBOUR: 'it returns false'. Refute it at one input. -/
def fnExactReadCellWrong : ChangeSpec := { name := "fnExactReadCell", fn := fun _ => fun
  | [d] => { results := [.lit (.bool false)], args := [d] }
  | _ => none }
def FnExactReadCellWrongFalsely : Prop := fnExactReadCellRow.holds Try.pinned (OpenSpec.ofChange fnExactReadCellWrong)

/-- 'laws.FnExactEnded': WHATEVER THE INPUT: true; the input reads as it did. -/
def fnExactEndedSpec : ChangeSpec := { name := "fnExactEnded", fn := fun _ => fun
  | [d] => { results := [.lit (.bool true)], args := [d] }
  | _ => none }
def fnExactEndedRow : OpenClaim := { program := "ytakapoionaaimaa", sum := "ff64d25b4702b92f739aca8b8c4d345fe098f5c709fb5822cee169b9459f6188", func := "loop.example/g00232/laws.FnExactEnded", spec := "fnExactEnded", apart := false }
def FnExactEndedSaid : Prop := fnExactEndedRow.holds Try.pinned (OpenSpec.ofChange fnExactEndedSpec)

/-- ITS FALSE NEIGHBOUR: 'it returns false'. Refute it at one input. -/
def fnExactEndedWrong : ChangeSpec := { name := "fnExactEnded", fn := fun _ => fun
  | [d] => { results := [.lit (.bool false)], args := [d] }
  | _ => none }
def FnExactEndedWrongFalsely : Prop := fnExactEndedRow.holds Try.pinned (OpenSpec.ofChange fnExactEndedWrong)

/-- 'laws.FnExactStreamNew': WHATEVER THE INPUT: true; the input reads as it did. -/
def fnExactStreamNewSpec : ChangeSpec := { name := "fnExactStreamNew", fn := fun _ => fun
  | [d1, d2] => { results := [.lit (.bool true)], args := [d1, d2] }
  | _ => none }
def fnExactStreamNewRow : OpenClaim := { program := "ytakapoionaaimaa", sum := "ff64d25b4702b92f739aca8b8c4d345fe098f5c709fb5822cee169b9459f6188", func := "loop.example/g00232/laws.FnExactStreamNew", spec := "fnExactStreamNew", apart := false }
def FnExactStreamNewSaid : Prop := fnExactStreamNewRow.holds Try.pinned (OpenSpec.ofChange fnExactStreamNewSpec)

/-- ITS FALSE NEIGHBOUR: 'it returns false'. Refute it at one input. -/
def fnExactStreamNewWrong : ChangeSpec := { name := "fnExactStreamNew", fn := fun _ => fun
  | [d1, d2] => { results := [.lit (.bool false)], args := [d1, d2] }
  | _ => none }
def FnExactStreamNewWrongFalsely : Prop := fnExactStreamNewRow.holds Try.pinned (OpenSpec.ofChange fnExactStreamNewWrong)

/-- 'laws.FnExactKeepNew': WHATEVER THE INPUT: true; the input reads as it did. -/
def fnExactKeepNewSpec : ChangeSpec := { name := "fnExactKeepNew", fn := fun _ => fun
  | [] => { results := [.lit (.bool true)], args := [] }
  | _ => none }
def fnExactKeepNewRow : OpenClaim := { program := "ytakapoionaaimaa", sum := "ff64d25b4702b92f739aca8b8c4d345fe098f5c709fb5822cee169b9459f6188", func := "loop.example/g00232/laws.FnExactKeepNew", spec := "fnExactKeepNew", apart := false }
def FnExactKeepNewSaid : Prop := fnExactKeepNewRow.holds Try.pinned (OpenSpec.ofChange fnExactKeepNewSpec)

/-- ITS FALSE NEIGHBOUR: 'it returns false'. Refute it at one input. -/
def fnExactKeepNewWrong : ChangeSpec := { name := "fnExactKeepNew", fn := fun _ => fun
  | [] => { results := [.lit (.bool false)], args := [] }
  | _ => none }
def FnExactKeepNewWrongFalsely : Prop := fnExactKeepNewRow.holds Try.pinned (OpenSpec.ofChange fnExactKeepNewWrong)

/-- 'laws.FnExactReadDgram': WHATEVER THE INPUT: true; the input reads as it did. -/
def fnExactReadDgramSpec : ChangeSpec := { name := "fnExactReadDgram", fn := fun _ => fun
  | [d] => { results := [.lit (.bool true)], args := [d] }
  | _ => none }
def fnExactReadDgramRow : OpenClaim := { program := "ytakapoionaaimaa", sum := "ff64d25b4702b92f739aca8b8c4d345fe098f5c709fb5822cee169b9459f6188", func := "loop.example/g00232/laws.FnExactReadDgram", spec := "fnExactReadDgram", apart := false }
def FnExactReadDgramSaid : Prop := fnExactReadDgramRow.holds Try.pinned (OpenSpec.ofChange fnExactReadDgramSpec)

/-- ITS FALSE NEIGHBOUR: 'it returns false'. Refute it at one input. -/
def fnExactReadDgramWrong : ChangeSpec := { name := "fnExactReadDgram", fn := fun _ => fun
  | [d] => { results := [.lit (.bool false)], args := [d] }
  | _ => none }
def FnExactReadDgramWrongFalsely : Prop := fnExactReadDgramRow.holds Try.pinned (OpenSpec.ofChange fnExactReadDgramWrong)

/-- 'laws.FnExactCutDgram': WHATEVER THE INPUT: true; the input reads as it did. -/
def fnExactCutDgramSpec : ChangeSpec := { name := "fnExactCutDgram", fn := fun _ => fun
  | [d1, d2] => { results := [.lit (.bool true)], args := [d1, d2] }
  | _ => none }
def fnExactCutDgramRow : OpenClaim := { program := "ytakapoionaaimaa", sum := "ff64d25b4702b92f739aca8b8c4d345fe098f5c709fb5822cee169b9459f6188", func := "loop.example/g00232/laws.FnExactCutDgram", spec := "fnExactCutDgram", apart := false }
def FnExactCutDgramSaid : Prop := fnExactCutDgramRow.holds Try.pinned (OpenSpec.ofChange fnExactCutDgramSpec)

/-- ITS FALSE NEIGHBOUR: 'it returns false'. Refute it at one input. -/
def fnExactCutDgramWrong : ChangeSpec := { name := "fnExactCutDgram", fn := fun _ => fun
  | [d1, d2] => { results := [.lit (.bool false)], args := [d1, d2] }
  | _ => none }
def FnExactCutDgramWrongFalsely : Prop := fnExactCutDgramRow.holds Try.pinned (OpenSpec.ofChange fnExactCutDgramWrong)

/-- 'laws.FnExactItemOf': WHATEVER THE INPUT: true; the input reads as it did. -/
def fnExactItemOfSpec : ChangeSpec := { name := "fnExactItemOf", fn := fun _ => fun
  | [d1, d2] => { results := [.lit (.bool true)], args := [d1, d2] }
  | _ => none }
def fnExactItemOfRow : OpenClaim := { program := "ytakapoionaaimaa", sum := "ff64d25b4702b92f739aca8b8c4d345fe098f5c709fb5822cee169b9459f6188", func := "loop.example/g00232/laws.FnExactItemOf", spec := "fnExactItemOf", apart := false }
def FnExactItemOfSaid : Prop := fnExactItemOfRow.holds Try.pinned (OpenSpec.ofChange fnExactItemOfSpec)

/-- ITS FALSE NEIGHBOUR: 'it returns false'. Refute it at one input. -/
def fnExactItemOfWrong : ChangeSpec := { name := "fnExactItemOf", fn := fun _ => fun
  | [d1, d2] => { results := [.lit (.bool false)], args := [d1, d2] }
  | _ => none }
def FnExactItemOfWrongFalsely : Prop := fnExactItemOfRow.holds Try.pinned (OpenSpec.ofChange fnExactItemOfWrong)

/- THE SECOND FORM. 'bulk': how many values and letters a reading holds, each counted each time it is reached (what is shared counts as often as it is met; a slice's spare places count too). A statement '..UptoSaid' is the law's where the arguments, and the package variables that the reading takes, are together of bulk at most 1048576: NARROWER than '..Said'. Prove '..Said' where nothing that the law and all that it calls make is longer than what came in: it says more and counts as full. Else prove '..UptoSaid'. A law counts once. -/
mutual
def uptoBulk {H : Type} : DataW H → Nat
  | .lit (.string bytes) => bytes.length + 1
  | .lit _ => 1
  | .nil => 1
  | .ptr d => uptoBulk d + 1
  | .slice elems spare => uptoBulkAll elems + uptoBulkAll spare + 1
  | .agg parts => uptoBulkAll parts + 1
  | .iface _ d => uptoBulk d + 1
  | .map entries => uptoBulkEntries entries + 1
  | .held _ => 1
def uptoBulkAll {H : Type} : List (DataW H) → Nat
  | [] => 0
  | d :: r => uptoBulk d + uptoBulkAll r
def uptoBulkEntries {H : Type} : List (Lit × DataW H) → Nat
  | [] => 0
  | x :: r => uptoBulkEntry x + uptoBulkEntries r
def uptoBulkEntry {H : Type} : Lit × DataW H → Nat
  | (.string bytes, d) => bytes.length + uptoBulk d + 1
  | (_, d) => uptoBulk d + 1
 end
def uptoSmall : (H : Type) → List (DataW H) → Bool := fun _ ds => decide (uptoBulkAll ds ≤ 1048576)
def OpenSpec.upto (s : _root_.Go.ChangeSpec) : _root_.Go.OpenSpec := { _root_.Go.OpenSpec.ofChange s with cond := some uptoSmall }

/-- 'laws.FnExactReadSeg', WHERE WHAT IT READS IS OF BULK AT MOST 1048576: true; the input reads as it did. -/
def fnExactReadSegUptoRow : OpenClaim := { program := "ytakapoionaaimaa", sum := "ff64d25b4702b92f739aca8b8c4d345fe098f5c709fb5822cee169b9459f6188", func := "loop.example/g00232/laws.FnExactReadSeg", spec := "fnExactReadSeg", apart := false, narrowed := true }
def FnExactReadSegUptoSaid : Prop := fnExactReadSegUptoRow.holds Try.pinned (OpenSpec.upto fnExactReadSegSpec)

/-- 'laws.FnExactLearn', WHERE WHAT IT READS IS OF BULK AT MOST 1048576: true; the input reads as it did. -/
def fnExactLearnUptoRow : OpenClaim := { program := "ytakapoionaaimaa", sum := "ff64d25b4702b92f739aca8b8c4d345fe098f5c709fb5822cee169b9459f6188", func := "loop.example/g00232/laws.FnExactLearn", spec := "fnExactLearn", apart := false, narrowed := true }
def FnExactLearnUptoSaid : Prop := fnExactLearnUptoRow.holds Try.pinned (OpenSpec.upto fnExactLearnSpec)

/-- 'laws.FnExactCellText', WHERE WHAT IT READS IS OF BULK AT MOST 1048576: true; the input reads as it did. -/
def fnExactCellTextUptoRow : OpenClaim := { program := "ytakapoionaaimaa", sum := "ff64d25b4702b92f739aca8b8c4d345fe098f5c709fb5822cee169b9459f6188", func := "loop.example/g00232/laws.FnExactCellText", spec := "fnExactCellText", apart := false, narrowed := true }
def FnExactCellTextUptoSaid : Prop := fnExactCellTextUptoRow.holds Try.pinned (OpenSpec.upto fnExactCellTextSpec)

/-- 'laws.FnExactDgramText', WHERE WHAT IT READS IS OF BULK AT MOST 1048576: true; the input reads as it did. -/
def fnExactDgramTextUptoRow : OpenClaim := { program := "ytakapoionaaimaa", sum := "ff64d25b4702b92f739aca8b8c4d345fe098f5c709fb5822cee169b9459f6188", func := "loop.example/g00232/laws.FnExactDgramText", spec := "fnExactDgramText", apart := false, narrowed := true }
def FnExactDgramTextUptoSaid : Prop := fnExactDgramTextUptoRow.holds Try.pinned (OpenSpec.upto fnExactDgramTextSpec)

/-- 'laws.FnExactCommandText', WHERE WHAT IT READS IS OF BULK AT MOST 1048576: true; the input reads as it did. -/
def fnExactCommandTextUptoRow : OpenClaim := { program := "ytakapoionaaimaa", sum := "ff64d25b4702b92f739aca8b8c4d345fe098f5c709fb5822cee169b9459f6188", func := "loop.example/g00232/laws.FnExactCommandText", spec := "fnExactCommandText", apart := false, narrowed := true }
def FnExactCommandTextUptoSaid : Prop := fnExactCommandTextUptoRow.holds Try.pinned (OpenSpec.upto fnExactCommandTextSpec)

/-- 'laws.FnExactReadCell', WHERE WHAT IT READS IS OF BULK AT MOST 1048576: true; the input reads as it did. -/
def fnExactReadCellUptoRow : OpenClaim := { program := "ytakapoionaaimaa", sum := "ff64d25b4702b92f739aca8b8c4d345fe098f5c709fb5822cee169b9459f6188", func := "loop.example/g00232/laws.FnExactReadCell", spec := "fnExactReadCell", apart := false, narrowed := true }
def FnExactReadCellUptoSaid : Prop := fnExactReadCellUptoRow.holds Try.pinned (OpenSpec.upto fnExactReadCellSpec)

/-- 'laws.FnExactEnded', WHERE WHAT IT READS IS OF BULK AT MOST 1048576: true; the input reads as it did. -/
def fnExactEndedUptoRow : OpenClaim := { program := "ytakapoionaaimaa", sum := "ff64d25b4702b92f739aca8b8c4d345fe098f5c709fb5822cee169b9459f6188", func := "loop.example/g00232/laws.FnExactEnded", spec := "fnExactEnded", apart := false, narrowed := true }
def FnExactEndedUptoSaid : Prop := fnExactEndedUptoRow.holds Try.pinned (OpenSpec.upto fnExactEndedSpec)

/-- 'laws.FnExactStreamNew', WHERE WHAT IT READS IS OF BULK AT MOST 1048576: true; the input reads as it did. -/
def fnExactStreamNewUptoRow : OpenClaim := { program := "ytakapoionaaimaa", sum := "ff64d25b4702b92f739aca8b8c4d345fe098f5c709fb5822cee169b9459f6188", func := "loop.example/g00232/laws.FnExactStreamNew", spec := "fnExactStreamNew", apart := false, narrowed := true }
def FnExactStreamNewUptoSaid : Prop := fnExactStreamNewUptoRow.holds Try.pinned (OpenSpec.upto fnExactStreamNewSpec)

/-- 'laws.FnExactKeepNew', WHERE WHAT IT READS IS OF BULK AT MOST 1048576: true; the input reads as it did. -/
def fnExactKeepNewUptoRow : OpenClaim := { program := "ytakapoionaaimaa", sum := "ff64d25b4702b92f739aca8b8c4d345fe098f5c709fb5822cee169b9459f6188", func := "loop.example/g00232/laws.FnExactKeepNew", spec := "fnExactKeepNew", apart := false, narrowed := true }
def FnExactKeepNewUptoSaid : Prop := fnExactKeepNewUptoRow.holds Try.pinned (OpenSpec.upto fnExactKeepNewSpec)

/-- 'laws.FnExactReadDgram', WHERE WHAT IT READS IS OF BULK AT MOST 1048576: true; the input reads as it did. -/
def fnExactReadDgramUptoRow : OpenClaim := { program := "ytakapoionaaimaa", sum := "ff64d25b4702b92f739aca8b8c4d345fe098f5c709fb5822cee169b9459f6188", func := "loop.example/g00232/laws.FnExactReadDgram", spec := "fnExactReadDgram", apart := false, narrowed := true }
def FnExactReadDgramUptoSaid : Prop := fnExactReadDgramUptoRow.holds Try.pinned (OpenSpec.upto fnExactReadDgramSpec)

/-- 'laws.FnExactCutDgram', WHERE WHAT IT READS IS OF BULK AT MOST 1048576: true; the input reads as it did. -/
def fnExactCutDgramUptoRow : OpenClaim := { program := "ytakapoionaaimaa", sum := "ff64d25b4702b92f739aca8b8c4d345fe098f5c709fb5822cee169b9459f6188", func := "loop.example/g00232/laws.FnExactCutDgram", spec := "fnExactCutDgram", apart := false, narrowed := true }
def FnExactCutDgramUptoSaid : Prop := fnExactCutDgramUptoRow.holds Try.pinned (OpenSpec.upto fnExactCutDgramSpec)

/-- 'laws.FnExactItemOf', WHERE WHAT IT READS IS OF BULK AT MOST 1048576: true; the input reads as it did. -/
def fnExactItemOfUptoRow : OpenClaim := { program := "ytakapoionaaimaa", sum := "ff64d25b4702b92f739aca8b8c4d345fe098f5c709fb5822cee169b9459f6188", func := "loop.example/g00232/laws.FnExactItemOf", spec := "fnExactItemOf", apart := false, narrowed := true }
def FnExactItemOfUptoSaid : Prop := fnExactItemOfUptoRow.holds Try.pinned (OpenSpec.upto fnExactItemOfSpec)

end Rows
end Go.Proofs.Ytakapoionaaimaa
