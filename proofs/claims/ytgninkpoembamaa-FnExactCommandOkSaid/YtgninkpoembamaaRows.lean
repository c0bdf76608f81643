/-
  No cell of these rows narrows 'for every input' (looked for: loops, veiled, ifaces, maps, wideKeys, modest, calm, conditions, laid).
  DERIVED. THE GIVEN ROWS OF THIS SEAT. 12 by the template 'for every input the law returns true; each argument reads behind the call as it read before'; 0 by the template 'total and deterministic' (their statements: YtgninkpoembamaaTotals.lean).
  GIVEN WITH THE SEED: the statements are not yours to turn. If you find one false, say at which input.
  Laid BY PROGRAM, IN A SANDBOX (cutbox-rows.mjs): the forced cells as the released guide's own fill.sh prints them over the translation bf96fadb592f0a94… (all of the seat's roots in one cut). By AI agents, Wed Nov 11 2026. No macro, syntax, notation, axiom, sorry.
-/
import Derived.Test.YtgninkpoembamaaChecked
import GoSem.Claim
import GoSem.ClaimJoined
import GoSem.ClaimMapViews
import Derived.JoinedTies
import Derived.KernelRfl
namespace Go.Proofs.Ytgninkpoembamaa
/- THE CELL 'sum', in the pinned program and in every row, IS THE sha256 OF THE DUMP (.gsa) THAT YtgninkpoembamaaProg.lean LOADS. Nothing in Lean hashes anything: it is a label: what it is worth is what the hold of that sum in a sandbox is worth. -/
noncomputable def Try.pinned : Pinned := { name := "ytgninkpoembamaa", sum := "bf96fadb592f0a94865b09a4c0bddb0815e60f3dfa9f37d7a44dd7a0d079a671", checked := Try.checked }
namespace Rows
def none {H : Type} : Left H := { results := [], args := [] }

/-- 'laws.FnExactAddNum': WHATEVER THE INPUT: true; the input reads as it did. -/
def fnExactAddNumSpec : ChangeSpec := { name := "fnExactAddNum", fn := fun _ => fun
  | [d1, d2] => { results := [.lit (.bool true)], args := [d1, d2] }
  | _ => none }
def fnExactAddNumRow : OpenClaim := { program := "ytgninkpoembamaa", sum := "bf96fadb592f0a94865b09a4c0bddb0815e60f3dfa9f37d7a44dd7a0d079a671", func := "loop.example/g00232/laws.FnExactAddNum", spec := "fnExactAddNum", apart := false }
def FnExactAddNumSaid : Prop := fnExactAddNumRow.holds Try.pinned (OpenSpec.ofChange fnExactAddNumSpec)

/-- ITS FALSE NEIGHBOUR: 'it returns false'. Refute it at one input. -/
def fnExactAddNumWrong : ChangeSpec := { name := "fnExactAddNum", fn := fun _ => fun
  | [d1, d2] => { results := [.lit (.bool false)], args := [d1, d2] }
  | _ => none }
def FnExactAddNumWrongFalsely : Prop := fnExactAddNumRow.holds Try.pinned (OpenSpec.ofChange fnExactAddNumWrong)

/-- 'laws.FnExactGap': WHATEVER THE INPUT: true; the input reads as it did. -/
def fnExactGapSpec : ChangeSpec := { name := "fnExactGap", fn := fun _ => fun
  | [d1, d2] => { results := [.lit (.bool true)], args := [d1, d2] }
  | _ => none }
def fnExactGapRow : OpenClaim := { program := "ytgninkpoembamaa", sum := "bf96fadb592f0a94865b09a4c0bddb0815e60f3dfa9f37d7a44dd7a0d079a671", func := "loop.example/g00232/laws.FnExactGap", spec := "fnExactGap", apart := false }
def FnExactGapSaid : Prop := fnExactGapRow.holds Try.pinned (OpenSpec.ofChange fnExactGapSpec)

/-- ITS FALSE NEIGHBOUR: 'it returns false'. Refute it at one input. -/
def fnExactGapWrong : ChangeSpec := { name := "fnExactGap", fn := fun _ => fun
  | [d1, d2] => { results := [.lit (.bool false)], args := [d1, d2] }
  | _ => none }
def FnExactGapWrongFalsely : Prop := fnExactGapRow.holds Try.pinned (OpenSpec.ofChange fnExactGapWrong)

/-- 'laws.FnExactTurnOk': WHATEVER THE INPUT: true; the input reads as it did. -/
def fnExactTurnOkSpec : ChangeSpec := { name := "fnExactTurnOk", fn := fun _ => fun
  | [d] => { results := [.lit (.bool true)], args := [d] }
  | _ => none }
def fnExactTurnOkRow : OpenClaim := { program := "ytgninkpoembamaa", sum := "bf96fadb592f0a94865b09a4c0bddb0815e60f3dfa9f37d7a44dd7a0d079a671", func := "loop.example/g00232/laws.FnExactTurnOk", spec := "fnExactTurnOk", apart := false }
def FnExactTurnOkSaid : Prop := fnExactTurnOkRow.holds Try.pinned (OpenSpec.ofChange fnExactTurnOkSpec)

/-- ITS FALSE NEIGHBOUR: 'it returns false'. Refute it at one input. -/
def fnExactTurnOkWrong : ChangeSpec := { name := "fnExactTurnOk", fn := fun _ => fun
  | [d] => { results := [.lit (.bool false)], args := [d] }
  | _ => none }
def FnExactTurnOkWrongFalsely : Prop := fnExactTurnOkRow.holds Try.pinned (OpenSpec.ofChange fnExactTurnOkWrong)

/-- 'laws.FnExactCellOk': WHATEVER THE INPUT: true; the input reads as it did. -/
def fnExactCellOkSpec : ChangeSpec := { name := "fnExactCellOk", fn := fun _ => fun
  | [d] => { results := [.lit (.bool true)], args := [d] }
  | _ => none }
def fnExactCellOkRow : OpenClaim := { program := "ytgninkpoembamaa", sum := "bf96fadb592f0a94865b09a4c0bddb0815e60f3dfa9f37d7a44dd7a0d079a671", func := "loop.example/g00232/laws.FnExactCellOk", spec := "fnExactCellOk", apart := false }
def FnExactCellOkSaid : Prop := fnExactCellOkRow.holds Try.pinned (OpenSpec.ofChange fnExactCellOkSpec)

/-- ITS FALSE NEIGHBOUR: 'it returns false'. Refute it at one input. -/
def fnExactCellOkWrong : ChangeSpec := { name := "fnExactCellOk", fn := fun _ => fun
  | [d] => { results := [.lit (.bool false)], args := [d] }
  | _ => none }
def FnExactCellOkWrongFalsely : Prop := fnExactCellOkRow.holds Try.pinned (OpenSpec.ofChange fnExactCellOkWrong)

/-- 'laws.FnExactSumOnes': WHATEVER THE INPUT: true; the input reads as it did. -/
def fnExactSumOnesSpec : ChangeSpec := { name := "fnExactSumOnes", fn := fun _ => fun
  | [d] => { results := [.lit (.bool true)], args := [d] }
  | _ => none }
def fnExactSumOnesRow : OpenClaim := { program := "ytgninkpoembamaa", sum := "bf96fadb592f0a94865b09a4c0bddb0815e60f3dfa9f37d7a44dd7a0d079a671", func := "loop.example/g00232/laws.FnExactSumOnes", spec := "fnExactSumOnes", apart := false }
def FnExactSumOnesSaid : Prop := fnExactSumOnesRow.holds Try.pinned (OpenSpec.ofChange fnExactSumOnesSpec)

/-- ITS FALSE NEIGHBOUR: 'it returns false'. Refute it at one input. -/
def fnExactSumOnesWrong : ChangeSpec := { name := "fnExactSumOnes", fn := fun _ => fun
  | [d] => { results := [.lit (.bool false)], args := [d] }
  | _ => none }
def FnExactSumOnesWrongFalsely : Prop := fnExactSumOnesRow.holds Try.pinned (OpenSpec.ofChange fnExactSumOnesWrong)

/-- 'laws.FnExactDgramOk': WHATEVER THE INPUT: true; the input reads as it did. -/
def fnExactDgramOkSpec : ChangeSpec := { name := "fnExactDgramOk", fn := fun _ => fun
  | [d] => { results := [.lit (.bool true)], args := [d] }
  | _ => none }
def fnExactDgramOkRow : OpenClaim := { program := "ytgninkpoembamaa", sum := "bf96fadb592f0a94865b09a4c0bddb0815e60f3dfa9f37d7a44dd7a0d079a671", func := "loop.example/g00232/laws.FnExactDgramOk", spec := "fnExactDgramOk", apart := false }
def FnExactDgramOkSaid : Prop := fnExactDgramOkRow.holds Try.pinned (OpenSpec.ofChange fnExactDgramOkSpec)

/-- ITS FALSE NEIGHBOUR: 'it returns false'. Refute it at one input. -/
def fnExactDgramOkWrong : ChangeSpec := { name := "fnExactDgramOk", fn := fun _ => fun
  | [d] => { results := [.lit (.bool false)], args := [d] }
  | _ => none }
def FnExactDgramOkWrongFalsely : Prop := fnExactDgramOkRow.holds Try.pinned (OpenSpec.ofChange fnExactDgramOkWrong)

/-- 'laws.FnExactSegOk': WHATEVER THE INPUT: true; the input reads as it did. -/
def fnExactSegOkSpec : ChangeSpec := { name := "fnExactSegOk", fn := fun _ => fun
  | [d] => { results := [.lit (.bool true)], args := [d] }
  | _ => none }
def fnExactSegOkRow : OpenClaim := { program := "ytgninkpoembamaa", sum := "bf96fadb592f0a94865b09a4c0bddb0815e60f3dfa9f37d7a44dd7a0d079a671", func := "loop.example/g00232/laws.FnExactSegOk", spec := "fnExactSegOk", apart := false }
def FnExactSegOkSaid : Prop := fnExactSegOkRow.holds Try.pinned (OpenSpec.ofChange fnExactSegOkSpec)

/-- ITS FALSE NEIGHBOUR: 'it returns false'. Refute it at one input. -/
def fnExactSegOkWrong : ChangeSpec := { name := "fnExactSegOk", fn := fun _ => fun
  | [d] => { results := [.lit (.bool false)], args := [d] }
  | _ => none }
def FnExactSegOkWrongFalsely : Prop := fnExactSegOkRow.holds Try.pinned (OpenSpec.ofChange fnExactSegOkWrong)

/-- 'laws.FnExactSegText': WHATEVER THE INPUT: true; the input reads as it did. -/
def fnExactSegTextSpec : ChangeSpec := { name := "fnExactSegText", fn := fun _ => fun
  | [d] => { results := [.lit (.bool true)], args := [d] }
  | _ => none }
def fnExactSegTextRow : OpenClaim := { program := "ytgninkpoembamaa", sum := "bf96fadb592f0a94865b09a4c0bddb0815e60f3dfa9f37d7a44dd7a0d079a671", func := "loop.example/g00232/laws.FnExactSegText", spec := "fnExactSegText", apart := false }
def FnExactSegTextSaid : Prop := fnExactSegTextRow.holds Try.pinned (OpenSpec.ofChange fnExactSegTextSpec)

/-- ITS FALSE NEIGHBOUR: 'it returns false'. Refute it at one input. -/
def fnExactSegTextWrong : ChangeSpec := { name := "fnExactSegText", fn := fun _ => fun
  | [d] => { results := [.lit (.bool false)], args := [d] }
  | _ => none }
def FnExactSegTextWrongFalsely : Prop := fnExactSegTextRow.holds Try.pinned (OpenSpec.ofChange fnExactSegTextWrong)

/-- 'laws.FnGaps': WHATEVER THE INPUT: true; the input reads as it did. -/
def fnGapsSpec : ChangeSpec := { name := "fnGaps", fn := fun _ => fun
  | [d] => { results := [.lit (.bool true)], args := [d] }
  | _ => none }
def fnGapsRow : OpenClaim := { program := "ytgninkpoembamaa", sum := "bf96fadb592f0a94865b09a4c0bddb0815e60f3dfa9f37d7a44dd7a0d079a671", func := "loop.example/g00232/laws.FnGaps", spec := "fnGaps", apart := false }
def FnGapsSaid : Prop := fnGapsRow.holds Try.pinned (OpenSpec.ofChange fnGapsSpec)

/-- ITS FALSE NEIGHBOUR: 'it returns false'. Refute it at one input. -/
def fnGapsWrong : ChangeSpec := { name := "fnGaps", fn := fun _ => fun
  | [d] => { results := [.lit (.bool false)], args := [d] }
  | _ => none }
def FnGapsWrongFalsely : Prop := fnGapsRow.holds Try.pinned (OpenSpec.ofChange fnGapsWrong)

/-- 'laws.FnExactCardOf': WHATEVER THE INPUT: true; the input reads as it did. -/
def fnExactCardOfSpec : ChangeSpec := { name := "fnExactCardOf", fn := fun _ => fun
  | [d1, d2] => { results := [.lit (.bool true)], args := [d1, d2] }
  | _ => none }
def fnExactCardOfRow : OpenClaim := { program := "ytgninkpoembamaa", sum := "bf96fadb592f0a94865b09a4c0bddb0815e60f3dfa9f37d7a44dd7a0d079a671", func := "loop.example/g00232/laws.FnExactCardOf", spec := "fnExactCardOf", apart := false }
def FnExactCardOfSaid : Prop := fnExactCardOfRow.holds Try.pinned (OpenSpec.ofChange fnExactCardOfSpec)

/-- ITS FALSE NEIGHBOUR: 'it returns false'. Refute it at one input. -/
def fnExactCardOfWrong : ChangeSpec := { name := "fnExactCardOf", fn := fun _ => fun
  | [d1, d2] => { results := [.lit (.bool false)], args := [d1, d2] }
  | _ => none }
def FnExactCardOfWrongFalsely : Prop := fnExactCardOfRow.holds Try.pinned (OpenSpec.ofChange fnExactCardOfWrong)

/-- 'laws.FnKnown': WHATEVER THE INPUT: true; the input reads as it did. -/
def fnKnownSpec : ChangeSpec := { name := "fnKnown", fn := fun _ => fun
  | [d] => { results := [.lit (.bool true)], args := [d] }
  | _ => none }
def fnKnownRow : OpenClaim := { program := "ytgninkpoembamaa", sum := "bf96fadb592f0a94865b09a4c0bddb0815e60f3dfa9f37d7a44dd7a0d079a671", func := "loop.example/g00232/laws.FnKnown", spec := "fnKnown", apart := false }
def FnKnownSaid : Prop := fnKnownRow.holds Try.pinned (OpenSpec.ofChange fnKnownSpec)

/-- ITS FALSE NEIGHBOUR: 'it returns false'. Refute it at one input. -/
def fnKnownWrong : ChangeSpec := { name := "fnKnown", fn := fun _ => fun
  | [d] => { results := [.lit (.bool false)], args := [d] }
  | _ => none }
def FnKnownWrongFalsely : Prop := fnKnownRow.holds Try.pinned (OpenSpec.ofChange fnKnownWrong)

/-- 'laws.FnExactCommandOk': WHATEVER THE INPUT: true; the input reads as it did. -/
def fnExactCommandOkSpec : ChangeSpec := { name := "fnExactCommandOk", fn := fun _ => fun
  | [d] => { results := [.lit (.bool true)], args := [d] }
  | _ => none }
def fnExactCommandOkRow : OpenClaim := { program := "ytgninkpoembamaa", sum := "bf96fadb592f0a94865b09a4c0bddb0815e60f3dfa9f37d7a44dd7a0d079a671", func := "loop.example/g00232/laws.FnExactCommandOk", spec := "fnExactCommandOk", apart := false }
def FnExactCommandOkSaid : Prop := fnExactCommandOkRow.holds Try.pinned (OpenSpec.ofChange fnExactCommandOkSpec)

/-- ITS FALSE NEIGHBOUR: 'it returns false'. Refute it at one input. -/
def fnExactCommandOkWrong : ChangeSpec := { name := "fnExactCommandOk", fn := fun _ => fun
  | [d] => { results := [.lit (.bool false)], args := [d] }
  | _ => none }
def FnExactCommandOkWrongFalsely : Prop := fnExactCommandOkRow.holds Try.pinned (OpenSpec.ofChange fnExactCommandOkWrong)

/- THE SECOND FORM. 'bulk': how many values and letters a reading holds, each counted each time it is reached (what is shared counts as often as it is met; a slice's spare places count too). A statement '..UptoSaid' is the law's where the arguments, and the package variables that the reading takes, are together of bulk at most 1048576: NARROWER than '..Said'. Prove '..Said' where nothing that the law and all that it calls make is longer than what came in: it says more and counts as full. Else prove '..UptoSaid'. A law counts once. -/
mutual
def uptoBulk {H : Type} : DataW H → Nat
  | .lit (.string bytes) => bytes.length + 1
  | .lit _ => 1
  | .nil => 1
  | .ptr d => uptoBulk d + 1
  | .slice elems spare => uptoBulkAll elems + uptoBulkAll spare + 1
  | .agg parts => uptoBulkAll parts + 1
  | .iface _ d => uptoBulk d + 1
  | .map entries => uptoBulkEntries entries + 1
  | .held _ => 1
def uptoBulkAll {H : Type} : List (DataW H) → Nat
  | [] => 0
  | d :: r => uptoBulk d + uptoBulkAll r
def uptoBulkEntries {H : Type} : List (Lit × DataW H) → Nat
  | [] => 0
  | x :: r => uptoBulkEntry x + uptoBulkEntries r
def uptoBulkEntry {H : Type} : Lit × DataW H → Nat
  | (.string bytes, d) => bytes.length + uptoBulk d + 1
  | (_, d) => uptoBulk d + 1
 end
def uptoSmall : (H : Type) → List (DataW H) → Bool := fun _ ds => decide (uptoBulkAll ds ≤ 1048576)
def OpenSpec.upto (s : _root_.Go.ChangeSpec) : _root_.Go.OpenSpec := { _root_.Go.OpenSpec.ofChange s with cond := some uptoSmall }

/-- 'laws.FnExactAddNum', WHERE WHAT IT READS IS OF BULK AT MOST 1048576: true; the input reads as it did. -/
def fnExactAddNumUptoRow : OpenClaim := { program := "ytgninkpoembamaa", sum := "bf96fadb592f0a94865b09a4c0bddb0815e60f3dfa9f37d7a44dd7a0d079a671", func := "loop.example/g00232/laws.FnExactAddNum", spec := "fnExactAddNum", apart := false, narrowed := true }
def FnExactAddNumUptoSaid : Prop := fnExactAddNumUptoRow.holds Try.pinned (OpenSpec.upto fnExactAddNumSpec)

/-- 'laws.FnExactGap', WHERE WHAT IT READS IS OF BULK AT MOST 1048576: true; the input reads as it did. -/
def fnExactGapUptoRow : OpenClaim := { program := "ytgninkpoembamaa", sum := "bf96fadb592f0a94865b09a4c0bddb0815e60f3dfa9f37d7a44dd7a0d079a671", func := "loop.example/g00232/laws.FnExactGap", spec := "fnExactGap", apart := false, narrowed := true }
def FnExactGapUptoSaid : Prop := fnExactGapUptoRow.holds Try.pinned (OpenSpec.upto fnExactGapSpec)

/-- 'laws.FnExactTurnOk', WHERE WHAT IT READS IS OF BULK AT MOST 1048576: true; the input reads as it did. -/
def fnExactTurnOkUptoRow : OpenClaim := { program := "ytgninkpoembamaa", sum := "bf96fadb592f0a94865b09a4c0bddb0815e60f3dfa9f37d7a44dd7a0d079a671", func := "loop.example/g00232/laws.FnExactTurnOk", spec := "fnExactTurnOk", apart := false, narrowed := true }
def FnExactTurnOkUptoSaid : Prop := fnExactTurnOkUptoRow.holds Try.pinned (OpenSpec.upto fnExactTurnOkSpec)

/-- 'laws.FnExactCellOk', WHERE WHAT IT READS IS OF BULK AT MOST 1048576: true; the input reads as it did. -/
def fnExactCellOkUptoRow : OpenClaim := { program := "ytgninkpoembamaa", sum := "bf96fadb592f0a94865b09a4c0bddb0815e60f3dfa9f37d7a44dd7a0d079a671", func := "loop.example/g00232/laws.FnExactCellOk", spec := "fnExactCellOk", apart := false, narrowed := true }
def FnExactCellOkUptoSaid : Prop := fnExactCellOkUptoRow.holds Try.pinned (OpenSpec.upto fnExactCellOkSpec)

/-- 'laws.FnExactSumOnes', WHERE WHAT IT READS IS OF BULK AT MOST 1048576: true; the input reads as it did. -/
def fnExactSumOnesUptoRow : OpenClaim := { program := "ytgninkpoembamaa", sum := "bf96fadb592f0a94865b09a4c0bddb0815e60f3dfa9f37d7a44dd7a0d079a671", func := "loop.example/g00232/laws.FnExactSumOnes", spec := "fnExactSumOnes", apart := false, narrowed := true }
def FnExactSumOnesUptoSaid : Prop := fnExactSumOnesUptoRow.holds Try.pinned (OpenSpec.upto fnExactSumOnesSpec)

/-- 'laws.FnExactDgramOk', WHERE WHAT IT READS IS OF BULK AT MOST 1048576: true; the input reads as it did. -/
def fnExactDgramOkUptoRow : OpenClaim := { program := "ytgninkpoembamaa", sum := "bf96fadb592f0a94865b09a4c0bddb0815e60f3dfa9f37d7a44dd7a0d079a671", func := "loop.example/g00232/laws.FnExactDgramOk", spec := "fnExactDgramOk", apart := false, narrowed := true }
def FnExactDgramOkUptoSaid : Prop := fnExactDgramOkUptoRow.holds Try.pinned (OpenSpec.upto fnExactDgramOkSpec)

/-- 'laws.FnExactSegOk', WHERE WHAT IT READS IS OF BULK AT MOST 1048576: true; the input reads as it did. -/
def fnExactSegOkUptoRow : OpenClaim := { program := "ytgninkpoembamaa", sum := "bf96fadb592f0a94865b09a4c0bddb0815e60f3dfa9f37d7a44dd7a0d079a671", func := "loop.example/g00232/laws.FnExactSegOk", spec := "fnExactSegOk", apart := false, narrowed := true }
def FnExactSegOkUptoSaid : Prop := fnExactSegOkUptoRow.holds Try.pinned (OpenSpec.upto fnExactSegOkSpec)

/-- 'laws.FnExactSegText', WHERE WHAT IT READS IS OF BULK AT MOST 1048576: true; the input reads as it did. -/
def fnExactSegTextUptoRow : OpenClaim := { program := "ytgninkpoembamaa", sum := "bf96fadb592f0a94865b09a4c0bddb0815e60f3dfa9f37d7a44dd7a0d079a671", func := "loop.example/g00232/laws.FnExactSegText", spec := "fnExactSegText", apart := false, narrowed := true }
def FnExactSegTextUptoSaid : Prop := fnExactSegTextUptoRow.holds Try.pinned (OpenSpec.upto fnExactSegTextSpec)

/-- 'laws.FnGaps', WHERE WHAT IT READS IS OF BULK AT MOST 1048576: true; the input reads as it did. -/
def fnGapsUptoRow : OpenClaim := { program := "ytgninkpoembamaa", sum := "bf96fadb592f0a94865b09a4c0bddb0815e60f3dfa9f37d7a44dd7a0d079a671", func := "loop.example/g00232/laws.FnGaps", spec := "fnGaps", apart := false, narrowed := true }
def FnGapsUptoSaid : Prop := fnGapsUptoRow.holds Try.pinned (OpenSpec.upto fnGapsSpec)

/-- 'laws.FnExactCardOf', WHERE WHAT IT READS IS OF BULK AT MOST 1048576: true; the input reads as it did. -/
def fnExactCardOfUptoRow : OpenClaim := { program := "ytgninkpoembamaa", sum := "bf96fadb592f0a94865b09a4c0bddb0815e60f3dfa9f37d7a44dd7a0d079a671", func := "loop.example/g00232/laws.FnExactCardOf", spec := "fnExactCardOf", apart := false, narrowed := true }
def FnExactCardOfUptoSaid : Prop := fnExactCardOfUptoRow.holds Try.pinned (OpenSpec.upto fnExactCardOfSpec)

/-- 'laws.FnKnown', WHERE WHAT IT READS IS OF BULK AT MOST 1048576: true; the input reads as it did. -/
def fnKnownUptoRow : OpenClaim := { program := "ytgninkpoembamaa", sum := "bf96fadb592f0a94865b09a4c0bddb0815e60f3dfa9f37d7a44dd7a0d079a671", func := "loop.example/g00232/laws.FnKnown", spec := "fnKnown", apart := false, narrowed := true }
def FnKnownUptoSaid : Prop := fnKnownUptoRow.holds Try.pinned (OpenSpec.upto fnKnownSpec)

/-- 'laws.FnExactCommandOk', WHERE WHAT IT READS IS OF BULK AT MOST 1048576: true; the input reads as it did. -/
def fnExactCommandOkUptoRow : OpenClaim := { program := "ytgninkpoembamaa", sum := "bf96fadb592f0a94865b09a4c0bddb0815e60f3dfa9f37d7a44dd7a0d079a671", func := "loop.example/g00232/laws.FnExactCommandOk", spec := "fnExactCommandOk", apart := false, narrowed := true }
def FnExactCommandOkUptoSaid : Prop := fnExactCommandOkUptoRow.holds Try.pinned (OpenSpec.upto fnExactCommandOkSpec)

end Rows
end Go.Proofs.Ytgninkpoembamaa
