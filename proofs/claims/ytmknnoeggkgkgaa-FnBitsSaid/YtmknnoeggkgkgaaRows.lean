/-
  No cell of these rows narrows 'for every input' (looked for: loops, veiled, ifaces, maps, wideKeys, modest, calm, conditions, laid).
  DERIVED. THE GIVEN ROWS OF THIS SEAT. 8 by the template 'for every input the law returns true; each argument reads behind the call as it read before'; 0 by the template 'total and deterministic' (their statements: YtmknnoeggkgkgaaTotals.lean).
  GIVEN WITH THE SEED: the statements are not yours to turn. If you find one false, say at which input.
  Laid BY PROGRAM, IN A SANDBOX (cutbox-rows.mjs): the forced cells as the released guide's own fill.sh prints them over the translation f44f00ab177c69f6… (all of the seat's roots in one cut). By AI agents, Wed Nov 11 2026. No macro, syntax, notation, axiom, sorry.
-/
import Derived.Test.YtmknnoeggkgkgaaChecked
import GoSem.Claim
import GoSem.ClaimJoined
import GoSem.ClaimMapViews
import Derived.JoinedTies
import Derived.KernelRfl
namespace Go.Proofs.Ytmknnoeggkgkgaa
/- THE CELL 'sum', in the pinned program and in every row, IS THE sha256 OF THE DUMP (.gsa) THAT YtmknnoeggkgkgaaProg.lean LOADS. Nothing in Lean hashes anything: it is a label: what it is worth is what the hold of that sum in a sandbox is worth. -/
noncomputable def Try.pinned : Pinned := { name := "ytmknnoeggkgkgaa", sum := "f44f00ab177c69f6e5c3ce63d5ea104004433a76d7e9841eb9e1b4862ebc0fd7", checked := Try.checked }
namespace Rows
def none {H : Type} : Left H := { results := [], args := [] }

/-- 'laws.FnExactWrap': WHATEVER THE INPUT: true; the input reads as it did. -/
def fnExactWrapSpec : ChangeSpec := { name := "fnExactWrap", fn := fun _ => fun
  | [d1, d2, d3, d4] => { results := [.lit (.bool true)], args := [d1, d2, d3, d4] }
  | _ => none }
def fnExactWrapRow : OpenClaim := { program := "ytmknnoeggkgkgaa", sum := "f44f00ab177c69f6e5c3ce63d5ea104004433a76d7e9841eb9e1b4862ebc0fd7", func := "loop.example/g00232/laws.FnExactWrap", spec := "fnExactWrap", apart := false }
def FnExactWrapSaid : Prop := fnExactWrapRow.holds Try.pinned (OpenSpec.ofChange fnExactWrapSpec)

/-- ITS FALSE NEIGHBOUR: 'it returns false'. Refute it at one input. -/
def fnExactWrapWrong : ChangeSpec := { name := "fnExactWrap", fn := fun _ => fun
  | [d1, d2, d3, d4] => { results := [.lit (.bool false)], args := [d1, d2, d3, d4] }
  | _ => none }
def FnExactWrapWrongFalsely : Prop := fnExactWrapRow.holds Try.pinned (OpenSpec.ofChange fnExactWrapWrong)

/-- 'laws.FnExactPush': WHATEVER THE INPUT: true; the input reads as it did. -/
def fnExactPushSpec : ChangeSpec := { name := "fnExactPush", fn := fun _ => fun
  | [d1, d2] => { results := [.lit (.bool true)], args := [d1, d2] }
  | _ => none }
def fnExactPushRow : OpenClaim := { program := "ytmknnoeggkgkgaa", sum := "f44f00ab177c69f6e5c3ce63d5ea104004433a76d7e9841eb9e1b4862ebc0fd7", func := "loop.example/g00232/laws.FnExactPush", spec := "fnExactPush", apart := false }
def FnExactPushSaid : Prop := fnExactPushRow.holds Try.pinned (OpenSpec.ofChange fnExactPushSpec)

/-- ITS FALSE NEIGHBOUR: 'it returns false'. Refute it at one input. -/
def fnExactPushWrong : ChangeSpec := { name := "fnExactPush", fn := fun _ => fun
  | [d1, d2] => { results := [.lit (.bool false)], args := [d1, d2] }
  | _ => none }
def FnExactPushWrongFalsely : Prop := fnExactPushRow.holds Try.pinned (OpenSpec.ofChange fnExactPushWrong)

/-- 'laws.FnExactEndsNew': WHATEVER THE INPUT: true; the input reads as it did. -/
def fnExactEndsNewSpec : ChangeSpec := { name := "fnExactEndsNew", fn := fun _ => fun
  | [d1, d2] => { results := [.lit (.bool true)], args := [d1, d2] }
  | _ => none }
def fnExactEndsNewRow : OpenClaim := { program := "ytmknnoeggkgkgaa", sum := "f44f00ab177c69f6e5c3ce63d5ea104004433a76d7e9841eb9e1b4862ebc0fd7", func := "loop.example/g00232/laws.FnExactEndsNew", spec := "fnExactEndsNew", apart := false }
def FnExactEndsNewSaid : Prop := fnExactEndsNewRow.holds Try.pinned (OpenSpec.ofChange fnExactEndsNewSpec)

/-- ITS FALSE NEIGHBOUR: 'it returns false'. Refute it at one input. -/
def fnExactEndsNewWrong : ChangeSpec := { name := "fnExactEndsNew", fn := fun _ => fun
  | [d1, d2] => { results := [.lit (.bool false)], args := [d1, d2] }
  | _ => none }
def FnExactEndsNewWrongFalsely : Prop := fnExactEndsNewRow.holds Try.pinned (OpenSpec.ofChange fnExactEndsNewWrong)

/-- 'laws.FnParts': WHATEVER THE INPUT: true; the input reads as it did. -/
def fnPartsSpec : ChangeSpec := { name := "fnParts", fn := fun _ => fun
  | [d] => { results := [.lit (.bool true)], args := [d] }
  | _ => none }
def fnPartsRow : OpenClaim := { program := "ytmknnoeggkgkgaa", sum := "f44f00ab177c69f6e5c3ce63d5ea104004433a76d7e9841eb9e1b4862ebc0fd7", func := "loop.example/g00232/laws.FnParts", spec := "fnParts", unfollowed := true, recurses := true, apart := false }
def FnPartsSaid : Prop := fnPartsRow.holds Try.pinned (OpenSpec.ofChange fnPartsSpec)

/-- ITS FALSE NEIGHBOUR: 'it returns false'. Refute it at one input. -/
def fnPartsWrong : ChangeSpec := { name := "fnParts", fn := fun _ => fun
  | [d] => { results := [.lit (.bool false)], args := [d] }
  | _ => none }
def FnPartsWrongFalsely : Prop := fnPartsRow.holds Try.pinned (OpenSpec.ofChange fnPartsWrong)

/-- 'laws.FnExactTidyBits': WHATEVER THE INPUT: true; the input reads as it did. -/
def fnExactTidyBitsSpec : ChangeSpec := { name := "fnExactTidyBits", fn := fun _ => fun
  | [d1, d2] => { results := [.lit (.bool true)], args := [d1, d2] }
  | _ => none }
def fnExactTidyBitsRow : OpenClaim := { program := "ytmknnoeggkgkgaa", sum := "f44f00ab177c69f6e5c3ce63d5ea104004433a76d7e9841eb9e1b4862ebc0fd7", func := "loop.example/g00232/laws.FnExactTidyBits", spec := "fnExactTidyBits", unfollowed := true, recurses := true, apart := false }
def FnExactTidyBitsSaid : Prop := fnExactTidyBitsRow.holds Try.pinned (OpenSpec.ofChange fnExactTidyBitsSpec)

/-- ITS FALSE NEIGHBOUR: 'it returns false'. Refute it at one input. -/
def fnExactTidyBitsWrong : ChangeSpec := { name := "fnExactTidyBits", fn := fun _ => fun
  | [d1, d2] => { results := [.lit (.bool false)], args := [d1, d2] }
  | _ => none }
def FnExactTidyBitsWrongFalsely : Prop := fnExactTidyBitsRow.holds Try.pinned (OpenSpec.ofChange fnExactTidyBitsWrong)

/-- 'laws.FnBits': WHATEVER THE INPUT: true; the input reads as it did. -/
def fnBitsSpec : ChangeSpec := { name := "fnBits", fn := fun _ => fun
  | [d] => { results := [.lit (.bool true)], args := [d] }
  | _ => none }
def fnBitsRow : OpenClaim := { program := "ytmknnoeggkgkgaa", sum := "f44f00ab177c69f6e5c3ce63d5ea104004433a76d7e9841eb9e1b4862ebc0fd7", func := "loop.example/g00232/laws.FnBits", spec := "fnBits", unfollowed := true, recurses := true, apart := false }
def FnBitsSaid : Prop := fnBitsRow.holds Try.pinned (OpenSpec.ofChange fnBitsSpec)

/-- ITS FALSE NEIGHBOUR: 'it returns false'. Refute it at one input. -/
def fnBitsWrong : ChangeSpec := { name := "fnBits", fn := fun _ => fun
  | [d] => { results := [.lit (.bool false)], args := [d] }
  | _ => none }
def FnBitsWrongFalsely : Prop := fnBitsRow.holds Try.pinned (OpenSpec.ofChange fnBitsWrong)

/-- 'laws.FnExactJoinBits': WHATEVER THE INPUT: true; the input reads as it did. -/
def fnExactJoinBitsSpec : ChangeSpec := { name := "fnExactJoinBits", fn := fun _ => fun
  | [d1, d2, d3] => { results := [.lit (.bool true)], args := [d1, d2, d3] }
  | _ => none }
def fnExactJoinBitsRow : OpenClaim := { program := "ytmknnoeggkgkgaa", sum := "f44f00ab177c69f6e5c3ce63d5ea104004433a76d7e9841eb9e1b4862ebc0fd7", func := "loop.example/g00232/laws.FnExactJoinBits", spec := "fnExactJoinBits", unfollowed := true, recurses := true, apart := false }
def FnExactJoinBitsSaid : Prop := fnExactJoinBitsRow.holds Try.pinned (OpenSpec.ofChange fnExactJoinBitsSpec)

/-- ITS FALSE NEIGHBOUR: 'it returns false'. Refute it at one input. -/
def fnExactJoinBitsWrong : ChangeSpec := { name := "fnExactJoinBits", fn := fun _ => fun
  | [d1, d2, d3] => { results := [.lit (.bool false)], args := [d1, d2, d3] }
  | _ => none }
def FnExactJoinBitsWrongFalsely : Prop := fnExactJoinBitsRow.holds Try.pinned (OpenSpec.ofChange fnExactJoinBitsWrong)

/-- 'laws.FnWrites': WHATEVER THE INPUT: true; the input reads as it did. -/
def fnWritesSpec : ChangeSpec := { name := "fnWrites", fn := fun _ => fun
  | [d] => { results := [.lit (.bool true)], args := [d] }
  | _ => none }
def fnWritesRow : OpenClaim := { program := "ytmknnoeggkgkgaa", sum := "f44f00ab177c69f6e5c3ce63d5ea104004433a76d7e9841eb9e1b4862ebc0fd7", func := "loop.example/g00232/laws.FnWrites", spec := "fnWrites", apart := false }
def FnWritesSaid : Prop := fnWritesRow.holds Try.pinned (OpenSpec.ofChange fnWritesSpec)

/-- ITS FALSE NEIGHBOUR: 'it returns false'. Refute it at one input. -/
def fnWritesWrong : ChangeSpec := { name := "fnWrites", fn := fun _ => fun
  | [d] => { results := [.lit (.bool false)], args := [d] }
  | _ => none }
def FnWritesWrongFalsely : Prop := fnWritesRow.holds Try.pinned (OpenSpec.ofChange fnWritesWrong)

/- THE SECOND FORM. 'bulk': how many values and letters a reading holds, each counted each time it is reached (what is shared counts as often as it is met; a slice's spare places count too). A statement '..UptoSaid' is the law's where the arguments, and the package variables that the reading takes, are together of bulk at most 1048576: NARROWER than '..Said'. Prove '..Said' where nothing that the law and all that it calls make is longer than what came in: it says more and counts as full. Else prove '..UptoSaid'. A law counts once. -/
mutual
def uptoBulk {H : Type} : DataW H → Nat
  | .lit (.string bytes) => bytes.length + 1
  | .lit _ => 1
  | .nil => 1
  | .ptr d => uptoBulk d + 1
  | .slice elems spare => uptoBulkAll elems + uptoBulkAll spare + 1
  | .agg parts => uptoBulkAll parts + 1
  | .iface _ d => uptoBulk d + 1
  | .map entries => uptoBulkEntries entries + 1
  | .held _ => 1
def uptoBulkAll {H : Type} : List (DataW H) → Nat
  | [] => 0
  | d :: r => uptoBulk d + uptoBulkAll r
def uptoBulkEntries {H : Type} : List (Lit × DataW H) → Nat
  | [] => 0
  | x :: r => uptoBulkEntry x + uptoBulkEntries r
def uptoBulkEntry {H : Type} : Lit × DataW H → Nat
  | (.string bytes, d) => bytes.length + uptoBulk d + 1
  | (_, d) => uptoBulk d + 1
 end
def uptoSmall : (H : Type) → List (DataW H) → Bool := fun _ ds => decide (uptoBulkAll ds ≤ 1048576)
def OpenSpec.upto (s : _root_.Go.ChangeSpec) : _root_.Go.OpenSpec := { _root_.Go.OpenSpec.ofChange s with cond := some uptoSmall }

/-- 'laws.FnExactWrap', WHERE WHAT IT READS IS OF BULK AT MOST 1048576: true; the input reads as it did. -/
def fnExactWrapUptoRow : OpenClaim := { program := "ytmknnoeggkgkgaa", sum := "f44f00ab177c69f6e5c3ce63d5ea104004433a76d7e9841eb9e1b4862ebc0fd7", func := "loop.example/g00232/laws.FnExactWrap", spec := "fnExactWrap", apart := false, narrowed := true }
def FnExactWrapUptoSaid : Prop := fnExactWrapUptoRow.holds Try.pinned (OpenSpec.upto fnExactWrapSpec)

/-- 'laws.FnExactPush', WHERE WHAT IT READS IS OF BULK AT MOST 1048576: true; the input reads as it did. -/
def fnExactPushUptoRow : OpenClaim := { program := "ytmknnoeggkgkgaa", sum := "f44f00ab177c69f6e5c3ce63d5ea104004433a76d7e9841eb9e1b4862ebc0fd7", func := "loop.example/g00232/laws.FnExactPush", spec := "fnExactPush", apart := false, narrowed := true }
def FnExactPushUptoSaid : Prop := fnExactPushUptoRow.holds Try.pinned (OpenSpec.upto fnExactPushSpec)

/-- 'laws.FnExactEndsNew', WHERE WHAT IT READS IS OF BULK AT MOST 1048576: true; the input reads as it did. -/
def fnExactEndsNewUptoRow : OpenClaim := { program := "ytmknnoeggkgkgaa", sum := "f44f00ab177c69f6e5c3ce63d5ea104004433a76d7e9841eb9e1b4862ebc0fd7", func := "loop.example/g00232/laws.FnExactEndsNew", spec := "fnExactEndsNew", apart := false, narrowed := true }
def FnExactEndsNewUptoSaid : Prop := fnExactEndsNewUptoRow.holds Try.pinned (OpenSpec.upto fnExactEndsNewSpec)

/-- 'laws.FnParts', WHERE WHAT IT READS IS OF BULK AT MOST 1048576: true; the input reads as it did. -/
def fnPartsUptoRow : OpenClaim := { program := "ytmknnoeggkgkgaa", sum := "f44f00ab177c69f6e5c3ce63d5ea104004433a76d7e9841eb9e1b4862ebc0fd7", func := "loop.example/g00232/laws.FnParts", spec := "fnParts", unfollowed := true, recurses := true, apart := false, narrowed := true }
def FnPartsUptoSaid : Prop := fnPartsUptoRow.holds Try.pinned (OpenSpec.upto fnPartsSpec)

/-- 'laws.FnExactTidyBits', WHERE WHAT IT READS IS OF BULK AT MOST 1048576: true; the input reads as it did. -/
def fnExactTidyBitsUptoRow : OpenClaim := { program := "ytmknnoeggkgkgaa", sum := "f44f00ab177c69f6e5c3ce63d5ea104004433a76d7e9841eb9e1b4862ebc0fd7", func := "loop.example/g00232/laws.FnExactTidyBits", spec := "fnExactTidyBits", unfollowed := true, recurses := true, apart := false, narrowed := true }
def FnExactTidyBitsUptoSaid : Prop := fnExactTidyBitsUptoRow.holds Try.pinned (OpenSpec.upto fnExactTidyBitsSpec)

/-- 'laws.FnBits', WHERE WHAT IT READS IS OF BULK AT MOST 1048576: true; the input reads as it did. -/
def fnBitsUptoRow : OpenClaim := { program := "ytmknnoeggkgkgaa", sum := "f44f00ab177c69f6e5c3ce63d5ea104004433a76d7e9841eb9e1b4862ebc0fd7", func := "loop.example/g00232/laws.FnBits", spec := "fnBits", unfollowed := true, recurses := true, apart := false, narrowed := true }
def FnBitsUptoSaid : Prop := fnBitsUptoRow.holds Try.pinned (OpenSpec.upto fnBitsSpec)

/-- 'laws.FnExactJoinBits', WHERE WHAT IT READS IS OF BULK AT MOST 1048576: true; the input reads as it did. -/
def fnExactJoinBitsUptoRow : OpenClaim := { program := "ytmknnoeggkgkgaa", sum := "f44f00ab177c69f6e5c3ce63d5ea104004433a76d7e9841eb9e1b4862ebc0fd7", func := "loop.example/g00232/laws.FnExactJoinBits", spec := "fnExactJoinBits", unfollowed := true, recurses := true, apart := false, narrowed := true }
def FnExactJoinBitsUptoSaid : Prop := fnExactJoinBitsUptoRow.holds Try.pinned (OpenSpec.upto fnExactJoinBitsSpec)

/-- 'laws.FnWrites', WHERE WHAT IT READS IS OF BULK AT MOST 1048576: true; the input reads as it did. -/
def fnWritesUptoRow : OpenClaim := { program := "ytmknnoeggkgkgaa", sum := "f44f00ab177c69f6e5c3ce63d5ea104004433a76d7e9841eb9e1b4862ebc0fd7", func := "loop.example/g00232/laws.FnWrites", spec := "fnWrites", apart := false, narrowed := true }
def FnWritesUptoSaid : Prop := fnWritesUptoRow.holds Try.pinned (OpenSpec.upto fnWritesSpec)

end Rows
end Go.Proofs.Ytmknnoeggkgkgaa
