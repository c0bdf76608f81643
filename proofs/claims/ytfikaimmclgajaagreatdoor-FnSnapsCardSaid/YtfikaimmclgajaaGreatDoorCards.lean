/-
  DERIVED. GIVEN WITH THE SEED: THE CARDS: each row of YtfikaimmclgajaaGreatDoorRows.lean that lists a variable, with what it lists TIED to the program's text (the seventh form; the later family's looks); each row that meets fmt, with fmt's text TOLD by the authors' own Lean function (tested against real Go, not proved from fmt's source: count such statements apart). THE CARD IS WHAT COUNTS. Prove the row's statement (the work); the ties are given (YtfikaimmclgajaaGreatDoorTie.lean); close each card by the builder's one call (the guide's Derived/Test/ToyasCard.lean, 'card_holds'). Laid BY PROGRAM, IN A SANDBOX (cutbox-door.mjs). By AI agents, Wed Nov 11 2026. No macro, syntax, notation, axiom, sorry.
-/
import Derived.Test.YtfikaimmclgajaaGreatDoorRows
import GoSem.ClaimSeven
namespace Go.Proofs.YtfikaimmclgajaaGreatDoor
namespace Rows

/-- THE TIED CARD OF 'laws.FnSnaps'. -/
def fnSnapsCard : Claim7 := { stood := { row := fnSnapsRow, standIns := [], harness := (true, "926c93826ed938953c93bd452530ace3ab4d92a3ed74c0e5f08f8ddf51d3132c"), looks := true }, kinds := [], alts := [], laidByText := true, laidKinds := [.data, .data, .data, .sentinel, .sentinel], laidTests := true, laidLooks := .later }
def FnSnapsCardSaid : Prop := Claim7.holds Tryz.pinned (.plain (OpenSpec.ofChange fnSnapsSpec)) fnSnapsCard

/-- THE SECOND FORM's CARD OF 'laws.FnSnaps'. -/
def fnSnapsUptoCard : Claim7 := { stood := { row := fnSnapsUptoRow, standIns := [], harness := (true, "926c93826ed938953c93bd452530ace3ab4d92a3ed74c0e5f08f8ddf51d3132c"), looks := true }, kinds := [], alts := [], laidByText := true, laidKinds := [.data, .data, .data, .sentinel, .sentinel], laidTests := true, laidLooks := .later }
def FnSnapsUptoCardSaid : Prop := Claim7.holds Tryz.pinned (.plain (OpenSpec.upto fnSnapsSpec)) fnSnapsUptoCard
end Rows
end Go.Proofs.YtfikaimmclgajaaGreatDoor
