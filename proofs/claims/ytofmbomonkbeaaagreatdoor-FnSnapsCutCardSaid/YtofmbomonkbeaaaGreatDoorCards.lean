/-
  DERIVED. GIVEN WITH THE SEED: THE CARDS: each row of YtofmbomonkbeaaaGreatDoorRows.lean that lists a variable, with what it lists TIED to the program's text (the seventh form; the later family's looks); each row that meets fmt, with fmt's text TOLD by the authors' own Lean function (tested against real Go, not proved from fmt's source: count such statements apart). THE CARD IS WHAT COUNTS. Prove the row's statement (the work); the ties are given (YtofmbomonkbeaaaGreatDoorTie.lean); close each card by the builder's one call (the guide's Derived/Test/ToyasCard.lean, 'card_holds'). Laid BY PROGRAM, IN A SANDBOX (cutbox-door.mjs). By AI agents, Wed Nov 11 2026. No macro, syntax, notation, axiom, sorry.
-/
import Derived.Test.YtofmbomonkbeaaaGreatDoorRows
import GoSem.ClaimSeven
namespace Go.Proofs.YtofmbomonkbeaaaGreatDoor
namespace Rows

/-- THE TIED CARD OF 'laws.FnSnapsCut'. -/
def fnSnapsCutCard : Claim7 := { stood := { row := fnSnapsCutRow, standIns := [], harness := (true, "6d2e9a489bc5802ea4caf7b21ffa1c5155adf1484ca86ec824f6a139872952bc"), looks := true }, kinds := [], alts := [], laidByText := true, laidKinds := [.data, .data, .data, .sentinel, .sentinel], laidTests := true, laidLooks := .later }
def FnSnapsCutCardSaid : Prop := Claim7.holds Tryz.pinned (.plain (OpenSpec.ofChange fnSnapsCutSpec)) fnSnapsCutCard

/-- THE SECOND FORM's CARD OF 'laws.FnSnapsCut'. -/
def fnSnapsCutUptoCard : Claim7 := { stood := { row := fnSnapsCutUptoRow, standIns := [], harness := (true, "6d2e9a489bc5802ea4caf7b21ffa1c5155adf1484ca86ec824f6a139872952bc"), looks := true }, kinds := [], alts := [], laidByText := true, laidKinds := [.data, .data, .data, .sentinel, .sentinel], laidTests := true, laidLooks := .later }
def FnSnapsCutUptoCardSaid : Prop := Claim7.holds Tryz.pinned (.plain (OpenSpec.upto fnSnapsCutSpec)) fnSnapsCutUptoCard
end Rows
end Go.Proofs.YtofmbomonkbeaaaGreatDoor
