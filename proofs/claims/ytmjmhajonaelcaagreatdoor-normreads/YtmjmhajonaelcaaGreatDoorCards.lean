/-
  DERIVED. GIVEN WITH THE SEED: THE CARDS: each row of YtmjmhajonaelcaaGreatDoorRows.lean that lists a variable, with what it lists TIED to the program's text (the seventh form; the later family's looks); each row that meets fmt, with fmt's text TOLD by the authors' own Lean function (tested against real Go, not proved from fmt's source: count such statements apart). THE CARD IS WHAT COUNTS. Prove the row's statement (the work); the ties are given (YtmjmhajonaelcaaGreatDoorTie.lean); close each card by the builder's one call (the guide's Derived/Test/ToyasCard.lean, 'card_holds'). Laid BY PROGRAM, IN A SANDBOX (cutbox-door.mjs). By AI agents, Wed Nov 11 2026. No macro, syntax, notation, axiom, sorry.
-/
import Derived.Test.YtmjmhajonaelcaaGreatDoorRows
import GoSem.ClaimSeven
namespace Go.Proofs.YtmjmhajonaelcaaGreatDoor
namespace Rows

/-- THE TIED CARD OF 'privhouselaw16.NormReads'. -/
def normReadsCard : Claim7 := { stood := { row := normReadsRow, standIns := [], harness := (true, "67c5c6ee0a3df85e4865d1496b1fd04fc9e89a1a11c99a94be9ccd754e69efd6"), looks := true }, kinds := [], alts := [], laidByText := true, laidKinds := [.data, .data, .data, .data, .sentinel, .sentinel, .widerDeep, .pinned], laidTests := true, laidLooks := .later }
def NormReadsCardSaid : Prop := Claim7.holds Tryz.pinned (.plain (OpenSpec.ofChange normReadsSpec)) normReadsCard

/-- THE SECOND FORM's CARD OF 'privhouselaw16.NormReads'. -/
def normReadsUptoCard : Claim7 := { stood := { row := normReadsUptoRow, standIns := [], harness := (true, "67c5c6ee0a3df85e4865d1496b1fd04fc9e89a1a11c99a94be9ccd754e69efd6"), looks := true }, kinds := [], alts := [], laidByText := true, laidKinds := [.data, .data, .data, .data, .sentinel, .sentinel, .widerDeep, .pinned], laidTests := true, laidLooks := .later }
def NormReadsUptoCardSaid : Prop := Claim7.holds Tryz.pinned (.plain (OpenSpec.upto normReadsSpec)) normReadsUptoCard
end Rows
end Go.Proofs.YtmjmhajonaelcaaGreatDoor
