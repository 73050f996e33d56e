/-
  DERIVED. GIVEN WITH THE SEED: THE CARDS: each row of YtmbbakninakkcaaGreatDoorRows.lean that lists a variable, with what it lists TIED to the program's text (the seventh form; the later family's looks); each row that meets fmt, with fmt's text TOLD by the authors' own Lean function (tested against real Go, not proved from fmt's source: count such statements apart). THE CARD IS WHAT COUNTS. Prove the row's statement (the work); the ties are given (YtmbbakninakkcaaGreatDoorTie.lean); close each card by the builder's one call (the guide's Derived/Test/ToyasCard.lean, 'card_holds'). Laid BY PROGRAM, IN A SANDBOX (cutbox-door.mjs). By AI agents, Wed Nov 11 2026. No macro, syntax, notation, axiom, sorry.
-/
import Derived.Test.YtmbbakninakkcaaGreatDoorRows
import GoSem.ClaimSeven
namespace Go.Proofs.YtmbbakninakkcaaGreatDoor
namespace Rows

/-- THE TIED CARD OF 'privhouselaw16.NormKnown'. -/
def normKnownCard : Claim7 := { stood := { row := normKnownRow, standIns := [], harness := (true, "201acf365eb28fcdaefa06d15f4d68a8f5399d5cb45cf171bd6974c4e214bbe6"), looks := true }, kinds := [], alts := [], laidByText := true, laidKinds := [.data, .data, .data, .data, .sentinel, .sentinel, .widerDeep, .pinned], laidTests := true, laidLooks := .later }
def NormKnownCardSaid : Prop := Claim7.holds Tryz.pinned (.plain (OpenSpec.ofChange normKnownSpec)) normKnownCard

/-- THE SECOND FORM's CARD OF 'privhouselaw16.NormKnown'. -/
def normKnownUptoCard : Claim7 := { stood := { row := normKnownUptoRow, standIns := [], harness := (true, "201acf365eb28fcdaefa06d15f4d68a8f5399d5cb45cf171bd6974c4e214bbe6"), looks := true }, kinds := [], alts := [], laidByText := true, laidKinds := [.data, .data, .data, .data, .sentinel, .sentinel, .widerDeep, .pinned], laidTests := true, laidLooks := .later }
def NormKnownUptoCardSaid : Prop := Claim7.holds Tryz.pinned (.plain (OpenSpec.upto normKnownSpec)) normKnownUptoCard
end Rows
end Go.Proofs.YtmbbakninakkcaaGreatDoor
