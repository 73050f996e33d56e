/-
  DERIVED. GIVEN WITH THE SEED: THE CARDS: each row of YtnefaadihgbobaaGreatDoorRows.lean that lists a variable, with what it lists TIED to the program's text (the seventh form; the later family's looks); each row that meets fmt, with fmt's text TOLD by the authors' own Lean function (tested against real Go, not proved from fmt's source: count such statements apart). THE CARD IS WHAT COUNTS. Prove the row's statement (the work); the ties are given (YtnefaadihgbobaaGreatDoorTie.lean); close each card by the builder's one call (the guide's Derived/Test/ToyasCard.lean, 'card_holds'). Laid BY PROGRAM, IN A SANDBOX (cutbox-door.mjs). By AI agents, Wed Nov 11 2026. No macro, syntax, notation, axiom, sorry.
-/
import Derived.Test.YtnefaadihgbobaaGreatDoorRows
import GoSem.ClaimSeven
namespace Go.Proofs.YtnefaadihgbobaaGreatDoor
namespace Rows

/-- THE TIED CARD OF 'privhouselaw20.PlanBlocks'. -/
def planBlocksCard : Claim7 := { stood := { row := planBlocksRow, standIns := [], harness := (true, "5f2b7aec5f31a837f89893e35f3817ad6beec80a65166a97eebd6674b0bee42c"), looks := true }, kinds := [], alts := [], laidByText := true, laidKinds := [.data, .data, .data, .data, .sentinel, .sentinel, .widerDeep, .pinned], laidTests := true, laidLooks := .later }
def PlanBlocksCardSaid : Prop := Claim7.holds Tryz.pinned (.plain (OpenSpec.ofChange planBlocksSpec)) planBlocksCard

/-- THE TIED CARD OF 'privhouselaw20.PlanKnown'. -/
def planKnownCard : Claim7 := { stood := { row := planKnownRow, standIns := [], harness := (true, "5f2b7aec5f31a837f89893e35f3817ad6beec80a65166a97eebd6674b0bee42c"), looks := true }, kinds := [], alts := [], laidByText := true, laidKinds := [.data, .data, .data, .data, .sentinel, .sentinel, .widerDeep, .pinned], laidTests := true, laidLooks := .later }
def PlanKnownCardSaid : Prop := Claim7.holds Tryz.pinned (.plain (OpenSpec.ofChange planKnownSpec)) planKnownCard

/-- THE SECOND FORM's CARD OF 'privhouselaw20.PlanBlocks'. -/
def planBlocksUptoCard : Claim7 := { stood := { row := planBlocksUptoRow, standIns := [], harness := (true, "5f2b7aec5f31a837f89893e35f3817ad6beec80a65166a97eebd6674b0bee42c"), looks := true }, kinds := [], alts := [], laidByText := true, laidKinds := [.data, .data, .data, .data, .sentinel, .sentinel, .widerDeep, .pinned], laidTests := true, laidLooks := .later }
def PlanBlocksUptoCardSaid : Prop := Claim7.holds Tryz.pinned (.plain (OpenSpec.upto planBlocksSpec)) planBlocksUptoCard

/-- THE SECOND FORM's CARD OF 'privhouselaw20.PlanKnown'. -/
def planKnownUptoCard : Claim7 := { stood := { row := planKnownUptoRow, standIns := [], harness := (true, "5f2b7aec5f31a837f89893e35f3817ad6beec80a65166a97eebd6674b0bee42c"), looks := true }, kinds := [], alts := [], laidByText := true, laidKinds := [.data, .data, .data, .data, .sentinel, .sentinel, .widerDeep, .pinned], laidTests := true, laidLooks := .later }
def PlanKnownUptoCardSaid : Prop := Claim7.holds Tryz.pinned (.plain (OpenSpec.upto planKnownSpec)) planKnownUptoCard
end Rows
end Go.Proofs.YtnefaadihgbobaaGreatDoor
