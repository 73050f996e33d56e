/-
  DERIVED. GIVEN WITH THE SEED: THE CARDS: each row of YtahaaiadlgfchaaGreatDoorRows.lean that lists a variable, with what it lists TIED to the program's text (the seventh form; the later family's looks); each row that meets fmt, with fmt's text TOLD by the authors' own Lean function (tested against real Go, not proved from fmt's source: count such statements apart). THE CARD IS WHAT COUNTS. Prove the row's statement (the work); the ties are given (YtahaaiadlgfchaaGreatDoorTie.lean); close each card by the builder's one call (the guide's Derived/Test/ToyasCard.lean, 'card_holds'). Laid BY PROGRAM, IN A SANDBOX (cutbox-door.mjs). By AI agents, Wed Nov 11 2026. No macro, syntax, notation, axiom, sorry.
-/
import Derived.Test.YtahaaiadlgfchaaGreatDoorRows
import GoSem.ClaimSeven
namespace Go.Proofs.YtahaaiadlgfchaaGreatDoor
namespace Rows

/-- THE TIED CARD OF 'privhouselaw20.PlanKeeps'. -/
def planKeepsCard : Claim7 := { stood := { row := planKeepsRow, standIns := [], harness := (true, "a1f4ae0999a9daa4263d31fae4c7be58b1a559feead825257ab3aa4ec644e607"), looks := true }, kinds := [], alts := [], laidByText := true, laidKinds := [.data, .data, .data, .data, .sentinel, .sentinel, .widerDeep, .pinned], laidTests := true, laidLooks := .later }
def PlanKeepsCardSaid : Prop := Claim7.holds Tryz.pinned (.plain (OpenSpec.ofChange planKeepsSpec)) planKeepsCard

/-- THE TIED CARD OF 'privhouselaw20.PlanBits'. -/
def planBitsCard : Claim7 := { stood := { row := planBitsRow, standIns := [], harness := (true, "a1f4ae0999a9daa4263d31fae4c7be58b1a559feead825257ab3aa4ec644e607"), looks := true }, kinds := [], alts := [], laidByText := true, laidKinds := [.data, .data, .data, .data, .sentinel, .sentinel, .widerDeep, .pinned], laidTests := true, laidLooks := .later }
def PlanBitsCardSaid : Prop := Claim7.holds Tryz.pinned (.plain (OpenSpec.ofChange planBitsSpec)) planBitsCard

/-- THE SECOND FORM's CARD OF 'privhouselaw20.PlanKeeps'. -/
def planKeepsUptoCard : Claim7 := { stood := { row := planKeepsUptoRow, standIns := [], harness := (true, "a1f4ae0999a9daa4263d31fae4c7be58b1a559feead825257ab3aa4ec644e607"), looks := true }, kinds := [], alts := [], laidByText := true, laidKinds := [.data, .data, .data, .data, .sentinel, .sentinel, .widerDeep, .pinned], laidTests := true, laidLooks := .later }
def PlanKeepsUptoCardSaid : Prop := Claim7.holds Tryz.pinned (.plain (OpenSpec.upto planKeepsSpec)) planKeepsUptoCard

/-- THE SECOND FORM's CARD OF 'privhouselaw20.PlanBits'. -/
def planBitsUptoCard : Claim7 := { stood := { row := planBitsUptoRow, standIns := [], harness := (true, "a1f4ae0999a9daa4263d31fae4c7be58b1a559feead825257ab3aa4ec644e607"), looks := true }, kinds := [], alts := [], laidByText := true, laidKinds := [.data, .data, .data, .data, .sentinel, .sentinel, .widerDeep, .pinned], laidTests := true, laidLooks := .later }
def PlanBitsUptoCardSaid : Prop := Claim7.holds Tryz.pinned (.plain (OpenSpec.upto planBitsSpec)) planBitsUptoCard
end Rows
end Go.Proofs.YtahaaiadlgfchaaGreatDoor
