/-
  DERIVED. GIVEN WITH THE SEED: THE CARDS: each row of YtecikbfimlolcaaGreatDoorRows.lean that lists a variable, with what it lists TIED to the program's text (the seventh form; the later family's looks); each row that meets fmt, with fmt's text TOLD by the authors' own Lean function (tested against real Go, not proved from fmt's source: count such statements apart). THE CARD IS WHAT COUNTS. Prove the row's statement (the work); the ties are given (YtecikbfimlolcaaGreatDoorTie.lean); close each card by the builder's one call (the guide's Derived/Test/ToyasCard.lean, 'card_holds'). Laid BY PROGRAM, IN A SANDBOX (cutbox-door.mjs). By AI agents, Wed Nov 11 2026. No macro, syntax, notation, axiom, sorry.
-/
import Derived.Test.YtecikbfimlolcaaGreatDoorRows
import GoSem.ClaimSeven
namespace Go.Proofs.YtecikbfimlolcaaGreatDoor
namespace Rows

/-- THE TIED CARD OF 'privhouselaw16.NormForms'. -/
def normFormsCard : Claim7 := { stood := { row := normFormsRow, standIns := [], harness := (true, "eaa63d36a4756ab171d9f41ac1cb8f127ae839051b7c6ec3a22ab476161f1177"), looks := true }, kinds := [], alts := [], laidByText := true, laidKinds := [.data, .data, .data, .data, .sentinel, .sentinel, .widerDeep, .pinned], laidTests := true, laidLooks := .later }
def NormFormsCardSaid : Prop := Claim7.holds Tryz.pinned (.plain (OpenSpec.ofChange normFormsSpec)) normFormsCard

/-- THE TIED CARD OF 'privhouselaw16.NormAgain'. -/
def normAgainCard : Claim7 := { stood := { row := normAgainRow, standIns := [], harness := (true, "eaa63d36a4756ab171d9f41ac1cb8f127ae839051b7c6ec3a22ab476161f1177"), looks := true }, kinds := [], alts := [], laidByText := true, laidKinds := [.data, .data, .data, .data, .sentinel, .sentinel, .widerDeep, .pinned], laidTests := true, laidLooks := .later }
def NormAgainCardSaid : Prop := Claim7.holds Tryz.pinned (.plain (OpenSpec.ofChange normAgainSpec)) normAgainCard

/-- THE TIED CARD OF 'privhouselaw16.NormSwaps'. -/
def normSwapsCard : Claim7 := { stood := { row := normSwapsRow, standIns := [], harness := (true, "eaa63d36a4756ab171d9f41ac1cb8f127ae839051b7c6ec3a22ab476161f1177"), looks := true }, kinds := [], alts := [], laidByText := true, laidKinds := [.data, .data, .data, .data, .sentinel, .sentinel, .widerDeep, .pinned], laidTests := true, laidLooks := .later }
def NormSwapsCardSaid : Prop := Claim7.holds Tryz.pinned (.plain (OpenSpec.ofChange normSwapsSpec)) normSwapsCard

/-- THE TIED CARD OF 'privhouselaw16.NormKeeps'. -/
def normKeepsCard : Claim7 := { stood := { row := normKeepsRow, standIns := [], harness := (true, "eaa63d36a4756ab171d9f41ac1cb8f127ae839051b7c6ec3a22ab476161f1177"), looks := true }, kinds := [], alts := [], laidByText := true, laidKinds := [.data, .data, .data, .data, .sentinel, .sentinel, .widerDeep, .pinned], laidTests := true, laidLooks := .later }
def NormKeepsCardSaid : Prop := Claim7.holds Tryz.pinned (.plain (OpenSpec.ofChange normKeepsSpec)) normKeepsCard

/-- THE SECOND FORM's CARD OF 'privhouselaw16.NormForms'. -/
def normFormsUptoCard : Claim7 := { stood := { row := normFormsUptoRow, standIns := [], harness := (true, "eaa63d36a4756ab171d9f41ac1cb8f127ae839051b7c6ec3a22ab476161f1177"), looks := true }, kinds := [], alts := [], laidByText := true, laidKinds := [.data, .data, .data, .data, .sentinel, .sentinel, .widerDeep, .pinned], laidTests := true, laidLooks := .later }
def NormFormsUptoCardSaid : Prop := Claim7.holds Tryz.pinned (.plain (OpenSpec.upto normFormsSpec)) normFormsUptoCard

/-- THE SECOND FORM's CARD OF 'privhouselaw16.NormAgain'. -/
def normAgainUptoCard : Claim7 := { stood := { row := normAgainUptoRow, standIns := [], harness := (true, "eaa63d36a4756ab171d9f41ac1cb8f127ae839051b7c6ec3a22ab476161f1177"), looks := true }, kinds := [], alts := [], laidByText := true, laidKinds := [.data, .data, .data, .data, .sentinel, .sentinel, .widerDeep, .pinned], laidTests := true, laidLooks := .later }
def NormAgainUptoCardSaid : Prop := Claim7.holds Tryz.pinned (.plain (OpenSpec.upto normAgainSpec)) normAgainUptoCard

/-- THE SECOND FORM's CARD OF 'privhouselaw16.NormSwaps'. -/
def normSwapsUptoCard : Claim7 := { stood := { row := normSwapsUptoRow, standIns := [], harness := (true, "eaa63d36a4756ab171d9f41ac1cb8f127ae839051b7c6ec3a22ab476161f1177"), looks := true }, kinds := [], alts := [], laidByText := true, laidKinds := [.data, .data, .data, .data, .sentinel, .sentinel, .widerDeep, .pinned], laidTests := true, laidLooks := .later }
def NormSwapsUptoCardSaid : Prop := Claim7.holds Tryz.pinned (.plain (OpenSpec.upto normSwapsSpec)) normSwapsUptoCard

/-- THE SECOND FORM's CARD OF 'privhouselaw16.NormKeeps'. -/
def normKeepsUptoCard : Claim7 := { stood := { row := normKeepsUptoRow, standIns := [], harness := (true, "eaa63d36a4756ab171d9f41ac1cb8f127ae839051b7c6ec3a22ab476161f1177"), looks := true }, kinds := [], alts := [], laidByText := true, laidKinds := [.data, .data, .data, .data, .sentinel, .sentinel, .widerDeep, .pinned], laidTests := true, laidLooks := .later }
def NormKeepsUptoCardSaid : Prop := Claim7.holds Tryz.pinned (.plain (OpenSpec.upto normKeepsSpec)) normKeepsUptoCard
end Rows
end Go.Proofs.YtecikbfimlolcaaGreatDoor
