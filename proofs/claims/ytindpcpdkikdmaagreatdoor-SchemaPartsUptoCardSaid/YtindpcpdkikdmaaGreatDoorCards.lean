/-
  DERIVED. GIVEN WITH THE SEED: THE CARDS: each row of YtindpcpdkikdmaaGreatDoorRows.lean that lists a variable, with what it lists TIED to the program's text (the seventh form; the later family's looks); each row that meets fmt, with fmt's text TOLD by the authors' own Lean function (tested against real Go, not proved from fmt's source: count such statements apart). THE CARD IS WHAT COUNTS. Prove the row's statement (the work); the ties are given (YtindpcpdkikdmaaGreatDoorTie.lean); close each card by the builder's one call (the guide's Derived/Test/ToyasCard.lean, 'card_holds'). Laid BY PROGRAM, IN A SANDBOX (cutbox-door.mjs). By AI agents, Wed Nov 11 2026. No macro, syntax, notation, axiom, sorry.
-/
import Derived.Test.YtindpcpdkikdmaaGreatDoorRows
import GoSem.ClaimSeven
namespace Go.Proofs.YtindpcpdkikdmaaGreatDoor
namespace Rows

/-- THE TIED CARD OF 'schemalenslaw15.SchemaEqual'. -/
def schemaEqualCard : Claim7 := { stood := { row := schemaEqualRow, standIns := [], harness := (true, "d5e8e8d8c9ca3c3eaddd9eea9faf84702fa42a49d176963d6a11c8b8737afeea"), looks := true }, kinds := [], alts := [], laidByText := true, laidKinds := [.data, .data, .data, .data, .sentinel, .sentinel, .widerDeep, .data, .pinned], laidTests := true, laidLooks := .later }
def SchemaEqualCardSaid : Prop := Claim7.holds Tryz.pinned (.plain (OpenSpec.ofChange schemaEqualSpec)) schemaEqualCard

/-- THE TIED CARD OF 'schemalenslaw15.SchemaParts'. -/
def schemaPartsCard : Claim7 := { stood := { row := schemaPartsRow, standIns := [], harness := (true, "d5e8e8d8c9ca3c3eaddd9eea9faf84702fa42a49d176963d6a11c8b8737afeea"), looks := true }, kinds := [], alts := [], laidByText := true, laidKinds := [.data, .data, .data, .data, .sentinel, .sentinel, .widerDeep, .data, .pinned], laidTests := true, laidLooks := .later }
def SchemaPartsCardSaid : Prop := Claim7.holds Tryz.pinned (.plain (OpenSpec.ofChange schemaPartsSpec)) schemaPartsCard

/-- THE SECOND FORM's CARD OF 'schemalenslaw15.SchemaEqual'. -/
def schemaEqualUptoCard : Claim7 := { stood := { row := schemaEqualUptoRow, standIns := [], harness := (true, "d5e8e8d8c9ca3c3eaddd9eea9faf84702fa42a49d176963d6a11c8b8737afeea"), looks := true }, kinds := [], alts := [], laidByText := true, laidKinds := [.data, .data, .data, .data, .sentinel, .sentinel, .widerDeep, .data, .pinned], laidTests := true, laidLooks := .later }
def SchemaEqualUptoCardSaid : Prop := Claim7.holds Tryz.pinned (.plain (OpenSpec.upto schemaEqualSpec)) schemaEqualUptoCard

/-- THE SECOND FORM's CARD OF 'schemalenslaw15.SchemaParts'. -/
def schemaPartsUptoCard : Claim7 := { stood := { row := schemaPartsUptoRow, standIns := [], harness := (true, "d5e8e8d8c9ca3c3eaddd9eea9faf84702fa42a49d176963d6a11c8b8737afeea"), looks := true }, kinds := [], alts := [], laidByText := true, laidKinds := [.data, .data, .data, .data, .sentinel, .sentinel, .widerDeep, .data, .pinned], laidTests := true, laidLooks := .later }
def SchemaPartsUptoCardSaid : Prop := Claim7.holds Tryz.pinned (.plain (OpenSpec.upto schemaPartsSpec)) schemaPartsUptoCard
end Rows
end Go.Proofs.YtindpcpdkikdmaaGreatDoor
