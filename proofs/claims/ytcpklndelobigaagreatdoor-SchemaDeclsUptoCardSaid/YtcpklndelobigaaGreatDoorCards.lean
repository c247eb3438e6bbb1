/-
  DERIVED. GIVEN WITH THE SEED: THE CARDS: each row of YtcpklndelobigaaGreatDoorRows.lean that lists a variable, with what it lists TIED to the program's text (the seventh form; the later family's looks); each row that meets fmt, with fmt's text TOLD by the authors' own Lean function (tested against real Go, not proved from fmt's source: count such statements apart). THE CARD IS WHAT COUNTS. Prove the row's statement (the work); the ties are given (YtcpklndelobigaaGreatDoorTie.lean); close each card by the builder's one call (the guide's Derived/Test/ToyasCard.lean, 'card_holds'). Laid BY PROGRAM, IN A SANDBOX (cutbox-door.mjs). By AI agents, Wed Nov 11 2026. No macro, syntax, notation, axiom, sorry.
-/
import Derived.Test.YtcpklndelobigaaGreatDoorRows
import GoSem.ClaimSeven
namespace Go.Proofs.YtcpklndelobigaaGreatDoor
namespace Rows

/-- THE TIED CARD OF 'schemalenslaw15.SchemaFrom'. -/
def schemaFromCard : Claim7 := { stood := { row := schemaFromRow, standIns := [], harness := (true, "35a9776f0a54e3b8db79b5cafbc2a18295950037977cbabab1e63d93edee46cb"), looks := true }, kinds := [], alts := [], laidByText := true, laidKinds := [.data, .data, .data, .data, .sentinel, .sentinel, .widerDeep, .data, .pinned], laidTests := true, laidLooks := .later }
def SchemaFromCardSaid : Prop := Claim7.holds Tryz.pinned (.plain (OpenSpec.ofChange schemaFromSpec)) schemaFromCard

/-- THE TIED CARD OF 'schemalenslaw15.SchemaMany'. -/
def schemaManyCard : Claim7 := { stood := { row := schemaManyRow, standIns := [], harness := (true, "35a9776f0a54e3b8db79b5cafbc2a18295950037977cbabab1e63d93edee46cb"), looks := true }, kinds := [], alts := [], laidByText := true, laidKinds := [.data, .data, .data, .data, .sentinel, .sentinel, .widerDeep, .data, .pinned], laidTests := true, laidLooks := .later }
def SchemaManyCardSaid : Prop := Claim7.holds Tryz.pinned (.plain (OpenSpec.ofChange schemaManySpec)) schemaManyCard

/-- THE TIED CARD OF 'schemalenslaw15.SchemaDecls'. -/
def schemaDeclsCard : Claim7 := { stood := { row := schemaDeclsRow, standIns := [], harness := (true, "35a9776f0a54e3b8db79b5cafbc2a18295950037977cbabab1e63d93edee46cb"), looks := true }, kinds := [], alts := [], laidByText := true, laidKinds := [.data, .data, .data, .data, .sentinel, .sentinel, .widerDeep, .data, .pinned], laidTests := true, laidLooks := .later }
def SchemaDeclsCardSaid : Prop := Claim7.holds Tryz.pinned (.plain (OpenSpec.ofChange schemaDeclsSpec)) schemaDeclsCard

/-- THE SECOND FORM's CARD OF 'schemalenslaw15.SchemaFrom'. -/
def schemaFromUptoCard : Claim7 := { stood := { row := schemaFromUptoRow, standIns := [], harness := (true, "35a9776f0a54e3b8db79b5cafbc2a18295950037977cbabab1e63d93edee46cb"), looks := true }, kinds := [], alts := [], laidByText := true, laidKinds := [.data, .data, .data, .data, .sentinel, .sentinel, .widerDeep, .data, .pinned], laidTests := true, laidLooks := .later }
def SchemaFromUptoCardSaid : Prop := Claim7.holds Tryz.pinned (.plain (OpenSpec.upto schemaFromSpec)) schemaFromUptoCard

/-- THE SECOND FORM's CARD OF 'schemalenslaw15.SchemaMany'. -/
def schemaManyUptoCard : Claim7 := { stood := { row := schemaManyUptoRow, standIns := [], harness := (true, "35a9776f0a54e3b8db79b5cafbc2a18295950037977cbabab1e63d93edee46cb"), looks := true }, kinds := [], alts := [], laidByText := true, laidKinds := [.data, .data, .data, .data, .sentinel, .sentinel, .widerDeep, .data, .pinned], laidTests := true, laidLooks := .later }
def SchemaManyUptoCardSaid : Prop := Claim7.holds Tryz.pinned (.plain (OpenSpec.upto schemaManySpec)) schemaManyUptoCard

/-- THE SECOND FORM's CARD OF 'schemalenslaw15.SchemaDecls'. -/
def schemaDeclsUptoCard : Claim7 := { stood := { row := schemaDeclsUptoRow, standIns := [], harness := (true, "35a9776f0a54e3b8db79b5cafbc2a18295950037977cbabab1e63d93edee46cb"), looks := true }, kinds := [], alts := [], laidByText := true, laidKinds := [.data, .data, .data, .data, .sentinel, .sentinel, .widerDeep, .data, .pinned], laidTests := true, laidLooks := .later }
def SchemaDeclsUptoCardSaid : Prop := Claim7.holds Tryz.pinned (.plain (OpenSpec.upto schemaDeclsSpec)) schemaDeclsUptoCard
end Rows
end Go.Proofs.YtcpklndelobigaaGreatDoor
