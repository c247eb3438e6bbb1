/-
  DERIVED. GIVEN WITH THE SEED: THE CARDS: each row of YtdikgijfekfaoaaGreatDoorRows.lean that lists a variable, with what it lists TIED to the program's text (the seventh form; the later family's looks); each row that meets fmt, with fmt's text TOLD by the authors' own Lean function (tested against real Go, not proved from fmt's source: count such statements apart). THE CARD IS WHAT COUNTS. Prove the row's statement (the work); the ties are given (YtdikgijfekfaoaaGreatDoorTie.lean); close each card by the builder's one call (the guide's Derived/Test/ToyasCard.lean, 'card_holds'). Laid BY PROGRAM, IN A SANDBOX (cutbox-door.mjs). By AI agents, Wed Nov 11 2026. No macro, syntax, notation, axiom, sorry.
-/
import Derived.Test.YtdikgijfekfaoaaGreatDoorRows
import GoSem.ClaimSeven
namespace Go.Proofs.YtdikgijfekfaoaaGreatDoor
namespace Rows

/-- THE TIED CARD OF 'schemalenslaw12.TypesForms'. -/
def typesFormsCard : Claim7 := { stood := { row := typesFormsRow, standIns := [], harness := (true, "c0343ca935ef4124428005131400a2301798b0648ee6c7219ba9f5ea3e72c492"), looks := true }, kinds := [], alts := [], laidByText := true, laidKinds := [.data, .data, .data, .data, .sentinel, .sentinel, .widerDeep, .data, .pinned], laidTests := true, laidLooks := .later }
def TypesFormsCardSaid : Prop := Claim7.holds Tryz.pinned (.plain (OpenSpec.ofChange typesFormsSpec)) typesFormsCard

/-- THE TIED CARD OF 'schemalenslaw12.TypesMatches'. -/
def typesMatchesCard : Claim7 := { stood := { row := typesMatchesRow, standIns := [], harness := (true, "c0343ca935ef4124428005131400a2301798b0648ee6c7219ba9f5ea3e72c492"), looks := true }, kinds := [], alts := [], laidByText := true, laidKinds := [.data, .data, .data, .data, .sentinel, .sentinel, .widerDeep, .data, .pinned], laidTests := true, laidLooks := .later }
def TypesMatchesCardSaid : Prop := Claim7.holds Tryz.pinned (.plain (OpenSpec.ofChange typesMatchesSpec)) typesMatchesCard

/-- THE TIED CARD OF 'schemalenslaw12.TypesGeneral'. -/
def typesGeneralCard : Claim7 := { stood := { row := typesGeneralRow, standIns := [], harness := (true, "c0343ca935ef4124428005131400a2301798b0648ee6c7219ba9f5ea3e72c492"), looks := true }, kinds := [], alts := [], laidByText := true, laidKinds := [.data, .data, .data, .data, .sentinel, .sentinel, .widerDeep, .data, .pinned], laidTests := true, laidLooks := .later }
def TypesGeneralCardSaid : Prop := Claim7.holds Tryz.pinned (.plain (OpenSpec.ofChange typesGeneralSpec)) typesGeneralCard

/-- THE TIED CARD OF 'schemalenslaw12.TypesUndone'. -/
def typesUndoneCard : Claim7 := { stood := { row := typesUndoneRow, standIns := [], harness := (true, "c0343ca935ef4124428005131400a2301798b0648ee6c7219ba9f5ea3e72c492"), looks := true }, kinds := [], alts := [], laidByText := true, laidKinds := [.data, .data, .data, .data, .sentinel, .sentinel, .widerDeep, .data, .pinned], laidTests := true, laidLooks := .later }
def TypesUndoneCardSaid : Prop := Claim7.holds Tryz.pinned (.plain (OpenSpec.ofChange typesUndoneSpec)) typesUndoneCard

/-- THE TIED CARD OF 'schemalenslaw12.TypesStorable'. -/
def typesStorableCard : Claim7 := { stood := { row := typesStorableRow, standIns := [], harness := (true, "c0343ca935ef4124428005131400a2301798b0648ee6c7219ba9f5ea3e72c492"), looks := true }, kinds := [], alts := [], laidByText := true, laidKinds := [.data, .data, .data, .data, .sentinel, .sentinel, .widerDeep, .data, .pinned], laidTests := true, laidLooks := .later }
def TypesStorableCardSaid : Prop := Claim7.holds Tryz.pinned (.plain (OpenSpec.ofChange typesStorableSpec)) typesStorableCard

/-- THE TIED CARD OF 'schemalenslaw12.TypesCanonical'. -/
def typesCanonicalCard : Claim7 := { stood := { row := typesCanonicalRow, standIns := [], harness := (true, "c0343ca935ef4124428005131400a2301798b0648ee6c7219ba9f5ea3e72c492"), looks := true }, kinds := [], alts := [], laidByText := true, laidKinds := [.data, .data, .data, .data, .sentinel, .sentinel, .widerDeep, .data, .pinned], laidTests := true, laidLooks := .later }
def TypesCanonicalCardSaid : Prop := Claim7.holds Tryz.pinned (.plain (OpenSpec.ofChange typesCanonicalSpec)) typesCanonicalCard

/-- THE TIED CARD OF 'schemalenslaw12.TypesForeign'. -/
def typesForeignCard : Claim7 := { stood := { row := typesForeignRow, standIns := [], harness := (true, "c0343ca935ef4124428005131400a2301798b0648ee6c7219ba9f5ea3e72c492"), looks := true }, kinds := [], alts := [], laidByText := true, laidKinds := [.data, .data, .data, .data, .sentinel, .sentinel, .widerDeep, .data, .pinned], laidTests := true, laidLooks := .later }
def TypesForeignCardSaid : Prop := Claim7.holds Tryz.pinned (.plain (OpenSpec.ofChange typesForeignSpec)) typesForeignCard

/-- THE TIED CARD OF 'schemalenslaw12.TypesScript'. -/
def typesScriptCard : Claim7 := { stood := { row := typesScriptRow, standIns := [], harness := (true, "c0343ca935ef4124428005131400a2301798b0648ee6c7219ba9f5ea3e72c492"), looks := true }, kinds := [], alts := [], laidByText := true, laidKinds := [.data, .data, .data, .data, .sentinel, .sentinel, .widerDeep, .data, .pinned], laidTests := true, laidLooks := .later }
def TypesScriptCardSaid : Prop := Claim7.holds Tryz.pinned (.plain (OpenSpec.ofChange typesScriptSpec)) typesScriptCard

/-- THE TIED CARD OF 'schemalenslaw12.TypesLevels'. -/
def typesLevelsCard : Claim7 := { stood := { row := typesLevelsRow, standIns := [], harness := (true, "c0343ca935ef4124428005131400a2301798b0648ee6c7219ba9f5ea3e72c492"), looks := true }, kinds := [], alts := [], laidByText := true, laidKinds := [.data, .data, .data, .data, .sentinel, .sentinel, .widerDeep, .data, .pinned], laidTests := true, laidLooks := .later }
def TypesLevelsCardSaid : Prop := Claim7.holds Tryz.pinned (.plain (OpenSpec.ofChange typesLevelsSpec)) typesLevelsCard

/-- THE SECOND FORM's CARD OF 'schemalenslaw12.TypesForms'. -/
def typesFormsUptoCard : Claim7 := { stood := { row := typesFormsUptoRow, standIns := [], harness := (true, "c0343ca935ef4124428005131400a2301798b0648ee6c7219ba9f5ea3e72c492"), looks := true }, kinds := [], alts := [], laidByText := true, laidKinds := [.data, .data, .data, .data, .sentinel, .sentinel, .widerDeep, .data, .pinned], laidTests := true, laidLooks := .later }
def TypesFormsUptoCardSaid : Prop := Claim7.holds Tryz.pinned (.plain (OpenSpec.upto typesFormsSpec)) typesFormsUptoCard

/-- THE SECOND FORM's CARD OF 'schemalenslaw12.TypesMatches'. -/
def typesMatchesUptoCard : Claim7 := { stood := { row := typesMatchesUptoRow, standIns := [], harness := (true, "c0343ca935ef4124428005131400a2301798b0648ee6c7219ba9f5ea3e72c492"), looks := true }, kinds := [], alts := [], laidByText := true, laidKinds := [.data, .data, .data, .data, .sentinel, .sentinel, .widerDeep, .data, .pinned], laidTests := true, laidLooks := .later }
def TypesMatchesUptoCardSaid : Prop := Claim7.holds Tryz.pinned (.plain (OpenSpec.upto typesMatchesSpec)) typesMatchesUptoCard

/-- THE SECOND FORM's CARD OF 'schemalenslaw12.TypesGeneral'. -/
def typesGeneralUptoCard : Claim7 := { stood := { row := typesGeneralUptoRow, standIns := [], harness := (true, "c0343ca935ef4124428005131400a2301798b0648ee6c7219ba9f5ea3e72c492"), looks := true }, kinds := [], alts := [], laidByText := true, laidKinds := [.data, .data, .data, .data, .sentinel, .sentinel, .widerDeep, .data, .pinned], laidTests := true, laidLooks := .later }
def TypesGeneralUptoCardSaid : Prop := Claim7.holds Tryz.pinned (.plain (OpenSpec.upto typesGeneralSpec)) typesGeneralUptoCard

/-- THE SECOND FORM's CARD OF 'schemalenslaw12.TypesUndone'. -/
def typesUndoneUptoCard : Claim7 := { stood := { row := typesUndoneUptoRow, standIns := [], harness := (true, "c0343ca935ef4124428005131400a2301798b0648ee6c7219ba9f5ea3e72c492"), looks := true }, kinds := [], alts := [], laidByText := true, laidKinds := [.data, .data, .data, .data, .sentinel, .sentinel, .widerDeep, .data, .pinned], laidTests := true, laidLooks := .later }
def TypesUndoneUptoCardSaid : Prop := Claim7.holds Tryz.pinned (.plain (OpenSpec.upto typesUndoneSpec)) typesUndoneUptoCard

/-- THE SECOND FORM's CARD OF 'schemalenslaw12.TypesStorable'. -/
def typesStorableUptoCard : Claim7 := { stood := { row := typesStorableUptoRow, standIns := [], harness := (true, "c0343ca935ef4124428005131400a2301798b0648ee6c7219ba9f5ea3e72c492"), looks := true }, kinds := [], alts := [], laidByText := true, laidKinds := [.data, .data, .data, .data, .sentinel, .sentinel, .widerDeep, .data, .pinned], laidTests := true, laidLooks := .later }
def TypesStorableUptoCardSaid : Prop := Claim7.holds Tryz.pinned (.plain (OpenSpec.upto typesStorableSpec)) typesStorableUptoCard

/-- THE SECOND FORM's CARD OF 'schemalenslaw12.TypesCanonical'. -/
def typesCanonicalUptoCard : Claim7 := { stood := { row := typesCanonicalUptoRow, standIns := [], harness := (true, "c0343ca935ef4124428005131400a2301798b0648ee6c7219ba9f5ea3e72c492"), looks := true }, kinds := [], alts := [], laidByText := true, laidKinds := [.data, .data, .data, .data, .sentinel, .sentinel, .widerDeep, .data, .pinned], laidTests := true, laidLooks := .later }
def TypesCanonicalUptoCardSaid : Prop := Claim7.holds Tryz.pinned (.plain (OpenSpec.upto typesCanonicalSpec)) typesCanonicalUptoCard

/-- THE SECOND FORM's CARD OF 'schemalenslaw12.TypesForeign'. -/
def typesForeignUptoCard : Claim7 := { stood := { row := typesForeignUptoRow, standIns := [], harness := (true, "c0343ca935ef4124428005131400a2301798b0648ee6c7219ba9f5ea3e72c492"), looks := true }, kinds := [], alts := [], laidByText := true, laidKinds := [.data, .data, .data, .data, .sentinel, .sentinel, .widerDeep, .data, .pinned], laidTests := true, laidLooks := .later }
def TypesForeignUptoCardSaid : Prop := Claim7.holds Tryz.pinned (.plain (OpenSpec.upto typesForeignSpec)) typesForeignUptoCard

/-- THE SECOND FORM's CARD OF 'schemalenslaw12.TypesScript'. -/
def typesScriptUptoCard : Claim7 := { stood := { row := typesScriptUptoRow, standIns := [], harness := (true, "c0343ca935ef4124428005131400a2301798b0648ee6c7219ba9f5ea3e72c492"), looks := true }, kinds := [], alts := [], laidByText := true, laidKinds := [.data, .data, .data, .data, .sentinel, .sentinel, .widerDeep, .data, .pinned], laidTests := true, laidLooks := .later }
def TypesScriptUptoCardSaid : Prop := Claim7.holds Tryz.pinned (.plain (OpenSpec.upto typesScriptSpec)) typesScriptUptoCard

/-- THE SECOND FORM's CARD OF 'schemalenslaw12.TypesLevels'. -/
def typesLevelsUptoCard : Claim7 := { stood := { row := typesLevelsUptoRow, standIns := [], harness := (true, "c0343ca935ef4124428005131400a2301798b0648ee6c7219ba9f5ea3e72c492"), looks := true }, kinds := [], alts := [], laidByText := true, laidKinds := [.data, .data, .data, .data, .sentinel, .sentinel, .widerDeep, .data, .pinned], laidTests := true, laidLooks := .later }
def TypesLevelsUptoCardSaid : Prop := Claim7.holds Tryz.pinned (.plain (OpenSpec.upto typesLevelsSpec)) typesLevelsUptoCard
end Rows
end Go.Proofs.YtdikgijfekfaoaaGreatDoor
