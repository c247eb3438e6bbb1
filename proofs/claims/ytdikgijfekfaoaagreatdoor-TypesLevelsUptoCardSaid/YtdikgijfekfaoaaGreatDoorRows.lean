/-
  NARROWER THAN 'FOR EVERY INPUT', by the rows' own cells (each row's printed sentence says how): TypesForms: loops, laid · TypesMatches: loops, laid · TypesGeneral: laid · TypesUndone: laid · TypesStorable: loops, laid · TypesCanonical: loops, laid · TypesForeign: loops, laid · TypesScript: laid · TypesLevels: laid.
  DERIVED. THE GIVEN ROWS OF THIS SEAT. 9 by the template 'for every input the law returns true; each argument reads behind the call as it read before'; 0 by the template 'total and deterministic' (their statements: YtdikgijfekfaoaaGreatDoorTotals.lean).
  GIVEN WITH THE SEED: the statements are not yours to turn. If you find one false, say at which input.
  Laid BY PROGRAM, IN A SANDBOX (cutbox-rows.mjs): the forced cells as the released guide's own fill.sh prints them over the translation c53187dca8899d1e… (all of the seat's roots in one cut). By AI agents, Wed Nov 11 2026. No macro, syntax, notation, axiom, sorry.
-/
import Derived.Test.YtdikgijfekfaoaaGreatDoorChecked
import GoSem.PinnedTables
import GoSem.Claim
import GoSem.ClaimJoined
import GoSem.ClaimMapViews
import Derived.JoinedTies
import Derived.KernelRfl
namespace Go.Proofs.YtdikgijfekfaoaaGreatDoor
/- THE CELL 'sum', in the pinned program and in every row, IS THE sha256 OF THE DUMP (.gsa) THAT YtdikgijfekfaoaaGreatDoorProg.lean LOADS. Nothing in Lean hashes anything: it is a label: what it is worth is what the hold of that sum in a sandbox is worth. -/
noncomputable def Tryz.pinned : Pinned := { name := "ytdikgijfekfaoaagreatdoor", sum := "c53187dca8899d1ef7b029fe68bc8643a1bc3290fe1d8bbb2c3f1344b4b2f956", checked := Tryz.checked }
namespace Rows
def none {H : Type} : Left H := { results := [], args := [] }

/- WHAT THE LISTED PACKAGE-LEVEL VARIABLES READ AS WHEN THE CALL BEGINS. Each datum BY PROGRAM (the guide's laid-datum.mjs) off the statement by which the dump's own 'gosem.cut.vars' lays the variable. In a bare row this is a premise. The card (YtdikgijfekfaoaaGreatDoorCards.lean) ties it to the program's text. -/
def laid_math_bits_deBruijn32tab {H : Type} : DataW H := .agg [.lit (.int .u8 0), .lit (.int .u8 1), .lit (.int .u8 28), .lit (.int .u8 2), .lit (.int .u8 29), .lit (.int .u8 14), .lit (.int .u8 24), .lit (.int .u8 3), .lit (.int .u8 30), .lit (.int .u8 22), .lit (.int .u8 20), .lit (.int .u8 15), .lit (.int .u8 25), .lit (.int .u8 17), .lit (.int .u8 4), .lit (.int .u8 8), .lit (.int .u8 31), .lit (.int .u8 27), .lit (.int .u8 13), .lit (.int .u8 23), .lit (.int .u8 21), .lit (.int .u8 19), .lit (.int .u8 16), .lit (.int .u8 7), .lit (.int .u8 26), .lit (.int .u8 12), .lit (.int .u8 18), .lit (.int .u8 6), .lit (.int .u8 11), .lit (.int .u8 5), .lit (.int .u8 10), .lit (.int .u8 9)]
def laid_math_bits_deBruijn64tab {H : Type} : DataW H := .agg [.lit (.int .u8 0), .lit (.int .u8 1), .lit (.int .u8 56), .lit (.int .u8 2), .lit (.int .u8 57), .lit (.int .u8 49), .lit (.int .u8 28), .lit (.int .u8 3), .lit (.int .u8 61), .lit (.int .u8 58), .lit (.int .u8 42), .lit (.int .u8 50), .lit (.int .u8 38), .lit (.int .u8 29), .lit (.int .u8 17), .lit (.int .u8 4), .lit (.int .u8 62), .lit (.int .u8 47), .lit (.int .u8 59), .lit (.int .u8 36), .lit (.int .u8 45), .lit (.int .u8 43), .lit (.int .u8 51), .lit (.int .u8 22), .lit (.int .u8 53), .lit (.int .u8 39), .lit (.int .u8 33), .lit (.int .u8 30), .lit (.int .u8 24), .lit (.int .u8 18), .lit (.int .u8 12), .lit (.int .u8 5), .lit (.int .u8 63), .lit (.int .u8 55), .lit (.int .u8 48), .lit (.int .u8 27), .lit (.int .u8 60), .lit (.int .u8 41), .lit (.int .u8 37), .lit (.int .u8 16), .lit (.int .u8 46), .lit (.int .u8 35), .lit (.int .u8 44), .lit (.int .u8 21), .lit (.int .u8 52), .lit (.int .u8 32), .lit (.int .u8 23), .lit (.int .u8 11), .lit (.int .u8 54), .lit (.int .u8 26), .lit (.int .u8 40), .lit (.int .u8 15), .lit (.int .u8 34), .lit (.int .u8 20), .lit (.int .u8 31), .lit (.int .u8 10), .lit (.int .u8 25), .lit (.int .u8 14), .lit (.int .u8 19), .lit (.int .u8 9), .lit (.int .u8 13), .lit (.int .u8 8), .lit (.int .u8 7), .lit (.int .u8 6)]
def laid_internal_strconv_uint64pow10 {H : Type} : DataW H := .agg [.lit (.int .u64 1), .lit (.int .u64 10), .lit (.int .u64 100), .lit (.int .u64 1000), .lit (.int .u64 10000), .lit (.int .u64 100000), .lit (.int .u64 1000000), .lit (.int .u64 10000000), .lit (.int .u64 100000000), .lit (.int .u64 1000000000), .lit (.int .u64 10000000000), .lit (.int .u64 100000000000), .lit (.int .u64 1000000000000), .lit (.int .u64 10000000000000), .lit (.int .u64 100000000000000), .lit (.int .u64 1000000000000000), .lit (.int .u64 10000000000000000), .lit (.int .u64 100000000000000000), .lit (.int .u64 1000000000000000000), .lit (.int .u64 10000000000000000000)]
def laid_unicode_utf8_acceptRanges {H : Type} : DataW H := .agg [.agg [.lit (.int .u8 128), .lit (.int .u8 191)], .agg [.lit (.int .u8 160), .lit (.int .u8 191)], .agg [.lit (.int .u8 128), .lit (.int .u8 159)], .agg [.lit (.int .u8 144), .lit (.int .u8 191)], .agg [.lit (.int .u8 128), .lit (.int .u8 143)], .agg [.lit (.int .u8 0), .lit (.int .u8 0)], .agg [.lit (.int .u8 0), .lit (.int .u8 0)], .agg [.lit (.int .u8 0), .lit (.int .u8 0)], .agg [.lit (.int .u8 0), .lit (.int .u8 0)], .agg [.lit (.int .u8 0), .lit (.int .u8 0)], .agg [.lit (.int .u8 0), .lit (.int .u8 0)], .agg [.lit (.int .u8 0), .lit (.int .u8 0)], .agg [.lit (.int .u8 0), .lit (.int .u8 0)], .agg [.lit (.int .u8 0), .lit (.int .u8 0)], .agg [.lit (.int .u8 0), .lit (.int .u8 0)], .agg [.lit (.int .u8 0), .lit (.int .u8 0)]]
def laid_strconv_ErrRange {H : Type} : DataW H := .iface "*errors.errorString" (.ptr (.agg [.lit (.string [118, 97, 108, 117, 101, 32, 111, 117, 116, 32, 111, 102, 32, 114, 97, 110, 103, 101])]))
def laid_strconv_ErrSyntax {H : Type} : DataW H := .iface "*errors.errorString" (.ptr (.agg [.lit (.string [105, 110, 118, 97, 108, 105, 100, 32, 115, 121, 110, 116, 97, 120])]))
def laid_schemalens_lexer_keywords {H : Type} : DataW H := .agg [.lit (.string [97, 110, 100]), .lit (.string [97, 115]), .lit (.string [99, 104, 101, 99, 107]), .lit (.string [100, 101, 108, 101, 116, 101]), .lit (.string [101, 108, 115, 101]), .lit (.string [102, 97, 108, 115, 101]), .lit (.string [102, 117, 110]), .lit (.string [105, 102]), .lit (.string [105, 110]), .lit (.string [105, 110, 115, 101, 114, 116]), .lit (.string [107, 101, 121]), .lit (.string [108, 101, 116]), .lit (.string [109, 97, 116, 99, 104]), .lit (.string [110, 111, 116]), .lit (.string [111, 114]), .lit (.string [112, 114, 111, 99]), .lit (.string [114, 101, 102]), .lit (.string [115, 101, 116]), .lit (.string [116, 97, 98, 108, 101]), .lit (.string [116, 104, 101, 110]), .lit (.string [116, 111]), .lit (.string [116, 114, 117, 101]), .lit (.string [116, 121, 112, 101]), .lit (.string [117, 112, 100, 97, 116, 101]), .lit (.string [119, 104, 101, 114, 101]), .lit (.string [119, 105, 116, 104])]
def laid_schemalens_lexer_symbols {H : Type} : DataW H := .agg [.lit (.string [61, 61]), .lit (.string [33, 61]), .lit (.string [60, 61]), .lit (.string [60, 45]), .lit (.string [45, 62]), .lit (.string [43, 43]), .lit (.string [60]), .lit (.string [62]), .lit (.string [61]), .lit (.string [43]), .lit (.string [45]), .lit (.string [42]), .lit (.string [40]), .lit (.string [41]), .lit (.string [123]), .lit (.string [125]), .lit (.string [91]), .lit (.string [93]), .lit (.string [44]), .lit (.string [46]), .lit (.string [58]), .lit (.string [124]), .lit (.string [59]), .lit (.string [63])]
/-- One of Go's own tables, pinned by name: the form's constant. -/
def laid_unicode_utf8_first : DataW Unit := Go.Pinned.utf8First

/-- 'schemalenslaw12.TypesForms': WHATEVER THE INPUT: true; the input reads as it did. -/
def typesFormsSpec : ChangeSpec := { name := "typesForms", fn := fun _ => fun
  | [d1, d2, d3] => { results := [.lit (.bool true)], args := [d1, d2, d3] }
  | _ => none }
def typesFormsRow : OpenClaim := { program := "ytdikgijfekfaoaagreatdoor", sum := "c53187dca8899d1ef7b029fe68bc8643a1bc3290fe1d8bbb2c3f1344b4b2f956", func := "schemalens/schemalenslaw12.TypesForms", spec := "typesForms", inPlace := ["internal/bytealg.IndexByteString", "internal/bytealg.IndexString", "maps.clone"], unfollowed := true, recurses := true, named := ["schemalens/lexer.keywords", "schemalens/lexer.symbols", "strconv.ErrSyntax", "strconv.ErrRange", "internal/strconv.uint64pow10", "math/bits.deBruijn32tab", "math/bits.deBruijn64tab", "unicode/utf8.first", "unicode/utf8.acceptRanges", "internal/bytealg.MaxLen"], loops := true, apart := false, laid := [("math/bits.deBruijn32tab", laid_math_bits_deBruijn32tab), ("math/bits.deBruijn64tab", laid_math_bits_deBruijn64tab), ("internal/strconv.uint64pow10", laid_internal_strconv_uint64pow10), ("unicode/utf8.acceptRanges", laid_unicode_utf8_acceptRanges), ("strconv.ErrRange", laid_strconv_ErrRange), ("strconv.ErrSyntax", laid_strconv_ErrSyntax), ("schemalens/lexer.keywords", laid_schemalens_lexer_keywords), ("schemalens/lexer.symbols", laid_schemalens_lexer_symbols), ("unicode/utf8.first", laid_unicode_utf8_first)] }
def TypesFormsSaid : Prop := typesFormsRow.holds Tryz.pinned (OpenSpec.ofChange typesFormsSpec)

/-- ITS FALSE NEIGHBOUR: 'it returns false'. Refute it at one input. -/
def typesFormsWrong : ChangeSpec := { name := "typesForms", fn := fun _ => fun
  | [d1, d2, d3] => { results := [.lit (.bool false)], args := [d1, d2, d3] }
  | _ => none }
def TypesFormsWrongFalsely : Prop := typesFormsRow.holds Tryz.pinned (OpenSpec.ofChange typesFormsWrong)

/-- 'schemalenslaw12.TypesMatches': WHATEVER THE INPUT: true; the input reads as it did. -/
def typesMatchesSpec : ChangeSpec := { name := "typesMatches", fn := fun _ => fun
  | [d1, d2, d3, d4] => { results := [.lit (.bool true)], args := [d1, d2, d3, d4] }
  | _ => none }
def typesMatchesRow : OpenClaim := { program := "ytdikgijfekfaoaagreatdoor", sum := "c53187dca8899d1ef7b029fe68bc8643a1bc3290fe1d8bbb2c3f1344b4b2f956", func := "schemalens/schemalenslaw12.TypesMatches", spec := "typesMatches", inPlace := ["internal/bytealg.IndexByteString", "internal/bytealg.IndexString", "maps.clone"], unfollowed := true, recurses := true, named := ["schemalens/lexer.keywords", "schemalens/lexer.symbols", "strconv.ErrSyntax", "strconv.ErrRange", "internal/strconv.uint64pow10", "math/bits.deBruijn32tab", "math/bits.deBruijn64tab", "unicode/utf8.first", "unicode/utf8.acceptRanges", "internal/bytealg.MaxLen"], loops := true, apart := false, laid := [("math/bits.deBruijn32tab", laid_math_bits_deBruijn32tab), ("math/bits.deBruijn64tab", laid_math_bits_deBruijn64tab), ("internal/strconv.uint64pow10", laid_internal_strconv_uint64pow10), ("unicode/utf8.acceptRanges", laid_unicode_utf8_acceptRanges), ("strconv.ErrRange", laid_strconv_ErrRange), ("strconv.ErrSyntax", laid_strconv_ErrSyntax), ("schemalens/lexer.keywords", laid_schemalens_lexer_keywords), ("schemalens/lexer.symbols", laid_schemalens_lexer_symbols), ("unicode/utf8.first", laid_unicode_utf8_first)] }
def TypesMatchesSaid : Prop := typesMatchesRow.holds Tryz.pinned (OpenSpec.ofChange typesMatchesSpec)

/-- ITS FALSE NEIGHBOUR: 'it returns false'. Refute it at one input. -/
def typesMatchesWrong : ChangeSpec := { name := "typesMatches", fn := fun _ => fun
  | [d1, d2, d3, d4] => { results := [.lit (.bool false)], args := [d1, d2, d3, d4] }
  | _ => none }
def TypesMatchesWrongFalsely : Prop := typesMatchesRow.holds Tryz.pinned (OpenSpec.ofChange typesMatchesWrong)

/-- 'schemalenslaw12.TypesGeneral': WHATEVER THE INPUT: true; the input reads as it did. -/
def typesGeneralSpec : ChangeSpec := { name := "typesGeneral", fn := fun _ => fun
  | [d1, d2, d3] => { results := [.lit (.bool true)], args := [d1, d2, d3] }
  | _ => none }
def typesGeneralRow : OpenClaim := { program := "ytdikgijfekfaoaagreatdoor", sum := "c53187dca8899d1ef7b029fe68bc8643a1bc3290fe1d8bbb2c3f1344b4b2f956", func := "schemalens/schemalenslaw12.TypesGeneral", spec := "typesGeneral", inPlace := ["internal/bytealg.IndexByteString", "internal/bytealg.IndexString", "maps.clone"], unfollowed := true, recurses := true, named := ["schemalens/lexer.keywords", "schemalens/lexer.symbols", "strconv.ErrSyntax", "strconv.ErrRange", "internal/strconv.uint64pow10", "math/bits.deBruijn32tab", "math/bits.deBruijn64tab", "unicode/utf8.first", "unicode/utf8.acceptRanges", "internal/bytealg.MaxLen"], apart := false, laid := [("math/bits.deBruijn32tab", laid_math_bits_deBruijn32tab), ("math/bits.deBruijn64tab", laid_math_bits_deBruijn64tab), ("internal/strconv.uint64pow10", laid_internal_strconv_uint64pow10), ("unicode/utf8.acceptRanges", laid_unicode_utf8_acceptRanges), ("strconv.ErrRange", laid_strconv_ErrRange), ("strconv.ErrSyntax", laid_strconv_ErrSyntax), ("schemalens/lexer.keywords", laid_schemalens_lexer_keywords), ("schemalens/lexer.symbols", laid_schemalens_lexer_symbols), ("unicode/utf8.first", laid_unicode_utf8_first)] }
def TypesGeneralSaid : Prop := typesGeneralRow.holds Tryz.pinned (OpenSpec.ofChange typesGeneralSpec)

/-- ITS FALSE NEIGHBOUR: 'it returns false'. Refute it at one input. -/
def typesGeneralWrong : ChangeSpec := { name := "typesGeneral", fn := fun _ => fun
  | [d1, d2, d3] => { results := [.lit (.bool false)], args := [d1, d2, d3] }
  | _ => none }
def TypesGeneralWrongFalsely : Prop := typesGeneralRow.holds Tryz.pinned (OpenSpec.ofChange typesGeneralWrong)

/-- 'schemalenslaw12.TypesUndone': WHATEVER THE INPUT: true; the input reads as it did. -/
def typesUndoneSpec : ChangeSpec := { name := "typesUndone", fn := fun _ => fun
  | [d1, d2, d3] => { results := [.lit (.bool true)], args := [d1, d2, d3] }
  | _ => none }
def typesUndoneRow : OpenClaim := { program := "ytdikgijfekfaoaagreatdoor", sum := "c53187dca8899d1ef7b029fe68bc8643a1bc3290fe1d8bbb2c3f1344b4b2f956", func := "schemalens/schemalenslaw12.TypesUndone", spec := "typesUndone", inPlace := ["internal/bytealg.IndexByteString", "internal/bytealg.IndexString", "maps.clone"], unfollowed := true, recurses := true, named := ["schemalens/lexer.keywords", "schemalens/lexer.symbols", "strconv.ErrSyntax", "strconv.ErrRange", "internal/strconv.uint64pow10", "math/bits.deBruijn32tab", "math/bits.deBruijn64tab", "unicode/utf8.first", "unicode/utf8.acceptRanges", "internal/bytealg.MaxLen"], apart := false, laid := [("math/bits.deBruijn32tab", laid_math_bits_deBruijn32tab), ("math/bits.deBruijn64tab", laid_math_bits_deBruijn64tab), ("internal/strconv.uint64pow10", laid_internal_strconv_uint64pow10), ("unicode/utf8.acceptRanges", laid_unicode_utf8_acceptRanges), ("strconv.ErrRange", laid_strconv_ErrRange), ("strconv.ErrSyntax", laid_strconv_ErrSyntax), ("schemalens/lexer.keywords", laid_schemalens_lexer_keywords), ("schemalens/lexer.symbols", laid_schemalens_lexer_symbols), ("unicode/utf8.first", laid_unicode_utf8_first)] }
def TypesUndoneSaid : Prop := typesUndoneRow.holds Tryz.pinned (OpenSpec.ofChange typesUndoneSpec)

/-- ITS FALSE NEIGHBOUR: 'it returns false'. Refute it at one input. -/
def typesUndoneWrong : ChangeSpec := { name := "typesUndone", fn := fun _ => fun
  | [d1, d2, d3] => { results := [.lit (.bool false)], args := [d1, d2, d3] }
  | _ => none }
def TypesUndoneWrongFalsely : Prop := typesUndoneRow.holds Tryz.pinned (OpenSpec.ofChange typesUndoneWrong)

/-- 'schemalenslaw12.TypesStorable': WHATEVER THE INPUT: true; the input reads as it did. -/
def typesStorableSpec : ChangeSpec := { name := "typesStorable", fn := fun _ => fun
  | [d1, d2, d3] => { results := [.lit (.bool true)], args := [d1, d2, d3] }
  | _ => none }
def typesStorableRow : OpenClaim := { program := "ytdikgijfekfaoaagreatdoor", sum := "c53187dca8899d1ef7b029fe68bc8643a1bc3290fe1d8bbb2c3f1344b4b2f956", func := "schemalens/schemalenslaw12.TypesStorable", spec := "typesStorable", inPlace := ["internal/bytealg.IndexByteString", "internal/bytealg.IndexString", "maps.clone"], unfollowed := true, recurses := true, named := ["schemalens/lexer.keywords", "schemalens/lexer.symbols", "strconv.ErrSyntax", "strconv.ErrRange", "internal/strconv.uint64pow10", "math/bits.deBruijn32tab", "math/bits.deBruijn64tab", "unicode/utf8.first", "unicode/utf8.acceptRanges", "internal/bytealg.MaxLen"], loops := true, apart := false, laid := [("math/bits.deBruijn32tab", laid_math_bits_deBruijn32tab), ("math/bits.deBruijn64tab", laid_math_bits_deBruijn64tab), ("internal/strconv.uint64pow10", laid_internal_strconv_uint64pow10), ("unicode/utf8.acceptRanges", laid_unicode_utf8_acceptRanges), ("strconv.ErrRange", laid_strconv_ErrRange), ("strconv.ErrSyntax", laid_strconv_ErrSyntax), ("schemalens/lexer.keywords", laid_schemalens_lexer_keywords), ("schemalens/lexer.symbols", laid_schemalens_lexer_symbols), ("unicode/utf8.first", laid_unicode_utf8_first)] }
def TypesStorableSaid : Prop := typesStorableRow.holds Tryz.pinned (OpenSpec.ofChange typesStorableSpec)

/-- ITS FALSE NEIGHBOUR: 'it returns false'. Refute it at one input. -/
def typesStorableWrong : ChangeSpec := { name := "typesStorable", fn := fun _ => fun
  | [d1, d2, d3] => { results := [.lit (.bool false)], args := [d1, d2, d3] }
  | _ => none }
def TypesStorableWrongFalsely : Prop := typesStorableRow.holds Tryz.pinned (OpenSpec.ofChange typesStorableWrong)

/-- 'schemalenslaw12.TypesCanonical': WHATEVER THE INPUT: true; the input reads as it did. -/
def typesCanonicalSpec : ChangeSpec := { name := "typesCanonical", fn := fun _ => fun
  | [d1, d2, d3, d4] => { results := [.lit (.bool true)], args := [d1, d2, d3, d4] }
  | _ => none }
def typesCanonicalRow : OpenClaim := { program := "ytdikgijfekfaoaagreatdoor", sum := "c53187dca8899d1ef7b029fe68bc8643a1bc3290fe1d8bbb2c3f1344b4b2f956", func := "schemalens/schemalenslaw12.TypesCanonical", spec := "typesCanonical", inPlace := ["internal/bytealg.IndexByteString", "internal/bytealg.IndexString", "maps.clone"], unfollowed := true, recurses := true, named := ["schemalens/lexer.keywords", "schemalens/lexer.symbols", "strconv.ErrSyntax", "strconv.ErrRange", "internal/strconv.uint64pow10", "math/bits.deBruijn32tab", "math/bits.deBruijn64tab", "unicode/utf8.first", "unicode/utf8.acceptRanges", "internal/bytealg.MaxLen"], loops := true, apart := false, laid := [("math/bits.deBruijn32tab", laid_math_bits_deBruijn32tab), ("math/bits.deBruijn64tab", laid_math_bits_deBruijn64tab), ("internal/strconv.uint64pow10", laid_internal_strconv_uint64pow10), ("unicode/utf8.acceptRanges", laid_unicode_utf8_acceptRanges), ("strconv.ErrRange", laid_strconv_ErrRange), ("strconv.ErrSyntax", laid_strconv_ErrSyntax), ("schemalens/lexer.keywords", laid_schemalens_lexer_keywords), ("schemalens/lexer.symbols", laid_schemalens_lexer_symbols), ("unicode/utf8.first", laid_unicode_utf8_first)] }
def TypesCanonicalSaid : Prop := typesCanonicalRow.holds Tryz.pinned (OpenSpec.ofChange typesCanonicalSpec)

/-- ITS FALSE NEIGHBOUR: 'it returns false'. Refute it at one input. -/
def typesCanonicalWrong : ChangeSpec := { name := "typesCanonical", fn := fun _ => fun
  | [d1, d2, d3, d4] => { results := [.lit (.bool false)], args := [d1, d2, d3, d4] }
  | _ => none }
def TypesCanonicalWrongFalsely : Prop := typesCanonicalRow.holds Tryz.pinned (OpenSpec.ofChange typesCanonicalWrong)

/-- 'schemalenslaw12.TypesForeign': WHATEVER THE INPUT: true; the input reads as it did. -/
def typesForeignSpec : ChangeSpec := { name := "typesForeign", fn := fun _ => fun
  | [d1, d2] => { results := [.lit (.bool true)], args := [d1, d2] }
  | _ => none }
def typesForeignRow : OpenClaim := { program := "ytdikgijfekfaoaagreatdoor", sum := "c53187dca8899d1ef7b029fe68bc8643a1bc3290fe1d8bbb2c3f1344b4b2f956", func := "schemalens/schemalenslaw12.TypesForeign", spec := "typesForeign", inPlace := ["internal/bytealg.IndexByteString", "internal/bytealg.IndexString", "maps.clone"], unfollowed := true, recurses := true, named := ["schemalens/lexer.keywords", "schemalens/lexer.symbols", "strconv.ErrSyntax", "strconv.ErrRange", "internal/strconv.uint64pow10", "math/bits.deBruijn32tab", "math/bits.deBruijn64tab", "unicode/utf8.first", "unicode/utf8.acceptRanges", "internal/bytealg.MaxLen"], loops := true, apart := false, laid := [("math/bits.deBruijn32tab", laid_math_bits_deBruijn32tab), ("math/bits.deBruijn64tab", laid_math_bits_deBruijn64tab), ("internal/strconv.uint64pow10", laid_internal_strconv_uint64pow10), ("unicode/utf8.acceptRanges", laid_unicode_utf8_acceptRanges), ("strconv.ErrRange", laid_strconv_ErrRange), ("strconv.ErrSyntax", laid_strconv_ErrSyntax), ("schemalens/lexer.keywords", laid_schemalens_lexer_keywords), ("schemalens/lexer.symbols", laid_schemalens_lexer_symbols), ("unicode/utf8.first", laid_unicode_utf8_first)] }
def TypesForeignSaid : Prop := typesForeignRow.holds Tryz.pinned (OpenSpec.ofChange typesForeignSpec)

/-- ITS FALSE NEIGHBOUR: 'it returns false'. Refute it at one input. -/
def typesForeignWrong : ChangeSpec := { name := "typesForeign", fn := fun _ => fun
  | [d1, d2] => { results := [.lit (.bool false)], args := [d1, d2] }
  | _ => none }
def TypesForeignWrongFalsely : Prop := typesForeignRow.holds Tryz.pinned (OpenSpec.ofChange typesForeignWrong)

/-- 'schemalenslaw12.TypesScript': WHATEVER THE INPUT: true; the input reads as it did. -/
def typesScriptSpec : ChangeSpec := { name := "typesScript", fn := fun _ => fun
  | [d] => { results := [.lit (.bool true)], args := [d] }
  | _ => none }
def typesScriptRow : OpenClaim := { program := "ytdikgijfekfaoaagreatdoor", sum := "c53187dca8899d1ef7b029fe68bc8643a1bc3290fe1d8bbb2c3f1344b4b2f956", func := "schemalens/schemalenslaw12.TypesScript", spec := "typesScript", inPlace := ["internal/bytealg.IndexByteString", "internal/bytealg.IndexString", "maps.clone"], unfollowed := true, recurses := true, named := ["schemalens/lexer.keywords", "schemalens/lexer.symbols", "strconv.ErrSyntax", "strconv.ErrRange", "internal/strconv.uint64pow10", "math/bits.deBruijn32tab", "math/bits.deBruijn64tab", "unicode/utf8.first", "unicode/utf8.acceptRanges", "internal/bytealg.MaxLen"], apart := false, laid := [("math/bits.deBruijn32tab", laid_math_bits_deBruijn32tab), ("math/bits.deBruijn64tab", laid_math_bits_deBruijn64tab), ("internal/strconv.uint64pow10", laid_internal_strconv_uint64pow10), ("unicode/utf8.acceptRanges", laid_unicode_utf8_acceptRanges), ("strconv.ErrRange", laid_strconv_ErrRange), ("strconv.ErrSyntax", laid_strconv_ErrSyntax), ("schemalens/lexer.keywords", laid_schemalens_lexer_keywords), ("schemalens/lexer.symbols", laid_schemalens_lexer_symbols), ("unicode/utf8.first", laid_unicode_utf8_first)] }
def TypesScriptSaid : Prop := typesScriptRow.holds Tryz.pinned (OpenSpec.ofChange typesScriptSpec)

/-- ITS FALSE NEIGHBOUR: 'it returns false'. Refute it at one input. -/
def typesScriptWrong : ChangeSpec := { name := "typesScript", fn := fun _ => fun
  | [d] => { results := [.lit (.bool false)], args := [d] }
  | _ => none }
def TypesScriptWrongFalsely : Prop := typesScriptRow.holds Tryz.pinned (OpenSpec.ofChange typesScriptWrong)

/-- 'schemalenslaw12.TypesLevels': WHATEVER THE INPUT: true; the input reads as it did. -/
def typesLevelsSpec : ChangeSpec := { name := "typesLevels", fn := fun _ => fun
  | [d1, d2] => { results := [.lit (.bool true)], args := [d1, d2] }
  | _ => none }
def typesLevelsRow : OpenClaim := { program := "ytdikgijfekfaoaagreatdoor", sum := "c53187dca8899d1ef7b029fe68bc8643a1bc3290fe1d8bbb2c3f1344b4b2f956", func := "schemalens/schemalenslaw12.TypesLevels", spec := "typesLevels", inPlace := ["internal/bytealg.IndexByteString", "internal/bytealg.IndexString", "maps.clone"], unfollowed := true, recurses := true, named := ["schemalens/lexer.keywords", "schemalens/lexer.symbols", "strconv.ErrSyntax", "strconv.ErrRange", "internal/strconv.uint64pow10", "math/bits.deBruijn32tab", "math/bits.deBruijn64tab", "unicode/utf8.first", "unicode/utf8.acceptRanges", "internal/bytealg.MaxLen"], apart := false, laid := [("math/bits.deBruijn32tab", laid_math_bits_deBruijn32tab), ("math/bits.deBruijn64tab", laid_math_bits_deBruijn64tab), ("internal/strconv.uint64pow10", laid_internal_strconv_uint64pow10), ("unicode/utf8.acceptRanges", laid_unicode_utf8_acceptRanges), ("strconv.ErrRange", laid_strconv_ErrRange), ("strconv.ErrSyntax", laid_strconv_ErrSyntax), ("schemalens/lexer.keywords", laid_schemalens_lexer_keywords), ("schemalens/lexer.symbols", laid_schemalens_lexer_symbols), ("unicode/utf8.first", laid_unicode_utf8_first)] }
def TypesLevelsSaid : Prop := typesLevelsRow.holds Tryz.pinned (OpenSpec.ofChange typesLevelsSpec)

/-- ITS FALSE NEIGHBOUR: 'it returns false'. Refute it at one input. -/
def typesLevelsWrong : ChangeSpec := { name := "typesLevels", fn := fun _ => fun
  | [d1, d2] => { results := [.lit (.bool false)], args := [d1, d2] }
  | _ => none }
def TypesLevelsWrongFalsely : Prop := typesLevelsRow.holds Tryz.pinned (OpenSpec.ofChange typesLevelsWrong)

/- THE SECOND FORM. 'bulk': how many values and letters a reading holds, each counted each time it is reached (what is shared counts as often as it is met; a slice's spare places count too). A statement '..UptoSaid' is the law's where the arguments, and the package variables that the reading takes, are together of bulk at most 1048576: NARROWER than '..Said'. Prove '..Said' where nothing that the law and all that it calls make is longer than what came in: it says more and counts as full. Else prove '..UptoSaid'. A law counts once. -/
mutual
def uptoBulk {H : Type} : DataW H → Nat
  | .lit (.string bytes) => bytes.length + 1
  | .lit _ => 1
  | .nil => 1
  | .ptr d => uptoBulk d + 1
  | .slice elems spare => uptoBulkAll elems + uptoBulkAll spare + 1
  | .agg parts => uptoBulkAll parts + 1
  | .iface _ d => uptoBulk d + 1
  | .map entries => uptoBulkEntries entries + 1
  | .held _ => 1
def uptoBulkAll {H : Type} : List (DataW H) → Nat
  | [] => 0
  | d :: r => uptoBulk d + uptoBulkAll r
def uptoBulkEntries {H : Type} : List (Lit × DataW H) → Nat
  | [] => 0
  | x :: r => uptoBulkEntry x + uptoBulkEntries r
def uptoBulkEntry {H : Type} : Lit × DataW H → Nat
  | (.string bytes, d) => bytes.length + uptoBulk d + 1
  | (_, d) => uptoBulk d + 1
 end
def uptoSmall : (H : Type) → List (DataW H) → Bool := fun _ ds => decide (uptoBulkAll ds ≤ 1048576)
def OpenSpec.upto (s : _root_.Go.ChangeSpec) : _root_.Go.OpenSpec := { _root_.Go.OpenSpec.ofChange s with cond := some uptoSmall }

/-- 'schemalenslaw12.TypesForms', WHERE WHAT IT READS IS OF BULK AT MOST 1048576: true; the input reads as it did. -/
def typesFormsUptoRow : OpenClaim := { program := "ytdikgijfekfaoaagreatdoor", sum := "c53187dca8899d1ef7b029fe68bc8643a1bc3290fe1d8bbb2c3f1344b4b2f956", func := "schemalens/schemalenslaw12.TypesForms", spec := "typesForms", inPlace := ["internal/bytealg.IndexByteString", "internal/bytealg.IndexString", "maps.clone"], unfollowed := true, recurses := true, named := ["schemalens/lexer.keywords", "schemalens/lexer.symbols", "strconv.ErrSyntax", "strconv.ErrRange", "internal/strconv.uint64pow10", "math/bits.deBruijn32tab", "math/bits.deBruijn64tab", "unicode/utf8.first", "unicode/utf8.acceptRanges", "internal/bytealg.MaxLen"], loops := true, apart := false, laid := [("math/bits.deBruijn32tab", laid_math_bits_deBruijn32tab), ("math/bits.deBruijn64tab", laid_math_bits_deBruijn64tab), ("internal/strconv.uint64pow10", laid_internal_strconv_uint64pow10), ("unicode/utf8.acceptRanges", laid_unicode_utf8_acceptRanges), ("strconv.ErrRange", laid_strconv_ErrRange), ("strconv.ErrSyntax", laid_strconv_ErrSyntax), ("schemalens/lexer.keywords", laid_schemalens_lexer_keywords), ("schemalens/lexer.symbols", laid_schemalens_lexer_symbols), ("unicode/utf8.first", laid_unicode_utf8_first)], narrowed := true }
def TypesFormsUptoSaid : Prop := typesFormsUptoRow.holds Tryz.pinned (OpenSpec.upto typesFormsSpec)

/-- 'schemalenslaw12.TypesMatches', WHERE WHAT IT READS IS OF BULK AT MOST 1048576: true; the input reads as it did. -/
def typesMatchesUptoRow : OpenClaim := { program := "ytdikgijfekfaoaagreatdoor", sum := "c53187dca8899d1ef7b029fe68bc8643a1bc3290fe1d8bbb2c3f1344b4b2f956", func := "schemalens/schemalenslaw12.TypesMatches", spec := "typesMatches", inPlace := ["internal/bytealg.IndexByteString", "internal/bytealg.IndexString", "maps.clone"], unfollowed := true, recurses := true, named := ["schemalens/lexer.keywords", "schemalens/lexer.symbols", "strconv.ErrSyntax", "strconv.ErrRange", "internal/strconv.uint64pow10", "math/bits.deBruijn32tab", "math/bits.deBruijn64tab", "unicode/utf8.first", "unicode/utf8.acceptRanges", "internal/bytealg.MaxLen"], loops := true, apart := false, laid := [("math/bits.deBruijn32tab", laid_math_bits_deBruijn32tab), ("math/bits.deBruijn64tab", laid_math_bits_deBruijn64tab), ("internal/strconv.uint64pow10", laid_internal_strconv_uint64pow10), ("unicode/utf8.acceptRanges", laid_unicode_utf8_acceptRanges), ("strconv.ErrRange", laid_strconv_ErrRange), ("strconv.ErrSyntax", laid_strconv_ErrSyntax), ("schemalens/lexer.keywords", laid_schemalens_lexer_keywords), ("schemalens/lexer.symbols", laid_schemalens_lexer_symbols), ("unicode/utf8.first", laid_unicode_utf8_first)], narrowed := true }
def TypesMatchesUptoSaid : Prop := typesMatchesUptoRow.holds Tryz.pinned (OpenSpec.upto typesMatchesSpec)

/-- 'schemalenslaw12.TypesGeneral', WHERE WHAT IT READS IS OF BULK AT MOST 1048576: true; the input reads as it did. -/
def typesGeneralUptoRow : OpenClaim := { program := "ytdikgijfekfaoaagreatdoor", sum := "c53187dca8899d1ef7b029fe68bc8643a1bc3290fe1d8bbb2c3f1344b4b2f956", func := "schemalens/schemalenslaw12.TypesGeneral", spec := "typesGeneral", inPlace := ["internal/bytealg.IndexByteString", "internal/bytealg.IndexString", "maps.clone"], unfollowed := true, recurses := true, named := ["schemalens/lexer.keywords", "schemalens/lexer.symbols", "strconv.ErrSyntax", "strconv.ErrRange", "internal/strconv.uint64pow10", "math/bits.deBruijn32tab", "math/bits.deBruijn64tab", "unicode/utf8.first", "unicode/utf8.acceptRanges", "internal/bytealg.MaxLen"], apart := false, laid := [("math/bits.deBruijn32tab", laid_math_bits_deBruijn32tab), ("math/bits.deBruijn64tab", laid_math_bits_deBruijn64tab), ("internal/strconv.uint64pow10", laid_internal_strconv_uint64pow10), ("unicode/utf8.acceptRanges", laid_unicode_utf8_acceptRanges), ("strconv.ErrRange", laid_strconv_ErrRange), ("strconv.ErrSyntax", laid_strconv_ErrSyntax), ("schemalens/lexer.keywords", laid_schemalens_lexer_keywords), ("schemalens/lexer.symbols", laid_schemalens_lexer_symbols), ("unicode/utf8.first", laid_unicode_utf8_first)], narrowed := true }
def TypesGeneralUptoSaid : Prop := typesGeneralUptoRow.holds Tryz.pinned (OpenSpec.upto typesGeneralSpec)

/-- 'schemalenslaw12.TypesUndone', WHERE WHAT IT READS IS OF BULK AT MOST 1048576: true; the input reads as it did. -/
def typesUndoneUptoRow : OpenClaim := { program := "ytdikgijfekfaoaagreatdoor", sum := "c53187dca8899d1ef7b029fe68bc8643a1bc3290fe1d8bbb2c3f1344b4b2f956", func := "schemalens/schemalenslaw12.TypesUndone", spec := "typesUndone", inPlace := ["internal/bytealg.IndexByteString", "internal/bytealg.IndexString", "maps.clone"], unfollowed := true, recurses := true, named := ["schemalens/lexer.keywords", "schemalens/lexer.symbols", "strconv.ErrSyntax", "strconv.ErrRange", "internal/strconv.uint64pow10", "math/bits.deBruijn32tab", "math/bits.deBruijn64tab", "unicode/utf8.first", "unicode/utf8.acceptRanges", "internal/bytealg.MaxLen"], apart := false, laid := [("math/bits.deBruijn32tab", laid_math_bits_deBruijn32tab), ("math/bits.deBruijn64tab", laid_math_bits_deBruijn64tab), ("internal/strconv.uint64pow10", laid_internal_strconv_uint64pow10), ("unicode/utf8.acceptRanges", laid_unicode_utf8_acceptRanges), ("strconv.ErrRange", laid_strconv_ErrRange), ("strconv.ErrSyntax", laid_strconv_ErrSyntax), ("schemalens/lexer.keywords", laid_schemalens_lexer_keywords), ("schemalens/lexer.symbols", laid_schemalens_lexer_symbols), ("unicode/utf8.first", laid_unicode_utf8_first)], narrowed := true }
def TypesUndoneUptoSaid : Prop := typesUndoneUptoRow.holds Tryz.pinned (OpenSpec.upto typesUndoneSpec)

/-- 'schemalenslaw12.TypesStorable', WHERE WHAT IT READS IS OF BULK AT MOST 1048576: true; the input reads as it did. -/
def typesStorableUptoRow : OpenClaim := { program := "ytdikgijfekfaoaagreatdoor", sum := "c53187dca8899d1ef7b029fe68bc8643a1bc3290fe1d8bbb2c3f1344b4b2f956", func := "schemalens/schemalenslaw12.TypesStorable", spec := "typesStorable", inPlace := ["internal/bytealg.IndexByteString", "internal/bytealg.IndexString", "maps.clone"], unfollowed := true, recurses := true, named := ["schemalens/lexer.keywords", "schemalens/lexer.symbols", "strconv.ErrSyntax", "strconv.ErrRange", "internal/strconv.uint64pow10", "math/bits.deBruijn32tab", "math/bits.deBruijn64tab", "unicode/utf8.first", "unicode/utf8.acceptRanges", "internal/bytealg.MaxLen"], loops := true, apart := false, laid := [("math/bits.deBruijn32tab", laid_math_bits_deBruijn32tab), ("math/bits.deBruijn64tab", laid_math_bits_deBruijn64tab), ("internal/strconv.uint64pow10", laid_internal_strconv_uint64pow10), ("unicode/utf8.acceptRanges", laid_unicode_utf8_acceptRanges), ("strconv.ErrRange", laid_strconv_ErrRange), ("strconv.ErrSyntax", laid_strconv_ErrSyntax), ("schemalens/lexer.keywords", laid_schemalens_lexer_keywords), ("schemalens/lexer.symbols", laid_schemalens_lexer_symbols), ("unicode/utf8.first", laid_unicode_utf8_first)], narrowed := true }
def TypesStorableUptoSaid : Prop := typesStorableUptoRow.holds Tryz.pinned (OpenSpec.upto typesStorableSpec)

/-- 'schemalenslaw12.TypesCanonical', WHERE WHAT IT READS IS OF BULK AT MOST 1048576: true; the input reads as it did. -/
def typesCanonicalUptoRow : OpenClaim := { program := "ytdikgijfekfaoaagreatdoor", sum := "c53187dca8899d1ef7b029fe68bc8643a1bc3290fe1d8bbb2c3f1344b4b2f956", func := "schemalens/schemalenslaw12.TypesCanonical", spec := "typesCanonical", inPlace := ["internal/bytealg.IndexByteString", "internal/bytealg.IndexString", "maps.clone"], unfollowed := true, recurses := true, named := ["schemalens/lexer.keywords", "schemalens/lexer.symbols", "strconv.ErrSyntax", "strconv.ErrRange", "internal/strconv.uint64pow10", "math/bits.deBruijn32tab", "math/bits.deBruijn64tab", "unicode/utf8.first", "unicode/utf8.acceptRanges", "internal/bytealg.MaxLen"], loops := true, apart := false, laid := [("math/bits.deBruijn32tab", laid_math_bits_deBruijn32tab), ("math/bits.deBruijn64tab", laid_math_bits_deBruijn64tab), ("internal/strconv.uint64pow10", laid_internal_strconv_uint64pow10), ("unicode/utf8.acceptRanges", laid_unicode_utf8_acceptRanges), ("strconv.ErrRange", laid_strconv_ErrRange), ("strconv.ErrSyntax", laid_strconv_ErrSyntax), ("schemalens/lexer.keywords", laid_schemalens_lexer_keywords), ("schemalens/lexer.symbols", laid_schemalens_lexer_symbols), ("unicode/utf8.first", laid_unicode_utf8_first)], narrowed := true }
def TypesCanonicalUptoSaid : Prop := typesCanonicalUptoRow.holds Tryz.pinned (OpenSpec.upto typesCanonicalSpec)

/-- 'schemalenslaw12.TypesForeign', WHERE WHAT IT READS IS OF BULK AT MOST 1048576: true; the input reads as it did. -/
def typesForeignUptoRow : OpenClaim := { program := "ytdikgijfekfaoaagreatdoor", sum := "c53187dca8899d1ef7b029fe68bc8643a1bc3290fe1d8bbb2c3f1344b4b2f956", func := "schemalens/schemalenslaw12.TypesForeign", spec := "typesForeign", inPlace := ["internal/bytealg.IndexByteString", "internal/bytealg.IndexString", "maps.clone"], unfollowed := true, recurses := true, named := ["schemalens/lexer.keywords", "schemalens/lexer.symbols", "strconv.ErrSyntax", "strconv.ErrRange", "internal/strconv.uint64pow10", "math/bits.deBruijn32tab", "math/bits.deBruijn64tab", "unicode/utf8.first", "unicode/utf8.acceptRanges", "internal/bytealg.MaxLen"], loops := true, apart := false, laid := [("math/bits.deBruijn32tab", laid_math_bits_deBruijn32tab), ("math/bits.deBruijn64tab", laid_math_bits_deBruijn64tab), ("internal/strconv.uint64pow10", laid_internal_strconv_uint64pow10), ("unicode/utf8.acceptRanges", laid_unicode_utf8_acceptRanges), ("strconv.ErrRange", laid_strconv_ErrRange), ("strconv.ErrSyntax", laid_strconv_ErrSyntax), ("schemalens/lexer.keywords", laid_schemalens_lexer_keywords), ("schemalens/lexer.symbols", laid_schemalens_lexer_symbols), ("unicode/utf8.first", laid_unicode_utf8_first)], narrowed := true }
def TypesForeignUptoSaid : Prop := typesForeignUptoRow.holds Tryz.pinned (OpenSpec.upto typesForeignSpec)

/-- 'schemalenslaw12.TypesScript', WHERE WHAT IT READS IS OF BULK AT MOST 1048576: true; the input reads as it did. -/
def typesScriptUptoRow : OpenClaim := { program := "ytdikgijfekfaoaagreatdoor", sum := "c53187dca8899d1ef7b029fe68bc8643a1bc3290fe1d8bbb2c3f1344b4b2f956", func := "schemalens/schemalenslaw12.TypesScript", spec := "typesScript", inPlace := ["internal/bytealg.IndexByteString", "internal/bytealg.IndexString", "maps.clone"], unfollowed := true, recurses := true, named := ["schemalens/lexer.keywords", "schemalens/lexer.symbols", "strconv.ErrSyntax", "strconv.ErrRange", "internal/strconv.uint64pow10", "math/bits.deBruijn32tab", "math/bits.deBruijn64tab", "unicode/utf8.first", "unicode/utf8.acceptRanges", "internal/bytealg.MaxLen"], apart := false, laid := [("math/bits.deBruijn32tab", laid_math_bits_deBruijn32tab), ("math/bits.deBruijn64tab", laid_math_bits_deBruijn64tab), ("internal/strconv.uint64pow10", laid_internal_strconv_uint64pow10), ("unicode/utf8.acceptRanges", laid_unicode_utf8_acceptRanges), ("strconv.ErrRange", laid_strconv_ErrRange), ("strconv.ErrSyntax", laid_strconv_ErrSyntax), ("schemalens/lexer.keywords", laid_schemalens_lexer_keywords), ("schemalens/lexer.symbols", laid_schemalens_lexer_symbols), ("unicode/utf8.first", laid_unicode_utf8_first)], narrowed := true }
def TypesScriptUptoSaid : Prop := typesScriptUptoRow.holds Tryz.pinned (OpenSpec.upto typesScriptSpec)

/-- 'schemalenslaw12.TypesLevels', WHERE WHAT IT READS IS OF BULK AT MOST 1048576: true; the input reads as it did. -/
def typesLevelsUptoRow : OpenClaim := { program := "ytdikgijfekfaoaagreatdoor", sum := "c53187dca8899d1ef7b029fe68bc8643a1bc3290fe1d8bbb2c3f1344b4b2f956", func := "schemalens/schemalenslaw12.TypesLevels", spec := "typesLevels", inPlace := ["internal/bytealg.IndexByteString", "internal/bytealg.IndexString", "maps.clone"], unfollowed := true, recurses := true, named := ["schemalens/lexer.keywords", "schemalens/lexer.symbols", "strconv.ErrSyntax", "strconv.ErrRange", "internal/strconv.uint64pow10", "math/bits.deBruijn32tab", "math/bits.deBruijn64tab", "unicode/utf8.first", "unicode/utf8.acceptRanges", "internal/bytealg.MaxLen"], apart := false, laid := [("math/bits.deBruijn32tab", laid_math_bits_deBruijn32tab), ("math/bits.deBruijn64tab", laid_math_bits_deBruijn64tab), ("internal/strconv.uint64pow10", laid_internal_strconv_uint64pow10), ("unicode/utf8.acceptRanges", laid_unicode_utf8_acceptRanges), ("strconv.ErrRange", laid_strconv_ErrRange), ("strconv.ErrSyntax", laid_strconv_ErrSyntax), ("schemalens/lexer.keywords", laid_schemalens_lexer_keywords), ("schemalens/lexer.symbols", laid_schemalens_lexer_symbols), ("unicode/utf8.first", laid_unicode_utf8_first)], narrowed := true }
def TypesLevelsUptoSaid : Prop := typesLevelsUptoRow.holds Tryz.pinned (OpenSpec.upto typesLevelsSpec)

end Rows
end Go.Proofs.YtdikgijfekfaoaaGreatDoor
