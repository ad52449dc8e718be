/-
  NARROWER THAN 'FOR EVERY INPUT', by the rows' own cells (each row's printed sentence says how): FnExactPosition: laid · FnExactValidLayout: laid · FnExactQuoteText: laid · FnExactValidTables: laid · FnExactFindTarget: laid · FnExactNearest: laid · FnExactNext: laid · FnExactValidFleet: laid.
  DERIVED. THE GIVEN ROWS OF THIS SEAT. 8 by the template 'for every input the law returns true; each argument reads behind the call as it read before'; 0 by the template 'total and deterministic' (their statements: YtiboccbaaphbhaaDoorTotals.lean).
  GIVEN WITH THE SEED: the statements are not yours to turn. If you find one false, say at which input.
  Laid BY PROGRAM, IN A SANDBOX (cutbox-rows.mjs): the forced cells as the released guide's own fill.sh prints them over the translation 73058a40d6beb7c9… (all of the seat's roots in one cut). By AI agents, Wed Nov 11 2026. No macro, syntax, notation, axiom, sorry.
-/
import Derived.Test.YtiboccbaaphbhaaDoorChecked
import GoSem.PinnedTables
import GoSem.Claim
import GoSem.ClaimJoined
import GoSem.ClaimMapViews
import Derived.JoinedTies
import Derived.KernelRfl
namespace Go.Proofs.YtiboccbaaphbhaaDoor
/- THE CELL 'sum', in the pinned program and in every row, IS THE sha256 OF THE DUMP (.gsa) THAT YtiboccbaaphbhaaDoorProg.lean LOADS. Nothing in Lean hashes anything: it is a label: what it is worth is what the hold of that sum in a sandbox is worth. -/
noncomputable def Tryd.pinned : Pinned := { name := "ytiboccbaaphbhaadoor", sum := "73058a40d6beb7c94a548065153654d1f820d7e26fe01c8b12a0359a1644c6bf", checked := Tryd.checked }
namespace Rows
def none {H : Type} : Left H := { results := [], args := [] }

/- WHAT THE LISTED PACKAGE-LEVEL VARIABLES READ AS WHEN THE CALL BEGINS. Each datum BY PROGRAM (the guide's laid-datum.mjs) off the statement by which the dump's own 'gosem.cut.vars' lays the variable. In a bare row this is a premise. The card (YtiboccbaaphbhaaDoorCards.lean) ties it to the program's text. -/
def laid_unicode_utf8_acceptRanges {H : Type} : DataW H := .agg [.agg [.lit (.int .u8 128), .lit (.int .u8 191)], .agg [.lit (.int .u8 160), .lit (.int .u8 191)], .agg [.lit (.int .u8 128), .lit (.int .u8 159)], .agg [.lit (.int .u8 144), .lit (.int .u8 191)], .agg [.lit (.int .u8 128), .lit (.int .u8 143)], .agg [.lit (.int .u8 0), .lit (.int .u8 0)], .agg [.lit (.int .u8 0), .lit (.int .u8 0)], .agg [.lit (.int .u8 0), .lit (.int .u8 0)], .agg [.lit (.int .u8 0), .lit (.int .u8 0)], .agg [.lit (.int .u8 0), .lit (.int .u8 0)], .agg [.lit (.int .u8 0), .lit (.int .u8 0)], .agg [.lit (.int .u8 0), .lit (.int .u8 0)], .agg [.lit (.int .u8 0), .lit (.int .u8 0)], .agg [.lit (.int .u8 0), .lit (.int .u8 0)], .agg [.lit (.int .u8 0), .lit (.int .u8 0)], .agg [.lit (.int .u8 0), .lit (.int .u8 0)]]
/-- One of Go's own tables, pinned by name: the form's constant. -/
def laid_unicode_utf8_first : DataW Unit := Go.Pinned.utf8First
def laid_math_bits_deBruijn32tab {H : Type} : DataW H := .agg [.lit (.int .u8 0), .lit (.int .u8 1), .lit (.int .u8 28), .lit (.int .u8 2), .lit (.int .u8 29), .lit (.int .u8 14), .lit (.int .u8 24), .lit (.int .u8 3), .lit (.int .u8 30), .lit (.int .u8 22), .lit (.int .u8 20), .lit (.int .u8 15), .lit (.int .u8 25), .lit (.int .u8 17), .lit (.int .u8 4), .lit (.int .u8 8), .lit (.int .u8 31), .lit (.int .u8 27), .lit (.int .u8 13), .lit (.int .u8 23), .lit (.int .u8 21), .lit (.int .u8 19), .lit (.int .u8 16), .lit (.int .u8 7), .lit (.int .u8 26), .lit (.int .u8 12), .lit (.int .u8 18), .lit (.int .u8 6), .lit (.int .u8 11), .lit (.int .u8 5), .lit (.int .u8 10), .lit (.int .u8 9)]
def laid_math_bits_deBruijn64tab {H : Type} : DataW H := .agg [.lit (.int .u8 0), .lit (.int .u8 1), .lit (.int .u8 56), .lit (.int .u8 2), .lit (.int .u8 57), .lit (.int .u8 49), .lit (.int .u8 28), .lit (.int .u8 3), .lit (.int .u8 61), .lit (.int .u8 58), .lit (.int .u8 42), .lit (.int .u8 50), .lit (.int .u8 38), .lit (.int .u8 29), .lit (.int .u8 17), .lit (.int .u8 4), .lit (.int .u8 62), .lit (.int .u8 47), .lit (.int .u8 59), .lit (.int .u8 36), .lit (.int .u8 45), .lit (.int .u8 43), .lit (.int .u8 51), .lit (.int .u8 22), .lit (.int .u8 53), .lit (.int .u8 39), .lit (.int .u8 33), .lit (.int .u8 30), .lit (.int .u8 24), .lit (.int .u8 18), .lit (.int .u8 12), .lit (.int .u8 5), .lit (.int .u8 63), .lit (.int .u8 55), .lit (.int .u8 48), .lit (.int .u8 27), .lit (.int .u8 60), .lit (.int .u8 41), .lit (.int .u8 37), .lit (.int .u8 16), .lit (.int .u8 46), .lit (.int .u8 35), .lit (.int .u8 44), .lit (.int .u8 21), .lit (.int .u8 52), .lit (.int .u8 32), .lit (.int .u8 23), .lit (.int .u8 11), .lit (.int .u8 54), .lit (.int .u8 26), .lit (.int .u8 40), .lit (.int .u8 15), .lit (.int .u8 34), .lit (.int .u8 20), .lit (.int .u8 31), .lit (.int .u8 10), .lit (.int .u8 25), .lit (.int .u8 14), .lit (.int .u8 19), .lit (.int .u8 9), .lit (.int .u8 13), .lit (.int .u8 8), .lit (.int .u8 7), .lit (.int .u8 6)]
def laid_internal_strconv_uint64pow10 {H : Type} : DataW H := .agg [.lit (.int .u64 1), .lit (.int .u64 10), .lit (.int .u64 100), .lit (.int .u64 1000), .lit (.int .u64 10000), .lit (.int .u64 100000), .lit (.int .u64 1000000), .lit (.int .u64 10000000), .lit (.int .u64 100000000), .lit (.int .u64 1000000000), .lit (.int .u64 10000000000), .lit (.int .u64 100000000000), .lit (.int .u64 1000000000000), .lit (.int .u64 10000000000000), .lit (.int .u64 100000000000000), .lit (.int .u64 1000000000000000), .lit (.int .u64 10000000000000000), .lit (.int .u64 100000000000000000), .lit (.int .u64 1000000000000000000), .lit (.int .u64 10000000000000000000)]

/-- 'laws.FnExactPosition': WHATEVER THE INPUT: true; the input reads as it did. -/
def fnExactPositionSpec : ChangeSpec := { name := "fnExactPosition", fn := fun _ => fun
  | [d1, d2] => { results := [.lit (.bool true)], args := [d1, d2] }
  | _ => none }
def fnExactPositionRow : OpenClaim := { program := "ytiboccbaaphbhaadoor", sum := "73058a40d6beb7c94a548065153654d1f820d7e26fe01c8b12a0359a1644c6bf", func := "loop.example/s02126/laws.FnExactPosition", spec := "fnExactPosition", inPlace := ["internal/bytealg.Count", "internal/bytealg.IndexByte", "internal/bytealg.Index"], named := ["internal/bytealg.MaxLen", "unicode/utf8.first", "unicode/utf8.acceptRanges"], apart := false, laid := [("unicode/utf8.acceptRanges", laid_unicode_utf8_acceptRanges), ("unicode/utf8.first", laid_unicode_utf8_first)] }
def FnExactPositionSaid : Prop := fnExactPositionRow.holds Tryd.pinned (OpenSpec.ofChange fnExactPositionSpec)

/-- ITS FALSE NEIGHBOUR: 'it returns false'. Refute it at one input. -/
def fnExactPositionWrong : ChangeSpec := { name := "fnExactPosition", fn := fun _ => fun
  | [d1, d2] => { results := [.lit (.bool false)], args := [d1, d2] }
  | _ => none }
def FnExactPositionWrongFalsely : Prop := fnExactPositionRow.holds Tryd.pinned (OpenSpec.ofChange fnExactPositionWrong)

/-- 'laws.FnExactValidLayout': WHATEVER THE INPUT: true; the input reads as it did. -/
def fnExactValidLayoutSpec : ChangeSpec := { name := "fnExactValidLayout", fn := fun _ => fun
  | [d] => { results := [.lit (.bool true)], args := [d] }
  | _ => none }
def fnExactValidLayoutRow : OpenClaim := { program := "ytiboccbaaphbhaadoor", sum := "73058a40d6beb7c94a548065153654d1f820d7e26fe01c8b12a0359a1644c6bf", func := "loop.example/s02126/laws.FnExactValidLayout", spec := "fnExactValidLayout", inPlace := ["internal/bytealg.Compare"], unfollowed := true, recurses := true, named := ["unicode/utf8.first", "unicode/utf8.acceptRanges"], apart := false, laid := [("unicode/utf8.acceptRanges", laid_unicode_utf8_acceptRanges), ("unicode/utf8.first", laid_unicode_utf8_first)] }
def FnExactValidLayoutSaid : Prop := fnExactValidLayoutRow.holds Tryd.pinned (OpenSpec.ofChange fnExactValidLayoutSpec)

/-- ITS FALSE NEIGHBOUR: 'it returns false'. Refute it at one input. -/
def fnExactValidLayoutWrong : ChangeSpec := { name := "fnExactValidLayout", fn := fun _ => fun
  | [d] => { results := [.lit (.bool false)], args := [d] }
  | _ => none }
def FnExactValidLayoutWrongFalsely : Prop := fnExactValidLayoutRow.holds Tryd.pinned (OpenSpec.ofChange fnExactValidLayoutWrong)

/-- 'laws.FnExactQuoteText': WHATEVER THE INPUT: true; the input reads as it did. -/
def fnExactQuoteTextSpec : ChangeSpec := { name := "fnExactQuoteText", fn := fun _ => fun
  | [d] => { results := [.lit (.bool true)], args := [d] }
  | _ => none }
def fnExactQuoteTextRow : OpenClaim := { program := "ytiboccbaaphbhaadoor", sum := "73058a40d6beb7c94a548065153654d1f820d7e26fe01c8b12a0359a1644c6bf", func := "loop.example/s02126/laws.FnExactQuoteText", spec := "fnExactQuoteText", inPlace := ["internal/abi.NoEscape"], recurses := true, named := ["unicode/utf8.first", "unicode/utf8.acceptRanges", "internal/strconv.uint64pow10", "math/bits.deBruijn32tab", "math/bits.deBruijn64tab"], apart := false, laid := [("math/bits.deBruijn32tab", laid_math_bits_deBruijn32tab), ("math/bits.deBruijn64tab", laid_math_bits_deBruijn64tab), ("internal/strconv.uint64pow10", laid_internal_strconv_uint64pow10), ("unicode/utf8.acceptRanges", laid_unicode_utf8_acceptRanges), ("unicode/utf8.first", laid_unicode_utf8_first)] }
def FnExactQuoteTextSaid : Prop := fnExactQuoteTextRow.holds Tryd.pinned (OpenSpec.ofChange fnExactQuoteTextSpec)

/-- ITS FALSE NEIGHBOUR: 'it returns false'. Refute it at one input. -/
def fnExactQuoteTextWrong : ChangeSpec := { name := "fnExactQuoteText", fn := fun _ => fun
  | [d] => { results := [.lit (.bool false)], args := [d] }
  | _ => none }
def FnExactQuoteTextWrongFalsely : Prop := fnExactQuoteTextRow.holds Tryd.pinned (OpenSpec.ofChange fnExactQuoteTextWrong)

/-- 'laws.FnExactValidTables': WHATEVER THE INPUT: true; the input reads as it did. -/
def fnExactValidTablesSpec : ChangeSpec := { name := "fnExactValidTables", fn := fun _ => fun
  | [d] => { results := [.lit (.bool true)], args := [d] }
  | _ => none }
def fnExactValidTablesRow : OpenClaim := { program := "ytiboccbaaphbhaadoor", sum := "73058a40d6beb7c94a548065153654d1f820d7e26fe01c8b12a0359a1644c6bf", func := "loop.example/s02126/laws.FnExactValidTables", spec := "fnExactValidTables", inPlace := ["internal/bytealg.Compare"], named := ["unicode/utf8.first", "unicode/utf8.acceptRanges"], apart := false, laid := [("unicode/utf8.acceptRanges", laid_unicode_utf8_acceptRanges), ("unicode/utf8.first", laid_unicode_utf8_first)] }
def FnExactValidTablesSaid : Prop := fnExactValidTablesRow.holds Tryd.pinned (OpenSpec.ofChange fnExactValidTablesSpec)

/-- ITS FALSE NEIGHBOUR: 'it returns false'. Refute it at one input. -/
def fnExactValidTablesWrong : ChangeSpec := { name := "fnExactValidTables", fn := fun _ => fun
  | [d] => { results := [.lit (.bool false)], args := [d] }
  | _ => none }
def FnExactValidTablesWrongFalsely : Prop := fnExactValidTablesRow.holds Tryd.pinned (OpenSpec.ofChange fnExactValidTablesWrong)

/-- 'laws.FnExactFindTarget': WHATEVER THE INPUT: true; the input reads as it did. -/
def fnExactFindTargetSpec : ChangeSpec := { name := "fnExactFindTarget", fn := fun _ => fun
  | [d1, d2] => { results := [.lit (.bool true)], args := [d1, d2] }
  | _ => none }
def fnExactFindTargetRow : OpenClaim := { program := "ytiboccbaaphbhaadoor", sum := "73058a40d6beb7c94a548065153654d1f820d7e26fe01c8b12a0359a1644c6bf", func := "loop.example/s02126/laws.FnExactFindTarget", spec := "fnExactFindTarget", inPlace := ["internal/bytealg.Compare"], unfollowed := true, recurses := true, named := ["unicode/utf8.first", "unicode/utf8.acceptRanges"], apart := false, laid := [("unicode/utf8.acceptRanges", laid_unicode_utf8_acceptRanges), ("unicode/utf8.first", laid_unicode_utf8_first)] }
def FnExactFindTargetSaid : Prop := fnExactFindTargetRow.holds Tryd.pinned (OpenSpec.ofChange fnExactFindTargetSpec)

/-- ITS FALSE NEIGHBOUR: 'it returns false'. Refute it at one input. -/
def fnExactFindTargetWrong : ChangeSpec := { name := "fnExactFindTarget", fn := fun _ => fun
  | [d1, d2] => { results := [.lit (.bool false)], args := [d1, d2] }
  | _ => none }
def FnExactFindTargetWrongFalsely : Prop := fnExactFindTargetRow.holds Tryd.pinned (OpenSpec.ofChange fnExactFindTargetWrong)

/-- 'laws.FnExactNearest': WHATEVER THE INPUT: true; the input reads as it did. -/
def fnExactNearestSpec : ChangeSpec := { name := "fnExactNearest", fn := fun _ => fun
  | [d1, d2, d3] => { results := [.lit (.bool true)], args := [d1, d2, d3] }
  | _ => none }
def fnExactNearestRow : OpenClaim := { program := "ytiboccbaaphbhaadoor", sum := "73058a40d6beb7c94a548065153654d1f820d7e26fe01c8b12a0359a1644c6bf", func := "loop.example/s02126/laws.FnExactNearest", spec := "fnExactNearest", inPlace := ["internal/bytealg.Compare"], named := ["unicode/utf8.first", "unicode/utf8.acceptRanges"], apart := false, laid := [("unicode/utf8.acceptRanges", laid_unicode_utf8_acceptRanges), ("unicode/utf8.first", laid_unicode_utf8_first)] }
def FnExactNearestSaid : Prop := fnExactNearestRow.holds Tryd.pinned (OpenSpec.ofChange fnExactNearestSpec)

/-- ITS FALSE NEIGHBOUR: 'it returns false'. Refute it at one input. -/
def fnExactNearestWrong : ChangeSpec := { name := "fnExactNearest", fn := fun _ => fun
  | [d1, d2, d3] => { results := [.lit (.bool false)], args := [d1, d2, d3] }
  | _ => none }
def FnExactNearestWrongFalsely : Prop := fnExactNearestRow.holds Tryd.pinned (OpenSpec.ofChange fnExactNearestWrong)

/-- 'laws.FnExactNext': WHATEVER THE INPUT: true; the input reads as it did. -/
def fnExactNextSpec : ChangeSpec := { name := "fnExactNext", fn := fun _ => fun
  | [d1, d2, d3] => { results := [.lit (.bool true)], args := [d1, d2, d3] }
  | _ => none }
def fnExactNextRow : OpenClaim := { program := "ytiboccbaaphbhaadoor", sum := "73058a40d6beb7c94a548065153654d1f820d7e26fe01c8b12a0359a1644c6bf", func := "loop.example/s02126/laws.FnExactNext", spec := "fnExactNext", inPlace := ["internal/bytealg.Compare"], named := ["unicode/utf8.first", "unicode/utf8.acceptRanges"], apart := false, laid := [("unicode/utf8.acceptRanges", laid_unicode_utf8_acceptRanges), ("unicode/utf8.first", laid_unicode_utf8_first)] }
def FnExactNextSaid : Prop := fnExactNextRow.holds Tryd.pinned (OpenSpec.ofChange fnExactNextSpec)

/-- ITS FALSE NEIGHBOUR: 'it returns false'. Refute it at one input. -/
def fnExactNextWrong : ChangeSpec := { name := "fnExactNext", fn := fun _ => fun
  | [d1, d2, d3] => { results := [.lit (.bool false)], args := [d1, d2, d3] }
  | _ => none }
def FnExactNextWrongFalsely : Prop := fnExactNextRow.holds Tryd.pinned (OpenSpec.ofChange fnExactNextWrong)

/-- 'laws.FnExactValidFleet': WHATEVER THE INPUT: true; the input reads as it did. -/
def fnExactValidFleetSpec : ChangeSpec := { name := "fnExactValidFleet", fn := fun _ => fun
  | [d1, d2] => { results := [.lit (.bool true)], args := [d1, d2] }
  | _ => none }
def fnExactValidFleetRow : OpenClaim := { program := "ytiboccbaaphbhaadoor", sum := "73058a40d6beb7c94a548065153654d1f820d7e26fe01c8b12a0359a1644c6bf", func := "loop.example/s02126/laws.FnExactValidFleet", spec := "fnExactValidFleet", inPlace := ["internal/bytealg.Compare"], named := ["unicode/utf8.first", "unicode/utf8.acceptRanges"], apart := false, laid := [("unicode/utf8.acceptRanges", laid_unicode_utf8_acceptRanges), ("unicode/utf8.first", laid_unicode_utf8_first)] }
def FnExactValidFleetSaid : Prop := fnExactValidFleetRow.holds Tryd.pinned (OpenSpec.ofChange fnExactValidFleetSpec)

/-- ITS FALSE NEIGHBOUR: 'it returns false'. Refute it at one input. -/
def fnExactValidFleetWrong : ChangeSpec := { name := "fnExactValidFleet", fn := fun _ => fun
  | [d1, d2] => { results := [.lit (.bool false)], args := [d1, d2] }
  | _ => none }
def FnExactValidFleetWrongFalsely : Prop := fnExactValidFleetRow.holds Tryd.pinned (OpenSpec.ofChange fnExactValidFleetWrong)

/- THE SECOND FORM. 'bulk': how many values and letters a reading holds, each counted each time it is reached (what is shared counts as often as it is met; a slice's spare places count too). A statement '..UptoSaid' is the law's where the arguments, and the package variables that the reading takes, are together of bulk at most 1048576: NARROWER than '..Said'. Prove '..Said' where nothing that the law and all that it calls make is longer than what came in: it says more and counts as full. Else prove '..UptoSaid'. A law counts once. -/
mutual
def uptoBulk {H : Type} : DataW H → Nat
  | .lit (.string bytes) => bytes.length + 1
  | .lit _ => 1
  | .nil => 1
  | .ptr d => uptoBulk d + 1
  | .slice elems spare => uptoBulkAll elems + uptoBulkAll spare + 1
  | .agg parts => uptoBulkAll parts + 1
  | .iface _ d => uptoBulk d + 1
  | .map entries => uptoBulkEntries entries + 1
  | .held _ => 1
def uptoBulkAll {H : Type} : List (DataW H) → Nat
  | [] => 0
  | d :: r => uptoBulk d + uptoBulkAll r
def uptoBulkEntries {H : Type} : List (Lit × DataW H) → Nat
  | [] => 0
  | x :: r => uptoBulkEntry x + uptoBulkEntries r
def uptoBulkEntry {H : Type} : Lit × DataW H → Nat
  | (.string bytes, d) => bytes.length + uptoBulk d + 1
  | (_, d) => uptoBulk d + 1
 end
def uptoSmall : (H : Type) → List (DataW H) → Bool := fun _ ds => decide (uptoBulkAll ds ≤ 1048576)
def OpenSpec.upto (s : _root_.Go.ChangeSpec) : _root_.Go.OpenSpec := { _root_.Go.OpenSpec.ofChange s with cond := some uptoSmall }

/-- 'laws.FnExactPosition', WHERE WHAT IT READS IS OF BULK AT MOST 1048576: true; the input reads as it did. -/
def fnExactPositionUptoRow : OpenClaim := { program := "ytiboccbaaphbhaadoor", sum := "73058a40d6beb7c94a548065153654d1f820d7e26fe01c8b12a0359a1644c6bf", func := "loop.example/s02126/laws.FnExactPosition", spec := "fnExactPosition", inPlace := ["internal/bytealg.Count", "internal/bytealg.IndexByte", "internal/bytealg.Index"], named := ["internal/bytealg.MaxLen", "unicode/utf8.first", "unicode/utf8.acceptRanges"], apart := false, laid := [("unicode/utf8.acceptRanges", laid_unicode_utf8_acceptRanges), ("unicode/utf8.first", laid_unicode_utf8_first)], narrowed := true }
def FnExactPositionUptoSaid : Prop := fnExactPositionUptoRow.holds Tryd.pinned (OpenSpec.upto fnExactPositionSpec)

/-- 'laws.FnExactValidLayout', WHERE WHAT IT READS IS OF BULK AT MOST 1048576: true; the input reads as it did. -/
def fnExactValidLayoutUptoRow : OpenClaim := { program := "ytiboccbaaphbhaadoor", sum := "73058a40d6beb7c94a548065153654d1f820d7e26fe01c8b12a0359a1644c6bf", func := "loop.example/s02126/laws.FnExactValidLayout", spec := "fnExactValidLayout", inPlace := ["internal/bytealg.Compare"], unfollowed := true, recurses := true, named := ["unicode/utf8.first", "unicode/utf8.acceptRanges"], apart := false, laid := [("unicode/utf8.acceptRanges", laid_unicode_utf8_acceptRanges), ("unicode/utf8.first", laid_unicode_utf8_first)], narrowed := true }
def FnExactValidLayoutUptoSaid : Prop := fnExactValidLayoutUptoRow.holds Tryd.pinned (OpenSpec.upto fnExactValidLayoutSpec)

/-- 'laws.FnExactQuoteText', WHERE WHAT IT READS IS OF BULK AT MOST 1048576: true; the input reads as it did. -/
def fnExactQuoteTextUptoRow : OpenClaim := { program := "ytiboccbaaphbhaadoor", sum := "73058a40d6beb7c94a548065153654d1f820d7e26fe01c8b12a0359a1644c6bf", func := "loop.example/s02126/laws.FnExactQuoteText", spec := "fnExactQuoteText", inPlace := ["internal/abi.NoEscape"], recurses := true, named := ["unicode/utf8.first", "unicode/utf8.acceptRanges", "internal/strconv.uint64pow10", "math/bits.deBruijn32tab", "math/bits.deBruijn64tab"], apart := false, laid := [("math/bits.deBruijn32tab", laid_math_bits_deBruijn32tab), ("math/bits.deBruijn64tab", laid_math_bits_deBruijn64tab), ("internal/strconv.uint64pow10", laid_internal_strconv_uint64pow10), ("unicode/utf8.acceptRanges", laid_unicode_utf8_acceptRanges), ("unicode/utf8.first", laid_unicode_utf8_first)], narrowed := true }
def FnExactQuoteTextUptoSaid : Prop := fnExactQuoteTextUptoRow.holds Tryd.pinned (OpenSpec.upto fnExactQuoteTextSpec)

/-- 'laws.FnExactValidTables', WHERE WHAT IT READS IS OF BULK AT MOST 1048576: true; the input reads as it did. -/
def fnExactValidTablesUptoRow : OpenClaim := { program := "ytiboccbaaphbhaadoor", sum := "73058a40d6beb7c94a548065153654d1f820d7e26fe01c8b12a0359a1644c6bf", func := "loop.example/s02126/laws.FnExactValidTables", spec := "fnExactValidTables", inPlace := ["internal/bytealg.Compare"], named := ["unicode/utf8.first", "unicode/utf8.acceptRanges"], apart := false, laid := [("unicode/utf8.acceptRanges", laid_unicode_utf8_acceptRanges), ("unicode/utf8.first", laid_unicode_utf8_first)], narrowed := true }
def FnExactValidTablesUptoSaid : Prop := fnExactValidTablesUptoRow.holds Tryd.pinned (OpenSpec.upto fnExactValidTablesSpec)

/-- 'laws.FnExactFindTarget', WHERE WHAT IT READS IS OF BULK AT MOST 1048576: true; the input reads as it did. -/
def fnExactFindTargetUptoRow : OpenClaim := { program := "ytiboccbaaphbhaadoor", sum := "73058a40d6beb7c94a548065153654d1f820d7e26fe01c8b12a0359a1644c6bf", func := "loop.example/s02126/laws.FnExactFindTarget", spec := "fnExactFindTarget", inPlace := ["internal/bytealg.Compare"], unfollowed := true, recurses := true, named := ["unicode/utf8.first", "unicode/utf8.acceptRanges"], apart := false, laid := [("unicode/utf8.acceptRanges", laid_unicode_utf8_acceptRanges), ("unicode/utf8.first", laid_unicode_utf8_first)], narrowed := true }
def FnExactFindTargetUptoSaid : Prop := fnExactFindTargetUptoRow.holds Tryd.pinned (OpenSpec.upto fnExactFindTargetSpec)

/-- 'laws.FnExactNearest', WHERE WHAT IT READS IS OF BULK AT MOST 1048576: true; the input reads as it did. -/
def fnExactNearestUptoRow : OpenClaim := { program := "ytiboccbaaphbhaadoor", sum := "73058a40d6beb7c94a548065153654d1f820d7e26fe01c8b12a0359a1644c6bf", func := "loop.example/s02126/laws.FnExactNearest", spec := "fnExactNearest", inPlace := ["internal/bytealg.Compare"], named := ["unicode/utf8.first", "unicode/utf8.acceptRanges"], apart := false, laid := [("unicode/utf8.acceptRanges", laid_unicode_utf8_acceptRanges), ("unicode/utf8.first", laid_unicode_utf8_first)], narrowed := true }
def FnExactNearestUptoSaid : Prop := fnExactNearestUptoRow.holds Tryd.pinned (OpenSpec.upto fnExactNearestSpec)

/-- 'laws.FnExactNext', WHERE WHAT IT READS IS OF BULK AT MOST 1048576: true; the input reads as it did. -/
def fnExactNextUptoRow : OpenClaim := { program := "ytiboccbaaphbhaadoor", sum := "73058a40d6beb7c94a548065153654d1f820d7e26fe01c8b12a0359a1644c6bf", func := "loop.example/s02126/laws.FnExactNext", spec := "fnExactNext", inPlace := ["internal/bytealg.Compare"], named := ["unicode/utf8.first", "unicode/utf8.acceptRanges"], apart := false, laid := [("unicode/utf8.acceptRanges", laid_unicode_utf8_acceptRanges), ("unicode/utf8.first", laid_unicode_utf8_first)], narrowed := true }
def FnExactNextUptoSaid : Prop := fnExactNextUptoRow.holds Tryd.pinned (OpenSpec.upto fnExactNextSpec)

/-- 'laws.FnExactValidFleet', WHERE WHAT IT READS IS OF BULK AT MOST 1048576: true; the input reads as it did. -/
def fnExactValidFleetUptoRow : OpenClaim := { program := "ytiboccbaaphbhaadoor", sum := "73058a40d6beb7c94a548065153654d1f820d7e26fe01c8b12a0359a1644c6bf", func := "loop.example/s02126/laws.FnExactValidFleet", spec := "fnExactValidFleet", inPlace := ["internal/bytealg.Compare"], named := ["unicode/utf8.first", "unicode/utf8.acceptRanges"], apart := false, laid := [("unicode/utf8.acceptRanges", laid_unicode_utf8_acceptRanges), ("unicode/utf8.first", laid_unicode_utf8_first)], narrowed := true }
def FnExactValidFleetUptoSaid : Prop := fnExactValidFleetUptoRow.holds Tryd.pinned (OpenSpec.upto fnExactValidFleetSpec)

end Rows
end Go.Proofs.YtiboccbaaphbhaaDoor
