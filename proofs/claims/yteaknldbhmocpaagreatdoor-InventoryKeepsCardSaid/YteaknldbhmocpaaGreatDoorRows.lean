/-
  NARROWER THAN 'FOR EVERY INPUT', by the rows' own cells (each row's printed sentence says how): InventoryCompares: laid · InventorySettles: laid · InventoryPrints: laid · InventoryKeeps: laid · InventoryExact: laid · InventoryExpects: laid.
  DERIVED. THE GIVEN ROWS OF THIS SEAT. 6 by the template 'for every input the law returns true; each argument reads behind the call as it read before'; 0 by the template 'total and deterministic' (their statements: YteaknldbhmocpaaGreatDoorTotals.lean).
  GIVEN WITH THE SEED: the statements are not yours to turn. If you find one false, say at which input.
  Laid BY PROGRAM, IN A SANDBOX (cutbox-rows.mjs): the forced cells as the released guide's own fill.sh prints them over the translation 41a0e1a002c8d0c5… (all of the seat's roots in one cut). By AI agents, Wed Nov 11 2026. No macro, syntax, notation, axiom, sorry.
-/
import Derived.Test.YteaknldbhmocpaaGreatDoorChecked
import GoSem.PinnedTables
import GoSem.Claim
import GoSem.ClaimJoined
import GoSem.ClaimMapViews
import Derived.JoinedTies
import Derived.KernelRfl
namespace Go.Proofs.YteaknldbhmocpaaGreatDoor
/- THE CELL 'sum', in the pinned program and in every row, IS THE sha256 OF THE DUMP (.gsa) THAT YteaknldbhmocpaaGreatDoorProg.lean LOADS. Nothing in Lean hashes anything: it is a label: what it is worth is what the hold of that sum in a sandbox is worth. -/
noncomputable def Tryz.pinned : Pinned := { name := "yteaknldbhmocpaagreatdoor", sum := "41a0e1a002c8d0c54e10d4f9cae7356379a4e086a8e0146312da9f51afd4f318", checked := Tryz.checked }
namespace Rows
def none {H : Type} : Left H := { results := [], args := [] }

/- WHAT THE LISTED PACKAGE-LEVEL VARIABLES READ AS WHEN THE CALL BEGINS. Each datum BY PROGRAM (the guide's laid-datum.mjs) off the statement by which the dump's own 'gosem.cut.vars' lays the variable. In a bare row this is a premise. The card (YteaknldbhmocpaaGreatDoorCards.lean) ties it to the program's text. -/
def laid_math_bits_deBruijn32tab {H : Type} : DataW H := .agg [.lit (.int .u8 0), .lit (.int .u8 1), .lit (.int .u8 28), .lit (.int .u8 2), .lit (.int .u8 29), .lit (.int .u8 14), .lit (.int .u8 24), .lit (.int .u8 3), .lit (.int .u8 30), .lit (.int .u8 22), .lit (.int .u8 20), .lit (.int .u8 15), .lit (.int .u8 25), .lit (.int .u8 17), .lit (.int .u8 4), .lit (.int .u8 8), .lit (.int .u8 31), .lit (.int .u8 27), .lit (.int .u8 13), .lit (.int .u8 23), .lit (.int .u8 21), .lit (.int .u8 19), .lit (.int .u8 16), .lit (.int .u8 7), .lit (.int .u8 26), .lit (.int .u8 12), .lit (.int .u8 18), .lit (.int .u8 6), .lit (.int .u8 11), .lit (.int .u8 5), .lit (.int .u8 10), .lit (.int .u8 9)]
def laid_math_bits_deBruijn64tab {H : Type} : DataW H := .agg [.lit (.int .u8 0), .lit (.int .u8 1), .lit (.int .u8 56), .lit (.int .u8 2), .lit (.int .u8 57), .lit (.int .u8 49), .lit (.int .u8 28), .lit (.int .u8 3), .lit (.int .u8 61), .lit (.int .u8 58), .lit (.int .u8 42), .lit (.int .u8 50), .lit (.int .u8 38), .lit (.int .u8 29), .lit (.int .u8 17), .lit (.int .u8 4), .lit (.int .u8 62), .lit (.int .u8 47), .lit (.int .u8 59), .lit (.int .u8 36), .lit (.int .u8 45), .lit (.int .u8 43), .lit (.int .u8 51), .lit (.int .u8 22), .lit (.int .u8 53), .lit (.int .u8 39), .lit (.int .u8 33), .lit (.int .u8 30), .lit (.int .u8 24), .lit (.int .u8 18), .lit (.int .u8 12), .lit (.int .u8 5), .lit (.int .u8 63), .lit (.int .u8 55), .lit (.int .u8 48), .lit (.int .u8 27), .lit (.int .u8 60), .lit (.int .u8 41), .lit (.int .u8 37), .lit (.int .u8 16), .lit (.int .u8 46), .lit (.int .u8 35), .lit (.int .u8 44), .lit (.int .u8 21), .lit (.int .u8 52), .lit (.int .u8 32), .lit (.int .u8 23), .lit (.int .u8 11), .lit (.int .u8 54), .lit (.int .u8 26), .lit (.int .u8 40), .lit (.int .u8 15), .lit (.int .u8 34), .lit (.int .u8 20), .lit (.int .u8 31), .lit (.int .u8 10), .lit (.int .u8 25), .lit (.int .u8 14), .lit (.int .u8 19), .lit (.int .u8 9), .lit (.int .u8 13), .lit (.int .u8 8), .lit (.int .u8 7), .lit (.int .u8 6)]
def laid_internal_strconv_uint64pow10 {H : Type} : DataW H := .agg [.lit (.int .u64 1), .lit (.int .u64 10), .lit (.int .u64 100), .lit (.int .u64 1000), .lit (.int .u64 10000), .lit (.int .u64 100000), .lit (.int .u64 1000000), .lit (.int .u64 10000000), .lit (.int .u64 100000000), .lit (.int .u64 1000000000), .lit (.int .u64 10000000000), .lit (.int .u64 100000000000), .lit (.int .u64 1000000000000), .lit (.int .u64 10000000000000), .lit (.int .u64 100000000000000), .lit (.int .u64 1000000000000000), .lit (.int .u64 10000000000000000), .lit (.int .u64 100000000000000000), .lit (.int .u64 1000000000000000000), .lit (.int .u64 10000000000000000000)]
def laid_unicode_utf8_acceptRanges {H : Type} : DataW H := .agg [.agg [.lit (.int .u8 128), .lit (.int .u8 191)], .agg [.lit (.int .u8 160), .lit (.int .u8 191)], .agg [.lit (.int .u8 128), .lit (.int .u8 159)], .agg [.lit (.int .u8 144), .lit (.int .u8 191)], .agg [.lit (.int .u8 128), .lit (.int .u8 143)], .agg [.lit (.int .u8 0), .lit (.int .u8 0)], .agg [.lit (.int .u8 0), .lit (.int .u8 0)], .agg [.lit (.int .u8 0), .lit (.int .u8 0)], .agg [.lit (.int .u8 0), .lit (.int .u8 0)], .agg [.lit (.int .u8 0), .lit (.int .u8 0)], .agg [.lit (.int .u8 0), .lit (.int .u8 0)], .agg [.lit (.int .u8 0), .lit (.int .u8 0)], .agg [.lit (.int .u8 0), .lit (.int .u8 0)], .agg [.lit (.int .u8 0), .lit (.int .u8 0)], .agg [.lit (.int .u8 0), .lit (.int .u8 0)], .agg [.lit (.int .u8 0), .lit (.int .u8 0)]]
def laid_library_custody_moves {H : Type} : DataW H := .agg [.lit (.int .u16 0), .lit (.int .u16 32770), .lit (.int .u16 41316), .lit (.int .u16 42344), .lit (.int .u16 6160), .lit (.int .u16 8268), .lit (.int .u16 8320), .lit (.int .u16 8704), .lit (.int .u16 16), .lit (.int .u16 4112), .lit (.int .u16 32784), .lit (.int .u16 49152), .lit (.int .u16 0)]
/-- One of Go's own tables, pinned by name: the form's constant. -/
def laid_unicode_utf8_first : DataW Unit := Go.Pinned.utf8First

/-- 'librarylaw53.InventoryCompares': WHATEVER THE INPUT: true; the input reads as it did. -/
def inventoryComparesSpec : ChangeSpec := { name := "inventoryCompares", fn := fun _ => fun
  | [d1, d2, d3] => { results := [.lit (.bool true)], args := [d1, d2, d3] }
  | _ => none }
def inventoryComparesRow : OpenClaim := { program := "yteaknldbhmocpaagreatdoor", sum := "41a0e1a002c8d0c54e10d4f9cae7356379a4e086a8e0146312da9f51afd4f318", func := "library/librarylaw53.InventoryCompares", spec := "inventoryCompares", inPlace := ["slices.overlaps[library/api.Item]", "internal/abi.NoEscape", "internal/bytealg.MakeNoZero", "slices.overlaps[library/api.Patron]", "slices.overlaps[library/api.Loan]"], unfollowed := true, recurses := true, named := ["unicode/utf8.first", "unicode/utf8.acceptRanges", "library/custody.moves", "internal/strconv.uint64pow10", "math/bits.deBruijn32tab", "math/bits.deBruijn64tab"], apart := false, laid := [("math/bits.deBruijn32tab", laid_math_bits_deBruijn32tab), ("math/bits.deBruijn64tab", laid_math_bits_deBruijn64tab), ("internal/strconv.uint64pow10", laid_internal_strconv_uint64pow10), ("unicode/utf8.acceptRanges", laid_unicode_utf8_acceptRanges), ("library/custody.moves", laid_library_custody_moves), ("unicode/utf8.first", laid_unicode_utf8_first)] }
def InventoryComparesSaid : Prop := inventoryComparesRow.holds Tryz.pinned (OpenSpec.ofChange inventoryComparesSpec)

/-- ITS FALSE NEIGHBOUR: 'it returns false'. Refute it at one input. -/
def inventoryComparesWrong : ChangeSpec := { name := "inventoryCompares", fn := fun _ => fun
  | [d1, d2, d3] => { results := [.lit (.bool false)], args := [d1, d2, d3] }
  | _ => none }
def InventoryComparesWrongFalsely : Prop := inventoryComparesRow.holds Tryz.pinned (OpenSpec.ofChange inventoryComparesWrong)

/-- 'librarylaw53.InventorySettles': WHATEVER THE INPUT: true; the input reads as it did. -/
def inventorySettlesSpec : ChangeSpec := { name := "inventorySettles", fn := fun _ => fun
  | [d1, d2, d3] => { results := [.lit (.bool true)], args := [d1, d2, d3] }
  | _ => none }
def inventorySettlesRow : OpenClaim := { program := "yteaknldbhmocpaagreatdoor", sum := "41a0e1a002c8d0c54e10d4f9cae7356379a4e086a8e0146312da9f51afd4f318", func := "library/librarylaw53.InventorySettles", spec := "inventorySettles", inPlace := ["slices.overlaps[library/api.Item]", "internal/abi.NoEscape", "internal/bytealg.MakeNoZero", "slices.overlaps[library/api.Patron]", "slices.overlaps[library/api.Loan]"], unfollowed := true, recurses := true, named := ["unicode/utf8.first", "unicode/utf8.acceptRanges", "library/custody.moves", "internal/strconv.uint64pow10", "math/bits.deBruijn32tab", "math/bits.deBruijn64tab"], apart := false, laid := [("math/bits.deBruijn32tab", laid_math_bits_deBruijn32tab), ("math/bits.deBruijn64tab", laid_math_bits_deBruijn64tab), ("internal/strconv.uint64pow10", laid_internal_strconv_uint64pow10), ("unicode/utf8.acceptRanges", laid_unicode_utf8_acceptRanges), ("library/custody.moves", laid_library_custody_moves), ("unicode/utf8.first", laid_unicode_utf8_first)] }
def InventorySettlesSaid : Prop := inventorySettlesRow.holds Tryz.pinned (OpenSpec.ofChange inventorySettlesSpec)

/-- ITS FALSE NEIGHBOUR: 'it returns false'. Refute it at one input. -/
def inventorySettlesWrong : ChangeSpec := { name := "inventorySettles", fn := fun _ => fun
  | [d1, d2, d3] => { results := [.lit (.bool false)], args := [d1, d2, d3] }
  | _ => none }
def InventorySettlesWrongFalsely : Prop := inventorySettlesRow.holds Tryz.pinned (OpenSpec.ofChange inventorySettlesWrong)

/-- 'librarylaw53.InventoryPrints': WHATEVER THE INPUT: true; the input reads as it did. -/
def inventoryPrintsSpec : ChangeSpec := { name := "inventoryPrints", fn := fun _ => fun
  | [d] => { results := [.lit (.bool true)], args := [d] }
  | _ => none }
def inventoryPrintsRow : OpenClaim := { program := "yteaknldbhmocpaagreatdoor", sum := "41a0e1a002c8d0c54e10d4f9cae7356379a4e086a8e0146312da9f51afd4f318", func := "library/librarylaw53.InventoryPrints", spec := "inventoryPrints", inPlace := ["slices.overlaps[library/api.Item]", "internal/abi.NoEscape", "internal/bytealg.MakeNoZero", "slices.overlaps[library/api.Patron]", "slices.overlaps[library/api.Loan]"], unfollowed := true, recurses := true, named := ["unicode/utf8.first", "unicode/utf8.acceptRanges", "library/custody.moves", "internal/strconv.uint64pow10", "math/bits.deBruijn32tab", "math/bits.deBruijn64tab"], apart := false, laid := [("math/bits.deBruijn32tab", laid_math_bits_deBruijn32tab), ("math/bits.deBruijn64tab", laid_math_bits_deBruijn64tab), ("internal/strconv.uint64pow10", laid_internal_strconv_uint64pow10), ("unicode/utf8.acceptRanges", laid_unicode_utf8_acceptRanges), ("library/custody.moves", laid_library_custody_moves), ("unicode/utf8.first", laid_unicode_utf8_first)] }
def InventoryPrintsSaid : Prop := inventoryPrintsRow.holds Tryz.pinned (OpenSpec.ofChange inventoryPrintsSpec)

/-- ITS FALSE NEIGHBOUR: 'it returns false'. Refute it at one input. -/
def inventoryPrintsWrong : ChangeSpec := { name := "inventoryPrints", fn := fun _ => fun
  | [d] => { results := [.lit (.bool false)], args := [d] }
  | _ => none }
def InventoryPrintsWrongFalsely : Prop := inventoryPrintsRow.holds Tryz.pinned (OpenSpec.ofChange inventoryPrintsWrong)

/-- 'librarylaw53.InventoryKeeps': WHATEVER THE INPUT: true; the input reads as it did. -/
def inventoryKeepsSpec : ChangeSpec := { name := "inventoryKeeps", fn := fun _ => fun
  | [d1, d2, d3] => { results := [.lit (.bool true)], args := [d1, d2, d3] }
  | _ => none }
def inventoryKeepsRow : OpenClaim := { program := "yteaknldbhmocpaagreatdoor", sum := "41a0e1a002c8d0c54e10d4f9cae7356379a4e086a8e0146312da9f51afd4f318", func := "library/librarylaw53.InventoryKeeps", spec := "inventoryKeeps", inPlace := ["slices.overlaps[library/api.Item]", "internal/abi.NoEscape", "internal/bytealg.MakeNoZero", "slices.overlaps[library/api.Patron]", "slices.overlaps[library/api.Loan]"], unfollowed := true, recurses := true, named := ["unicode/utf8.first", "unicode/utf8.acceptRanges", "library/custody.moves", "internal/strconv.uint64pow10", "math/bits.deBruijn32tab", "math/bits.deBruijn64tab"], apart := false, laid := [("math/bits.deBruijn32tab", laid_math_bits_deBruijn32tab), ("math/bits.deBruijn64tab", laid_math_bits_deBruijn64tab), ("internal/strconv.uint64pow10", laid_internal_strconv_uint64pow10), ("unicode/utf8.acceptRanges", laid_unicode_utf8_acceptRanges), ("library/custody.moves", laid_library_custody_moves), ("unicode/utf8.first", laid_unicode_utf8_first)] }
def InventoryKeepsSaid : Prop := inventoryKeepsRow.holds Tryz.pinned (OpenSpec.ofChange inventoryKeepsSpec)

/-- ITS FALSE NEIGHBOUR: 'it returns false'. Refute it at one input. -/
def inventoryKeepsWrong : ChangeSpec := { name := "inventoryKeeps", fn := fun _ => fun
  | [d1, d2, d3] => { results := [.lit (.bool false)], args := [d1, d2, d3] }
  | _ => none }
def InventoryKeepsWrongFalsely : Prop := inventoryKeepsRow.holds Tryz.pinned (OpenSpec.ofChange inventoryKeepsWrong)

/-- 'librarylaw53.InventoryExact': WHATEVER THE INPUT: true; the input reads as it did. -/
def inventoryExactSpec : ChangeSpec := { name := "inventoryExact", fn := fun _ => fun
  | [d1, d2] => { results := [.lit (.bool true)], args := [d1, d2] }
  | _ => none }
def inventoryExactRow : OpenClaim := { program := "yteaknldbhmocpaagreatdoor", sum := "41a0e1a002c8d0c54e10d4f9cae7356379a4e086a8e0146312da9f51afd4f318", func := "library/librarylaw53.InventoryExact", spec := "inventoryExact", inPlace := ["slices.overlaps[library/api.Item]", "internal/abi.NoEscape", "internal/bytealg.MakeNoZero", "slices.overlaps[library/api.Patron]", "slices.overlaps[library/api.Loan]"], unfollowed := true, recurses := true, named := ["unicode/utf8.first", "unicode/utf8.acceptRanges", "library/custody.moves", "internal/strconv.uint64pow10", "math/bits.deBruijn32tab", "math/bits.deBruijn64tab"], apart := false, laid := [("math/bits.deBruijn32tab", laid_math_bits_deBruijn32tab), ("math/bits.deBruijn64tab", laid_math_bits_deBruijn64tab), ("internal/strconv.uint64pow10", laid_internal_strconv_uint64pow10), ("unicode/utf8.acceptRanges", laid_unicode_utf8_acceptRanges), ("library/custody.moves", laid_library_custody_moves), ("unicode/utf8.first", laid_unicode_utf8_first)] }
def InventoryExactSaid : Prop := inventoryExactRow.holds Tryz.pinned (OpenSpec.ofChange inventoryExactSpec)

/-- ITS FALSE NEIGHBOUR: 'it returns false'. Refute it at one input. -/
def inventoryExactWrong : ChangeSpec := { name := "inventoryExact", fn := fun _ => fun
  | [d1, d2] => { results := [.lit (.bool false)], args := [d1, d2] }
  | _ => none }
def InventoryExactWrongFalsely : Prop := inventoryExactRow.holds Tryz.pinned (OpenSpec.ofChange inventoryExactWrong)

/-- 'librarylaw53.InventoryExpects': WHATEVER THE INPUT: true; the input reads as it did. -/
def inventoryExpectsSpec : ChangeSpec := { name := "inventoryExpects", fn := fun _ => fun
  | [d1, d2, d3] => { results := [.lit (.bool true)], args := [d1, d2, d3] }
  | _ => none }
def inventoryExpectsRow : OpenClaim := { program := "yteaknldbhmocpaagreatdoor", sum := "41a0e1a002c8d0c54e10d4f9cae7356379a4e086a8e0146312da9f51afd4f318", func := "library/librarylaw53.InventoryExpects", spec := "inventoryExpects", inPlace := ["slices.overlaps[library/api.Item]", "internal/abi.NoEscape", "internal/bytealg.MakeNoZero", "slices.overlaps[library/api.Patron]", "slices.overlaps[library/api.Loan]"], unfollowed := true, recurses := true, named := ["unicode/utf8.first", "unicode/utf8.acceptRanges", "library/custody.moves", "internal/strconv.uint64pow10", "math/bits.deBruijn32tab", "math/bits.deBruijn64tab"], apart := false, laid := [("math/bits.deBruijn32tab", laid_math_bits_deBruijn32tab), ("math/bits.deBruijn64tab", laid_math_bits_deBruijn64tab), ("internal/strconv.uint64pow10", laid_internal_strconv_uint64pow10), ("unicode/utf8.acceptRanges", laid_unicode_utf8_acceptRanges), ("library/custody.moves", laid_library_custody_moves), ("unicode/utf8.first", laid_unicode_utf8_first)] }
def InventoryExpectsSaid : Prop := inventoryExpectsRow.holds Tryz.pinned (OpenSpec.ofChange inventoryExpectsSpec)

/-- ITS FALSE NEIGHBOUR: 'it returns false'. Refute it at one input. -/
def inventoryExpectsWrong : ChangeSpec := { name := "inventoryExpects", fn := fun _ => fun
  | [d1, d2, d3] => { results := [.lit (.bool false)], args := [d1, d2, d3] }
  | _ => none }
def InventoryExpectsWrongFalsely : Prop := inventoryExpectsRow.holds Tryz.pinned (OpenSpec.ofChange inventoryExpectsWrong)

/- THE SECOND FORM. 'bulk': how many values and letters a reading holds, each counted each time it is reached (what is shared counts as often as it is met; a slice's spare places count too). A statement '..UptoSaid' is the law's where the arguments, and the package variables that the reading takes, are together of bulk at most 1048576: NARROWER than '..Said'. Prove '..Said' where nothing that the law and all that it calls make is longer than what came in: it says more and counts as full. Else prove '..UptoSaid'. A law counts once. -/
mutual
def uptoBulk {H : Type} : DataW H → Nat
  | .lit (.string bytes) => bytes.length + 1
  | .lit _ => 1
  | .nil => 1
  | .ptr d => uptoBulk d + 1
  | .slice elems spare => uptoBulkAll elems + uptoBulkAll spare + 1
  | .agg parts => uptoBulkAll parts + 1
  | .iface _ d => uptoBulk d + 1
  | .map entries => uptoBulkEntries entries + 1
  | .held _ => 1
def uptoBulkAll {H : Type} : List (DataW H) → Nat
  | [] => 0
  | d :: r => uptoBulk d + uptoBulkAll r
def uptoBulkEntries {H : Type} : List (Lit × DataW H) → Nat
  | [] => 0
  | x :: r => uptoBulkEntry x + uptoBulkEntries r
def uptoBulkEntry {H : Type} : Lit × DataW H → Nat
  | (.string bytes, d) => bytes.length + uptoBulk d + 1
  | (_, d) => uptoBulk d + 1
 end
def uptoSmall : (H : Type) → List (DataW H) → Bool := fun _ ds => decide (uptoBulkAll ds ≤ 1048576)
def OpenSpec.upto (s : _root_.Go.ChangeSpec) : _root_.Go.OpenSpec := { _root_.Go.OpenSpec.ofChange s with cond := some uptoSmall }

/-- 'librarylaw53.InventoryCompares', WHERE WHAT IT READS IS OF BULK AT MOST 1048576: true; the input reads as it did. -/
def inventoryComparesUptoRow : OpenClaim := { program := "yteaknldbhmocpaagreatdoor", sum := "41a0e1a002c8d0c54e10d4f9cae7356379a4e086a8e0146312da9f51afd4f318", func := "library/librarylaw53.InventoryCompares", spec := "inventoryCompares", inPlace := ["slices.overlaps[library/api.Item]", "internal/abi.NoEscape", "internal/bytealg.MakeNoZero", "slices.overlaps[library/api.Patron]", "slices.overlaps[library/api.Loan]"], unfollowed := true, recurses := true, named := ["unicode/utf8.first", "unicode/utf8.acceptRanges", "library/custody.moves", "internal/strconv.uint64pow10", "math/bits.deBruijn32tab", "math/bits.deBruijn64tab"], apart := false, laid := [("math/bits.deBruijn32tab", laid_math_bits_deBruijn32tab), ("math/bits.deBruijn64tab", laid_math_bits_deBruijn64tab), ("internal/strconv.uint64pow10", laid_internal_strconv_uint64pow10), ("unicode/utf8.acceptRanges", laid_unicode_utf8_acceptRanges), ("library/custody.moves", laid_library_custody_moves), ("unicode/utf8.first", laid_unicode_utf8_first)], narrowed := true }
def InventoryComparesUptoSaid : Prop := inventoryComparesUptoRow.holds Tryz.pinned (OpenSpec.upto inventoryComparesSpec)

/-- 'librarylaw53.InventorySettles', WHERE WHAT IT READS IS OF BULK AT MOST 1048576: true; the input reads as it did. -/
def inventorySettlesUptoRow : OpenClaim := { program := "yteaknldbhmocpaagreatdoor", sum := "41a0e1a002c8d0c54e10d4f9cae7356379a4e086a8e0146312da9f51afd4f318", func := "library/librarylaw53.InventorySettles", spec := "inventorySettles", inPlace := ["slices.overlaps[library/api.Item]", "internal/abi.NoEscape", "internal/bytealg.MakeNoZero", "slices.overlaps[library/api.Patron]", "slices.overlaps[library/api.Loan]"], unfollowed := true, recurses := true, named := ["unicode/utf8.first", "unicode/utf8.acceptRanges", "library/custody.moves", "internal/strconv.uint64pow10", "math/bits.deBruijn32tab", "math/bits.deBruijn64tab"], apart := false, laid := [("math/bits.deBruijn32tab", laid_math_bits_deBruijn32tab), ("math/bits.deBruijn64tab", laid_math_bits_deBruijn64tab), ("internal/strconv.uint64pow10", laid_internal_strconv_uint64pow10), ("unicode/utf8.acceptRanges", laid_unicode_utf8_acceptRanges), ("library/custody.moves", laid_library_custody_moves), ("unicode/utf8.first", laid_unicode_utf8_first)], narrowed := true }
def InventorySettlesUptoSaid : Prop := inventorySettlesUptoRow.holds Tryz.pinned (OpenSpec.upto inventorySettlesSpec)

/-- 'librarylaw53.InventoryPrints', WHERE WHAT IT READS IS OF BULK AT MOST 1048576: true; the input reads as it did. -/
def inventoryPrintsUptoRow : OpenClaim := { program := "yteaknldbhmocpaagreatdoor", sum := "41a0e1a002c8d0c54e10d4f9cae7356379a4e086a8e0146312da9f51afd4f318", func := "library/librarylaw53.InventoryPrints", spec := "inventoryPrints", inPlace := ["slices.overlaps[library/api.Item]", "internal/abi.NoEscape", "internal/bytealg.MakeNoZero", "slices.overlaps[library/api.Patron]", "slices.overlaps[library/api.Loan]"], unfollowed := true, recurses := true, named := ["unicode/utf8.first", "unicode/utf8.acceptRanges", "library/custody.moves", "internal/strconv.uint64pow10", "math/bits.deBruijn32tab", "math/bits.deBruijn64tab"], apart := false, laid := [("math/bits.deBruijn32tab", laid_math_bits_deBruijn32tab), ("math/bits.deBruijn64tab", laid_math_bits_deBruijn64tab), ("internal/strconv.uint64pow10", laid_internal_strconv_uint64pow10), ("unicode/utf8.acceptRanges", laid_unicode_utf8_acceptRanges), ("library/custody.moves", laid_library_custody_moves), ("unicode/utf8.first", laid_unicode_utf8_first)], narrowed := true }
def InventoryPrintsUptoSaid : Prop := inventoryPrintsUptoRow.holds Tryz.pinned (OpenSpec.upto inventoryPrintsSpec)

/-- 'librarylaw53.InventoryKeeps', WHERE WHAT IT READS IS OF BULK AT MOST 1048576: true; the input reads as it did. -/
def inventoryKeepsUptoRow : OpenClaim := { program := "yteaknldbhmocpaagreatdoor", sum := "41a0e1a002c8d0c54e10d4f9cae7356379a4e086a8e0146312da9f51afd4f318", func := "library/librarylaw53.InventoryKeeps", spec := "inventoryKeeps", inPlace := ["slices.overlaps[library/api.Item]", "internal/abi.NoEscape", "internal/bytealg.MakeNoZero", "slices.overlaps[library/api.Patron]", "slices.overlaps[library/api.Loan]"], unfollowed := true, recurses := true, named := ["unicode/utf8.first", "unicode/utf8.acceptRanges", "library/custody.moves", "internal/strconv.uint64pow10", "math/bits.deBruijn32tab", "math/bits.deBruijn64tab"], apart := false, laid := [("math/bits.deBruijn32tab", laid_math_bits_deBruijn32tab), ("math/bits.deBruijn64tab", laid_math_bits_deBruijn64tab), ("internal/strconv.uint64pow10", laid_internal_strconv_uint64pow10), ("unicode/utf8.acceptRanges", laid_unicode_utf8_acceptRanges), ("library/custody.moves", laid_library_custody_moves), ("unicode/utf8.first", laid_unicode_utf8_first)], narrowed := true }
def InventoryKeepsUptoSaid : Prop := inventoryKeepsUptoRow.holds Tryz.pinned (OpenSpec.upto inventoryKeepsSpec)

/-- 'librarylaw53.InventoryExact', WHERE WHAT IT READS IS OF BULK AT MOST 1048576: true; the input reads as it did. -/
def inventoryExactUptoRow : OpenClaim := { program := "yteaknldbhmocpaagreatdoor", sum := "41a0e1a002c8d0c54e10d4f9cae7356379a4e086a8e0146312da9f51afd4f318", func := "library/librarylaw53.InventoryExact", spec := "inventoryExact", inPlace := ["slices.overlaps[library/api.Item]", "internal/abi.NoEscape", "internal/bytealg.MakeNoZero", "slices.overlaps[library/api.Patron]", "slices.overlaps[library/api.Loan]"], unfollowed := true, recurses := true, named := ["unicode/utf8.first", "unicode/utf8.acceptRanges", "library/custody.moves", "internal/strconv.uint64pow10", "math/bits.deBruijn32tab", "math/bits.deBruijn64tab"], apart := false, laid := [("math/bits.deBruijn32tab", laid_math_bits_deBruijn32tab), ("math/bits.deBruijn64tab", laid_math_bits_deBruijn64tab), ("internal/strconv.uint64pow10", laid_internal_strconv_uint64pow10), ("unicode/utf8.acceptRanges", laid_unicode_utf8_acceptRanges), ("library/custody.moves", laid_library_custody_moves), ("unicode/utf8.first", laid_unicode_utf8_first)], narrowed := true }
def InventoryExactUptoSaid : Prop := inventoryExactUptoRow.holds Tryz.pinned (OpenSpec.upto inventoryExactSpec)

/-- 'librarylaw53.InventoryExpects', WHERE WHAT IT READS IS OF BULK AT MOST 1048576: true; the input reads as it did. -/
def inventoryExpectsUptoRow : OpenClaim := { program := "yteaknldbhmocpaagreatdoor", sum := "41a0e1a002c8d0c54e10d4f9cae7356379a4e086a8e0146312da9f51afd4f318", func := "library/librarylaw53.InventoryExpects", spec := "inventoryExpects", inPlace := ["slices.overlaps[library/api.Item]", "internal/abi.NoEscape", "internal/bytealg.MakeNoZero", "slices.overlaps[library/api.Patron]", "slices.overlaps[library/api.Loan]"], unfollowed := true, recurses := true, named := ["unicode/utf8.first", "unicode/utf8.acceptRanges", "library/custody.moves", "internal/strconv.uint64pow10", "math/bits.deBruijn32tab", "math/bits.deBruijn64tab"], apart := false, laid := [("math/bits.deBruijn32tab", laid_math_bits_deBruijn32tab), ("math/bits.deBruijn64tab", laid_math_bits_deBruijn64tab), ("internal/strconv.uint64pow10", laid_internal_strconv_uint64pow10), ("unicode/utf8.acceptRanges", laid_unicode_utf8_acceptRanges), ("library/custody.moves", laid_library_custody_moves), ("unicode/utf8.first", laid_unicode_utf8_first)], narrowed := true }
def InventoryExpectsUptoSaid : Prop := inventoryExpectsUptoRow.holds Tryz.pinned (OpenSpec.upto inventoryExpectsSpec)

end Rows
end Go.Proofs.YteaknldbhmocpaaGreatDoor
