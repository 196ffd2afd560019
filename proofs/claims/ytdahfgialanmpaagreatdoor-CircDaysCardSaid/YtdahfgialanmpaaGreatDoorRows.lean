/-
  NARROWER THAN 'FOR EVERY INPUT', by the rows' own cells (each row's printed sentence says how): CircRights: laid · CircAdds: laid · CircLends: laid · CircBacks: laid · CircRenews: laid · CircFirst: laid · CircReceives: laid · CircHolds: laid · CircOwes: laid · CircLoses: laid · CircDays: laid · CircKeeps: laid.
  DERIVED. THE GIVEN ROWS OF THIS SEAT. 12 by the template 'for every input the law returns true; each argument reads behind the call as it read before'; 0 by the template 'total and deterministic' (their statements: YtdahfgialanmpaaGreatDoorTotals.lean).
  GIVEN WITH THE SEED: the statements are not yours to turn. If you find one false, say at which input.
  Laid BY PROGRAM, IN A SANDBOX (cutbox-rows.mjs): the forced cells as the released guide's own fill.sh prints them over the translation 4e9018b857d869f1… (all of the seat's roots in one cut). By AI agents, Wed Nov 11 2026. No macro, syntax, notation, axiom, sorry.
-/
import Derived.Test.YtdahfgialanmpaaGreatDoorChecked
import GoSem.PinnedTables
import GoSem.Claim
import GoSem.ClaimJoined
import GoSem.ClaimMapViews
import Derived.JoinedTies
import Derived.KernelRfl
namespace Go.Proofs.YtdahfgialanmpaaGreatDoor
/- THE CELL 'sum', in the pinned program and in every row, IS THE sha256 OF THE DUMP (.gsa) THAT YtdahfgialanmpaaGreatDoorProg.lean LOADS. Nothing in Lean hashes anything: it is a label: what it is worth is what the hold of that sum in a sandbox is worth. -/
noncomputable def Tryz.pinned : Pinned := { name := "ytdahfgialanmpaagreatdoor", sum := "4e9018b857d869f1b5c88618e610c14c9bd3cefe9f8f597ac75d5e159221a5cf", checked := Tryz.checked }
namespace Rows
def none {H : Type} : Left H := { results := [], args := [] }

/- WHAT THE LISTED PACKAGE-LEVEL VARIABLES READ AS WHEN THE CALL BEGINS. Each datum BY PROGRAM (the guide's laid-datum.mjs) off the statement by which the dump's own 'gosem.cut.vars' lays the variable. In a bare row this is a premise. The card (YtdahfgialanmpaaGreatDoorCards.lean) ties it to the program's text. -/
def laid_unicode_utf8_acceptRanges {H : Type} : DataW H := .agg [.agg [.lit (.int .u8 128), .lit (.int .u8 191)], .agg [.lit (.int .u8 160), .lit (.int .u8 191)], .agg [.lit (.int .u8 128), .lit (.int .u8 159)], .agg [.lit (.int .u8 144), .lit (.int .u8 191)], .agg [.lit (.int .u8 128), .lit (.int .u8 143)], .agg [.lit (.int .u8 0), .lit (.int .u8 0)], .agg [.lit (.int .u8 0), .lit (.int .u8 0)], .agg [.lit (.int .u8 0), .lit (.int .u8 0)], .agg [.lit (.int .u8 0), .lit (.int .u8 0)], .agg [.lit (.int .u8 0), .lit (.int .u8 0)], .agg [.lit (.int .u8 0), .lit (.int .u8 0)], .agg [.lit (.int .u8 0), .lit (.int .u8 0)], .agg [.lit (.int .u8 0), .lit (.int .u8 0)], .agg [.lit (.int .u8 0), .lit (.int .u8 0)], .agg [.lit (.int .u8 0), .lit (.int .u8 0)], .agg [.lit (.int .u8 0), .lit (.int .u8 0)]]
def laid_library_custody_moves {H : Type} : DataW H := .agg [.lit (.int .u16 0), .lit (.int .u16 32770), .lit (.int .u16 41316), .lit (.int .u16 42344), .lit (.int .u16 6160), .lit (.int .u16 8268), .lit (.int .u16 8320), .lit (.int .u16 8704), .lit (.int .u16 16), .lit (.int .u16 4112), .lit (.int .u16 32784), .lit (.int .u16 49152), .lit (.int .u16 0)]
/-- One of Go's own tables, pinned by name: the form's constant. -/
def laid_unicode_utf8_first : DataW Unit := Go.Pinned.utf8First

/-- 'librarylaw33.CircRights': WHATEVER THE INPUT: true; the input reads as it did. -/
def circRightsSpec : ChangeSpec := { name := "circRights", fn := fun _ => fun
  | [d1, d2] => { results := [.lit (.bool true)], args := [d1, d2] }
  | _ => none }
def circRightsRow : OpenClaim := { program := "ytdahfgialanmpaagreatdoor", sum := "4e9018b857d869f1b5c88618e610c14c9bd3cefe9f8f597ac75d5e159221a5cf", func := "library/librarylaw33.CircRights", spec := "circRights", inPlace := ["slices.overlaps[library/api.Item]", "internal/abi.NoEscape", "internal/bytealg.MakeNoZero", "slices.overlaps[library/api.Patron]", "slices.overlaps[library/api.Loan]"], unfollowed := true, recurses := true, named := ["unicode/utf8.first", "unicode/utf8.acceptRanges", "library/custody.moves"], apart := false, laid := [("unicode/utf8.acceptRanges", laid_unicode_utf8_acceptRanges), ("library/custody.moves", laid_library_custody_moves), ("unicode/utf8.first", laid_unicode_utf8_first)] }
def CircRightsSaid : Prop := circRightsRow.holds Tryz.pinned (OpenSpec.ofChange circRightsSpec)

/-- ITS FALSE NEIGHBOUR: 'it returns false'. Refute it at one input. -/
def circRightsWrong : ChangeSpec := { name := "circRights", fn := fun _ => fun
  | [d1, d2] => { results := [.lit (.bool false)], args := [d1, d2] }
  | _ => none }
def CircRightsWrongFalsely : Prop := circRightsRow.holds Tryz.pinned (OpenSpec.ofChange circRightsWrong)

/-- 'librarylaw33.CircAdds': WHATEVER THE INPUT: true; the input reads as it did. -/
def circAddsSpec : ChangeSpec := { name := "circAdds", fn := fun _ => fun
  | [d1, d2, d3] => { results := [.lit (.bool true)], args := [d1, d2, d3] }
  | _ => none }
def circAddsRow : OpenClaim := { program := "ytdahfgialanmpaagreatdoor", sum := "4e9018b857d869f1b5c88618e610c14c9bd3cefe9f8f597ac75d5e159221a5cf", func := "library/librarylaw33.CircAdds", spec := "circAdds", inPlace := ["slices.overlaps[library/api.Item]", "internal/abi.NoEscape", "internal/bytealg.MakeNoZero", "slices.overlaps[library/api.Patron]", "slices.overlaps[library/api.Loan]"], unfollowed := true, recurses := true, named := ["unicode/utf8.first", "unicode/utf8.acceptRanges", "library/custody.moves"], apart := false, laid := [("unicode/utf8.acceptRanges", laid_unicode_utf8_acceptRanges), ("library/custody.moves", laid_library_custody_moves), ("unicode/utf8.first", laid_unicode_utf8_first)] }
def CircAddsSaid : Prop := circAddsRow.holds Tryz.pinned (OpenSpec.ofChange circAddsSpec)

/-- ITS FALSE NEIGHBOUR: 'it returns false'. Refute it at one input. -/
def circAddsWrong : ChangeSpec := { name := "circAdds", fn := fun _ => fun
  | [d1, d2, d3] => { results := [.lit (.bool false)], args := [d1, d2, d3] }
  | _ => none }
def CircAddsWrongFalsely : Prop := circAddsRow.holds Tryz.pinned (OpenSpec.ofChange circAddsWrong)

/-- 'librarylaw33.CircLends': WHATEVER THE INPUT: true; the input reads as it did. -/
def circLendsSpec : ChangeSpec := { name := "circLends", fn := fun _ => fun
  | [d1, d2, d3, d4] => { results := [.lit (.bool true)], args := [d1, d2, d3, d4] }
  | _ => none }
def circLendsRow : OpenClaim := { program := "ytdahfgialanmpaagreatdoor", sum := "4e9018b857d869f1b5c88618e610c14c9bd3cefe9f8f597ac75d5e159221a5cf", func := "library/librarylaw33.CircLends", spec := "circLends", inPlace := ["slices.overlaps[library/api.Item]", "internal/abi.NoEscape", "internal/bytealg.MakeNoZero", "slices.overlaps[library/api.Patron]", "slices.overlaps[library/api.Loan]"], unfollowed := true, recurses := true, named := ["unicode/utf8.first", "unicode/utf8.acceptRanges", "library/custody.moves"], apart := false, laid := [("unicode/utf8.acceptRanges", laid_unicode_utf8_acceptRanges), ("library/custody.moves", laid_library_custody_moves), ("unicode/utf8.first", laid_unicode_utf8_first)] }
def CircLendsSaid : Prop := circLendsRow.holds Tryz.pinned (OpenSpec.ofChange circLendsSpec)

/-- ITS FALSE NEIGHBOUR: 'it returns false'. Refute it at one input. -/
def circLendsWrong : ChangeSpec := { name := "circLends", fn := fun _ => fun
  | [d1, d2, d3, d4] => { results := [.lit (.bool false)], args := [d1, d2, d3, d4] }
  | _ => none }
def CircLendsWrongFalsely : Prop := circLendsRow.holds Tryz.pinned (OpenSpec.ofChange circLendsWrong)

/-- 'librarylaw33.CircBacks': WHATEVER THE INPUT: true; the input reads as it did. -/
def circBacksSpec : ChangeSpec := { name := "circBacks", fn := fun _ => fun
  | [d1, d2, d3] => { results := [.lit (.bool true)], args := [d1, d2, d3] }
  | _ => none }
def circBacksRow : OpenClaim := { program := "ytdahfgialanmpaagreatdoor", sum := "4e9018b857d869f1b5c88618e610c14c9bd3cefe9f8f597ac75d5e159221a5cf", func := "library/librarylaw33.CircBacks", spec := "circBacks", inPlace := ["slices.overlaps[library/api.Item]", "internal/abi.NoEscape", "internal/bytealg.MakeNoZero", "slices.overlaps[library/api.Patron]", "slices.overlaps[library/api.Loan]"], unfollowed := true, recurses := true, named := ["unicode/utf8.first", "unicode/utf8.acceptRanges", "library/custody.moves"], apart := false, laid := [("unicode/utf8.acceptRanges", laid_unicode_utf8_acceptRanges), ("library/custody.moves", laid_library_custody_moves), ("unicode/utf8.first", laid_unicode_utf8_first)] }
def CircBacksSaid : Prop := circBacksRow.holds Tryz.pinned (OpenSpec.ofChange circBacksSpec)

/-- ITS FALSE NEIGHBOUR: 'it returns false'. Refute it at one input. -/
def circBacksWrong : ChangeSpec := { name := "circBacks", fn := fun _ => fun
  | [d1, d2, d3] => { results := [.lit (.bool false)], args := [d1, d2, d3] }
  | _ => none }
def CircBacksWrongFalsely : Prop := circBacksRow.holds Tryz.pinned (OpenSpec.ofChange circBacksWrong)

/-- 'librarylaw33.CircRenews': WHATEVER THE INPUT: true; the input reads as it did. -/
def circRenewsSpec : ChangeSpec := { name := "circRenews", fn := fun _ => fun
  | [d1, d2, d3] => { results := [.lit (.bool true)], args := [d1, d2, d3] }
  | _ => none }
def circRenewsRow : OpenClaim := { program := "ytdahfgialanmpaagreatdoor", sum := "4e9018b857d869f1b5c88618e610c14c9bd3cefe9f8f597ac75d5e159221a5cf", func := "library/librarylaw33.CircRenews", spec := "circRenews", inPlace := ["slices.overlaps[library/api.Item]", "internal/abi.NoEscape", "internal/bytealg.MakeNoZero", "slices.overlaps[library/api.Patron]", "slices.overlaps[library/api.Loan]"], unfollowed := true, recurses := true, named := ["unicode/utf8.first", "unicode/utf8.acceptRanges", "library/custody.moves"], apart := false, laid := [("unicode/utf8.acceptRanges", laid_unicode_utf8_acceptRanges), ("library/custody.moves", laid_library_custody_moves), ("unicode/utf8.first", laid_unicode_utf8_first)] }
def CircRenewsSaid : Prop := circRenewsRow.holds Tryz.pinned (OpenSpec.ofChange circRenewsSpec)

/-- ITS FALSE NEIGHBOUR: 'it returns false'. Refute it at one input. -/
def circRenewsWrong : ChangeSpec := { name := "circRenews", fn := fun _ => fun
  | [d1, d2, d3] => { results := [.lit (.bool false)], args := [d1, d2, d3] }
  | _ => none }
def CircRenewsWrongFalsely : Prop := circRenewsRow.holds Tryz.pinned (OpenSpec.ofChange circRenewsWrong)

/-- 'librarylaw33.CircFirst': WHATEVER THE INPUT: true; the input reads as it did. -/
def circFirstSpec : ChangeSpec := { name := "circFirst", fn := fun _ => fun
  | [d1, d2, d3] => { results := [.lit (.bool true)], args := [d1, d2, d3] }
  | _ => none }
def circFirstRow : OpenClaim := { program := "ytdahfgialanmpaagreatdoor", sum := "4e9018b857d869f1b5c88618e610c14c9bd3cefe9f8f597ac75d5e159221a5cf", func := "library/librarylaw33.CircFirst", spec := "circFirst", inPlace := ["slices.overlaps[library/api.Item]", "internal/abi.NoEscape", "internal/bytealg.MakeNoZero", "slices.overlaps[library/api.Patron]", "slices.overlaps[library/api.Loan]"], unfollowed := true, recurses := true, named := ["unicode/utf8.first", "unicode/utf8.acceptRanges", "library/custody.moves"], apart := false, laid := [("unicode/utf8.acceptRanges", laid_unicode_utf8_acceptRanges), ("library/custody.moves", laid_library_custody_moves), ("unicode/utf8.first", laid_unicode_utf8_first)] }
def CircFirstSaid : Prop := circFirstRow.holds Tryz.pinned (OpenSpec.ofChange circFirstSpec)

/-- ITS FALSE NEIGHBOUR: 'it returns false'. Refute it at one input. -/
def circFirstWrong : ChangeSpec := { name := "circFirst", fn := fun _ => fun
  | [d1, d2, d3] => { results := [.lit (.bool false)], args := [d1, d2, d3] }
  | _ => none }
def CircFirstWrongFalsely : Prop := circFirstRow.holds Tryz.pinned (OpenSpec.ofChange circFirstWrong)

/-- 'librarylaw33.CircReceives': WHATEVER THE INPUT: true; the input reads as it did. -/
def circReceivesSpec : ChangeSpec := { name := "circReceives", fn := fun _ => fun
  | [d1, d2, d3, d4] => { results := [.lit (.bool true)], args := [d1, d2, d3, d4] }
  | _ => none }
def circReceivesRow : OpenClaim := { program := "ytdahfgialanmpaagreatdoor", sum := "4e9018b857d869f1b5c88618e610c14c9bd3cefe9f8f597ac75d5e159221a5cf", func := "library/librarylaw33.CircReceives", spec := "circReceives", inPlace := ["slices.overlaps[library/api.Item]", "internal/abi.NoEscape", "internal/bytealg.MakeNoZero", "slices.overlaps[library/api.Patron]", "slices.overlaps[library/api.Loan]"], unfollowed := true, recurses := true, named := ["unicode/utf8.first", "unicode/utf8.acceptRanges", "library/custody.moves"], apart := false, laid := [("unicode/utf8.acceptRanges", laid_unicode_utf8_acceptRanges), ("library/custody.moves", laid_library_custody_moves), ("unicode/utf8.first", laid_unicode_utf8_first)] }
def CircReceivesSaid : Prop := circReceivesRow.holds Tryz.pinned (OpenSpec.ofChange circReceivesSpec)

/-- ITS FALSE NEIGHBOUR: 'it returns false'. Refute it at one input. -/
def circReceivesWrong : ChangeSpec := { name := "circReceives", fn := fun _ => fun
  | [d1, d2, d3, d4] => { results := [.lit (.bool false)], args := [d1, d2, d3, d4] }
  | _ => none }
def CircReceivesWrongFalsely : Prop := circReceivesRow.holds Tryz.pinned (OpenSpec.ofChange circReceivesWrong)

/-- 'librarylaw33.CircHolds': WHATEVER THE INPUT: true; the input reads as it did. -/
def circHoldsSpec : ChangeSpec := { name := "circHolds", fn := fun _ => fun
  | [d1, d2] => { results := [.lit (.bool true)], args := [d1, d2] }
  | _ => none }
def circHoldsRow : OpenClaim := { program := "ytdahfgialanmpaagreatdoor", sum := "4e9018b857d869f1b5c88618e610c14c9bd3cefe9f8f597ac75d5e159221a5cf", func := "library/librarylaw33.CircHolds", spec := "circHolds", inPlace := ["slices.overlaps[library/api.Item]", "internal/abi.NoEscape", "internal/bytealg.MakeNoZero", "slices.overlaps[library/api.Patron]", "slices.overlaps[library/api.Loan]"], unfollowed := true, recurses := true, named := ["unicode/utf8.first", "unicode/utf8.acceptRanges", "library/custody.moves"], apart := false, laid := [("unicode/utf8.acceptRanges", laid_unicode_utf8_acceptRanges), ("library/custody.moves", laid_library_custody_moves), ("unicode/utf8.first", laid_unicode_utf8_first)] }
def CircHoldsSaid : Prop := circHoldsRow.holds Tryz.pinned (OpenSpec.ofChange circHoldsSpec)

/-- ITS FALSE NEIGHBOUR: 'it returns false'. Refute it at one input. -/
def circHoldsWrong : ChangeSpec := { name := "circHolds", fn := fun _ => fun
  | [d1, d2] => { results := [.lit (.bool false)], args := [d1, d2] }
  | _ => none }
def CircHoldsWrongFalsely : Prop := circHoldsRow.holds Tryz.pinned (OpenSpec.ofChange circHoldsWrong)

/-- 'librarylaw33.CircOwes': WHATEVER THE INPUT: true; the input reads as it did. -/
def circOwesSpec : ChangeSpec := { name := "circOwes", fn := fun _ => fun
  | [d1, d2, d3] => { results := [.lit (.bool true)], args := [d1, d2, d3] }
  | _ => none }
def circOwesRow : OpenClaim := { program := "ytdahfgialanmpaagreatdoor", sum := "4e9018b857d869f1b5c88618e610c14c9bd3cefe9f8f597ac75d5e159221a5cf", func := "library/librarylaw33.CircOwes", spec := "circOwes", inPlace := ["slices.overlaps[library/api.Item]", "internal/abi.NoEscape", "internal/bytealg.MakeNoZero", "slices.overlaps[library/api.Patron]", "slices.overlaps[library/api.Loan]"], unfollowed := true, recurses := true, named := ["unicode/utf8.first", "unicode/utf8.acceptRanges", "library/custody.moves"], apart := false, laid := [("unicode/utf8.acceptRanges", laid_unicode_utf8_acceptRanges), ("library/custody.moves", laid_library_custody_moves), ("unicode/utf8.first", laid_unicode_utf8_first)] }
def CircOwesSaid : Prop := circOwesRow.holds Tryz.pinned (OpenSpec.ofChange circOwesSpec)

/-- ITS FALSE NEIGHBOUR: 'it returns false'. Refute it at one input. -/
def circOwesWrong : ChangeSpec := { name := "circOwes", fn := fun _ => fun
  | [d1, d2, d3] => { results := [.lit (.bool false)], args := [d1, d2, d3] }
  | _ => none }
def CircOwesWrongFalsely : Prop := circOwesRow.holds Tryz.pinned (OpenSpec.ofChange circOwesWrong)

/-- 'librarylaw33.CircLoses': WHATEVER THE INPUT: true; the input reads as it did. -/
def circLosesSpec : ChangeSpec := { name := "circLoses", fn := fun _ => fun
  | [d1, d2, d3] => { results := [.lit (.bool true)], args := [d1, d2, d3] }
  | _ => none }
def circLosesRow : OpenClaim := { program := "ytdahfgialanmpaagreatdoor", sum := "4e9018b857d869f1b5c88618e610c14c9bd3cefe9f8f597ac75d5e159221a5cf", func := "library/librarylaw33.CircLoses", spec := "circLoses", inPlace := ["slices.overlaps[library/api.Item]", "internal/abi.NoEscape", "internal/bytealg.MakeNoZero", "slices.overlaps[library/api.Patron]", "slices.overlaps[library/api.Loan]"], unfollowed := true, recurses := true, named := ["unicode/utf8.first", "unicode/utf8.acceptRanges", "library/custody.moves"], apart := false, laid := [("unicode/utf8.acceptRanges", laid_unicode_utf8_acceptRanges), ("library/custody.moves", laid_library_custody_moves), ("unicode/utf8.first", laid_unicode_utf8_first)] }
def CircLosesSaid : Prop := circLosesRow.holds Tryz.pinned (OpenSpec.ofChange circLosesSpec)

/-- ITS FALSE NEIGHBOUR: 'it returns false'. Refute it at one input. -/
def circLosesWrong : ChangeSpec := { name := "circLoses", fn := fun _ => fun
  | [d1, d2, d3] => { results := [.lit (.bool false)], args := [d1, d2, d3] }
  | _ => none }
def CircLosesWrongFalsely : Prop := circLosesRow.holds Tryz.pinned (OpenSpec.ofChange circLosesWrong)

/-- 'librarylaw33.CircDays': WHATEVER THE INPUT: true; the input reads as it did. -/
def circDaysSpec : ChangeSpec := { name := "circDays", fn := fun _ => fun
  | [d1, d2, d3] => { results := [.lit (.bool true)], args := [d1, d2, d3] }
  | _ => none }
def circDaysRow : OpenClaim := { program := "ytdahfgialanmpaagreatdoor", sum := "4e9018b857d869f1b5c88618e610c14c9bd3cefe9f8f597ac75d5e159221a5cf", func := "library/librarylaw33.CircDays", spec := "circDays", inPlace := ["slices.overlaps[library/api.Item]", "internal/abi.NoEscape", "internal/bytealg.MakeNoZero", "slices.overlaps[library/api.Patron]", "slices.overlaps[library/api.Loan]"], unfollowed := true, recurses := true, named := ["unicode/utf8.first", "unicode/utf8.acceptRanges", "library/custody.moves"], apart := false, laid := [("unicode/utf8.acceptRanges", laid_unicode_utf8_acceptRanges), ("library/custody.moves", laid_library_custody_moves), ("unicode/utf8.first", laid_unicode_utf8_first)] }
def CircDaysSaid : Prop := circDaysRow.holds Tryz.pinned (OpenSpec.ofChange circDaysSpec)

/-- ITS FALSE NEIGHBOUR: 'it returns false'. Refute it at one input. -/
def circDaysWrong : ChangeSpec := { name := "circDays", fn := fun _ => fun
  | [d1, d2, d3] => { results := [.lit (.bool false)], args := [d1, d2, d3] }
  | _ => none }
def CircDaysWrongFalsely : Prop := circDaysRow.holds Tryz.pinned (OpenSpec.ofChange circDaysWrong)

/-- 'librarylaw33.CircKeeps': WHATEVER THE INPUT: true; the input reads as it did. -/
def circKeepsSpec : ChangeSpec := { name := "circKeeps", fn := fun _ => fun
  | [d1, d2] => { results := [.lit (.bool true)], args := [d1, d2] }
  | _ => none }
def circKeepsRow : OpenClaim := { program := "ytdahfgialanmpaagreatdoor", sum := "4e9018b857d869f1b5c88618e610c14c9bd3cefe9f8f597ac75d5e159221a5cf", func := "library/librarylaw33.CircKeeps", spec := "circKeeps", inPlace := ["slices.overlaps[library/api.Item]", "internal/abi.NoEscape", "internal/bytealg.MakeNoZero", "slices.overlaps[library/api.Patron]", "slices.overlaps[library/api.Loan]"], unfollowed := true, recurses := true, named := ["unicode/utf8.first", "unicode/utf8.acceptRanges", "library/custody.moves"], apart := false, laid := [("unicode/utf8.acceptRanges", laid_unicode_utf8_acceptRanges), ("library/custody.moves", laid_library_custody_moves), ("unicode/utf8.first", laid_unicode_utf8_first)] }
def CircKeepsSaid : Prop := circKeepsRow.holds Tryz.pinned (OpenSpec.ofChange circKeepsSpec)

/-- ITS FALSE NEIGHBOUR: 'it returns false'. Refute it at one input. -/
def circKeepsWrong : ChangeSpec := { name := "circKeeps", fn := fun _ => fun
  | [d1, d2] => { results := [.lit (.bool false)], args := [d1, d2] }
  | _ => none }
def CircKeepsWrongFalsely : Prop := circKeepsRow.holds Tryz.pinned (OpenSpec.ofChange circKeepsWrong)

/- THE SECOND FORM. 'bulk': how many values and letters a reading holds, each counted each time it is reached (what is shared counts as often as it is met; a slice's spare places count too). A statement '..UptoSaid' is the law's where the arguments, and the package variables that the reading takes, are together of bulk at most 1048576: NARROWER than '..Said'. Prove '..Said' where nothing that the law and all that it calls make is longer than what came in: it says more and counts as full. Else prove '..UptoSaid'. A law counts once. -/
mutual
def uptoBulk {H : Type} : DataW H → Nat
  | .lit (.string bytes) => bytes.length + 1
  | .lit _ => 1
  | .nil => 1
  | .ptr d => uptoBulk d + 1
  | .slice elems spare => uptoBulkAll elems + uptoBulkAll spare + 1
  | .agg parts => uptoBulkAll parts + 1
  | .iface _ d => uptoBulk d + 1
  | .map entries => uptoBulkEntries entries + 1
  | .held _ => 1
def uptoBulkAll {H : Type} : List (DataW H) → Nat
  | [] => 0
  | d :: r => uptoBulk d + uptoBulkAll r
def uptoBulkEntries {H : Type} : List (Lit × DataW H) → Nat
  | [] => 0
  | x :: r => uptoBulkEntry x + uptoBulkEntries r
def uptoBulkEntry {H : Type} : Lit × DataW H → Nat
  | (.string bytes, d) => bytes.length + uptoBulk d + 1
  | (_, d) => uptoBulk d + 1
 end
def uptoSmall : (H : Type) → List (DataW H) → Bool := fun _ ds => decide (uptoBulkAll ds ≤ 1048576)
def OpenSpec.upto (s : _root_.Go.ChangeSpec) : _root_.Go.OpenSpec := { _root_.Go.OpenSpec.ofChange s with cond := some uptoSmall }

/-- 'librarylaw33.CircRights', WHERE WHAT IT READS IS OF BULK AT MOST 1048576: true; the input reads as it did. -/
def circRightsUptoRow : OpenClaim := { program := "ytdahfgialanmpaagreatdoor", sum := "4e9018b857d869f1b5c88618e610c14c9bd3cefe9f8f597ac75d5e159221a5cf", func := "library/librarylaw33.CircRights", spec := "circRights", inPlace := ["slices.overlaps[library/api.Item]", "internal/abi.NoEscape", "internal/bytealg.MakeNoZero", "slices.overlaps[library/api.Patron]", "slices.overlaps[library/api.Loan]"], unfollowed := true, recurses := true, named := ["unicode/utf8.first", "unicode/utf8.acceptRanges", "library/custody.moves"], apart := false, laid := [("unicode/utf8.acceptRanges", laid_unicode_utf8_acceptRanges), ("library/custody.moves", laid_library_custody_moves), ("unicode/utf8.first", laid_unicode_utf8_first)], narrowed := true }
def CircRightsUptoSaid : Prop := circRightsUptoRow.holds Tryz.pinned (OpenSpec.upto circRightsSpec)

/-- 'librarylaw33.CircAdds', WHERE WHAT IT READS IS OF BULK AT MOST 1048576: true; the input reads as it did. -/
def circAddsUptoRow : OpenClaim := { program := "ytdahfgialanmpaagreatdoor", sum := "4e9018b857d869f1b5c88618e610c14c9bd3cefe9f8f597ac75d5e159221a5cf", func := "library/librarylaw33.CircAdds", spec := "circAdds", inPlace := ["slices.overlaps[library/api.Item]", "internal/abi.NoEscape", "internal/bytealg.MakeNoZero", "slices.overlaps[library/api.Patron]", "slices.overlaps[library/api.Loan]"], unfollowed := true, recurses := true, named := ["unicode/utf8.first", "unicode/utf8.acceptRanges", "library/custody.moves"], apart := false, laid := [("unicode/utf8.acceptRanges", laid_unicode_utf8_acceptRanges), ("library/custody.moves", laid_library_custody_moves), ("unicode/utf8.first", laid_unicode_utf8_first)], narrowed := true }
def CircAddsUptoSaid : Prop := circAddsUptoRow.holds Tryz.pinned (OpenSpec.upto circAddsSpec)

/-- 'librarylaw33.CircLends', WHERE WHAT IT READS IS OF BULK AT MOST 1048576: true; the input reads as it did. -/
def circLendsUptoRow : OpenClaim := { program := "ytdahfgialanmpaagreatdoor", sum := "4e9018b857d869f1b5c88618e610c14c9bd3cefe9f8f597ac75d5e159221a5cf", func := "library/librarylaw33.CircLends", spec := "circLends", inPlace := ["slices.overlaps[library/api.Item]", "internal/abi.NoEscape", "internal/bytealg.MakeNoZero", "slices.overlaps[library/api.Patron]", "slices.overlaps[library/api.Loan]"], unfollowed := true, recurses := true, named := ["unicode/utf8.first", "unicode/utf8.acceptRanges", "library/custody.moves"], apart := false, laid := [("unicode/utf8.acceptRanges", laid_unicode_utf8_acceptRanges), ("library/custody.moves", laid_library_custody_moves), ("unicode/utf8.first", laid_unicode_utf8_first)], narrowed := true }
def CircLendsUptoSaid : Prop := circLendsUptoRow.holds Tryz.pinned (OpenSpec.upto circLendsSpec)

/-- 'librarylaw33.CircBacks', WHERE WHAT IT READS IS OF BULK AT MOST 1048576: true; the input reads as it did. -/
def circBacksUptoRow : OpenClaim := { program := "ytdahfgialanmpaagreatdoor", sum := "4e9018b857d869f1b5c88618e610c14c9bd3cefe9f8f597ac75d5e159221a5cf", func := "library/librarylaw33.CircBacks", spec := "circBacks", inPlace := ["slices.overlaps[library/api.Item]", "internal/abi.NoEscape", "internal/bytealg.MakeNoZero", "slices.overlaps[library/api.Patron]", "slices.overlaps[library/api.Loan]"], unfollowed := true, recurses := true, named := ["unicode/utf8.first", "unicode/utf8.acceptRanges", "library/custody.moves"], apart := false, laid := [("unicode/utf8.acceptRanges", laid_unicode_utf8_acceptRanges), ("library/custody.moves", laid_library_custody_moves), ("unicode/utf8.first", laid_unicode_utf8_first)], narrowed := true }
def CircBacksUptoSaid : Prop := circBacksUptoRow.holds Tryz.pinned (OpenSpec.upto circBacksSpec)

/-- 'librarylaw33.CircRenews', WHERE WHAT IT READS IS OF BULK AT MOST 1048576: true; the input reads as it did. -/
def circRenewsUptoRow : OpenClaim := { program := "ytdahfgialanmpaagreatdoor", sum := "4e9018b857d869f1b5c88618e610c14c9bd3cefe9f8f597ac75d5e159221a5cf", func := "library/librarylaw33.CircRenews", spec := "circRenews", inPlace := ["slices.overlaps[library/api.Item]", "internal/abi.NoEscape", "internal/bytealg.MakeNoZero", "slices.overlaps[library/api.Patron]", "slices.overlaps[library/api.Loan]"], unfollowed := true, recurses := true, named := ["unicode/utf8.first", "unicode/utf8.acceptRanges", "library/custody.moves"], apart := false, laid := [("unicode/utf8.acceptRanges", laid_unicode_utf8_acceptRanges), ("library/custody.moves", laid_library_custody_moves), ("unicode/utf8.first", laid_unicode_utf8_first)], narrowed := true }
def CircRenewsUptoSaid : Prop := circRenewsUptoRow.holds Tryz.pinned (OpenSpec.upto circRenewsSpec)

/-- 'librarylaw33.CircFirst', WHERE WHAT IT READS IS OF BULK AT MOST 1048576: true; the input reads as it did. -/
def circFirstUptoRow : OpenClaim := { program := "ytdahfgialanmpaagreatdoor", sum := "4e9018b857d869f1b5c88618e610c14c9bd3cefe9f8f597ac75d5e159221a5cf", func := "library/librarylaw33.CircFirst", spec := "circFirst", inPlace := ["slices.overlaps[library/api.Item]", "internal/abi.NoEscape", "internal/bytealg.MakeNoZero", "slices.overlaps[library/api.Patron]", "slices.overlaps[library/api.Loan]"], unfollowed := true, recurses := true, named := ["unicode/utf8.first", "unicode/utf8.acceptRanges", "library/custody.moves"], apart := false, laid := [("unicode/utf8.acceptRanges", laid_unicode_utf8_acceptRanges), ("library/custody.moves", laid_library_custody_moves), ("unicode/utf8.first", laid_unicode_utf8_first)], narrowed := true }
def CircFirstUptoSaid : Prop := circFirstUptoRow.holds Tryz.pinned (OpenSpec.upto circFirstSpec)

/-- 'librarylaw33.CircReceives', WHERE WHAT IT READS IS OF BULK AT MOST 1048576: true; the input reads as it did. -/
def circReceivesUptoRow : OpenClaim := { program := "ytdahfgialanmpaagreatdoor", sum := "4e9018b857d869f1b5c88618e610c14c9bd3cefe9f8f597ac75d5e159221a5cf", func := "library/librarylaw33.CircReceives", spec := "circReceives", inPlace := ["slices.overlaps[library/api.Item]", "internal/abi.NoEscape", "internal/bytealg.MakeNoZero", "slices.overlaps[library/api.Patron]", "slices.overlaps[library/api.Loan]"], unfollowed := true, recurses := true, named := ["unicode/utf8.first", "unicode/utf8.acceptRanges", "library/custody.moves"], apart := false, laid := [("unicode/utf8.acceptRanges", laid_unicode_utf8_acceptRanges), ("library/custody.moves", laid_library_custody_moves), ("unicode/utf8.first", laid_unicode_utf8_first)], narrowed := true }
def CircReceivesUptoSaid : Prop := circReceivesUptoRow.holds Tryz.pinned (OpenSpec.upto circReceivesSpec)

/-- 'librarylaw33.CircHolds', WHERE WHAT IT READS IS OF BULK AT MOST 1048576: true; the input reads as it did. -/
def circHoldsUptoRow : OpenClaim := { program := "ytdahfgialanmpaagreatdoor", sum := "4e9018b857d869f1b5c88618e610c14c9bd3cefe9f8f597ac75d5e159221a5cf", func := "library/librarylaw33.CircHolds", spec := "circHolds", inPlace := ["slices.overlaps[library/api.Item]", "internal/abi.NoEscape", "internal/bytealg.MakeNoZero", "slices.overlaps[library/api.Patron]", "slices.overlaps[library/api.Loan]"], unfollowed := true, recurses := true, named := ["unicode/utf8.first", "unicode/utf8.acceptRanges", "library/custody.moves"], apart := false, laid := [("unicode/utf8.acceptRanges", laid_unicode_utf8_acceptRanges), ("library/custody.moves", laid_library_custody_moves), ("unicode/utf8.first", laid_unicode_utf8_first)], narrowed := true }
def CircHoldsUptoSaid : Prop := circHoldsUptoRow.holds Tryz.pinned (OpenSpec.upto circHoldsSpec)

/-- 'librarylaw33.CircOwes', WHERE WHAT IT READS IS OF BULK AT MOST 1048576: true; the input reads as it did. -/
def circOwesUptoRow : OpenClaim := { program := "ytdahfgialanmpaagreatdoor", sum := "4e9018b857d869f1b5c88618e610c14c9bd3cefe9f8f597ac75d5e159221a5cf", func := "library/librarylaw33.CircOwes", spec := "circOwes", inPlace := ["slices.overlaps[library/api.Item]", "internal/abi.NoEscape", "internal/bytealg.MakeNoZero", "slices.overlaps[library/api.Patron]", "slices.overlaps[library/api.Loan]"], unfollowed := true, recurses := true, named := ["unicode/utf8.first", "unicode/utf8.acceptRanges", "library/custody.moves"], apart := false, laid := [("unicode/utf8.acceptRanges", laid_unicode_utf8_acceptRanges), ("library/custody.moves", laid_library_custody_moves), ("unicode/utf8.first", laid_unicode_utf8_first)], narrowed := true }
def CircOwesUptoSaid : Prop := circOwesUptoRow.holds Tryz.pinned (OpenSpec.upto circOwesSpec)

/-- 'librarylaw33.CircLoses', WHERE WHAT IT READS IS OF BULK AT MOST 1048576: true; the input reads as it did. -/
def circLosesUptoRow : OpenClaim := { program := "ytdahfgialanmpaagreatdoor", sum := "4e9018b857d869f1b5c88618e610c14c9bd3cefe9f8f597ac75d5e159221a5cf", func := "library/librarylaw33.CircLoses", spec := "circLoses", inPlace := ["slices.overlaps[library/api.Item]", "internal/abi.NoEscape", "internal/bytealg.MakeNoZero", "slices.overlaps[library/api.Patron]", "slices.overlaps[library/api.Loan]"], unfollowed := true, recurses := true, named := ["unicode/utf8.first", "unicode/utf8.acceptRanges", "library/custody.moves"], apart := false, laid := [("unicode/utf8.acceptRanges", laid_unicode_utf8_acceptRanges), ("library/custody.moves", laid_library_custody_moves), ("unicode/utf8.first", laid_unicode_utf8_first)], narrowed := true }
def CircLosesUptoSaid : Prop := circLosesUptoRow.holds Tryz.pinned (OpenSpec.upto circLosesSpec)

/-- 'librarylaw33.CircDays', WHERE WHAT IT READS IS OF BULK AT MOST 1048576: true; the input reads as it did. -/
def circDaysUptoRow : OpenClaim := { program := "ytdahfgialanmpaagreatdoor", sum := "4e9018b857d869f1b5c88618e610c14c9bd3cefe9f8f597ac75d5e159221a5cf", func := "library/librarylaw33.CircDays", spec := "circDays", inPlace := ["slices.overlaps[library/api.Item]", "internal/abi.NoEscape", "internal/bytealg.MakeNoZero", "slices.overlaps[library/api.Patron]", "slices.overlaps[library/api.Loan]"], unfollowed := true, recurses := true, named := ["unicode/utf8.first", "unicode/utf8.acceptRanges", "library/custody.moves"], apart := false, laid := [("unicode/utf8.acceptRanges", laid_unicode_utf8_acceptRanges), ("library/custody.moves", laid_library_custody_moves), ("unicode/utf8.first", laid_unicode_utf8_first)], narrowed := true }
def CircDaysUptoSaid : Prop := circDaysUptoRow.holds Tryz.pinned (OpenSpec.upto circDaysSpec)

/-- 'librarylaw33.CircKeeps', WHERE WHAT IT READS IS OF BULK AT MOST 1048576: true; the input reads as it did. -/
def circKeepsUptoRow : OpenClaim := { program := "ytdahfgialanmpaagreatdoor", sum := "4e9018b857d869f1b5c88618e610c14c9bd3cefe9f8f597ac75d5e159221a5cf", func := "library/librarylaw33.CircKeeps", spec := "circKeeps", inPlace := ["slices.overlaps[library/api.Item]", "internal/abi.NoEscape", "internal/bytealg.MakeNoZero", "slices.overlaps[library/api.Patron]", "slices.overlaps[library/api.Loan]"], unfollowed := true, recurses := true, named := ["unicode/utf8.first", "unicode/utf8.acceptRanges", "library/custody.moves"], apart := false, laid := [("unicode/utf8.acceptRanges", laid_unicode_utf8_acceptRanges), ("library/custody.moves", laid_library_custody_moves), ("unicode/utf8.first", laid_unicode_utf8_first)], narrowed := true }
def CircKeepsUptoSaid : Prop := circKeepsUptoRow.holds Tryz.pinned (OpenSpec.upto circKeepsSpec)

end Rows
end Go.Proofs.YtdahfgialanmpaaGreatDoor
