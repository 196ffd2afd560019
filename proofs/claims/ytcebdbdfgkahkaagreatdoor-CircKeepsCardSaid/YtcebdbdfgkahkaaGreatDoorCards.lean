/-
  DERIVED. GIVEN WITH THE SEED: THE CARDS: each row of YtcebdbdfgkahkaaGreatDoorRows.lean that lists a variable, with what it lists TIED to the program's text (the seventh form; the later family's looks); each row that meets fmt, with fmt's text TOLD by the authors' own Lean function (tested against real Go, not proved from fmt's source: count such statements apart). THE CARD IS WHAT COUNTS. Prove the row's statement (the work); the ties are given (YtcebdbdfgkahkaaGreatDoorTie.lean); close each card by the builder's one call (the guide's Derived/Test/ToyasCard.lean, 'card_holds'). Laid BY PROGRAM, IN A SANDBOX (cutbox-door.mjs). By AI agents, Wed Nov 11 2026. No macro, syntax, notation, axiom, sorry.
-/
import Derived.Test.YtcebdbdfgkahkaaGreatDoorRows
import GoSem.ClaimSeven
namespace Go.Proofs.YtcebdbdfgkahkaaGreatDoor
namespace Rows

/-- THE TIED CARD OF 'librarylaw33.CircKeeps'. -/
def circKeepsCard : Claim7 := { stood := { row := circKeepsRow, standIns := [], harness := (true, "34f04a586e526ededcb60161216852f8721a2b5532743eedc3763aecb5eccb23"), looks := false }, kinds := [], alts := [], laidByText := true, laidKinds := [.data, .data, .pinned], laidTests := true, laidLooks := .later }
def CircKeepsCardSaid : Prop := Claim7.holds Tryz.pinned (.plain (OpenSpec.ofChange circKeepsSpec)) circKeepsCard

/-- THE SECOND FORM's CARD OF 'librarylaw33.CircKeeps'. -/
def circKeepsUptoCard : Claim7 := { stood := { row := circKeepsUptoRow, standIns := [], harness := (true, "34f04a586e526ededcb60161216852f8721a2b5532743eedc3763aecb5eccb23"), looks := false }, kinds := [], alts := [], laidByText := true, laidKinds := [.data, .data, .pinned], laidTests := true, laidLooks := .later }
def CircKeepsUptoCardSaid : Prop := Claim7.holds Tryz.pinned (.plain (OpenSpec.upto circKeepsSpec)) circKeepsUptoCard
end Rows
end Go.Proofs.YtcebdbdfgkahkaaGreatDoor
