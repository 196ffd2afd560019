/-
  DERIVED. GIVEN WITH THE SEED: THE CARDS: each row of YtdahfgialanmpabGreatDoorRows.lean that lists a variable, with what it lists TIED to the program's text (the seventh form; the later family's looks); each row that meets fmt, with fmt's text TOLD by the authors' own Lean function (tested against real Go, not proved from fmt's source: count such statements apart). THE CARD IS WHAT COUNTS. Prove the row's statement (the work); the ties are given (YtdahfgialanmpabGreatDoorTie.lean); close each card by the builder's one call (the guide's Derived/Test/ToyasCard.lean, 'card_holds'). Laid BY PROGRAM, IN A SANDBOX (cutbox-door.mjs). By AI agents, Wed Nov 11 2026. No macro, syntax, notation, axiom, sorry.
-/
import Derived.Test.YtdahfgialanmpabGreatDoorRows
import GoSem.ClaimSeven
namespace Go.Proofs.YtdahfgialanmpabGreatDoor
namespace Rows

/-- THE TIED CARD OF 'librarylaw33.CircServes'. -/
def circServesCard : Claim7 := { stood := { row := circServesRow, standIns := [], harness := (true, "152206b468295c09f07cfe58f0e9bc0374c997f90507e7871cccfc4d7fea89a5"), looks := false }, kinds := [], alts := [], laidByText := true, laidKinds := [.data, .data, .pinned], laidTests := true, laidLooks := .later }
def CircServesCardSaid : Prop := Claim7.holds Tryz.pinned (.plain (OpenSpec.ofChange circServesSpec)) circServesCard

/-- THE SECOND FORM's CARD OF 'librarylaw33.CircServes'. -/
def circServesUptoCard : Claim7 := { stood := { row := circServesUptoRow, standIns := [], harness := (true, "152206b468295c09f07cfe58f0e9bc0374c997f90507e7871cccfc4d7fea89a5"), looks := false }, kinds := [], alts := [], laidByText := true, laidKinds := [.data, .data, .pinned], laidTests := true, laidLooks := .later }
def CircServesUptoCardSaid : Prop := Claim7.holds Tryz.pinned (.plain (OpenSpec.upto circServesSpec)) circServesUptoCard
end Rows
end Go.Proofs.YtdahfgialanmpabGreatDoor
