/-
  DERIVED. GIVEN WITH THE SEED: THE CARDS: each row of YtnajckeiaobmkabGreatDoorRows.lean that lists a variable, with what it lists TIED to the program's text (the seventh form; the later family's looks); each row that meets fmt, with fmt's text TOLD by the authors' own Lean function (tested against real Go, not proved from fmt's source: count such statements apart). THE CARD IS WHAT COUNTS. Prove the row's statement (the work); the ties are given (YtnajckeiaobmkabGreatDoorTie.lean); close each card by the builder's one call (the guide's Derived/Test/ToyasCard.lean, 'card_holds'). Laid BY PROGRAM, IN A SANDBOX (cutbox-door.mjs). By AI agents, Wed Nov 11 2026. No macro, syntax, notation, axiom, sorry.
-/
import Derived.Test.YtnajckeiaobmkabGreatDoorRows
import GoSem.ClaimSeven
namespace Go.Proofs.YtnajckeiaobmkabGreatDoor
namespace Rows

/-- THE TIED CARD OF 'librarylaw34.OfflineContinues'. -/
def offlineContinuesCard : Claim7 := { stood := { row := offlineContinuesRow, standIns := [], harness := (true, "8ca8abee8d48c1a6bdaec6e8124c240a63a55629dcf32c7b8c842e0fc5852192"), looks := true }, kinds := [], alts := [], laidByText := true, laidKinds := [.data, .data, .data, .data, .sentinel, .sentinel, .data, .pinned], laidTests := true, laidLooks := .later }
def OfflineContinuesCardSaid : Prop := Claim7.holds Tryz.pinned (.plain (OpenSpec.ofChange offlineContinuesSpec)) offlineContinuesCard

/-- THE SECOND FORM's CARD OF 'librarylaw34.OfflineContinues'. -/
def offlineContinuesUptoCard : Claim7 := { stood := { row := offlineContinuesUptoRow, standIns := [], harness := (true, "8ca8abee8d48c1a6bdaec6e8124c240a63a55629dcf32c7b8c842e0fc5852192"), looks := true }, kinds := [], alts := [], laidByText := true, laidKinds := [.data, .data, .data, .data, .sentinel, .sentinel, .data, .pinned], laidTests := true, laidLooks := .later }
def OfflineContinuesUptoCardSaid : Prop := Claim7.holds Tryz.pinned (.plain (OpenSpec.upto offlineContinuesSpec)) offlineContinuesUptoCard
end Rows
end Go.Proofs.YtnajckeiaobmkabGreatDoor
