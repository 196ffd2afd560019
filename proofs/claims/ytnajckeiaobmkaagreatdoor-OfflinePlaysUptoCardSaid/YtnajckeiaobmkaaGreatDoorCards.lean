/-
  DERIVED. GIVEN WITH THE SEED: THE CARDS: each row of YtnajckeiaobmkaaGreatDoorRows.lean that lists a variable, with what it lists TIED to the program's text (the seventh form; the later family's looks); each row that meets fmt, with fmt's text TOLD by the authors' own Lean function (tested against real Go, not proved from fmt's source: count such statements apart). THE CARD IS WHAT COUNTS. Prove the row's statement (the work); the ties are given (YtnajckeiaobmkaaGreatDoorTie.lean); close each card by the builder's one call (the guide's Derived/Test/ToyasCard.lean, 'card_holds'). Laid BY PROGRAM, IN A SANDBOX (cutbox-door.mjs). By AI agents, Wed Nov 11 2026. No macro, syntax, notation, axiom, sorry.
-/
import Derived.Test.YtnajckeiaobmkaaGreatDoorRows
import GoSem.ClaimSeven
namespace Go.Proofs.YtnajckeiaobmkaaGreatDoor
namespace Rows

/-- THE TIED CARD OF 'librarylaw34.OfflinePlays'. -/
def offlinePlaysCard : Claim7 := { stood := { row := offlinePlaysRow, standIns := [], harness := (true, "19e2105d73bb68a18e5a32aad1ed20d6764efeac61a7ef8eea7a0b3a2205a471"), looks := true }, kinds := [], alts := [], laidByText := true, laidKinds := [.data, .data, .data, .data, .sentinel, .sentinel, .data, .pinned], laidTests := true, laidLooks := .later }
def OfflinePlaysCardSaid : Prop := Claim7.holds Tryz.pinned (.plain (OpenSpec.ofChange offlinePlaysSpec)) offlinePlaysCard

/-- THE SECOND FORM's CARD OF 'librarylaw34.OfflinePlays'. -/
def offlinePlaysUptoCard : Claim7 := { stood := { row := offlinePlaysUptoRow, standIns := [], harness := (true, "19e2105d73bb68a18e5a32aad1ed20d6764efeac61a7ef8eea7a0b3a2205a471"), looks := true }, kinds := [], alts := [], laidByText := true, laidKinds := [.data, .data, .data, .data, .sentinel, .sentinel, .data, .pinned], laidTests := true, laidLooks := .later }
def OfflinePlaysUptoCardSaid : Prop := Claim7.holds Tryz.pinned (.plain (OpenSpec.upto offlinePlaysSpec)) offlinePlaysUptoCard
end Rows
end Go.Proofs.YtnajckeiaobmkaaGreatDoor
