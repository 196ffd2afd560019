/-
  DERIVED. GIVEN WITH THE SEED: THE CARDS: each row of YteaknldbhmocpaaGreatDoorRows.lean that lists a variable, with what it lists TIED to the program's text (the seventh form; the later family's looks); each row that meets fmt, with fmt's text TOLD by the authors' own Lean function (tested against real Go, not proved from fmt's source: count such statements apart). THE CARD IS WHAT COUNTS. Prove the row's statement (the work); the ties are given (YteaknldbhmocpaaGreatDoorTie.lean); close each card by the builder's one call (the guide's Derived/Test/ToyasCard.lean, 'card_holds'). Laid BY PROGRAM, IN A SANDBOX (cutbox-door.mjs). By AI agents, Wed Nov 11 2026. No macro, syntax, notation, axiom, sorry.
-/
import Derived.Test.YteaknldbhmocpaaGreatDoorRows
import GoSem.ClaimSeven
namespace Go.Proofs.YteaknldbhmocpaaGreatDoor
namespace Rows

/-- THE TIED CARD OF 'librarylaw53.InventoryCompares'. -/
def inventoryComparesCard : Claim7 := { stood := { row := inventoryComparesRow, standIns := [], harness := (true, "6c6f2def04e2bbefcb032a0c6f6239298fe268cf128fc653653a4beac01f4363"), looks := false }, kinds := [], alts := [], laidByText := true, laidKinds := [.data, .data, .data, .data, .data, .pinned], laidTests := true, laidLooks := .later }
def InventoryComparesCardSaid : Prop := Claim7.holds Tryz.pinned (.plain (OpenSpec.ofChange inventoryComparesSpec)) inventoryComparesCard

/-- THE TIED CARD OF 'librarylaw53.InventorySettles'. -/
def inventorySettlesCard : Claim7 := { stood := { row := inventorySettlesRow, standIns := [], harness := (true, "6c6f2def04e2bbefcb032a0c6f6239298fe268cf128fc653653a4beac01f4363"), looks := false }, kinds := [], alts := [], laidByText := true, laidKinds := [.data, .data, .data, .data, .data, .pinned], laidTests := true, laidLooks := .later }
def InventorySettlesCardSaid : Prop := Claim7.holds Tryz.pinned (.plain (OpenSpec.ofChange inventorySettlesSpec)) inventorySettlesCard

/-- THE TIED CARD OF 'librarylaw53.InventoryPrints'. -/
def inventoryPrintsCard : Claim7 := { stood := { row := inventoryPrintsRow, standIns := [], harness := (true, "6c6f2def04e2bbefcb032a0c6f6239298fe268cf128fc653653a4beac01f4363"), looks := false }, kinds := [], alts := [], laidByText := true, laidKinds := [.data, .data, .data, .data, .data, .pinned], laidTests := true, laidLooks := .later }
def InventoryPrintsCardSaid : Prop := Claim7.holds Tryz.pinned (.plain (OpenSpec.ofChange inventoryPrintsSpec)) inventoryPrintsCard

/-- THE TIED CARD OF 'librarylaw53.InventoryKeeps'. -/
def inventoryKeepsCard : Claim7 := { stood := { row := inventoryKeepsRow, standIns := [], harness := (true, "6c6f2def04e2bbefcb032a0c6f6239298fe268cf128fc653653a4beac01f4363"), looks := false }, kinds := [], alts := [], laidByText := true, laidKinds := [.data, .data, .data, .data, .data, .pinned], laidTests := true, laidLooks := .later }
def InventoryKeepsCardSaid : Prop := Claim7.holds Tryz.pinned (.plain (OpenSpec.ofChange inventoryKeepsSpec)) inventoryKeepsCard

/-- THE TIED CARD OF 'librarylaw53.InventoryExact'. -/
def inventoryExactCard : Claim7 := { stood := { row := inventoryExactRow, standIns := [], harness := (true, "6c6f2def04e2bbefcb032a0c6f6239298fe268cf128fc653653a4beac01f4363"), looks := false }, kinds := [], alts := [], laidByText := true, laidKinds := [.data, .data, .data, .data, .data, .pinned], laidTests := true, laidLooks := .later }
def InventoryExactCardSaid : Prop := Claim7.holds Tryz.pinned (.plain (OpenSpec.ofChange inventoryExactSpec)) inventoryExactCard

/-- THE TIED CARD OF 'librarylaw53.InventoryExpects'. -/
def inventoryExpectsCard : Claim7 := { stood := { row := inventoryExpectsRow, standIns := [], harness := (true, "6c6f2def04e2bbefcb032a0c6f6239298fe268cf128fc653653a4beac01f4363"), looks := false }, kinds := [], alts := [], laidByText := true, laidKinds := [.data, .data, .data, .data, .data, .pinned], laidTests := true, laidLooks := .later }
def InventoryExpectsCardSaid : Prop := Claim7.holds Tryz.pinned (.plain (OpenSpec.ofChange inventoryExpectsSpec)) inventoryExpectsCard

/-- THE SECOND FORM's CARD OF 'librarylaw53.InventoryCompares'. -/
def inventoryComparesUptoCard : Claim7 := { stood := { row := inventoryComparesUptoRow, standIns := [], harness := (true, "6c6f2def04e2bbefcb032a0c6f6239298fe268cf128fc653653a4beac01f4363"), looks := false }, kinds := [], alts := [], laidByText := true, laidKinds := [.data, .data, .data, .data, .data, .pinned], laidTests := true, laidLooks := .later }
def InventoryComparesUptoCardSaid : Prop := Claim7.holds Tryz.pinned (.plain (OpenSpec.upto inventoryComparesSpec)) inventoryComparesUptoCard

/-- THE SECOND FORM's CARD OF 'librarylaw53.InventorySettles'. -/
def inventorySettlesUptoCard : Claim7 := { stood := { row := inventorySettlesUptoRow, standIns := [], harness := (true, "6c6f2def04e2bbefcb032a0c6f6239298fe268cf128fc653653a4beac01f4363"), looks := false }, kinds := [], alts := [], laidByText := true, laidKinds := [.data, .data, .data, .data, .data, .pinned], laidTests := true, laidLooks := .later }
def InventorySettlesUptoCardSaid : Prop := Claim7.holds Tryz.pinned (.plain (OpenSpec.upto inventorySettlesSpec)) inventorySettlesUptoCard

/-- THE SECOND FORM's CARD OF 'librarylaw53.InventoryPrints'. -/
def inventoryPrintsUptoCard : Claim7 := { stood := { row := inventoryPrintsUptoRow, standIns := [], harness := (true, "6c6f2def04e2bbefcb032a0c6f6239298fe268cf128fc653653a4beac01f4363"), looks := false }, kinds := [], alts := [], laidByText := true, laidKinds := [.data, .data, .data, .data, .data, .pinned], laidTests := true, laidLooks := .later }
def InventoryPrintsUptoCardSaid : Prop := Claim7.holds Tryz.pinned (.plain (OpenSpec.upto inventoryPrintsSpec)) inventoryPrintsUptoCard

/-- THE SECOND FORM's CARD OF 'librarylaw53.InventoryKeeps'. -/
def inventoryKeepsUptoCard : Claim7 := { stood := { row := inventoryKeepsUptoRow, standIns := [], harness := (true, "6c6f2def04e2bbefcb032a0c6f6239298fe268cf128fc653653a4beac01f4363"), looks := false }, kinds := [], alts := [], laidByText := true, laidKinds := [.data, .data, .data, .data, .data, .pinned], laidTests := true, laidLooks := .later }
def InventoryKeepsUptoCardSaid : Prop := Claim7.holds Tryz.pinned (.plain (OpenSpec.upto inventoryKeepsSpec)) inventoryKeepsUptoCard

/-- THE SECOND FORM's CARD OF 'librarylaw53.InventoryExact'. -/
def inventoryExactUptoCard : Claim7 := { stood := { row := inventoryExactUptoRow, standIns := [], harness := (true, "6c6f2def04e2bbefcb032a0c6f6239298fe268cf128fc653653a4beac01f4363"), looks := false }, kinds := [], alts := [], laidByText := true, laidKinds := [.data, .data, .data, .data, .data, .pinned], laidTests := true, laidLooks := .later }
def InventoryExactUptoCardSaid : Prop := Claim7.holds Tryz.pinned (.plain (OpenSpec.upto inventoryExactSpec)) inventoryExactUptoCard

/-- THE SECOND FORM's CARD OF 'librarylaw53.InventoryExpects'. -/
def inventoryExpectsUptoCard : Claim7 := { stood := { row := inventoryExpectsUptoRow, standIns := [], harness := (true, "6c6f2def04e2bbefcb032a0c6f6239298fe268cf128fc653653a4beac01f4363"), looks := false }, kinds := [], alts := [], laidByText := true, laidKinds := [.data, .data, .data, .data, .data, .pinned], laidTests := true, laidLooks := .later }
def InventoryExpectsUptoCardSaid : Prop := Claim7.holds Tryz.pinned (.plain (OpenSpec.upto inventoryExpectsSpec)) inventoryExpectsUptoCard
end Rows
end Go.Proofs.YteaknldbhmocpaaGreatDoor
