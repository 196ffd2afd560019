/-
  DERIVED. GIVEN WITH THE SEED: THE CARDS: each row of YtpaidiaknfhclaaGreatDoorRows.lean that lists a variable, with what it lists TIED to the program's text (the seventh form; the later family's looks); each row that meets fmt, with fmt's text TOLD by the authors' own Lean function (tested against real Go, not proved from fmt's source: count such statements apart). THE CARD IS WHAT COUNTS. Prove the row's statement (the work); the ties are given (YtpaidiaknfhclaaGreatDoorTie.lean); close each card by the builder's one call (the guide's Derived/Test/ToyasCard.lean, 'card_holds'). Laid BY PROGRAM, IN A SANDBOX (cutbox-door.mjs). By AI agents, Wed Nov 11 2026. No macro, syntax, notation, axiom, sorry.
-/
import Derived.Test.YtpaidiaknfhclaaGreatDoorRows
import GoSem.ClaimSeven
namespace Go.Proofs.YtpaidiaknfhclaaGreatDoor
namespace Rows

/-- THE TIED CARD OF 'librarylaw54.WeedUses'. -/
def weedUsesCard : Claim7 := { stood := { row := weedUsesRow, standIns := [], harness := (true, "20897aa02798555679a3af96f46e09dec2e3852fe7ec40e6423584e2ade9ee77"), looks := false }, kinds := [], alts := [], laidByText := true, laidKinds := [.data, .data, .pinned], laidTests := true, laidLooks := .later }
def WeedUsesCardSaid : Prop := Claim7.holds Tryz.pinned (.plain (OpenSpec.ofChange weedUsesSpec)) weedUsesCard

/-- THE TIED CARD OF 'librarylaw54.WeedChooses'. -/
def weedChoosesCard : Claim7 := { stood := { row := weedChoosesRow, standIns := [], harness := (true, "20897aa02798555679a3af96f46e09dec2e3852fe7ec40e6423584e2ade9ee77"), looks := false }, kinds := [], alts := [], laidByText := true, laidKinds := [.data, .data, .pinned], laidTests := true, laidLooks := .later }
def WeedChoosesCardSaid : Prop := Claim7.holds Tryz.pinned (.plain (OpenSpec.ofChange weedChoosesSpec)) weedChoosesCard

/-- THE TIED CARD OF 'librarylaw54.WeedPlans'. -/
def weedPlansCard : Claim7 := { stood := { row := weedPlansRow, standIns := [], harness := (true, "20897aa02798555679a3af96f46e09dec2e3852fe7ec40e6423584e2ade9ee77"), looks := false }, kinds := [], alts := [], laidByText := true, laidKinds := [.data, .data, .pinned], laidTests := true, laidLooks := .later }
def WeedPlansCardSaid : Prop := Claim7.holds Tryz.pinned (.plain (OpenSpec.ofChange weedPlansSpec)) weedPlansCard

/-- THE TIED CARD OF 'librarylaw54.WeedWithdraws'. -/
def weedWithdrawsCard : Claim7 := { stood := { row := weedWithdrawsRow, standIns := [], harness := (true, "20897aa02798555679a3af96f46e09dec2e3852fe7ec40e6423584e2ade9ee77"), looks := false }, kinds := [], alts := [], laidByText := true, laidKinds := [.data, .data, .pinned], laidTests := true, laidLooks := .later }
def WeedWithdrawsCardSaid : Prop := Claim7.holds Tryz.pinned (.plain (OpenSpec.ofChange weedWithdrawsSpec)) weedWithdrawsCard

/-- THE TIED CARD OF 'librarylaw54.WeedKeeps'. -/
def weedKeepsCard : Claim7 := { stood := { row := weedKeepsRow, standIns := [], harness := (true, "20897aa02798555679a3af96f46e09dec2e3852fe7ec40e6423584e2ade9ee77"), looks := false }, kinds := [], alts := [], laidByText := true, laidKinds := [.data, .data, .pinned], laidTests := true, laidLooks := .later }
def WeedKeepsCardSaid : Prop := Claim7.holds Tryz.pinned (.plain (OpenSpec.ofChange weedKeepsSpec)) weedKeepsCard

/-- THE TIED CARD OF 'librarylaw54.WeedFewer'. -/
def weedFewerCard : Claim7 := { stood := { row := weedFewerRow, standIns := [], harness := (true, "20897aa02798555679a3af96f46e09dec2e3852fe7ec40e6423584e2ade9ee77"), looks := false }, kinds := [], alts := [], laidByText := true, laidKinds := [.data, .data, .pinned], laidTests := true, laidLooks := .later }
def WeedFewerCardSaid : Prop := Claim7.holds Tryz.pinned (.plain (OpenSpec.ofChange weedFewerSpec)) weedFewerCard

/-- THE SECOND FORM's CARD OF 'librarylaw54.WeedUses'. -/
def weedUsesUptoCard : Claim7 := { stood := { row := weedUsesUptoRow, standIns := [], harness := (true, "20897aa02798555679a3af96f46e09dec2e3852fe7ec40e6423584e2ade9ee77"), looks := false }, kinds := [], alts := [], laidByText := true, laidKinds := [.data, .data, .pinned], laidTests := true, laidLooks := .later }
def WeedUsesUptoCardSaid : Prop := Claim7.holds Tryz.pinned (.plain (OpenSpec.upto weedUsesSpec)) weedUsesUptoCard

/-- THE SECOND FORM's CARD OF 'librarylaw54.WeedChooses'. -/
def weedChoosesUptoCard : Claim7 := { stood := { row := weedChoosesUptoRow, standIns := [], harness := (true, "20897aa02798555679a3af96f46e09dec2e3852fe7ec40e6423584e2ade9ee77"), looks := false }, kinds := [], alts := [], laidByText := true, laidKinds := [.data, .data, .pinned], laidTests := true, laidLooks := .later }
def WeedChoosesUptoCardSaid : Prop := Claim7.holds Tryz.pinned (.plain (OpenSpec.upto weedChoosesSpec)) weedChoosesUptoCard

/-- THE SECOND FORM's CARD OF 'librarylaw54.WeedPlans'. -/
def weedPlansUptoCard : Claim7 := { stood := { row := weedPlansUptoRow, standIns := [], harness := (true, "20897aa02798555679a3af96f46e09dec2e3852fe7ec40e6423584e2ade9ee77"), looks := false }, kinds := [], alts := [], laidByText := true, laidKinds := [.data, .data, .pinned], laidTests := true, laidLooks := .later }
def WeedPlansUptoCardSaid : Prop := Claim7.holds Tryz.pinned (.plain (OpenSpec.upto weedPlansSpec)) weedPlansUptoCard

/-- THE SECOND FORM's CARD OF 'librarylaw54.WeedWithdraws'. -/
def weedWithdrawsUptoCard : Claim7 := { stood := { row := weedWithdrawsUptoRow, standIns := [], harness := (true, "20897aa02798555679a3af96f46e09dec2e3852fe7ec40e6423584e2ade9ee77"), looks := false }, kinds := [], alts := [], laidByText := true, laidKinds := [.data, .data, .pinned], laidTests := true, laidLooks := .later }
def WeedWithdrawsUptoCardSaid : Prop := Claim7.holds Tryz.pinned (.plain (OpenSpec.upto weedWithdrawsSpec)) weedWithdrawsUptoCard

/-- THE SECOND FORM's CARD OF 'librarylaw54.WeedKeeps'. -/
def weedKeepsUptoCard : Claim7 := { stood := { row := weedKeepsUptoRow, standIns := [], harness := (true, "20897aa02798555679a3af96f46e09dec2e3852fe7ec40e6423584e2ade9ee77"), looks := false }, kinds := [], alts := [], laidByText := true, laidKinds := [.data, .data, .pinned], laidTests := true, laidLooks := .later }
def WeedKeepsUptoCardSaid : Prop := Claim7.holds Tryz.pinned (.plain (OpenSpec.upto weedKeepsSpec)) weedKeepsUptoCard

/-- THE SECOND FORM's CARD OF 'librarylaw54.WeedFewer'. -/
def weedFewerUptoCard : Claim7 := { stood := { row := weedFewerUptoRow, standIns := [], harness := (true, "20897aa02798555679a3af96f46e09dec2e3852fe7ec40e6423584e2ade9ee77"), looks := false }, kinds := [], alts := [], laidByText := true, laidKinds := [.data, .data, .pinned], laidTests := true, laidLooks := .later }
def WeedFewerUptoCardSaid : Prop := Claim7.holds Tryz.pinned (.plain (OpenSpec.upto weedFewerSpec)) weedFewerUptoCard
end Rows
end Go.Proofs.YtpaidiaknfhclaaGreatDoor
