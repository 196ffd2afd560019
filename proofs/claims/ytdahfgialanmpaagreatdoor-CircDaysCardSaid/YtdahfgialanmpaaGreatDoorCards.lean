/-
  DERIVED. GIVEN WITH THE SEED: THE CARDS: each row of YtdahfgialanmpaaGreatDoorRows.lean that lists a variable, with what it lists TIED to the program's text (the seventh form; the later family's looks); each row that meets fmt, with fmt's text TOLD by the authors' own Lean function (tested against real Go, not proved from fmt's source: count such statements apart). THE CARD IS WHAT COUNTS. Prove the row's statement (the work); the ties are given (YtdahfgialanmpaaGreatDoorTie.lean); close each card by the builder's one call (the guide's Derived/Test/ToyasCard.lean, 'card_holds'). Laid BY PROGRAM, IN A SANDBOX (cutbox-door.mjs). By AI agents, Wed Nov 11 2026. No macro, syntax, notation, axiom, sorry.
-/
import Derived.Test.YtdahfgialanmpaaGreatDoorRows
import GoSem.ClaimSeven
namespace Go.Proofs.YtdahfgialanmpaaGreatDoor
namespace Rows

/-- THE TIED CARD OF 'librarylaw33.CircRights'. -/
def circRightsCard : Claim7 := { stood := { row := circRightsRow, standIns := [], harness := (true, "027740f76003ec02b9787403212171880e814579c7d36ffec269a7255542d15d"), looks := false }, kinds := [], alts := [], laidByText := true, laidKinds := [.data, .data, .pinned], laidTests := true, laidLooks := .later }
def CircRightsCardSaid : Prop := Claim7.holds Tryz.pinned (.plain (OpenSpec.ofChange circRightsSpec)) circRightsCard

/-- THE TIED CARD OF 'librarylaw33.CircAdds'. -/
def circAddsCard : Claim7 := { stood := { row := circAddsRow, standIns := [], harness := (true, "027740f76003ec02b9787403212171880e814579c7d36ffec269a7255542d15d"), looks := false }, kinds := [], alts := [], laidByText := true, laidKinds := [.data, .data, .pinned], laidTests := true, laidLooks := .later }
def CircAddsCardSaid : Prop := Claim7.holds Tryz.pinned (.plain (OpenSpec.ofChange circAddsSpec)) circAddsCard

/-- THE TIED CARD OF 'librarylaw33.CircLends'. -/
def circLendsCard : Claim7 := { stood := { row := circLendsRow, standIns := [], harness := (true, "027740f76003ec02b9787403212171880e814579c7d36ffec269a7255542d15d"), looks := false }, kinds := [], alts := [], laidByText := true, laidKinds := [.data, .data, .pinned], laidTests := true, laidLooks := .later }
def CircLendsCardSaid : Prop := Claim7.holds Tryz.pinned (.plain (OpenSpec.ofChange circLendsSpec)) circLendsCard

/-- THE TIED CARD OF 'librarylaw33.CircBacks'. -/
def circBacksCard : Claim7 := { stood := { row := circBacksRow, standIns := [], harness := (true, "027740f76003ec02b9787403212171880e814579c7d36ffec269a7255542d15d"), looks := false }, kinds := [], alts := [], laidByText := true, laidKinds := [.data, .data, .pinned], laidTests := true, laidLooks := .later }
def CircBacksCardSaid : Prop := Claim7.holds Tryz.pinned (.plain (OpenSpec.ofChange circBacksSpec)) circBacksCard

/-- THE TIED CARD OF 'librarylaw33.CircRenews'. -/
def circRenewsCard : Claim7 := { stood := { row := circRenewsRow, standIns := [], harness := (true, "027740f76003ec02b9787403212171880e814579c7d36ffec269a7255542d15d"), looks := false }, kinds := [], alts := [], laidByText := true, laidKinds := [.data, .data, .pinned], laidTests := true, laidLooks := .later }
def CircRenewsCardSaid : Prop := Claim7.holds Tryz.pinned (.plain (OpenSpec.ofChange circRenewsSpec)) circRenewsCard

/-- THE TIED CARD OF 'librarylaw33.CircFirst'. -/
def circFirstCard : Claim7 := { stood := { row := circFirstRow, standIns := [], harness := (true, "027740f76003ec02b9787403212171880e814579c7d36ffec269a7255542d15d"), looks := false }, kinds := [], alts := [], laidByText := true, laidKinds := [.data, .data, .pinned], laidTests := true, laidLooks := .later }
def CircFirstCardSaid : Prop := Claim7.holds Tryz.pinned (.plain (OpenSpec.ofChange circFirstSpec)) circFirstCard

/-- THE TIED CARD OF 'librarylaw33.CircReceives'. -/
def circReceivesCard : Claim7 := { stood := { row := circReceivesRow, standIns := [], harness := (true, "027740f76003ec02b9787403212171880e814579c7d36ffec269a7255542d15d"), looks := false }, kinds := [], alts := [], laidByText := true, laidKinds := [.data, .data, .pinned], laidTests := true, laidLooks := .later }
def CircReceivesCardSaid : Prop := Claim7.holds Tryz.pinned (.plain (OpenSpec.ofChange circReceivesSpec)) circReceivesCard

/-- THE TIED CARD OF 'librarylaw33.CircHolds'. -/
def circHoldsCard : Claim7 := { stood := { row := circHoldsRow, standIns := [], harness := (true, "027740f76003ec02b9787403212171880e814579c7d36ffec269a7255542d15d"), looks := false }, kinds := [], alts := [], laidByText := true, laidKinds := [.data, .data, .pinned], laidTests := true, laidLooks := .later }
def CircHoldsCardSaid : Prop := Claim7.holds Tryz.pinned (.plain (OpenSpec.ofChange circHoldsSpec)) circHoldsCard

/-- THE TIED CARD OF 'librarylaw33.CircOwes'. -/
def circOwesCard : Claim7 := { stood := { row := circOwesRow, standIns := [], harness := (true, "027740f76003ec02b9787403212171880e814579c7d36ffec269a7255542d15d"), looks := false }, kinds := [], alts := [], laidByText := true, laidKinds := [.data, .data, .pinned], laidTests := true, laidLooks := .later }
def CircOwesCardSaid : Prop := Claim7.holds Tryz.pinned (.plain (OpenSpec.ofChange circOwesSpec)) circOwesCard

/-- THE TIED CARD OF 'librarylaw33.CircLoses'. -/
def circLosesCard : Claim7 := { stood := { row := circLosesRow, standIns := [], harness := (true, "027740f76003ec02b9787403212171880e814579c7d36ffec269a7255542d15d"), looks := false }, kinds := [], alts := [], laidByText := true, laidKinds := [.data, .data, .pinned], laidTests := true, laidLooks := .later }
def CircLosesCardSaid : Prop := Claim7.holds Tryz.pinned (.plain (OpenSpec.ofChange circLosesSpec)) circLosesCard

/-- THE TIED CARD OF 'librarylaw33.CircDays'. -/
def circDaysCard : Claim7 := { stood := { row := circDaysRow, standIns := [], harness := (true, "027740f76003ec02b9787403212171880e814579c7d36ffec269a7255542d15d"), looks := false }, kinds := [], alts := [], laidByText := true, laidKinds := [.data, .data, .pinned], laidTests := true, laidLooks := .later }
def CircDaysCardSaid : Prop := Claim7.holds Tryz.pinned (.plain (OpenSpec.ofChange circDaysSpec)) circDaysCard

/-- THE TIED CARD OF 'librarylaw33.CircKeeps'. -/
def circKeepsCard : Claim7 := { stood := { row := circKeepsRow, standIns := [], harness := (true, "027740f76003ec02b9787403212171880e814579c7d36ffec269a7255542d15d"), looks := false }, kinds := [], alts := [], laidByText := true, laidKinds := [.data, .data, .pinned], laidTests := true, laidLooks := .later }
def CircKeepsCardSaid : Prop := Claim7.holds Tryz.pinned (.plain (OpenSpec.ofChange circKeepsSpec)) circKeepsCard

/-- THE SECOND FORM's CARD OF 'librarylaw33.CircRights'. -/
def circRightsUptoCard : Claim7 := { stood := { row := circRightsUptoRow, standIns := [], harness := (true, "027740f76003ec02b9787403212171880e814579c7d36ffec269a7255542d15d"), looks := false }, kinds := [], alts := [], laidByText := true, laidKinds := [.data, .data, .pinned], laidTests := true, laidLooks := .later }
def CircRightsUptoCardSaid : Prop := Claim7.holds Tryz.pinned (.plain (OpenSpec.upto circRightsSpec)) circRightsUptoCard

/-- THE SECOND FORM's CARD OF 'librarylaw33.CircAdds'. -/
def circAddsUptoCard : Claim7 := { stood := { row := circAddsUptoRow, standIns := [], harness := (true, "027740f76003ec02b9787403212171880e814579c7d36ffec269a7255542d15d"), looks := false }, kinds := [], alts := [], laidByText := true, laidKinds := [.data, .data, .pinned], laidTests := true, laidLooks := .later }
def CircAddsUptoCardSaid : Prop := Claim7.holds Tryz.pinned (.plain (OpenSpec.upto circAddsSpec)) circAddsUptoCard

/-- THE SECOND FORM's CARD OF 'librarylaw33.CircLends'. -/
def circLendsUptoCard : Claim7 := { stood := { row := circLendsUptoRow, standIns := [], harness := (true, "027740f76003ec02b9787403212171880e814579c7d36ffec269a7255542d15d"), looks := false }, kinds := [], alts := [], laidByText := true, laidKinds := [.data, .data, .pinned], laidTests := true, laidLooks := .later }
def CircLendsUptoCardSaid : Prop := Claim7.holds Tryz.pinned (.plain (OpenSpec.upto circLendsSpec)) circLendsUptoCard

/-- THE SECOND FORM's CARD OF 'librarylaw33.CircBacks'. -/
def circBacksUptoCard : Claim7 := { stood := { row := circBacksUptoRow, standIns := [], harness := (true, "027740f76003ec02b9787403212171880e814579c7d36ffec269a7255542d15d"), looks := false }, kinds := [], alts := [], laidByText := true, laidKinds := [.data, .data, .pinned], laidTests := true, laidLooks := .later }
def CircBacksUptoCardSaid : Prop := Claim7.holds Tryz.pinned (.plain (OpenSpec.upto circBacksSpec)) circBacksUptoCard

/-- THE SECOND FORM's CARD OF 'librarylaw33.CircRenews'. -/
def circRenewsUptoCard : Claim7 := { stood := { row := circRenewsUptoRow, standIns := [], harness := (true, "027740f76003ec02b9787403212171880e814579c7d36ffec269a7255542d15d"), looks := false }, kinds := [], alts := [], laidByText := true, laidKinds := [.data, .data, .pinned], laidTests := true, laidLooks := .later }
def CircRenewsUptoCardSaid : Prop := Claim7.holds Tryz.pinned (.plain (OpenSpec.upto circRenewsSpec)) circRenewsUptoCard

/-- THE SECOND FORM's CARD OF 'librarylaw33.CircFirst'. -/
def circFirstUptoCard : Claim7 := { stood := { row := circFirstUptoRow, standIns := [], harness := (true, "027740f76003ec02b9787403212171880e814579c7d36ffec269a7255542d15d"), looks := false }, kinds := [], alts := [], laidByText := true, laidKinds := [.data, .data, .pinned], laidTests := true, laidLooks := .later }
def CircFirstUptoCardSaid : Prop := Claim7.holds Tryz.pinned (.plain (OpenSpec.upto circFirstSpec)) circFirstUptoCard

/-- THE SECOND FORM's CARD OF 'librarylaw33.CircReceives'. -/
def circReceivesUptoCard : Claim7 := { stood := { row := circReceivesUptoRow, standIns := [], harness := (true, "027740f76003ec02b9787403212171880e814579c7d36ffec269a7255542d15d"), looks := false }, kinds := [], alts := [], laidByText := true, laidKinds := [.data, .data, .pinned], laidTests := true, laidLooks := .later }
def CircReceivesUptoCardSaid : Prop := Claim7.holds Tryz.pinned (.plain (OpenSpec.upto circReceivesSpec)) circReceivesUptoCard

/-- THE SECOND FORM's CARD OF 'librarylaw33.CircHolds'. -/
def circHoldsUptoCard : Claim7 := { stood := { row := circHoldsUptoRow, standIns := [], harness := (true, "027740f76003ec02b9787403212171880e814579c7d36ffec269a7255542d15d"), looks := false }, kinds := [], alts := [], laidByText := true, laidKinds := [.data, .data, .pinned], laidTests := true, laidLooks := .later }
def CircHoldsUptoCardSaid : Prop := Claim7.holds Tryz.pinned (.plain (OpenSpec.upto circHoldsSpec)) circHoldsUptoCard

/-- THE SECOND FORM's CARD OF 'librarylaw33.CircOwes'. -/
def circOwesUptoCard : Claim7 := { stood := { row := circOwesUptoRow, standIns := [], harness := (true, "027740f76003ec02b9787403212171880e814579c7d36ffec269a7255542d15d"), looks := false }, kinds := [], alts := [], laidByText := true, laidKinds := [.data, .data, .pinned], laidTests := true, laidLooks := .later }
def CircOwesUptoCardSaid : Prop := Claim7.holds Tryz.pinned (.plain (OpenSpec.upto circOwesSpec)) circOwesUptoCard

/-- THE SECOND FORM's CARD OF 'librarylaw33.CircLoses'. -/
def circLosesUptoCard : Claim7 := { stood := { row := circLosesUptoRow, standIns := [], harness := (true, "027740f76003ec02b9787403212171880e814579c7d36ffec269a7255542d15d"), looks := false }, kinds := [], alts := [], laidByText := true, laidKinds := [.data, .data, .pinned], laidTests := true, laidLooks := .later }
def CircLosesUptoCardSaid : Prop := Claim7.holds Tryz.pinned (.plain (OpenSpec.upto circLosesSpec)) circLosesUptoCard

/-- THE SECOND FORM's CARD OF 'librarylaw33.CircDays'. -/
def circDaysUptoCard : Claim7 := { stood := { row := circDaysUptoRow, standIns := [], harness := (true, "027740f76003ec02b9787403212171880e814579c7d36ffec269a7255542d15d"), looks := false }, kinds := [], alts := [], laidByText := true, laidKinds := [.data, .data, .pinned], laidTests := true, laidLooks := .later }
def CircDaysUptoCardSaid : Prop := Claim7.holds Tryz.pinned (.plain (OpenSpec.upto circDaysSpec)) circDaysUptoCard

/-- THE SECOND FORM's CARD OF 'librarylaw33.CircKeeps'. -/
def circKeepsUptoCard : Claim7 := { stood := { row := circKeepsUptoRow, standIns := [], harness := (true, "027740f76003ec02b9787403212171880e814579c7d36ffec269a7255542d15d"), looks := false }, kinds := [], alts := [], laidByText := true, laidKinds := [.data, .data, .pinned], laidTests := true, laidLooks := .later }
def CircKeepsUptoCardSaid : Prop := Claim7.holds Tryz.pinned (.plain (OpenSpec.upto circKeepsSpec)) circKeepsUptoCard
end Rows
end Go.Proofs.YtdahfgialanmpaaGreatDoor
