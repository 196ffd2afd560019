/-
  DERIVED. GIVEN WITH THE SEED: THE CARDS: each row of YtpdenibljogamaaGreatDoorRows.lean that lists a variable, with what it lists TIED to the program's text (the seventh form; the later family's looks); each row that meets fmt, with fmt's text TOLD by the authors' own Lean function (tested against real Go, not proved from fmt's source: count such statements apart). THE CARD IS WHAT COUNTS. Prove the row's statement (the work); the ties are given (YtpdenibljogamaaGreatDoorTie.lean); close each card by the builder's one call (the guide's Derived/Test/ToyasCard.lean, 'card_holds'). Laid BY PROGRAM, IN A SANDBOX (cutbox-door.mjs). By AI agents, Wed Nov 11 2026. No macro, syntax, notation, axiom, sorry.
-/
import Derived.Test.YtpdenibljogamaaGreatDoorRows
import GoSem.ClaimSeven
namespace Go.Proofs.YtpdenibljogamaaGreatDoor
namespace Rows

/-- THE TIED CARD OF 'librarylaw34.OfflineRights'. -/
def offlineRightsCard : Claim7 := { stood := { row := offlineRightsRow, standIns := [], harness := (true, "7748e8aaa53ec3313de213854a8c0120a69ba64511b2609a2b2eb7958eb600f3"), looks := true }, kinds := [], alts := [], laidByText := true, laidKinds := [.data, .data, .data, .data, .sentinel, .sentinel, .data, .pinned], laidTests := true, laidLooks := .later }
def OfflineRightsCardSaid : Prop := Claim7.holds Tryz.pinned (.plain (OpenSpec.ofChange offlineRightsSpec)) offlineRightsCard

/-- THE TIED CARD OF 'librarylaw34.OfflineMerges'. -/
def offlineMergesCard : Claim7 := { stood := { row := offlineMergesRow, standIns := [], harness := (true, "7748e8aaa53ec3313de213854a8c0120a69ba64511b2609a2b2eb7958eb600f3"), looks := true }, kinds := [], alts := [], laidByText := true, laidKinds := [.data, .data, .data, .data, .sentinel, .sentinel, .data, .pinned], laidTests := true, laidLooks := .later }
def OfflineMergesCardSaid : Prop := Claim7.holds Tryz.pinned (.plain (OpenSpec.ofChange offlineMergesSpec)) offlineMergesCard

/-- THE TIED CARD OF 'librarylaw34.OfflinePlays'. -/
def offlinePlaysCard : Claim7 := { stood := { row := offlinePlaysRow, standIns := [], harness := (true, "7748e8aaa53ec3313de213854a8c0120a69ba64511b2609a2b2eb7958eb600f3"), looks := true }, kinds := [], alts := [], laidByText := true, laidKinds := [.data, .data, .data, .data, .sentinel, .sentinel, .data, .pinned], laidTests := true, laidLooks := .later }
def OfflinePlaysCardSaid : Prop := Claim7.holds Tryz.pinned (.plain (OpenSpec.ofChange offlinePlaysSpec)) offlinePlaysCard

/-- THE TIED CARD OF 'librarylaw34.OfflineParses'. -/
def offlineParsesCard : Claim7 := { stood := { row := offlineParsesRow, standIns := [], harness := (true, "7748e8aaa53ec3313de213854a8c0120a69ba64511b2609a2b2eb7958eb600f3"), looks := true }, kinds := [], alts := [], laidByText := true, laidKinds := [.data, .data, .data, .data, .sentinel, .sentinel, .data, .pinned], laidTests := true, laidLooks := .later }
def OfflineParsesCardSaid : Prop := Claim7.holds Tryz.pinned (.plain (OpenSpec.ofChange offlineParsesSpec)) offlineParsesCard

/-- THE TIED CARD OF 'librarylaw34.OfflineCommutes'. -/
def offlineCommutesCard : Claim7 := { stood := { row := offlineCommutesRow, standIns := [], harness := (true, "7748e8aaa53ec3313de213854a8c0120a69ba64511b2609a2b2eb7958eb600f3"), looks := true }, kinds := [], alts := [], laidByText := true, laidKinds := [.data, .data, .data, .data, .sentinel, .sentinel, .data, .pinned], laidTests := true, laidLooks := .later }
def OfflineCommutesCardSaid : Prop := Claim7.holds Tryz.pinned (.plain (OpenSpec.ofChange offlineCommutesSpec)) offlineCommutesCard

/-- THE TIED CARD OF 'librarylaw34.OfflineContinues'. -/
def offlineContinuesCard : Claim7 := { stood := { row := offlineContinuesRow, standIns := [], harness := (true, "7748e8aaa53ec3313de213854a8c0120a69ba64511b2609a2b2eb7958eb600f3"), looks := true }, kinds := [], alts := [], laidByText := true, laidKinds := [.data, .data, .data, .data, .sentinel, .sentinel, .data, .pinned], laidTests := true, laidLooks := .later }
def OfflineContinuesCardSaid : Prop := Claim7.holds Tryz.pinned (.plain (OpenSpec.ofChange offlineContinuesSpec)) offlineContinuesCard

/-- THE TIED CARD OF 'librarylaw34.OfflineRestores'. -/
def offlineRestoresCard : Claim7 := { stood := { row := offlineRestoresRow, standIns := [], harness := (true, "7748e8aaa53ec3313de213854a8c0120a69ba64511b2609a2b2eb7958eb600f3"), looks := true }, kinds := [], alts := [], laidByText := true, laidKinds := [.data, .data, .data, .data, .sentinel, .sentinel, .data, .pinned], laidTests := true, laidLooks := .later }
def OfflineRestoresCardSaid : Prop := Claim7.holds Tryz.pinned (.plain (OpenSpec.ofChange offlineRestoresSpec)) offlineRestoresCard

/-- THE SECOND FORM's CARD OF 'librarylaw34.OfflineRights'. -/
def offlineRightsUptoCard : Claim7 := { stood := { row := offlineRightsUptoRow, standIns := [], harness := (true, "7748e8aaa53ec3313de213854a8c0120a69ba64511b2609a2b2eb7958eb600f3"), looks := true }, kinds := [], alts := [], laidByText := true, laidKinds := [.data, .data, .data, .data, .sentinel, .sentinel, .data, .pinned], laidTests := true, laidLooks := .later }
def OfflineRightsUptoCardSaid : Prop := Claim7.holds Tryz.pinned (.plain (OpenSpec.upto offlineRightsSpec)) offlineRightsUptoCard

/-- THE SECOND FORM's CARD OF 'librarylaw34.OfflineMerges'. -/
def offlineMergesUptoCard : Claim7 := { stood := { row := offlineMergesUptoRow, standIns := [], harness := (true, "7748e8aaa53ec3313de213854a8c0120a69ba64511b2609a2b2eb7958eb600f3"), looks := true }, kinds := [], alts := [], laidByText := true, laidKinds := [.data, .data, .data, .data, .sentinel, .sentinel, .data, .pinned], laidTests := true, laidLooks := .later }
def OfflineMergesUptoCardSaid : Prop := Claim7.holds Tryz.pinned (.plain (OpenSpec.upto offlineMergesSpec)) offlineMergesUptoCard

/-- THE SECOND FORM's CARD OF 'librarylaw34.OfflinePlays'. -/
def offlinePlaysUptoCard : Claim7 := { stood := { row := offlinePlaysUptoRow, standIns := [], harness := (true, "7748e8aaa53ec3313de213854a8c0120a69ba64511b2609a2b2eb7958eb600f3"), looks := true }, kinds := [], alts := [], laidByText := true, laidKinds := [.data, .data, .data, .data, .sentinel, .sentinel, .data, .pinned], laidTests := true, laidLooks := .later }
def OfflinePlaysUptoCardSaid : Prop := Claim7.holds Tryz.pinned (.plain (OpenSpec.upto offlinePlaysSpec)) offlinePlaysUptoCard

/-- THE SECOND FORM's CARD OF 'librarylaw34.OfflineParses'. -/
def offlineParsesUptoCard : Claim7 := { stood := { row := offlineParsesUptoRow, standIns := [], harness := (true, "7748e8aaa53ec3313de213854a8c0120a69ba64511b2609a2b2eb7958eb600f3"), looks := true }, kinds := [], alts := [], laidByText := true, laidKinds := [.data, .data, .data, .data, .sentinel, .sentinel, .data, .pinned], laidTests := true, laidLooks := .later }
def OfflineParsesUptoCardSaid : Prop := Claim7.holds Tryz.pinned (.plain (OpenSpec.upto offlineParsesSpec)) offlineParsesUptoCard

/-- THE SECOND FORM's CARD OF 'librarylaw34.OfflineCommutes'. -/
def offlineCommutesUptoCard : Claim7 := { stood := { row := offlineCommutesUptoRow, standIns := [], harness := (true, "7748e8aaa53ec3313de213854a8c0120a69ba64511b2609a2b2eb7958eb600f3"), looks := true }, kinds := [], alts := [], laidByText := true, laidKinds := [.data, .data, .data, .data, .sentinel, .sentinel, .data, .pinned], laidTests := true, laidLooks := .later }
def OfflineCommutesUptoCardSaid : Prop := Claim7.holds Tryz.pinned (.plain (OpenSpec.upto offlineCommutesSpec)) offlineCommutesUptoCard

/-- THE SECOND FORM's CARD OF 'librarylaw34.OfflineContinues'. -/
def offlineContinuesUptoCard : Claim7 := { stood := { row := offlineContinuesUptoRow, standIns := [], harness := (true, "7748e8aaa53ec3313de213854a8c0120a69ba64511b2609a2b2eb7958eb600f3"), looks := true }, kinds := [], alts := [], laidByText := true, laidKinds := [.data, .data, .data, .data, .sentinel, .sentinel, .data, .pinned], laidTests := true, laidLooks := .later }
def OfflineContinuesUptoCardSaid : Prop := Claim7.holds Tryz.pinned (.plain (OpenSpec.upto offlineContinuesSpec)) offlineContinuesUptoCard

/-- THE SECOND FORM's CARD OF 'librarylaw34.OfflineRestores'. -/
def offlineRestoresUptoCard : Claim7 := { stood := { row := offlineRestoresUptoRow, standIns := [], harness := (true, "7748e8aaa53ec3313de213854a8c0120a69ba64511b2609a2b2eb7958eb600f3"), looks := true }, kinds := [], alts := [], laidByText := true, laidKinds := [.data, .data, .data, .data, .sentinel, .sentinel, .data, .pinned], laidTests := true, laidLooks := .later }
def OfflineRestoresUptoCardSaid : Prop := Claim7.holds Tryz.pinned (.plain (OpenSpec.upto offlineRestoresSpec)) offlineRestoresUptoCard
end Rows
end Go.Proofs.YtpdenibljogamaaGreatDoor
