/- OfflineRights: a part of the proof of the given statement, which is proved without conditions. -/
import Derived.Test.YtpdenibljogamaaGreatDoorCards
import Derived.Test.YtpdenibljogamaaGreatDoorTie
import Derived.ProofKit
import Derived.JoinedCond
set_option linter.all false
namespace Go.Proofs.YtpdenibljogamaaGreatDoor
set_option maxRecDepth 100000
open Go Go.ChangeShapes Go.WideShapes Go.ChangeAt Go.RowKit
noncomputable abbrev PP:=Tryz.pinned.checked.prog
theorem a1m {a b:Bool} (ha:a=true) (hb:b=true):(a&&b)=true:=by rw[ha,hb];rfl
theorem b37:laidOutB PP=true:=by kernel_rfl
theorem c4n:mapsRowed PP=true:=by kernel_rfl
theorem c00:(PP.stops==[])=true:=by kernel_rfl
theorem c0x:(PP.stopKnobs==[])=true:=by kernel_rfl
theorem c4k:PP.plainKeys=true:=by kernel_rfl
theorem c0w:PP.stopsHeard=true:=by kernel_rfl
theorem c0v:PP.mayEnter=true:=by kernel_rfl
theorem c0y:PP.liftsFinal=false:=by kernel_rfl
theorem c4m:PP.make=some Rows.offlineRightsRow.make:=by kernel_rfl
theorem c0z:true=PP.looks []:=by kernel_rfl
theorem c4l:PP.mainIs=some (true,"7748e8aaa53ec3313de213854a8c0120a69ba64511b2609a2b2eb7958eb600f3".toList):=by kernel_rfl
end Go.Proofs.YtpdenibljogamaaGreatDoor
