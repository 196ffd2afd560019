/- OfflineRestores: a part of the proof of the given statement, which is proved without conditions. -/
import Derived.Test.YtpdenibljogamaaGreatDoorCards
import Derived.Test.YtpdenibljogamaaGreatDoorTie
import Derived.ProofKit
import Derived.JoinedCond
set_option linter.all false
namespace Go.Proofs.YtpdenibljogamaaGreatDoor
set_option maxRecDepth 100000
open Go Go.ChangeShapes Go.WideShapes Go.ChangeAt Go.RowKit
noncomputable abbrev PP:=Tryz.pinned.checked.prog
theorem a2d {a b:Bool} (ha:a=true) (hb:b=true):(a&&b)=true:=by rw[ha,hb];rfl
theorem b5y:laidOutB PP=true:=by kernel_rfl
theorem c7i:mapsRowed PP=true:=by kernel_rfl
theorem c3a:(PP.stops==[])=true:=by kernel_rfl
theorem c27:(PP.stopKnobs==[])=true:=by kernel_rfl
theorem c7f:PP.plainKeys=true:=by kernel_rfl
theorem c26:PP.stopsHeard=true:=by kernel_rfl
theorem c25:PP.mayEnter=true:=by kernel_rfl
theorem c28:PP.liftsFinal=false:=by kernel_rfl
theorem c7h:PP.make=some Rows.offlineRightsRow.make:=by kernel_rfl
theorem c29:true=PP.looks []:=by kernel_rfl
theorem c7g:PP.mainIs=some (true,"7748e8aaa53ec3313de213854a8c0120a69ba64511b2609a2b2eb7958eb600f3".toList):=by kernel_rfl
end Go.Proofs.YtpdenibljogamaaGreatDoor
