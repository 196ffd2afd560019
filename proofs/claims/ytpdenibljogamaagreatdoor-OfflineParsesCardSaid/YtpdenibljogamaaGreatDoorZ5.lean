/- OfflineParses: a part of the proof of the given statement, which is proved without conditions. -/
import Derived.Test.YtpdenibljogamaaGreatDoorCards
import Derived.Test.YtpdenibljogamaaGreatDoorTie
import Derived.ProofKit
import Derived.JoinedCond
set_option linter.all false
namespace Go.Proofs.YtpdenibljogamaaGreatDoor
set_option maxRecDepth 100000
open Go Go.ChangeShapes Go.WideShapes Go.ChangeAt Go.RowKit
noncomputable abbrev PP:=Tryz.pinned.checked.prog
theorem a2e {a b:Bool} (ha:a=true) (hb:b=true):(a&&b)=true:=by rw[ha,hb];rfl
theorem b54:laidOutB PP=true:=by kernel_rfl
theorem c8g:mapsRowed PP=true:=by kernel_rfl
theorem c3t:(PP.stops==[])=true:=by kernel_rfl
theorem c3q:(PP.stopKnobs==[])=true:=by kernel_rfl
theorem c8d:PP.plainKeys=true:=by kernel_rfl
theorem c3p:PP.stopsHeard=true:=by kernel_rfl
theorem c3o:PP.mayEnter=true:=by kernel_rfl
theorem c3r:PP.liftsFinal=false:=by kernel_rfl
theorem c8f:PP.make=some Rows.offlineRightsRow.make:=by kernel_rfl
theorem c3s:true=PP.looks []:=by kernel_rfl
theorem c8e:PP.mainIs=some (true,"7748e8aaa53ec3313de213854a8c0120a69ba64511b2609a2b2eb7958eb600f3".toList):=by kernel_rfl
end Go.Proofs.YtpdenibljogamaaGreatDoor
