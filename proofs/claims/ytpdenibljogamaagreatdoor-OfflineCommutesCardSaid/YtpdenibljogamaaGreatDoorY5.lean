/- OfflineCommutes: a part of the proof of the given statement, which is proved without conditions. -/
import Derived.Test.YtpdenibljogamaaGreatDoorCards
import Derived.Test.YtpdenibljogamaaGreatDoorTie
import Derived.ProofKit
import Derived.JoinedCond
set_option linter.all false
namespace Go.Proofs.YtpdenibljogamaaGreatDoor
set_option maxRecDepth 100000
open Go Go.ChangeShapes Go.WideShapes Go.ChangeAt Go.RowKit
noncomputable abbrev PP:=Tryz.pinned.checked.prog
theorem a05 {a b:Bool} (ha:a=true) (hb:b=true):(a&&b)=true:=by rw[ha,hb];rfl
theorem b3s:laidOutB PP=true:=by kernel_rfl
theorem c2t:mapsRowed PP=true:=by kernel_rfl
theorem b9e:(PP.stops==[])=true:=by kernel_rfl
theorem b9b:(PP.stopKnobs==[])=true:=by kernel_rfl
theorem c2q:PP.plainKeys=true:=by kernel_rfl
theorem b9a:PP.stopsHeard=true:=by kernel_rfl
theorem b89:PP.mayEnter=true:=by kernel_rfl
theorem b9c:PP.liftsFinal=false:=by kernel_rfl
theorem c2s:PP.make=some Rows.offlineRightsRow.make:=by kernel_rfl
theorem b9d:true=PP.looks []:=by kernel_rfl
theorem c2r:PP.mainIs=some (true,"7748e8aaa53ec3313de213854a8c0120a69ba64511b2609a2b2eb7958eb600f3".toList):=by kernel_rfl
end Go.Proofs.YtpdenibljogamaaGreatDoor
