/- CircAdds: a part of the proof of the given statement, which is proved without conditions. -/
import Derived.Test.YtdahfgialanmpaaGreatDoorCards
import Derived.Test.YtdahfgialanmpaaGreatDoorTie
import Derived.ProofKit
import Derived.JoinedCond
set_option linter.all false
namespace Go.Proofs.YtdahfgialanmpaaGreatDoor
set_option maxRecDepth 100000
open Go Go.ChangeShapes Go.WideShapes Go.ChangeAt Go.RowKit
noncomputable abbrev PP:=Tryz.pinned.checked.prog
theorem and2 {a b:Bool} (ha:a=true) (hb:b=true):(a&&b)=true:=by rw[ha,hb];rfl
theorem k_laidOut:laidOutB PP=true:=by kernel_rfl
theorem k_maps:mapsRowed PP=true:=by kernel_rfl
theorem k_stops:(PP.stops==[])=true:=by kernel_rfl
theorem k_knobs:(PP.stopKnobs==[])=true:=by kernel_rfl
theorem k_keys:PP.plainKeys=true:=by kernel_rfl
theorem k_heard:PP.stopsHeard=true:=by kernel_rfl
theorem k_enter:PP.mayEnter=true:=by kernel_rfl
theorem k_lifts:PP.liftsFinal=false:=by kernel_rfl
theorem k_make:PP.make=some Rows.circRightsRow.make:=by kernel_rfl
theorem k_looks:false=PP.looks []:=by kernel_rfl
theorem k_main:PP.mainIs=some (true,"027740f76003ec02b9787403212171880e814579c7d36ffec269a7255542d15d".toList):=by kernel_rfl
end Go.Proofs.YtdahfgialanmpaaGreatDoor
