/- CircOwes: a part of the proof of the given statement, which is proved without conditions. -/
import Derived.Test.YtdahfgialanmpaaGreatDoorCards
import Derived.Test.YtdahfgialanmpaaGreatDoorTie
import Derived.ProofKit
import Derived.JoinedCond
set_option linter.all false
namespace Go.Proofs.YtdahfgialanmpaaGreatDoor
set_option maxRecDepth 100000
open Go Go.ChangeShapes Go.WideShapes Go.ChangeAt Go.RowKit
noncomputable abbrev PP:=Tryz.pinned.checked.prog
theorem and2 {a b:Bool} (ha:a=true) (hb:b=true):(a&&b)=true:=by rw[ha,hb];rfl
theorem zze:laidOutB PP=true:=by kernel_rfl
theorem zapt:mapsRowed PP=true:=by kernel_rfl
theorem zaic:(PP.stops==[])=true:=by kernel_rfl
theorem zah9:(PP.stopKnobs==[])=true:=by kernel_rfl
theorem zapq:PP.plainKeys=true:=by kernel_rfl
theorem zah8:PP.stopsHeard=true:=by kernel_rfl
theorem zah7:PP.mayEnter=true:=by kernel_rfl
theorem zaia:PP.liftsFinal=false:=by kernel_rfl
theorem zaps:PP.make=some Rows.circRightsRow.make:=by kernel_rfl
theorem zaib:false=PP.looks []:=by kernel_rfl
theorem zapr:PP.mainIs=some (true,"027740f76003ec02b9787403212171880e814579c7d36ffec269a7255542d15d".toList):=by kernel_rfl
end Go.Proofs.YtdahfgialanmpaaGreatDoor
