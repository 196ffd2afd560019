/- CircServes: a part of the proof of the given statement, which is proved without conditions. -/
import Derived.Test.YtdahfgialanmpabGreatDoorCards
import Derived.Test.YtdahfgialanmpabGreatDoorTie
import Derived.ProofKit
import Derived.JoinedCond
set_option linter.all false
namespace Go.Proofs.YtdahfgialanmpabGreatDoor
set_option maxRecDepth 100000
open Go Go.ChangeShapes Go.WideShapes Go.ChangeAt Go.RowKit
noncomputable abbrev PP:=Tryz.pinned.checked.prog
theorem a8y {a b:Bool} (ha:a=true) (hb:b=true):(a&&b)=true:=by rw[ha,hb];rfl
theorem e1f:laidOutB PP=true:=by kernel_rfl
theorem h33:mapsRowed PP=true:=by kernel_rfl
theorem g42:(PP.stops==[])=true:=by kernel_rfl
theorem g4z:(PP.stopKnobs==[])=true:=by kernel_rfl
theorem h3z:PP.plainKeys=true:=by kernel_rfl
theorem g4y:PP.stopsHeard=true:=by kernel_rfl
theorem g4x:PP.mayEnter=true:=by kernel_rfl
theorem g40:PP.liftsFinal=false:=by kernel_rfl
theorem h31:PP.make=some Rows.circServesRow.make:=by kernel_rfl
theorem g41:false=PP.looks []:=by kernel_rfl
theorem h30:PP.mainIs=some (true,"152206b468295c09f07cfe58f0e9bc0374c997f90507e7871cccfc4d7fea89a5".toList):=by kernel_rfl
end Go.Proofs.YtdahfgialanmpabGreatDoor
