/- OfflineContinues: a part of the proof of the given statement, which is proved without conditions. -/
import Derived.Test.YtnajckeiaobmkabGreatDoorCards
import Derived.Test.YtnajckeiaobmkabGreatDoorTie
import Derived.ProofKit
import Derived.JoinedCond
set_option linter.all false
namespace Go.Proofs.YtnajckeiaobmkabGreatDoor
set_option maxRecDepth 100000
open Go Go.ChangeShapes Go.WideShapes Go.ChangeAt Go.RowKit
noncomputable abbrev PP:=Tryz.pinned.checked.prog
theorem a8t {a b:Bool} (ha:a=true) (hb:b=true):(a&&b)=true:=by rw[ha,hb];rfl
theorem e0s:laidOutB PP=true:=by kernel_rfl
theorem h0l:mapsRowed PP=true:=by kernel_rfl
theorem g1c:(PP.stops==[])=true:=by kernel_rfl
theorem g09:(PP.stopKnobs==[])=true:=by kernel_rfl
theorem h0i:PP.plainKeys=true:=by kernel_rfl
theorem g08:PP.stopsHeard=true:=by kernel_rfl
theorem g07:PP.mayEnter=true:=by kernel_rfl
theorem g1a:PP.liftsFinal=false:=by kernel_rfl
theorem h0k:PP.make=some Rows.offlineContinuesRow.make:=by kernel_rfl
theorem g1b:true=PP.looks []:=by kernel_rfl
theorem h0j:PP.mainIs=some (true,"8ca8abee8d48c1a6bdaec6e8124c240a63a55629dcf32c7b8c842e0fc5852192".toList):=by kernel_rfl
end Go.Proofs.YtnajckeiaobmkabGreatDoor
