/- OfflinePlays: a part of the proof of the given statement, which is proved without conditions. -/
import Derived.Test.YtnajckeiaobmkaaGreatDoorCards
import Derived.Test.YtnajckeiaobmkaaGreatDoorTie
import Derived.ProofKit
import Derived.JoinedCond
set_option linter.all false
namespace Go.Proofs.YtnajckeiaobmkaaGreatDoor
set_option maxRecDepth 100000
open Go Go.ChangeShapes Go.WideShapes Go.ChangeAt Go.RowKit
noncomputable abbrev PP:=Tryz.pinned.checked.prog
theorem a8t {a b:Bool} (ha:a=true) (hb:b=true):(a&&b)=true:=by rw[ha,hb];rfl
theorem e45:laidOutB PP=true:=by kernel_rfl
theorem i33:mapsRowed PP=true:=by kernel_rfl
theorem h34:(PP.stops==[])=true:=by kernel_rfl
theorem h30:(PP.stopKnobs==[])=true:=by kernel_rfl
theorem i3z:PP.plainKeys=true:=by kernel_rfl
theorem h3z:PP.stopsHeard=true:=by kernel_rfl
theorem h3y:PP.mayEnter=true:=by kernel_rfl
theorem h31:PP.liftsFinal=false:=by kernel_rfl
theorem i31:PP.make=some Rows.offlinePlaysRow.make:=by kernel_rfl
theorem h33:true=PP.looks []:=by kernel_rfl
theorem i30:PP.mainIs=some (true,"19e2105d73bb68a18e5a32aad1ed20d6764efeac61a7ef8eea7a0b3a2205a471".toList):=by kernel_rfl
end Go.Proofs.YtnajckeiaobmkaaGreatDoor
