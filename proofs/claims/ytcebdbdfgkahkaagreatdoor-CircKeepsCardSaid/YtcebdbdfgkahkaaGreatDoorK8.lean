/- CircKeeps: a part of the proof of the given statement, which is proved without conditions. -/
import Derived.Test.YtcebdbdfgkahkaaGreatDoorCards
import Derived.Test.YtcebdbdfgkahkaaGreatDoorTie
import Derived.ProofKit
import Derived.JoinedCond
set_option linter.all false
namespace Go.Proofs.YtcebdbdfgkahkaaGreatDoor
set_option maxRecDepth 100000
open Go Go.ChangeShapes Go.WideShapes Go.ChangeAt Go.RowKit
noncomputable abbrev PP:=Tryz.pinned.checked.prog
theorem a9a {a b:Bool} (ha:a=true) (hb:b=true):(a&&b)=true:=by rw[ha,hb];rfl
theorem e2s:laidOutB PP=true:=by kernel_rfl
theorem h5f:mapsRowed PP=true:=by kernel_rfl
theorem g6a:(PP.stops==[])=true:=by kernel_rfl
theorem g57:(PP.stopKnobs==[])=true:=by kernel_rfl
theorem h5c:PP.plainKeys=true:=by kernel_rfl
theorem g56:PP.stopsHeard=true:=by kernel_rfl
theorem g55:PP.mayEnter=true:=by kernel_rfl
theorem g58:PP.liftsFinal=false:=by kernel_rfl
theorem h5e:PP.make=some Rows.circKeepsRow.make:=by kernel_rfl
theorem g59:false=PP.looks []:=by kernel_rfl
theorem h5d:PP.mainIs=some (true,"34f04a586e526ededcb60161216852f8721a2b5532743eedc3763aecb5eccb23".toList):=by kernel_rfl
end Go.Proofs.YtcebdbdfgkahkaaGreatDoor
