/- InventoryKeeps: a part of the proof of the given statement, which is proved without conditions. -/
import Derived.Test.YteaknldbhmocpaaGreatDoorCards
import Derived.Test.YteaknldbhmocpaaGreatDoorTie
import Derived.ProofKit
import Derived.JoinedCond
set_option linter.all false
namespace Go.Proofs.YteaknldbhmocpaaGreatDoor
set_option maxRecDepth 100000
open Go Go.ChangeShapes Go.WideShapes Go.ChangeAt Go.RowKit
noncomputable abbrev PP:=Tryz.pinned.checked.prog
theorem a7k {a b:Bool} (ha:a=true) (hb:b=true):(a&&b)=true:=by rw[ha,hb];rfl
theorem d7v:laidOutB PP=true:=by kernel_rfl
theorem g8e:mapsRowed PP=true:=by kernel_rfl
theorem f93:(PP.stops==[])=true:=by kernel_rfl
theorem f90:(PP.stopKnobs==[])=true:=by kernel_rfl
theorem g8b:PP.plainKeys=true:=by kernel_rfl
theorem f9z:PP.stopsHeard=true:=by kernel_rfl
theorem f9y:PP.mayEnter=true:=by kernel_rfl
theorem f91:PP.liftsFinal=false:=by kernel_rfl
theorem g8d:PP.make=some Rows.inventoryComparesRow.make:=by kernel_rfl
theorem f92:false=PP.looks []:=by kernel_rfl
theorem g8c:PP.mainIs=some (true,"6c6f2def04e2bbefcb032a0c6f6239298fe268cf128fc653653a4beac01f4363".toList):=by kernel_rfl
end Go.Proofs.YteaknldbhmocpaaGreatDoor
