/- InventoryExact: a part of the proof of the given statement, which is proved without conditions. -/
import Derived.Test.YteaknldbhmocpaaGreatDoorCards
import Derived.Test.YteaknldbhmocpaaGreatDoorTie
import Derived.ProofKit
import Derived.JoinedCond
set_option linter.all false
namespace Go.Proofs.YteaknldbhmocpaaGreatDoor
set_option maxRecDepth 100000
open Go Go.ChangeShapes Go.WideShapes Go.ChangeAt Go.RowKit
noncomputable abbrev PP:=Tryz.pinned.checked.prog
theorem a4g {a b:Bool} (ha:a=true) (hb:b=true):(a&&b)=true:=by rw[ha,hb];rfl
theorem c54:laidOutB PP=true:=by kernel_rfl
theorem e97:mapsRowed PP=true:=by kernel_rfl
theorem e2w:(PP.stops==[])=true:=by kernel_rfl
theorem e2t:(PP.stopKnobs==[])=true:=by kernel_rfl
theorem e94:PP.plainKeys=true:=by kernel_rfl
theorem e2s:PP.stopsHeard=true:=by kernel_rfl
theorem e2r:PP.mayEnter=true:=by kernel_rfl
theorem e2u:PP.liftsFinal=false:=by kernel_rfl
theorem e96:PP.make=some Rows.inventoryComparesRow.make:=by kernel_rfl
theorem e2v:false=PP.looks []:=by kernel_rfl
theorem e95:PP.mainIs=some (true,"6c6f2def04e2bbefcb032a0c6f6239298fe268cf128fc653653a4beac01f4363".toList):=by kernel_rfl
end Go.Proofs.YteaknldbhmocpaaGreatDoor
