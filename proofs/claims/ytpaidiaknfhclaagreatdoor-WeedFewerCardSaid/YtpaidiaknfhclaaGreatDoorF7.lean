/- WeedFewer: a part of the proof of the given statement, which is proved without conditions. -/
import Derived.Test.YtpaidiaknfhclaaGreatDoorCards
import Derived.Test.YtpaidiaknfhclaaGreatDoorTie
import Derived.ProofKit
import Derived.JoinedCond
set_option linter.all false
namespace Go.Proofs.YtpaidiaknfhclaaGreatDoor
set_option maxRecDepth 100000
open Go Go.ChangeShapes Go.WideShapes Go.ChangeAt Go.RowKit
noncomputable abbrev PP:=Tryz.pinned.checked.prog
theorem and2 {a b:Bool} (ha:a=true) (hb:b=true):(a&&b)=true:=by rw[ha,hb];rfl
theorem z2d:laidOutB PP=true:=by kernel_rfl
theorem zau1:mapsRowed PP=true:=by kernel_rfl
theorem zamw:(PP.stops==[])=true:=by kernel_rfl
theorem zamt:(PP.stopKnobs==[])=true:=by kernel_rfl
theorem zauy:PP.plainKeys=true:=by kernel_rfl
theorem zams:PP.stopsHeard=true:=by kernel_rfl
theorem zamr:PP.mayEnter=true:=by kernel_rfl
theorem zamu:PP.liftsFinal=false:=by kernel_rfl
theorem zau0:PP.make=some Rows.weedUsesRow.make:=by kernel_rfl
theorem zamv:false=PP.looks []:=by kernel_rfl
theorem zauz:PP.mainIs=some (true,"20897aa02798555679a3af96f46e09dec2e3852fe7ec40e6423584e2ade9ee77".toList):=by kernel_rfl
end Go.Proofs.YtpaidiaknfhclaaGreatDoor
