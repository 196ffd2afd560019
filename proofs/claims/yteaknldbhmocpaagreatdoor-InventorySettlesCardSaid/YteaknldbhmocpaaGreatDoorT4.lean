/- InventorySettles: a part of the proof of the given statement, which is proved without conditions. -/
import Derived.Test.YteaknldbhmocpaaGreatDoorT3
import Derived.Sort.Defs
import Derived.Lib.Small
import Derived.Lib.BitFns
import Derived.Lib.DecodeN
import Derived.Lib.SlicesCompact
import Derived.KernelRfl
import Derived.Test.YteaknldbhmocpaaGreatDoorProg
import Derived.Shelf.RegionOpenPlain
import Derived.WalkKit
import Derived.Lib.Walk
import Derived.Lib.AppendZerosOnto
import Derived.Lib.AppendZeros
import Derived.Laws.Externs
import Derived.Laws.CopyOwn
import Derived.Deep.RegionLaw
set_option linter.all false
namespace Go.Proofs.YteaknldbhmocpaaGreatDoor.Ev
open Go
def b1x {α:Type} (s:List α) (i:Int) (v:List α):Option (List α):=
 match v with
 | [y]=>bif decide (0≤i)&&decide (i≤(s.length:Int))&&decide (s.length+1≤1073741824) then some (s.take i.toNat++y::s.drop i.toNat) else none
 |_=>none
def b1h {α:Type} (s:List α) (i j:Int):Option (List α):=
 bif decide (0≤i)&&decide (i≤j)&&decide (j≤(s.length:Int))&&decide (s.length≤1073741824) then some (s.take i.toNat++s.drop j.toNat) else none
def dcd:List UInt8→Nat×Nat
 | []=>(0,0)
 |a::r=>
  if 32≤a.toNat∧a.toNat<127 then (a.toNat,1)
  else if 194≤a.toNat∧a.toNat<224 then
   (match r with
   |b::_=>if (128≤b.toNat∧b.toNat<192)∧160≤(a.toNat-192)*64+b.toNat-128 then ((a.toNat-192)*64+b.toNat-128,2) else (0,0)
   | []=>(0,0))
  else if 224≤a.toNat∧a.toNat<240 then
   (match r with
   |b::c::_=>
    if ((128≤b.toNat∧b.toNat<192)∧(128≤c.toNat∧c.toNat<192))∧2048≤(a.toNat-224)*4096+(b.toNat-128)*64+c.toNat-128∧
     ((a.toNat-224)*4096+(b.toNat-128)*64+c.toNat-128<55296∨57343<(a.toNat-224)*4096+(b.toNat-128)*64+c.toNat-128) then
     ((a.toNat-224)*4096+(b.toNat-128)*64+c.toNat-128,3) else (0,0)
   |_=>(0,0))
  else (0,0)
def d3o:Nat→List UInt8→Bool
 |0,_=>true
 |n+1,l=>if l=[] then true else if (dcd l).2=0 then false else d3o n (l.drop (dcd l).2)
def vld (s:List UInt8):Bool:=d3o s.length s
def wid (l:List UInt8):Nat:=if (dcd l).2<1 then 1 else (dcd l).2
def blk (c:Nat):Bool:=c==32||c==160
def b8u:Nat→List UInt8→List UInt8→Bool→List UInt8
 |0,_,out,_=>out
 |n+1,l,out,gap=>if l=[] then out else
  if blk (dcd l).1 then b8u n (l.drop (wid l)) out true
  else b8u n (l.drop (wid l)) ((if gap&&!(out==[]) then out++[32] else out)++l.take (wid l)) false
def cln (s:List UInt8):List UInt8:=b8u s.length s [] false
end Go.Proofs.YteaknldbhmocpaaGreatDoor.Ev
namespace Go.Proofs.YteaknldbhmocpaaGreatDoor
open Ev
open Go (IntKind)
section
set_option maxRecDepth 100000
structure V4 (α:Type) where
 x0:α
 x1:α
 x2:α
 x3:α
structure V7 (α:Type) where
 x0:α
 x1:α
 x2:α
 x3:α
 x4:α
 x5:α
 x6:α
structure Custody where
 State:Int
 Branch:Int
 Who:Int
 To:Int
structure Item where
 ID:Int
 Record:Int
 Branch:Int
 Kind:Int
 Price:Int
 Call:List UInt8
 Custody:Custody
structure Patron where
 ID:Int
 Kind:Int
 Branch:Int
 Until:Int
 Stopped:Bool
 Name:List UInt8
structure Loan where
 Item:Int
 Patron:Int
 Out:Int
 Due:Int
 Renewals:Int
 Recalled:Bool
structure Hold where
 ID:Int
 Patron:Int
 Record:Int
 Item:Int
 Pickup:Int
 Placed:Int
 State:Int
 Got:Int
 Until:Int
 Asleep:Int
 Rank:Int
structure Charge where
 ID:Int
 Patron:Int
 Item:Int
 Day:Int
 Kind:Int
 Amount:Int
 Paid:Int
structure Rule where
 Patron:Int
 Item:Int
 Branch:Int
 Days:Int
 Renewals:Int
 Fine:Int
 Grace:Int
 MaxFine:Int
 Loans:Int
 Shelf:Int
 Recall:Int
 Fixed:Int
 Rank:Int
structure Calendar where
 Week:Int
 Closed:List Int
structure Move where
 Day:Int
 Item:Int
 Kind:Int
 Branch:Int
 Who:Int
structure Circ where
 Today:Int
 Items:List Item
 Patrons:List Patron
 Loans:List Loan
 Holds:List Hold
 Charges:List Charge
 Rules:List Rule
 Cals:V4 Calendar
 Moves:List Move
 NextHold:Int
 NextCharge:Int
 Local:Bool
structure MapI where
 key:Int
 val:Int
structure Problem where
 Kind:Int
 Index:Int
 Tag:List UInt8
 Code:Int
structure Circ_desk where
 c:Circ
 err:Int
structure MapS where
 key:Int
 val:List UInt8
structure Utf8_acceptRange where
 lo:Int
 hi:Int
inductive Kd where
 |kItem
 |kPatron
 |kLoan
 |kHold
 |kCharge
 |kRule
 |ki64
 |kMove
 |kMapI
 |kProblem
 |kstr
 |kMapS
 |kbool
 |ku64
 |ku8
 |kUtf8_acceptRange
 |ku16
abbrev El:Kd→Type
 |.kItem=>Item
 |.kPatron=>Patron
 |.kLoan=>Loan
 |.kHold=>Hold
 |.kCharge=>Charge
 |.kRule=>Rule
 |.ki64=>Int
 |.kMove=>Move
 |.kMapI=>MapI
 |.kProblem=>Problem
 |.kstr=>List UInt8
 |.kMapS=>MapS
 |.kbool=>Bool
 |.ku64=>Int
 |.ku8=>Int
 |.kUtf8_acceptRange=>Utf8_acceptRange
 |.ku16=>Int
abbrev DD:=D Kd El
abbrev Sm (R:Type):=a2x Kd El R
abbrev y7 {α β:Type} (ta:List (Nat×Nat×Kd)) (se ss bs az:List Nat) (fc:FC Kd El α) [FCC fc] (step:α→Option (α⊕β)) (oc:OC Kd El β):LD Kd El α β:=⟨ta,se,ss,bs,az,fc,step,oc⟩
instance:KdEq Kd where
 dec:=fun a b=>match a,b with
  |.kItem,.kItem=>some ⟨rfl⟩
  |.kPatron,.kPatron=>some ⟨rfl⟩
  |.kLoan,.kLoan=>some ⟨rfl⟩
  |.kHold,.kHold=>some ⟨rfl⟩
  |.kCharge,.kCharge=>some ⟨rfl⟩
  |.kRule,.kRule=>some ⟨rfl⟩
  |.ki64,.ki64=>some ⟨rfl⟩
  |.kMove,.kMove=>some ⟨rfl⟩
  |.kMapI,.kMapI=>some ⟨rfl⟩
  |.kProblem,.kProblem=>some ⟨rfl⟩
  |.kstr,.kstr=>some ⟨rfl⟩
  |.kMapS,.kMapS=>some ⟨rfl⟩
  |.kbool,.kbool=>some ⟨rfl⟩
  |.ku64,.ku64=>some ⟨rfl⟩
  |.ku8,.ku8=>some ⟨rfl⟩
  |.kUtf8_acceptRange,.kUtf8_acceptRange=>some ⟨rfl⟩
  |.ku16,.ku16=>some ⟨rfl⟩
  |_,_=>none
abbrev wr (k:IntKind) (n:Int):Int:=IntKind.wrap k n
def c4q (x:Custody):List DD:=[.int .i64 x.State,.int .i64 x.Branch,.int .i64 x.Who,.int .i64 x.To]
def y0:CC Kd El Custody:=(CC.cons (Cod.int .i64) (CC.cons (Cod.int .i64) (CC.cons (Cod.int .i64) (CC.cons (Cod.int .i64) CC.nil)))).iso c4q (fun p=>⟨p.1,p.2.1,p.2.2.1,p.2.2.2.1⟩)
def e5v (x:Item):List DD:=[.int .i64 x.ID,.int .i64 x.Record,.int .i64 x.Branch,.int .i64 x.Kind,.int .i64 x.Price,.str x.Call,.int .i64 x.Custody.State,.int .i64 x.Custody.Branch,.int .i64 x.Custody.Who,.int .i64 x.Custody.To]
def a1k:CC Kd El Item:=(CC.cons (Cod.int .i64) (CC.cons (Cod.int .i64) (CC.cons (Cod.int .i64) (CC.cons (Cod.int .i64) (CC.cons (Cod.int .i64) (CC.cons Cod.str (CC.cons (Cod.int .i64) (CC.cons (Cod.int .i64) (CC.cons (Cod.int .i64) (CC.cons (Cod.int .i64) CC.nil)))))))))).iso e5v (fun p=>⟨p.1,p.2.1,p.2.2.1,p.2.2.2.1,p.2.2.2.2.1,p.2.2.2.2.2.1,⟨p.2.2.2.2.2.2.1,p.2.2.2.2.2.2.2.1,p.2.2.2.2.2.2.2.2.1,p.2.2.2.2.2.2.2.2.2.1⟩⟩)
def d1h (x:Patron):List DD:=[.int .i64 x.ID,.int .i64 x.Kind,.int .i64 x.Branch,.int .i64 x.Until,.bool x.Stopped,.str x.Name]
def a42:CC Kd El Patron:=(CC.cons (Cod.int .i64) (CC.cons (Cod.int .i64) (CC.cons (Cod.int .i64) (CC.cons (Cod.int .i64) (CC.cons Cod.bool (CC.cons Cod.str CC.nil)))))).iso d1h (fun p=>⟨p.1,p.2.1,p.2.2.1,p.2.2.2.1,p.2.2.2.2.1,p.2.2.2.2.2.1⟩)
def e5w (x:Loan):List DD:=[.int .i64 x.Item,.int .i64 x.Patron,.int .i64 x.Out,.int .i64 x.Due,.int .i64 x.Renewals,.bool x.Recalled]
def a58:CC Kd El Loan:=(CC.cons (Cod.int .i64) (CC.cons (Cod.int .i64) (CC.cons (Cod.int .i64) (CC.cons (Cod.int .i64) (CC.cons (Cod.int .i64) (CC.cons Cod.bool CC.nil)))))).iso e5w (fun p=>⟨p.1,p.2.1,p.2.2.1,p.2.2.2.1,p.2.2.2.2.1,p.2.2.2.2.2.1⟩)
def e5u (x:Hold):List DD:=[.int .i64 x.ID,.int .i64 x.Patron,.int .i64 x.Record,.int .i64 x.Item,.int .i64 x.Pickup,.int .i64 x.Placed,.int .i64 x.State,.int .i64 x.Got,.int .i64 x.Until,.int .i64 x.Asleep,.int .i64 x.Rank]
def a0a:CC Kd El Hold:=(CC.cons (Cod.int .i64) (CC.cons (Cod.int .i64) (CC.cons (Cod.int .i64) (CC.cons (Cod.int .i64) (CC.cons (Cod.int .i64) (CC.cons (Cod.int .i64) (CC.cons (Cod.int .i64) (CC.cons (Cod.int .i64) (CC.cons (Cod.int .i64) (CC.cons (Cod.int .i64) (CC.cons (Cod.int .i64) CC.nil))))))))))).iso e5u (fun p=>⟨p.1,p.2.1,p.2.2.1,p.2.2.2.1,p.2.2.2.2.1,p.2.2.2.2.2.1,p.2.2.2.2.2.2.1,p.2.2.2.2.2.2.2.1,p.2.2.2.2.2.2.2.2.1,p.2.2.2.2.2.2.2.2.2.1,p.2.2.2.2.2.2.2.2.2.2.1⟩)
def d1g (x:Charge):List DD:=[.int .i64 x.ID,.int .i64 x.Patron,.int .i64 x.Item,.int .i64 x.Day,.int .i64 x.Kind,.int .i64 x.Amount,.int .i64 x.Paid]
def a2m:CC Kd El Charge:=(CC.cons (Cod.int .i64) (CC.cons (Cod.int .i64) (CC.cons (Cod.int .i64) (CC.cons (Cod.int .i64) (CC.cons (Cod.int .i64) (CC.cons (Cod.int .i64) (CC.cons (Cod.int .i64) CC.nil))))))).iso d1g (fun p=>⟨p.1,p.2.1,p.2.2.1,p.2.2.2.1,p.2.2.2.2.1,p.2.2.2.2.2.1,p.2.2.2.2.2.2.1⟩)
def e50 (x:Rule):List DD:=[.int .i64 x.Patron,.int .i64 x.Item,.int .i64 x.Branch,.int .i64 x.Days,.int .i64 x.Renewals,.int .i64 x.Fine,.int .i64 x.Grace,.int .i64 x.MaxFine,.int .i64 x.Loans,.int .i64 x.Shelf,.int .i64 x.Recall,.int .i64 x.Fixed,.int .i64 x.Rank]
def a6a:CC Kd El Rule:=(CC.cons (Cod.int .i64) (CC.cons (Cod.int .i64) (CC.cons (Cod.int .i64) (CC.cons (Cod.int .i64) (CC.cons (Cod.int .i64) (CC.cons (Cod.int .i64) (CC.cons (Cod.int .i64) (CC.cons (Cod.int .i64) (CC.cons (Cod.int .i64) (CC.cons (Cod.int .i64) (CC.cons (Cod.int .i64) (CC.cons (Cod.int .i64) (CC.cons (Cod.int .i64) CC.nil))))))))))))).iso e50 (fun p=>⟨p.1,p.2.1,p.2.2.1,p.2.2.2.1,p.2.2.2.2.1,p.2.2.2.2.2.1,p.2.2.2.2.2.2.1,p.2.2.2.2.2.2.2.1,p.2.2.2.2.2.2.2.2.1,p.2.2.2.2.2.2.2.2.2.1,p.2.2.2.2.2.2.2.2.2.2.1,p.2.2.2.2.2.2.2.2.2.2.2.1,p.2.2.2.2.2.2.2.2.2.2.2.2.1⟩)
def c0e (x:Calendar):List DD:=[.int .i64 x.Week,.lst .ki64 x.Closed]
def n8:CC Kd El Calendar:=(CC.cons (Cod.int .i64) (CC.cons (Cod.lst Kd.ki64) CC.nil)).iso c0e (fun p=>⟨p.1,p.2.1⟩)
def e5z (x:Move):List DD:=[.int .i64 x.Day,.int .i64 x.Item,.int .i64 x.Kind,.int .i64 x.Branch,.int .i64 x.Who]
def a59:CC Kd El Move:=(CC.cons (Cod.int .i64) (CC.cons (Cod.int .i64) (CC.cons (Cod.int .i64) (CC.cons (Cod.int .i64) (CC.cons (Cod.int .i64) CC.nil))))).iso e5z (fun p=>⟨p.1,p.2.1,p.2.2.1,p.2.2.2.1,p.2.2.2.2.1⟩)
def e5t (x:Circ):List DD:=[.int .i64 x.Today,.lst .kItem x.Items,.lst .kPatron x.Patrons,.lst .kLoan x.Loans,.lst .kHold x.Holds,.lst .kCharge x.Charges,.lst .kRule x.Rules,.int .i64 x.Cals.x0.Week,.lst .ki64 x.Cals.x0.Closed,.int .i64 x.Cals.x1.Week,.lst .ki64 x.Cals.x1.Closed,.int .i64 x.Cals.x2.Week,.lst .ki64 x.Cals.x2.Closed,.int .i64 x.Cals.x3.Week,.lst .ki64 x.Cals.x3.Closed,.lst .kMove x.Moves,.int .i64 x.NextHold,.int .i64 x.NextCharge,.bool x.Local]
def f7:CC Kd El Circ:=(CC.cons (Cod.int .i64) (CC.cons (Cod.lst Kd.kItem) (CC.cons (Cod.lst Kd.kPatron) (CC.cons (Cod.lst Kd.kLoan) (CC.cons (Cod.lst Kd.kHold) (CC.cons (Cod.lst Kd.kCharge) (CC.cons (Cod.lst Kd.kRule) (CC.cons (Cod.int .i64) (CC.cons (Cod.lst Kd.ki64) (CC.cons (Cod.int .i64) (CC.cons (Cod.lst Kd.ki64) (CC.cons (Cod.int .i64) (CC.cons (Cod.lst Kd.ki64) (CC.cons (Cod.int .i64) (CC.cons (Cod.lst Kd.ki64) (CC.cons (Cod.lst Kd.kMove) (CC.cons (Cod.int .i64) (CC.cons (Cod.int .i64) (CC.cons Cod.bool CC.nil))))))))))))))))))).iso e5t (fun p=>⟨p.1,p.2.1,p.2.2.1,p.2.2.2.1,p.2.2.2.2.1,p.2.2.2.2.2.1,p.2.2.2.2.2.2.1,⟨⟨p.2.2.2.2.2.2.2.1,p.2.2.2.2.2.2.2.2.1⟩,⟨p.2.2.2.2.2.2.2.2.2.1,p.2.2.2.2.2.2.2.2.2.2.1⟩,⟨p.2.2.2.2.2.2.2.2.2.2.2.1,p.2.2.2.2.2.2.2.2.2.2.2.2.1⟩,⟨p.2.2.2.2.2.2.2.2.2.2.2.2.2.1,p.2.2.2.2.2.2.2.2.2.2.2.2.2.2.1⟩⟩,p.2.2.2.2.2.2.2.2.2.2.2.2.2.2.2.1,p.2.2.2.2.2.2.2.2.2.2.2.2.2.2.2.2.1,p.2.2.2.2.2.2.2.2.2.2.2.2.2.2.2.2.2.1,p.2.2.2.2.2.2.2.2.2.2.2.2.2.2.2.2.2.2.1⟩)
def e5x (x:MapI):List DD:=[.int .i64 x.key,.int .i64 x.val]
def c31:CC Kd El MapI:=(CC.cons (Cod.int .i64) (CC.cons (Cod.int .i64) CC.nil)).iso e5x (fun p=>⟨p.1,p.2.1⟩)
def c4r (x:Problem):List DD:=[.int .i64 x.Kind,.int .i64 x.Index,.str x.Tag,.int .u8 x.Code]
def a8x:CC Kd El Problem:=(CC.cons (Cod.int .i64) (CC.cons (Cod.int .i64) (CC.cons Cod.str (CC.cons (Cod.int .u8) CC.nil)))).iso c4r (fun p=>⟨p.1,p.2.1,p.2.2.1,p.2.2.2.1⟩)
def b7b (x:Circ_desk):List DD:=[.int .i64 x.c.Today,.lst .kItem x.c.Items,.lst .kPatron x.c.Patrons,.lst .kLoan x.c.Loans,.lst .kHold x.c.Holds,.lst .kCharge x.c.Charges,.lst .kRule x.c.Rules,.int .i64 x.c.Cals.x0.Week,.lst .ki64 x.c.Cals.x0.Closed,.int .i64 x.c.Cals.x1.Week,.lst .ki64 x.c.Cals.x1.Closed,.int .i64 x.c.Cals.x2.Week,.lst .ki64 x.c.Cals.x2.Closed,.int .i64 x.c.Cals.x3.Week,.lst .ki64 x.c.Cals.x3.Closed,.lst .kMove x.c.Moves,.int .i64 x.c.NextHold,.int .i64 x.c.NextCharge,.bool x.c.Local,.int .i64 x.err]
def n5:CC Kd El Circ_desk:=(CC.cons (Cod.int .i64) (CC.cons (Cod.lst Kd.kItem) (CC.cons (Cod.lst Kd.kPatron) (CC.cons (Cod.lst Kd.kLoan) (CC.cons (Cod.lst Kd.kHold) (CC.cons (Cod.lst Kd.kCharge) (CC.cons (Cod.lst Kd.kRule) (CC.cons (Cod.int .i64) (CC.cons (Cod.lst Kd.ki64) (CC.cons (Cod.int .i64) (CC.cons (Cod.lst Kd.ki64) (CC.cons (Cod.int .i64) (CC.cons (Cod.lst Kd.ki64) (CC.cons (Cod.int .i64) (CC.cons (Cod.lst Kd.ki64) (CC.cons (Cod.lst Kd.kMove) (CC.cons (Cod.int .i64) (CC.cons (Cod.int .i64) (CC.cons Cod.bool (CC.cons (Cod.int .i64) CC.nil)))))))))))))))))))).iso b7b (fun p=>⟨⟨p.1,p.2.1,p.2.2.1,p.2.2.2.1,p.2.2.2.2.1,p.2.2.2.2.2.1,p.2.2.2.2.2.2.1,⟨⟨p.2.2.2.2.2.2.2.1,p.2.2.2.2.2.2.2.2.1⟩,⟨p.2.2.2.2.2.2.2.2.2.1,p.2.2.2.2.2.2.2.2.2.2.1⟩,⟨p.2.2.2.2.2.2.2.2.2.2.2.1,p.2.2.2.2.2.2.2.2.2.2.2.2.1⟩,⟨p.2.2.2.2.2.2.2.2.2.2.2.2.2.1,p.2.2.2.2.2.2.2.2.2.2.2.2.2.2.1⟩⟩,p.2.2.2.2.2.2.2.2.2.2.2.2.2.2.2.1,p.2.2.2.2.2.2.2.2.2.2.2.2.2.2.2.2.1,p.2.2.2.2.2.2.2.2.2.2.2.2.2.2.2.2.2.1,p.2.2.2.2.2.2.2.2.2.2.2.2.2.2.2.2.2.2.1⟩,p.2.2.2.2.2.2.2.2.2.2.2.2.2.2.2.2.2.2.2.1⟩)
def e5y (x:MapS):List DD:=[.int .i64 x.key,.str x.val]
def c32:CC Kd El MapS:=(CC.cons (Cod.int .i64) (CC.cons Cod.str CC.nil)).iso e5y (fun p=>⟨p.1,p.2.1⟩)
def a7a (x:Utf8_acceptRange):List DD:=[.int .u8 x.lo,.int .u8 x.hi]
def a1y:CC Kd El Utf8_acceptRange:=(CC.cons (Cod.int .u8) (CC.cons (Cod.int .u8) CC.nil)).iso a7a (fun p=>⟨p.1,p.2.1⟩)
def c4s (x:V7 Bool):List DD:=[.bool x.x0,.bool x.x1,.bool x.x2,.bool x.x3,.bool x.x4,.bool x.x5,.bool x.x6]
def a0n:CC Kd El (V7 Bool):=(CC.cons Cod.bool (CC.cons Cod.bool (CC.cons Cod.bool (CC.cons Cod.bool (CC.cons Cod.bool (CC.cons Cod.bool (CC.cons Cod.bool CC.nil))))))).iso c4s (fun p=>⟨p.1,p.2.1,p.2.2.1,p.2.2.2.1,p.2.2.2.2.1,p.2.2.2.2.2.1,p.2.2.2.2.2.2.1⟩)
def ccK:(k:Kd)→CC Kd El (El k)
 |.kItem=>a1k
 |.kPatron=>a42
 |.kLoan=>a58
 |.kHold=>a0a
 |.kCharge=>a2m
 |.kRule=>a6a
 |.ki64=>CC.one (Cod.int .i64)
 |.kMove=>a59
 |.kMapI=>c31
 |.kProblem=>a8x
 |.kstr=>CC.one Cod.str
 |.kMapS=>c32
 |.kbool=>CC.one Cod.bool
 |.ku64=>CC.one (Cod.int .u64)
 |.ku8=>CC.one (Cod.int .u8)
 |.kUtf8_acceptRange=>a1y
 |.ku16=>CC.one (Cod.int .u16)
def h4g:Kd→Nat
 |.kItem=>10
 |.kPatron=>6
 |.kLoan=>6
 |.kHold=>11
 |.kCharge=>7
 |.kRule=>13
 |.ki64=>1
 |.kMove=>5
 |.kMapI=>2
 |.kProblem=>4
 |.kstr=>1
 |.kMapS=>2
 |.kbool=>1
 |.ku64=>1
 |.ku8=>1
 |.kUtf8_acceptRange=>2
 |.ku16=>1
def h4f (t:Nat):Option Kd:=bif Nat.beq t 321 then some .kMapS else bif Nat.beq t 319 then some .kMapI else bif Nat.beq t 312 then some .ku8 else bif Nat.beq t 311 then some .ku8 else bif Nat.beq t 261 then some .ku16 else bif Nat.beq t 259 then some .kUtf8_acceptRange else bif Nat.beq t 208 then some .ku64 else bif Nat.beq t 166 then some .ku64 else bif Nat.beq t 155 then some .ki64 else bif Nat.beq t 110 then some .ku64 else bif Nat.beq t 87 then some .kMove else bif Nat.beq t 85 then some .kRule else bif Nat.beq t 83 then some .kCharge else bif Nat.beq t 81 then some .kHold else bif Nat.beq t 79 then some .kLoan else bif Nat.beq t 77 then some .kPatron else bif Nat.beq t 61 then some .kItem else bif Nat.beq t 57 then some .kProblem else bif Nat.beq t 42 then some .ki64 else bif Nat.beq t 12 then some .ku64 else bif Nat.beq t 11 then some .kstr else bif Nat.beq t 10 then some .kstr else bif Nat.beq t 9 then some .kstr else bif Nat.beq t 6 then some .ku8 else bif Nat.beq t 5 then some .ku8 else bif Nat.beq t 4 then some .kbool else bif Nat.beq t 3 then some .ki64 else bif Nat.beq t 2 then some .ki64 else none
def i6:List Int:=(List.range 20).map fun i=>((10 ^ i:Nat):Int)
def s7:List Int:=(List.range 256).map fun c=>(Go.Lib.firstT c:Int)
def j6:List Utf8_acceptRange:=(List.range 16).map fun i=>⟨(Go.Lib.accLo i:Int),(Go.Lib.accHi i:Int)⟩
def a05:List Int:=[0,32770,41316,42344,6160,8268,8320,8704,16,4112,32784,49152,0]
def c7y (t:Nat):Option ((k:Kd)×List (El k)):=bif Nat.beq t 3 then some ⟨.ku16,a05⟩ else bif Nat.beq t 2 then some ⟨.kUtf8_acceptRange,j6⟩ else bif Nat.beq t 1 then some ⟨.ku8,s7⟩ else bif Nat.beq t 0 then some ⟨.ku64,i6⟩ else none
def h4i (f:Nat):Md:=bif Nat.beq f 256 then .fresh else bif Nat.beq f 134 then .inpl else bif Nat.beq f 73 then .inpl else bif Nat.beq f 19 then .fresh else bif Nat.beq f 325 then .inpl else bif Nat.beq f 324 then .inpl else bif Nat.beq f 313 then .cons else bif Nat.beq f 312 then .inpl else bif Nat.beq f 292 then .inpl else bif Nat.beq f 253 then .mut else bif Nat.beq f 250 then .fresh else bif Nat.beq f 249 then .cons else bif Nat.beq f 212 then .mut else bif Nat.beq f 210 then .fresh else bif Nat.beq f 202 then .fresh else bif Nat.beq f 201 then .cons else bif Nat.beq f 192 then .mut else bif Nat.beq f 190 then .fresh else bif Nat.beq f 130 then .mut else bif Nat.beq f 127 then .mut else bif Nat.beq f 125 then .mut else bif Nat.beq f 124 then .mut else bif Nat.beq f 123 then .mut else bif Nat.beq f 122 then .fresh else bif Nat.beq f 121 then .cons else bif Nat.beq f 84 then .mut else bif Nat.beq f 82 then .mut else bif Nat.beq f 80 then .mut else bif Nat.beq f 79 then .mut else bif Nat.beq f 78 then .mut else bif Nat.beq f 77 then .mut else bif Nat.beq f 76 then .newb else bif Nat.beq f 70 then .fresh else bif Nat.beq f 35 then .cons else bif Nat.beq f 34 then .inpl else bif Nat.beq f 30 then .nmap else .data
def g8j (t:Nat):Bool:=Nat.beq t 87||(Nat.beq t 85||(Nat.beq t 83||(Nat.beq t 81||(Nat.beq t 79||(Nat.beq t 77||(Nat.beq t 61||(Nat.beq t 59||(Nat.beq t 57||(false)))))))))
def g16:MpK Kd El:=h26 .kMapI MapI.key MapI.val (fun k v=>⟨k,v⟩)
def g2a:MpK Kd El:=h27 .kMapS MapS.key MapS.val (fun k v=>⟨k,v⟩)
def g9r (t:Nat):Option (MpK Kd El):=bif Nat.beq t 88 then some g2a else bif Nat.beq t 62 then some g16 else none
def h4d (f:Nat):Option Kd:=bif Nat.beq f 324 then some .kHold else bif Nat.beq f 313 then some .kLoan else bif Nat.beq f 312 then some .kHold else bif Nat.beq f 292 then some .kHold else bif Nat.beq f 249 then some .kPatron else bif Nat.beq f 201 then some .kLoan else bif Nat.beq f 134 then some .ki64 else bif Nat.beq f 121 then some .kItem else bif Nat.beq f 73 then some .ki64 else bif Nat.beq f 35 then some .ki64 else bif Nat.beq f 34 then some .ki64 else none
def h22 (n:Nat):Bool:=Nat.beq n 0
def sg:Sg Kd El:=⟨fun k=>(ccK k).enc,fun k=>(ccK k).dec,h4g,h4f,c7y,h4i,g8j,g9r,h4d,h22⟩
def a0j (x y:Custody):Bool:=(x.State==y.State&&(x.Branch==y.Branch&&(x.Who==y.Who&&(x.To==y.To&&true))))
def b7e (x y:Item):Bool:=(x.ID==y.ID&&(x.Record==y.Record&&(x.Branch==y.Branch&&(x.Kind==y.Kind&&(x.Price==y.Price&&(x.Call==y.Call&&(a0j x.Custody y.Custody&&true)))))))
def a83 (x y:Patron):Bool:=(x.ID==y.ID&&(x.Kind==y.Kind&&(x.Branch==y.Branch&&(x.Until==y.Until&&(x.Stopped==y.Stopped&&(x.Name==y.Name&&true))))))
def b7g (x y:Loan):Bool:=(x.Item==y.Item&&(x.Patron==y.Patron&&(x.Out==y.Out&&(x.Due==y.Due&&(x.Renewals==y.Renewals&&(x.Recalled==y.Recalled&&true))))))
def b7c (x y:Hold):Bool:=(x.ID==y.ID&&(x.Patron==y.Patron&&(x.Record==y.Record&&(x.Item==y.Item&&(x.Pickup==y.Pickup&&(x.Placed==y.Placed&&(x.State==y.State&&(x.Got==y.Got&&(x.Until==y.Until&&(x.Asleep==y.Asleep&&(x.Rank==y.Rank&&true)))))))))))
def a82 (x y:Charge):Bool:=(x.ID==y.ID&&(x.Patron==y.Patron&&(x.Item==y.Item&&(x.Day==y.Day&&(x.Kind==y.Kind&&(x.Amount==y.Amount&&(x.Paid==y.Paid&&true)))))))
def b7k (x y:Rule):Bool:=(x.Patron==y.Patron&&(x.Item==y.Item&&(x.Branch==y.Branch&&(x.Days==y.Days&&(x.Renewals==y.Renewals&&(x.Fine==y.Fine&&(x.Grace==y.Grace&&(x.MaxFine==y.MaxFine&&(x.Loans==y.Loans&&(x.Shelf==y.Shelf&&(x.Recall==y.Recall&&(x.Fixed==y.Fixed&&(x.Rank==y.Rank&&true)))))))))))))
def b7i (x y:Move):Bool:=(x.Day==y.Day&&(x.Item==y.Item&&(x.Kind==y.Kind&&(x.Branch==y.Branch&&(x.Who==y.Who&&true)))))
abbrev ZC:=CC Kd El
abbrev ZF:=FC Kd El
abbrev ZD:=Cod Kd El
abbrev Zi:ZD Int:=Cod.int .i64
abbrev Zb:ZD Bool:=Cod.bool
abbrev Zl (k:Kd):ZD (List (El k)):=Cod.lst k
abbrev Zn:ZC Unit:=CC.nil
abbrev Zz:ZF Unit:=FC.nil
section
variable {α β:Type}
abbrev Zc:ZD α→ZC β→ZC (α×β):=CC.cons
abbrev Zs:Nat→ZD α→ZF β→ZF (α×β):=FC.slot
abbrev Zp:Nat→Nat→ZF β→ZF β:=FC.ptr
abbrev Zx:Nat→ZC α→ZF β→ZF (α×β):=FC.box
end
abbrev ZN:Circ:=⟨0,[],[],[],[],[],[],⟨⟨0,[]⟩,⟨0,[]⟩,⟨0,[]⟩,⟨0,[]⟩⟩,[],0,0,false⟩
end
section
def qd5 (s:List Item) (i:Int) (v:List Item):Option (List Item):=b1x s i v
def qdp (s:List Patron) (i:Int) (v:List Patron):Option (List Patron):=b1x s i v
def qd4 (s:List Loan) (i:Int) (v:List Loan):Option (List Loan):=b1x s i v
def qda (s:List Loan) (i j:Int):Option (List Loan):=b1h s i j
def qbc (s:List Int):Option (List Int):=bif decide (s.length≤LIM) then some (s.mergeSort fun x y=>decide (x≤y)) else none
def qba (s:List Int):Option (List Int):=bif decide (s.length≤LIM) then some (Go.Lib.compact s) else none
def qcf {γ0:Type} (p:γ0→Hold→Hold→Option Int) (s:List Hold) (a m b:Int) (g:γ0):Option (List Hold):=none
@[inline] def g6f:Nat→Nat→List UInt8→List UInt8|0,_,a=>a|f+1,u,a=>bif decide (u<10) then UInt8.ofNat (48+u)::a else g6f f (u / 10) (UInt8.ofNat (48+u % 10)::a)
def qd7 (n:Int):Option (List UInt8):=bif decide (-9223372036854775808≤n)&&decide (n≤9223372036854775807) then some (bif decide (n<0) then 45::g6f 20 n.natAbs [] else g6f 20 n.natAbs []) else none
def qec (s:List UInt8):Option Bool:=bif decide (s.length≤LIM) then some (vld s) else none
def qed (s:List UInt8):Option (List UInt8):=bif decide (s.length≤LIM)&&vld s then some (cln s) else none
end
section
set_option maxRecDepth 100000
def qcs:Option Bool:=some true
def d2q:(Int×Circ×Unit)→Option ((Int×Circ×Unit)⊕((Circ×Unit)⊕(Bool×Unit))):=fun (i,c,_)=>
 bif decide (i<(c.Items.length:Int)) then match m9 c.Items i with|some x =>bif decide (300<(x.Call.length:Int)) then some (.inr (.inr (false,()))) else some (.inl (wr .i64 (i+1),c,()))|none =>none else some (.inr (.inl (c,())))
def d2r:(Int×Circ×Unit)→Option ((Int×Circ×Unit)⊕((Circ×Unit)⊕(Bool×Unit))):=fun (i,c,_)=>
 bif decide (i<(c.Patrons.length:Int)) then match m9 c.Patrons i with|some x =>bif decide (300<(x.Name.length:Int)) then some (.inr (.inr (false,()))) else some (.inl (wr .i64 (i+1),c,()))|none =>none else some (.inr (.inl (c,())))
def a9v:(Int×Circ×Unit)→Option ((Int×Circ×Unit)⊕((Unit)⊕(Bool×Unit))):=fun (i,c,_)=>
 bif decide (i<4) then let k (v:Int) (v8:List Int):Option ((Int×Circ×Unit)⊕((Unit)⊕(Bool×Unit))):=bif decide (20<(v8.length:Int)) then some (.inr (.inr (false,()))) else some (.inl (wr .i64 (i+1),c,()));bif i==0 then k c.Cals.x0.Week c.Cals.x0.Closed else bif i==1 then k c.Cals.x1.Week c.Cals.x1.Closed else bif i==2 then k c.Cals.x2.Week c.Cals.x2.Closed else bif i==3 then k c.Cals.x3.Week c.Cals.x3.Closed else none else some (.inr (.inl (())))
def qb (c:Circ):Option Bool:=
 let k16 (v:Bool):Option Bool:=let k15 (v1:Bool):Option Bool:=let k14 (v2:Bool):Option Bool:=let k13 (v3:Bool):Option Bool:=let k12 (v4:Bool):Option Bool:=let k (v5:Bool):Option Bool:=bif v5 then some false else match c4 d2q (0,c,()) with|some (.inl (c6,_)) =>(match c4 d2r (0,c6,()) with|some (.inl (c7,_)) =>(match c4 a9v (0,c7,()) with|some (.inl (_)) =>some true|some (.inr (v9,_)) =>some v9|none =>none)|some (.inr (v10,_)) =>some v10|none =>none)|some (.inr (v11,_)) =>some v11|none =>none;bif v4 then k true else k (decide (200<(c.Moves.length:Int)));bif v3 then k12 true else k12 (decide (10<(c.Rules.length:Int)));bif v2 then k13 true else k13 (decide (30<(c.Charges.length:Int)));bif v1 then k14 true else k14 (decide (12<(c.Loans.length:Int)));bif v then k15 true else k15 (decide (12<(c.Holds.length:Int)));bif decide (10<(c.Items.length:Int)) then k16 true else k16 (decide (8<(c.Patrons.length:Int)))
def qbs (s:List UInt8) (i:Int):Option (Int×Int):=
 match m9 s i with|some b =>let k35 (v:Bool):Option (Int×Int):=bif v then some (wr .i64 (b.toNat:Int),1) else let k34 (v1:Bool):Option (Int×Int):=let k33 (v2:Bool):Option (Int×Int):=let k32 (v4:Bool):Option (Int×Int):=let k31 (v6:Bool):Option (Int×Int):=let k (v8:Int) (v9:Int):Option (Int×Int):=some (v8,v9);bif v6 then match m9 s (wr .i64 (i+1)) with|some b7 =>bif decide (160≤wr .i64 ((wr .i64 ((wr .i64 ((wr .i64 ((wr .i64 (b.toNat:Int))-192))*64))+(wr .i64 (b7.toNat:Int))))-128)) then k (wr .i64 ((wr .i64 ((wr .i64 ((wr .i64 ((wr .i64 (b.toNat:Int))-192))*64))+(wr .i64 (b7.toNat:Int))))-128)) 2 else k 0 0|none =>none else let k30 (v10:Bool):Option (Int×Int):=let k29 (v11:Bool):Option (Int×Int):=let k28 (v13:Bool):Option (Int×Int):=let k27 (v15:Bool):Option (Int×Int):=let k26 (v17:Bool):Option (Int×Int):=let k25 (v19:Bool):Option (Int×Int):=bif v19 then match m9 s (wr .i64 (i+1)) with|some b20 =>(match m9 s (wr .i64 (i+2)) with|some b21 =>let k24 (v23:Bool):Option (Int×Int):=bif v23 then some (wr .i64 ((wr .i64 ((wr .i64 ((wr .i64 ((wr .i64 ((wr .i64 (b.toNat:Int))-224))*4096))+(wr .i64 ((wr .i64 ((wr .i64 (b20.toNat:Int))-128))*64))))+(wr .i64 (b21.toNat:Int))))-128),3) else some (0,0);bif decide (2048≤wr .i64 ((wr .i64 ((wr .i64 ((wr .i64 ((wr .i64 ((wr .i64 (b.toNat:Int))-224))*4096))+(wr .i64 ((wr .i64 ((wr .i64 (b20.toNat:Int))-128))*64))))+(wr .i64 (b21.toNat:Int))))-128)) then bif decide (wr .i64 ((wr .i64 ((wr .i64 ((wr .i64 ((wr .i64 ((wr .i64 (b.toNat:Int))-224))*4096))+(wr .i64 ((wr .i64 ((wr .i64 (b20.toNat:Int))-128))*64))))+(wr .i64 (b21.toNat:Int))))-128)<55296) then k24 true else k24 (decide (57343<wr .i64 ((wr .i64 ((wr .i64 ((wr .i64 ((wr .i64 ((wr .i64 (b.toNat:Int))-224))*4096))+(wr .i64 ((wr .i64 ((wr .i64 (b20.toNat:Int))-128))*64))))+(wr .i64 (b21.toNat:Int))))-128))) else k24 false|none =>none)|none =>none else some (0,0);bif v17 then match m9 s (wr .i64 (i+2)) with|some b18 =>k25 (decide ((b18.toNat:Int)<192))|none =>none else k25 false;bif v15 then match m9 s (wr .i64 (i+2)) with|some b16 =>k26 (decide (128≤(b16.toNat:Int)))|none =>none else k26 false;bif v13 then match m9 s (wr .i64 (i+1)) with|some b14 =>k27 (decide ((b14.toNat:Int)<192))|none =>none else k27 false;bif v11 then match m9 s (wr .i64 (i+1)) with|some b12 =>k28 (decide (128≤(b12.toNat:Int)))|none =>none else k28 false;bif v10 then k29 (decide (wr .i64 (i+2)<(s.length:Int))) else k29 false;bif decide (224≤wr .i64 (b.toNat:Int)) then k30 (decide (wr .i64 (b.toNat:Int)<240)) else k30 false;bif v4 then match m9 s (wr .i64 (i+1)) with|some b5 =>k31 (decide ((b5.toNat:Int)<192))|none =>none else k31 false;bif v2 then match m9 s (wr .i64 (i+1)) with|some b3 =>k32 (decide (128≤(b3.toNat:Int)))|none =>none else k32 false;bif v1 then k33 (decide (wr .i64 (i+1)<(s.length:Int))) else k33 false;bif decide (194≤wr .i64 (b.toNat:Int)) then k34 (decide (wr .i64 (b.toNat:Int)<224)) else k34 false;bif decide (32≤wr .i64 (b.toNat:Int)) then k35 (decide (wr .i64 (b.toNat:Int)<127)) else k35 false|none =>none
def b5l:((List UInt8)×Int×Unit)→Option (((List UInt8)×Int×Unit)⊕((Unit)⊕(Bool×Unit))):=fun (s,i,_)=>
 bif decide (i<(s.length:Int)) then match qbs s i with|some (r1,r2) =>bif r2==0 then some (.inr (.inr (false,()))) else some (.inl (s,wr .i64 (i+r2),()))|none =>none else some (.inr (.inl (())))
def qaa (s:List UInt8):Option Bool:=
 match c4 b5l (s,0,()) with|some (.inl (_)) =>some true|some (.inr (v,_)) =>some v|none =>none
def qf (s:List UInt8) (i:Int):Option Int:=
 match qbs s i with|some (r1,r2) =>some (if r2<1 then 1 else r2)|none =>none
def qad (c:Int):Option Bool:=
 let k (v:Bool):Option Bool:=some v;bif c==32 then k true else k (c==160)
def b5u:((List UInt8)×(List UInt8)×Bool×Int×Unit)→Option (((List UInt8)×(List UInt8)×Bool×Int×Unit)⊕(((List UInt8)×Unit))):=fun (s,vout,gap,i,_)=>
 bif decide (i<(s.length:Int)) then match qbs s i with|some (r1,r2) =>(match qf s i with|some r4 =>(match qad r1 with|some r6 =>let k11 (vout9:List UInt8) (gap10:Bool):Option (((List UInt8)×(List UInt8)×Bool×Int×Unit)⊕(((List UInt8)×Unit))):=some (.inl (s,vout9,gap10,wr .i64 (i+r4),()));bif r6 then k11 vout true else let k8 (v:Bool):Option (((List UInt8)×(List UInt8)×Bool×Int×Unit)⊕(((List UInt8)×Unit))):=let k (vout7:List UInt8):Option (((List UInt8)×(List UInt8)×Bool×Int×Unit)⊕(((List UInt8)×Unit))):=bif decide (0≤(i:Int))&&(decide ((i:Int)≤wr .i64 (i+r4))&&decide (wr .i64 (i+r4)≤(s.length:Int))) then bif decide (vout7.length+((s.take (wr .i64 (i+r4)).toNat).drop (i:Int).toNat).length≤LIM) then k11 (vout7++((s.take (wr .i64 (i+r4)).toNat).drop (i:Int).toNat)) false else none else none;bif v then bif decide (vout.length+([32]).length≤LIM) then k (vout++([32])) else none else k vout;bif gap then k8 (!(vout==([]))) else k8 false|none =>none)|none =>none)|none =>none else some (.inr ((vout,())))
def qan (s:List UInt8):Option (List UInt8):=
 match c4 b5u (s,[],false,0,()) with|some ((vout,_)) =>some vout|none =>none
def b2q:((List Patron)×Int×Unit)→Option (((List Patron)×Int×Unit)⊕((Unit)⊕(Int×Unit))):=fun (l,i,_)=>
 bif decide (i<(l.length:Int)) then match m9 l i with|some x =>let k18 (v:Bool):Option (((List Patron)×Int×Unit)⊕((Unit)⊕(Int×Unit))):=bif v then some (.inr (.inr (2,()))) else let k17 (v2:Bool):Option (((List Patron)×Int×Unit)⊕((Unit)⊕(Int×Unit))):=bif v2 then some (.inr (.inr (7,()))) else let k16 (v3:Bool):Option (((List Patron)×Int×Unit)⊕((Unit)⊕(Int×Unit))):=let k15 (v4:Bool):Option (((List Patron)×Int×Unit)⊕((Unit)⊕(Int×Unit))):=let k14 (v5:Bool):Option (((List Patron)×Int×Unit)⊕((Unit)⊕(Int×Unit))):=bif v5 then some (.inr (.inr (1,()))) else let k13 (v6:Bool):Option (((List Patron)×Int×Unit)⊕((Unit)⊕(Int×Unit))):=bif v6 then some (.inr (.inr (2,()))) else let k12 (v8:Bool):Option (((List Patron)×Int×Unit)⊕((Unit)⊕(Int×Unit))):=let k (v11:Bool):Option (((List Patron)×Int×Unit)⊕((Unit)⊕(Int×Unit))):=bif v11 then some (.inr (.inr (3,()))) else bif decide (200<(x.Name.length:Int)) then some (.inr (.inr (4,()))) else some (.inl (l,wr .i64 (i+1),()));bif v8 then k true else match qan x.Name with|some r10 =>k (!(r10==x.Name))|none =>none;bif x.Name==([]) then k12 true else match qaa x.Name with|some r7 =>k12 (!r7)|none =>none;bif decide (x.Until<0) then k13 true else k13 (decide (109572<x.Until));bif v4 then k14 true else k14 (decide (4<x.Branch));bif v3 then k15 true else k15 (decide (x.Branch<1));bif decide (x.Kind<1) then k16 true else k16 (decide (9<x.Kind));bif decide (0<i) then match m9 l (wr .i64 (i-1)) with|some x1 =>k17 (decide (x.ID≤x1.ID))|none =>none else k17 false;bif decide (x.ID<1) then k18 true else k18 (decide (9999<x.ID))|none =>none else some (.inr (.inl (())))
def qau (l:List Patron):Option Int:=
 bif decide (32<(l.length:Int)) then some 13 else match c4 b2q (l,0,()) with|some (.inl (_)) =>some 0|some (.inr (v,_)) =>some v|none =>none
def b2p:((List Loan)×Int×Unit)→Option (((List Loan)×Int×Unit)⊕((Unit)⊕(Int×Unit))):=fun (l,i,_)=>
 bif decide (i<(l.length:Int)) then match m9 l i with|some x =>let k21 (v:Bool):Option (((List Loan)×Int×Unit)⊕((Unit)⊕(Int×Unit))):=bif v then some (.inr (.inr (7,()))) else let k20 (v2:Bool):Option (((List Loan)×Int×Unit)⊕((Unit)⊕(Int×Unit))):=let k19 (v3:Bool):Option (((List Loan)×Int×Unit)⊕((Unit)⊕(Int×Unit))):=let k18 (v4:Bool):Option (((List Loan)×Int×Unit)⊕((Unit)⊕(Int×Unit))):=let k17 (v5:Bool):Option (((List Loan)×Int×Unit)⊕((Unit)⊕(Int×Unit))):=let k16 (v6:Bool):Option (((List Loan)×Int×Unit)⊕((Unit)⊕(Int×Unit))):=let k15 (v7:Bool):Option (((List Loan)×Int×Unit)⊕((Unit)⊕(Int×Unit))):=let k14 (v8:Bool):Option (((List Loan)×Int×Unit)⊕((Unit)⊕(Int×Unit))):=let k13 (v9:Bool):Option (((List Loan)×Int×Unit)⊕((Unit)⊕(Int×Unit))):=let k12 (v10:Bool):Option (((List Loan)×Int×Unit)⊕((Unit)⊕(Int×Unit))):=let k (v11:Bool):Option (((List Loan)×Int×Unit)⊕((Unit)⊕(Int×Unit))):=bif v11 then some (.inr (.inr (2,()))) else some (.inl (l,wr .i64 (i+1),()));bif v10 then k true else k (decide (10<x.Renewals));bif v9 then k12 true else k12 (decide (x.Renewals<0));bif v8 then k13 true else k13 (decide (x.Due<x.Out));bif v7 then k14 true else k14 (decide (109572<x.Due));bif v6 then k15 true else k15 (decide (x.Due<0));bif v5 then k16 true else k16 (decide (109572<x.Out));bif v4 then k17 true else k17 (decide (x.Out<0));bif v3 then k18 true else k18 (decide (9999<x.Patron));bif v2 then k19 true else k19 (decide (x.Patron<1));bif decide (x.Item<1) then k20 true else k20 (decide (9999<x.Item));bif decide (0<i) then match m9 l (wr .i64 (i-1)) with|some x1 =>k21 (decide (x.Item≤x1.Item))|none =>none else k21 false|none =>none else some (.inr (.inl (())))
def qat (l:List Loan):Option Int:=
 bif decide (64<(l.length:Int)) then some 13 else match c4 b2p (l,0,()) with|some (.inl (_)) =>some 0|some (.inr (v,_)) =>some v|none =>none
def qce (n:Int):Option Bool:=
 let k (v:Bool):Option Bool:=some v;bif decide (1≤n) then k (decide (n≤9999)) else k false
def qcy (n:Int):Option Bool:=
 let k (v:Bool):Option Bool:=some v;bif decide (0≤n) then k (decide (n≤109572)) else k false
def qdi (h:Hold):Option Int:=
 let k41 (v:Bool):Option Int:=let k40 (v2:Bool):Option Int:=let k39 (v5:Bool):Option Int:=let k38 (v9:Bool):Option Int:=let k37 (v10:Bool):Option Int:=let k36 (v11:Bool):Option Int:=let k35 (v14:Bool):Option Int:=let k34 (v18:Bool):Option Int:=let k33 (v21:Bool):Option Int:=let k32 (v24:Bool):Option Int:=let k31 (v25:Bool):Option Int:=let k30 (v26:Bool):Option Int:=bif v26 then some 2 else let k29 (v27:Bool):Option Int:=bif v27 then some 1 else let k (v28:Bool):Option Int:=bif v28 then some 12 else some 0;bif !((decide (0<h.Got))==(!(h.State==1))) then k true else k (!((decide (0<h.Until))==(h.State==3)));bif decide (h.State<1) then k29 true else k29 (decide (3<h.State));bif v25 then k30 true else k30 (decide (9<h.Rank));bif v24 then k31 true else k31 (decide (h.Rank<0));bif v21 then k32 true else match qcy h.Asleep with|some r23 =>k32 (!r23)|none =>none;bif v18 then k33 true else match qcy h.Until with|some r20 =>k33 (!r20)|none =>none;bif v14 then k34 true else bif !(h.Got==0) then match qce h.Got with|some r16 =>k34 (!r16)|none =>none else k34 false;bif v11 then k35 true else match qcy h.Placed with|some r13 =>k35 (!r13)|none =>none;bif v10 then k36 true else k36 (decide (4<h.Pickup));bif v9 then k37 true else k37 (decide (h.Pickup<1));bif v5 then k38 true else bif !(h.Item==0) then match qce h.Item with|some r7 =>k38 (!r7)|none =>none else k38 false;bif v2 then k39 true else match qce h.Record with|some r4 =>k39 (!r4)|none =>none;bif v then k40 true else match qce h.Patron with|some r1 =>k40 (!r1)|none =>none;bif decide (h.ID<1) then k41 true else k41 (decide (99999<h.ID))
def c5p:((List Hold)×Int×Unit)→Option (((List Hold)×Int×Unit)⊕(((List Hold)×Unit)⊕(Int×Unit))):=fun (l,i,_)=>
 bif decide (i<(l.length:Int)) then let k (v:Bool):Option (((List Hold)×Int×Unit)⊕(((List Hold)×Unit)⊕(Int×Unit))):=bif v then some (.inr (.inr (7,()))) else match m9 l i with|some x2 =>(match qdi x2 with|some r3 =>bif !(r3==0) then some (.inr (.inr (r3,()))) else some (.inl (l,wr .i64 (i+1),()))|none =>none)|none =>none;bif decide (0<i) then match m9 l i with|some x =>(match m9 l (wr .i64 (i-1)) with|some x1 =>k (decide (x.ID≤x1.ID))|none =>none)|none =>none else k false else some (.inr (.inl (l,())))
def b29:((List Hold)×Int×Int×Unit)→Option (((List Hold)×Int×Int×Unit)⊕(((List Hold)×Int×Unit)⊕(Int×Unit))):=fun (l,i,k,_)=>
 bif decide (k<i) then match m9 l i with|some x =>(match m9 l k with|some x5 =>let k14 (v:Bool):Option (((List Hold)×Int×Int×Unit)⊕(((List Hold)×Int×Unit)⊕(Int×Unit))):=let k13 (v12:Bool):Option (((List Hold)×Int×Int×Unit)⊕(((List Hold)×Int×Unit)⊕(Int×Unit))):=bif v12 then some (.inr (.inr (7,()))) else some (.inl (l,i,wr .i64 (k+1),()));bif v then k13 true else match m9 l i with|some x8 =>bif decide (0<x8.Got) then match m9 l i with|some x9 =>(match m9 l k with|some x10 =>k13 (x9.Got==x10.Got)|none =>none)|none =>none else k13 false|none =>none;bif x.Patron==x5.Patron then match m9 l i with|some x6 =>(match m9 l k with|some x7 =>k14 (x6.Record==x7.Record)|none =>none)|none =>none else k14 false|none =>none)|none =>none else some (.inr (.inl (l,i,())))
def b59:((List Hold)×Int×Unit)→Option (((List Hold)×Int×Unit)⊕((Unit)⊕(Int×Unit))):=fun (l,i,_)=>
 bif decide (i<(l.length:Int)) then match c4 b29 (l,i,0,()) with|some (.inl (l15,i16,_)) =>some (.inl (l15,wr .i64 (i16+1),()))|some (.inr (v,_)) =>some (.inr (.inr (v,())))|none =>none else some (.inr (.inl (())))
def qi (l:List Hold):Option Int:=
 bif decide (64<(l.length:Int)) then some 13 else match c4 c5p (l,0,()) with|some (.inl (l4,_)) =>(match c4 b59 (l4,0,()) with|some (.inl (_)) =>some 0|some (.inr (v,_)) =>some v|none =>none)|some (.inr (v17,_)) =>some v17|none =>none
def qc8 (n:Int):Option Bool:=
 let k (v:Bool):Option Bool:=some v;bif decide (0≤n) then k (decide (n≤109572)) else k false
def b2n:((List Charge)×Int×Unit)→Option (((List Charge)×Int×Unit)⊕((Unit)⊕(Int×Unit))):=fun (l,i,_)=>
 bif decide (i<(l.length:Int)) then match m9 l i with|some x =>let k22 (v:Bool):Option (((List Charge)×Int×Unit)⊕((Unit)⊕(Int×Unit))):=bif v then some (.inr (.inr (7,()))) else let k21 (v2:Bool):Option (((List Charge)×Int×Unit)⊕((Unit)⊕(Int×Unit))):=let k20 (v3:Bool):Option (((List Charge)×Int×Unit)⊕((Unit)⊕(Int×Unit))):=let k19 (v4:Bool):Option (((List Charge)×Int×Unit)⊕((Unit)⊕(Int×Unit))):=let k18 (v5:Bool):Option (((List Charge)×Int×Unit)⊕((Unit)⊕(Int×Unit))):=let k17 (v6:Bool):Option (((List Charge)×Int×Unit)⊕((Unit)⊕(Int×Unit))):=let k16 (v8:Bool):Option (((List Charge)×Int×Unit)⊕((Unit)⊕(Int×Unit))):=bif v8 then some (.inr (.inr (2,()))) else let k15 (v9:Bool):Option (((List Charge)×Int×Unit)⊕((Unit)⊕(Int×Unit))):=bif v9 then some (.inr (.inr (1,()))) else let k14 (v10:Bool):Option (((List Charge)×Int×Unit)⊕((Unit)⊕(Int×Unit))):=let k13 (v11:Bool):Option (((List Charge)×Int×Unit)⊕((Unit)⊕(Int×Unit))):=let k (v12:Bool):Option (((List Charge)×Int×Unit)⊕((Unit)⊕(Int×Unit))):=bif v12 then some (.inr (.inr (2,()))) else some (.inl (l,wr .i64 (i+1),()));bif v11 then k true else k (decide (x.Amount≤x.Paid));bif v10 then k13 true else k13 (decide (x.Paid<0));bif decide (x.Amount<1) then k14 true else k14 (decide (100000000<x.Amount));bif decide (x.Kind<1) then k15 true else k15 (decide (3<x.Kind));bif v6 then k16 true else match qc8 x.Day with|some r7 =>k16 (!r7)|none =>none;bif v5 then k17 true else k17 (decide (9999<x.Item));bif v4 then k18 true else k18 (decide (x.Item<1));bif v3 then k19 true else k19 (decide (9999<x.Patron));bif v2 then k20 true else k20 (decide (x.Patron<1));bif decide (x.ID<1) then k21 true else k21 (decide (99999<x.ID));bif decide (0<i) then match m9 l (wr .i64 (i-1)) with|some x1 =>k22 (decide (x.ID≤x1.ID))|none =>none else k22 false|none =>none else some (.inr (.inl (())))
def qac (l:List Charge):Option Int:=
 bif decide (128<(l.length:Int)) then some 13 else match c4 b2n (l,0,()) with|some (.inl (_)) =>some 0|some (.inr (v,_)) =>some v|none =>none
def qa9 (n:Int) (low:Int) (high:Int):Option Bool:=
 let k (v:Bool):Option Bool:=some v;bif decide (low≤n) then k (decide (n≤high)) else k false
def qcn (r:Rule):Option Bool:=
 match qa9 r.Patron 0 9 with|some r2 =>let k48 (v:Bool):Option Bool:=let k47 (v7:Bool):Option Bool:=match qa9 r.Days 0 365 with|some r9 =>let k46 (v12:Bool):Option Bool:=let k45 (v15:Bool):Option Bool:=match qa9 r.Fine 0 1000 with|some r17 =>let k44 (v20:Bool):Option Bool:=let k43 (v23:Bool):Option Bool:=let k42 (v24:Bool):Option Bool:=let k41 (v25:Bool):Option Bool:=let k40 (v28:Bool):Option Bool:=let k39 (v31:Bool):Option Bool:=let k38 (v34:Bool):Option Bool:=let k (v37:Bool):Option Bool:=some v37;bif v34 then match qa9 r.Rank 0 9 with|some r36 =>k r36|none =>none else k false;bif v31 then match qa9 r.Fixed 0 109572 with|some r33 =>k38 r33|none =>none else k38 false;bif v28 then match qa9 r.Recall 1 60 with|some r30 =>k39 r30|none =>none else k39 false;bif v25 then match qa9 r.Shelf 1 60 with|some r27 =>k40 r27|none =>none else k40 false;bif v24 then k41 v23 else k41 false;bif v7 then k42 v15 else k42 false;bif v20 then match qa9 r.MaxFine 0 100000000 with|some r22 =>k43 r22|none =>none else k43 false;bif r17 then match qa9 r.Grace 0 30 with|some r19 =>k44 r19|none =>none else k44 false|none =>none;bif v12 then match qa9 r.Loans 0 99 with|some r14 =>k45 r14|none =>none else k45 false;bif r9 then match qa9 r.Renewals 0 10 with|some r11 =>k46 r11|none =>none else k46 false|none =>none;bif v then match qa9 r.Branch 0 4 with|some r6 =>k47 r6|none =>none else k47 false;bif r2 then match qa9 r.Item 0 9 with|some r4 =>k48 r4|none =>none else k48 false|none =>none
def c5o:((List Rule)×Int×Int×Unit)→Option (((List Rule)×Int×Int×Unit)⊕(((List Rule)×Int×Unit)⊕(Int×Unit))):=fun (l,i,k,_)=>
 bif decide (k<i) then match m9 l k with|some x =>(match m9 l i with|some x2 =>let k9 (v:Bool):Option (((List Rule)×Int×Int×Unit)⊕(((List Rule)×Int×Unit)⊕(Int×Unit))):=let k8 (v7:Bool):Option (((List Rule)×Int×Int×Unit)⊕(((List Rule)×Int×Unit)⊕(Int×Unit))):=bif v7 then some (.inr (.inr (7,()))) else some (.inl (l,i,wr .i64 (k+1),()));bif v then match m9 l k with|some x5 =>(match m9 l i with|some x6 =>k8 (x5.Branch==x6.Branch)|none =>none)|none =>none else k8 false;bif x.Patron==x2.Patron then match m9 l k with|some x3 =>(match m9 l i with|some x4 =>k9 (x3.Item==x4.Item)|none =>none)|none =>none else k9 false|none =>none)|none =>none else some (.inr (.inl (l,i,())))
def d2w:((List Rule)×Int×Unit)→Option (((List Rule)×Int×Unit)⊕((Unit)⊕(Int×Unit))):=fun (l,i,_)=>
 bif decide (i<(l.length:Int)) then match m9 l i with|some x =>(match qcn x with|some r1 =>(bif !r1 then some (.inr (.inr (2,()))) else match c4 c5o (l,i,0,()) with|some (.inl (l10,i11,_)) =>some (.inl (l10,wr .i64 (i11+1),()))|some (.inr (v,_)) =>some (.inr (.inr (v,())))|none =>none)|none =>none)|none =>none else some (.inr (.inl (())))
def qh (l:List Rule):Option Int:=
 bif decide (32<(l.length:Int)) then some 13 else match c4 d2w (l,0,()) with|some (.inl (_)) =>some 0|some (.inr (v,_)) =>some v|none =>none
def c5r:(Int×Calendar×Unit)→Option ((Int×Calendar×Unit)⊕((Calendar×Unit)⊕(Int×Unit))):=fun (i,c,_)=>
 bif decide (i<(c.Closed.length:Int)) then match m9 c.Closed i with|some x =>(let k (v:Bool):Option ((Int×Calendar×Unit)⊕((Calendar×Unit)⊕(Int×Unit))):=bif v then some (.inr (.inr (2,()))) else some (.inl (wr .i64 (i+1),c,()));bif decide (x<0) then k true else match m9 c.Closed i with|some x1 =>k (decide (109572<x1))|none =>none)|none =>none else some (.inr (.inl (c,())))
def b3c:(Int×Calendar×Unit)→Option ((Int×Calendar×Unit)⊕((Unit)⊕(Int×Unit))):=fun (i,c,_)=>
 bif decide (i<(c.Closed.length:Int)) then match m9 c.Closed i with|some x =>(match m9 c.Closed (wr .i64 (i-1)) with|some x3 =>bif decide (x≤x3) then some (.inr (.inr (7,()))) else some (.inl (wr .i64 (i+1),c,()))|none =>none)|none =>none else some (.inr (.inl (())))
def qq (c:Calendar):Option Int:=
 let k (v:Bool):Option Int:=bif v then some 1 else bif decide (64<(c.Closed.length:Int)) then some 13 else match c4 c5r (0,c,()) with|some (.inl (c2,_)) =>(match c4 b3c (1,c2,()) with|some (.inl (_)) =>some 0|some (.inr (v4,_)) =>some v4|none =>none)|some (.inr (v5,_)) =>some v5|none =>none;bif decide (c.Week<0) then k true else k (decide (126<c.Week))
def b5v:((List Patron)×Int×Int×Unit)→Option (((List Patron)×Int×Int×Unit)⊕((Unit)⊕(Int×Unit))):=fun (l,vid,i,_)=>
 bif decide (i<(l.length:Int)) then match m9 l i with|some x =>bif x.ID==vid then some (.inr (.inr (i,()))) else some (.inl (l,vid,wr .i64 (i+1),()))|none =>none else some (.inr (.inl (())))
def qap (l:List Patron) (vid:Int):Option Int:=
 match c4 b5v (l,vid,0,()) with|some (.inl (_)) =>some (-1)|some (.inr (v,_)) =>some v|none =>none
def qbx (l:List Patron) (vid:Int):Option (Patron×Bool):=
 match qap l vid with|some r1 =>(bif decide (r1<0) then some ((⟨0,0,0,0,false,[]⟩:Patron),false) else match m9 l r1 with|some x =>some (x,true)|none =>none)|none =>none
def qdj (branch:Int):Option Custody:=
 some (⟨1,branch,0,0⟩:Custody)
def qeo (state:Int):Option Bool:=
 let k6 (v:Bool):Option Bool:=let k5 (v1:Bool):Option Bool:=let k4 (v2:Bool):Option Bool:=let k (v3:Bool):Option Bool:=some v3;bif v2 then k true else k (state==10);bif v1 then k4 true else k4 (state==9);bif v then k5 true else k5 (state==8);bif state==4 then k6 true else k6 (state==5)
def qc5 (c:Custody):Option Bool:=
 let k17 (v:Bool):Option Bool:=let k16 (v1:Bool):Option Bool:=let k15 (v2:Bool):Option Bool:=bif v2 then some false else let k10 (v9:Bool):Option Bool:=some v9;bif c.State==6 then let k8 (v3:Bool):Option Bool:=let k7 (v4:Bool):Option Bool:=let k (v5:Bool):Option Bool:=bif v5 then k10 (!(c.To==c.Branch)) else k10 false;bif v4 then k (decide (c.To≤4)) else k false;bif v3 then k7 (decide (1≤c.To)) else k7 false;bif decide (0≤c.Who) then k8 (decide (c.Who≤9999)) else k8 false else bif !(c.To==0) then some false else match qeo c.State with|some r11 =>let k14 (v13:Bool):Option Bool:=some v13;bif r11 then bif decide (1≤c.Who) then k14 (decide (c.Who≤9999)) else k14 false else some (c.Who==0)|none =>none;bif v1 then k15 true else k15 (decide (4<c.Branch));bif v then k16 true else k16 (decide (c.Branch<1));bif decide (c.State<1) then k17 true else k17 (decide (12<c.State))
def qdz (m:Move):Option Bool:=
 let k16 (v:Bool):Option Bool:=let k15 (v1:Bool):Option Bool:=let k14 (v2:Bool):Option Bool:=let k13 (v3:Bool):Option Bool:=let k12 (v4:Bool):Option Bool:=let k11 (v5:Bool):Option Bool:=let k10 (v6:Bool):Option Bool:=let k9 (v7:Bool):Option Bool:=let k (v8:Bool):Option Bool:=some v8;bif v7 then k (decide (m.Who≤9999)) else k false;bif v6 then k9 (decide (0≤m.Who)) else k9 false;bif v5 then k10 (decide (m.Branch≤4)) else k10 false;bif v4 then k11 (decide (1≤m.Branch)) else k11 false;bif v3 then k12 (decide (m.Kind≤15)) else k12 false;bif v2 then k13 (decide (1≤m.Kind)) else k13 false;bif v1 then k14 (decide (m.Item≤9999)) else k14 false;bif v then k15 (decide (1≤m.Item)) else k15 false;bif decide (0≤m.Day) then k16 (decide (m.Day≤109572)) else k16 false
def qb7 (kind:Int):Option (List Int):=
 bif kind==1 then some ([1]) else bif kind==2 then some ([2,5]) else bif kind==3 then some ([3,5]) else bif kind==4 then some ([4,8,9,10]) else let k (v:Bool):Option (List Int):=bif v then some ([2,3]) else bif kind==6 then some ([2,3,5]) else bif kind==7 then some ([6]) else bif kind==9 then some ([7]) else bif kind==10 then some ([3]) else bif kind==11 then some ([4]) else bif kind==12 then some ([4,9]) else bif kind==13 then some ([2,3,5,6,7]) else bif kind==14 then some ([11]) else bif kind==15 then some ([1,2,3,11,10]) else some ([]);bif kind==5 then k (kind==5) else k (kind==8)
def b5o:(Int×(List Int)×Int×Unit)→Option ((Int×(List Int)×Int×Unit)⊕((Unit)⊕(Bool×Unit))):=fun (state,l,i,_)=>
 bif decide (i<(l.length:Int)) then match m9 l i with|some x =>bif x==state then some (.inr (.inr (true,()))) else some (.inl (state,l,wr .i64 (i+1),()))|none =>none else some (.inr (.inl (())))
def qaf (state:Int) (kind:Int):Option Bool:=
 match qb7 kind with|some r1 =>(match c4 b5o (state,r1,0,()) with|some (.inl (_)) =>some false|some (.inr (v,_)) =>some v|none =>none)|none =>none
def qcw (c:Custody) (m:Move):Option Bool:=
 let k14 (v2:Bool):Option Bool:=let k11 (v10:Bool):Option Bool:=some v10;bif v2 then k11 (m.Who==0) else bif m.Kind==7 then bif m.Who==0 then k11 (m.Branch==c.To) else k11 false else bif m.Kind==6 then k11 (!(m.Branch==c.Branch)) else let k (v5:Bool):Option Bool:=bif v5 then bif m.Branch==c.Branch then k11 (decide (1≤m.Who)) else k11 false else let k13 (v12:Bool):Option Bool:=some v12;bif m.Branch==c.Branch then k13 (m.Who==0) else k13 false;bif m.Kind==3 then k (m.Kind==3) else bif m.Kind==5 then k (m.Kind==5) else k (m.Kind==10);bif m.Kind==1 then k14 (m.Kind==1) else bif m.Kind==4 then k14 (m.Kind==4) else bif m.Kind==9 then k14 (m.Kind==9) else k14 (m.Kind==14)
def qeu (kind:Int):Option Int:=
 let k13 (v3:Bool):Option Int:=let k (v12:Int):Option Int:=some v12;bif v3 then k 2 else bif kind==2 then k 3 else bif kind==3 then k 4 else bif kind==5 then k 5 else bif kind==6 then k 6 else bif kind==8 then k 7 else bif kind==10 then k 8 else bif kind==11 then k 9 else bif kind==12 then k 10 else bif kind==13 then k 11 else some 12;bif kind==1 then k13 (kind==1) else bif kind==4 then k13 (kind==4) else bif kind==7 then k13 (kind==7) else bif kind==9 then k13 (kind==9) else k13 (kind==14)
def qb1 (c:Custody) (m:Move):Option (Custody×Int):=
 match qc5 c with|some r1 =>(let k26 (v:Bool):Option (Custody×Int):=bif v then some ((⟨0,0,0,0⟩:Custody),1) else match qaf c.State m.Kind with|some r5 =>bif !r5 then some ((⟨0,0,0,0⟩:Custody),12) else let k25 (v6:Bool):Option (Custody×Int):=let k24 (v7:Bool):Option (Custody×Int):=bif v7 then some ((⟨0,0,0,0⟩:Custody),16) else match qcw c m with|some r9 =>(bif !r9 then some ((⟨0,0,0,0⟩:Custody),1) else match qeu m.Kind with|some r11 =>let k23 (vout20:Int) (vout21:Int) (vout22:Int):Option (Custody×Int):=some ((⟨r11,vout20,vout21,vout22⟩:Custody),0);bif r11==2 then k23 m.Branch 0 0 else let k19 (v13:Bool):Option (Custody×Int):=bif v13 then k23 c.Branch m.Who 0 else bif r11==6 then k23 c.Branch m.Who m.Branch else let k (v14:Bool):Option (Custody×Int):=bif v14 then k23 c.Branch c.Who 0 else k23 c.Branch 0 0;bif r11==9 then k (r11==9) else k (r11==10);bif r11==4 then k19 (r11==4) else bif r11==5 then k19 (r11==5) else k19 (r11==8)|none =>none)|none =>none;bif v6 then k24 (!(m.Who==c.Who)) else k24 false;bif m.Kind==3 then k25 (c.State==5) else k25 false|none =>none;bif !r1 then k26 true else match qdz m with|some r3 =>k26 (!r3)|none =>none)|none =>none
def b5t:((List Move)×Int×Int×Custody×Custody×Unit)→Option (((List Move)×Int×Int×Custody×Custody×Unit)⊕((Custody×Custody×Unit)⊕(Int×Int×Custody×Unit))):=fun (l,item,i,v,c,_)=>
 bif decide (i<(l.length:Int)) then match m9 l i with|some x =>(bif !(x.Item==item) then some (.inl (l,item,wr .i64 (i+1),v,c,())) else match m9 l i with|some x2 =>(match qb1 c x2 with|some (r3,r4) =>bif !(r4==0) then some (.inr (.inr (i,r4,(⟨0,0,0,0⟩:Custody),()))) else some (.inl (l,item,wr .i64 (i+1),v,r3,()))|none =>none)|none =>none)|none =>none else some (.inr (.inl (v,c,())))
def qam (branch:Int) (l:List Move) (item:Int):Option (Custody×Int×Int):=
 let k (v:Bool):Option (Custody×Int×Int):=bif v then some ((⟨0,0,0,0⟩:Custody),(-1),1) else match qdj branch with|some r1 =>(match c4 b5t (l,item,0,(⟨0,0,0,0⟩:Custody),r1,()) with|some (.inl (v5,c,_)) =>some (c,(-1),0)|some (.inr (v6,v7,v8,_)) =>some (v8,v6,v7)|none =>none)|none =>none;bif decide (branch<1) then k true else k (decide (4<branch))
def d2u:(Int×Int×Circ×Unit)→Option ((Int×Int×Circ×Unit)⊕((Unit)⊕(Int×Unit))):=fun (item,i,c,_)=>
 bif decide (i<(c.Items.length:Int)) then match m9 c.Items i with|some x =>bif x.ID==item then some (.inr (.inr (i,()))) else some (.inl (item,wr .i64 (i+1),c,()))|none =>none else some (.inr (.inl (())))
def qe (c:Circ) (item:Int):Option Int:=
 match c4 d2u (item,0,c,()) with|some (.inl (_)) =>some (-1)|some (.inr (v,_)) =>some v|none =>none
def c5z:(Int×Circ×Unit)→Option ((Int×Circ×Unit)⊕((Circ×Unit)⊕(Bool×Unit))):=fun (i,c,_)=>
 bif decide (i<(c.Items.length:Int)) then match m9 c.Items i with|some x =>let k29 (v:Bool):Option ((Int×Circ×Unit)⊕((Circ×Unit)⊕(Bool×Unit))):=let k28 (v3:Bool):Option ((Int×Circ×Unit)⊕((Circ×Unit)⊕(Bool×Unit))):=let k27 (v4:Bool):Option ((Int×Circ×Unit)⊕((Circ×Unit)⊕(Bool×Unit))):=let k26 (v5:Bool):Option ((Int×Circ×Unit)⊕((Circ×Unit)⊕(Bool×Unit))):=let k25 (v6:Bool):Option ((Int×Circ×Unit)⊕((Circ×Unit)⊕(Bool×Unit))):=let k24 (v7:Bool):Option ((Int×Circ×Unit)⊕((Circ×Unit)⊕(Bool×Unit))):=bif v7 then some (.inr (.inr (false,()))) else let k23 (v8:Bool):Option ((Int×Circ×Unit)⊕((Circ×Unit)⊕(Bool×Unit))):=let k22 (v9:Bool):Option ((Int×Circ×Unit)⊕((Circ×Unit)⊕(Bool×Unit))):=let k21 (v10:Bool):Option ((Int×Circ×Unit)⊕((Circ×Unit)⊕(Bool×Unit))):=let k20 (v11:Bool):Option ((Int×Circ×Unit)⊕((Circ×Unit)⊕(Bool×Unit))):=let k19 (v13:Bool):Option ((Int×Circ×Unit)⊕((Circ×Unit)⊕(Bool×Unit))):=bif v13 then some (.inr (.inr (false,()))) else match qam x.Branch c.Moves x.ID with|some (r15,r16,r17) =>let k (v18:Bool):Option ((Int×Circ×Unit)⊕((Circ×Unit)⊕(Bool×Unit))):=bif v18 then some (.inr (.inr (false,()))) else some (.inl (wr .i64 (i+1),c,()));bif !(r17==0) then k true else k (!(a0j r15 x.Custody))|none =>none;bif v11 then k19 true else match qaa x.Call with|some r12 =>k19 (!r12)|none =>none;bif v10 then k20 true else k20 (decide (200<(x.Call.length:Int)));bif v9 then k21 true else k21 (decide (100000000<x.Price));bif v8 then k22 true else k22 (decide (x.Price<0));bif decide (x.Kind<1) then k23 true else k23 (decide (9<x.Kind));bif v6 then k24 true else k24 (decide (4<x.Branch));bif v5 then k25 true else k25 (decide (x.Branch<1));bif v4 then k26 true else k26 (decide (9999<x.Record));bif v3 then k27 true else k27 (decide (x.Record<1));bif v then k28 true else bif decide (0<i) then match m9 c.Items (wr .i64 (i-1)) with|some x1 =>k28 (decide (x.ID≤x1.ID))|none =>none else k28 false;bif decide (x.ID<1) then k29 true else k29 (decide (9999<x.ID))|none =>none else some (.inr (.inl (c,())))
def b3e:(Int×Circ×Unit)→Option ((Int×Circ×Unit)⊕((Unit)⊕(Bool×Unit))):=fun (i,c,_)=>
 bif decide (i<(c.Moves.length:Int)) then match m9 c.Moves i with|some x =>(match qe c x.Item with|some r31 =>bif decide (r31<0) then some (.inr (.inr (false,()))) else some (.inl (wr .i64 (i+1),c,()))|none =>none)|none =>none else some (.inr (.inl (())))
def qx (c:Circ):Option Bool:=
 let k (v:Bool):Option Bool:=bif v then some false else match c4 c5z (0,c,()) with|some (.inl (c30,_)) =>(match c4 b3e (0,c30,()) with|some (.inl (_)) =>some true|some (.inr (v32,_)) =>some v32|none =>none)|some (.inr (v33,_)) =>some v33|none =>none;bif decide (64<(c.Items.length:Int)) then k true else k (decide (2000<(c.Moves.length:Int)))
def qc2 (u:Custody):Option Bool:=
 let k2 (v:Bool):Option Bool:=let k (v1:Bool):Option Bool:=some v1;bif v then k true else k (u.State==10);bif u.State==4 then k2 true else k2 (u.State==9)
def b5m:((List Loan)×Int×Int×Unit)→Option (((List Loan)×Int×Int×Unit)⊕((Unit)⊕(Int×Unit))):=fun (l,item,i,_)=>
 bif decide (i<(l.length:Int)) then match m9 l i with|some x =>bif x.Item==item then some (.inr (.inr (i,()))) else some (.inl (l,item,wr .i64 (i+1),()))|none =>none else some (.inr (.inl (())))
def qab (l:List Loan) (item:Int):Option Int:=
 match c4 b5m (l,item,0,()) with|some (.inl (_)) =>some (-1)|some (.inr (v,_)) =>some v|none =>none
def qdo (l:List Loan) (item:Int):Option (Loan×Bool):=
 match qab l item with|some r1 =>(bif decide (r1<0) then some ((⟨0,0,0,0,0,false⟩:Loan),false) else match m9 l r1 with|some x =>some (x,true)|none =>none)|none =>none
def c5y:(Int×Circ×Unit)→Option ((Int×Circ×Unit)⊕((Circ×Unit)⊕(Bool×Unit))):=fun (i,c,_)=>
 bif decide (i<(c.Loans.length:Int)) then match m9 c.Loans i with|some x =>(match qe c x.Item with|some r1 =>(match qbx c.Patrons x.Patron with|some (r3,r4) =>let k12 (v:Bool):Option ((Int×Circ×Unit)⊕((Circ×Unit)⊕(Bool×Unit))):=let k11 (v8:Bool):Option ((Int×Circ×Unit)⊕((Circ×Unit)⊕(Bool×Unit))):=let k (v10:Bool):Option ((Int×Circ×Unit)⊕((Circ×Unit)⊕(Bool×Unit))):=bif v10 then some (.inr (.inr (false,()))) else some (.inl (wr .i64 (i+1),c,()));bif v8 then k true else match m9 c.Items r1 with|some x9 =>k (!(x9.Custody.Who==x.Patron))|none =>none;bif v then k11 true else match m9 c.Items r1 with|some x5 =>(match qc2 x5.Custody with|some r7 =>k11 (!r7)|none =>none)|none =>none;bif decide (r1<0) then k12 true else k12 (!r4)|none =>none)|none =>none)|none =>none else some (.inr (.inl (c,())))
def b6b:(Int×Circ×Unit)→Option ((Int×Circ×Unit)⊕((Unit)⊕(Bool×Unit))):=fun (i,c,_)=>
 bif decide (i<(c.Items.length:Int)) then match m9 c.Items i with|some x =>(match qdo c.Loans x.ID with|some (r14,r15) =>(match m9 c.Items i with|some x16 =>(match qc2 x16.Custody with|some r18 =>bif !(r15==r18) then some (.inr (.inr (false,()))) else some (.inl (wr .i64 (i+1),c,()))|none =>none)|none =>none)|none =>none)|none =>none else some (.inr (.inl (())))
def qw (c:Circ):Option Bool:=
 match c4 c5y (0,c,()) with|some (.inl (c13,_)) =>(match c4 b6b (0,c13,()) with|some (.inl (_)) =>some true|some (.inr (v,_)) =>some v|none =>none)|some (.inr (v19,_)) =>some v19|none =>none
def d27:(Int×Int×Circ×Hold×Unit)→Option ((Int×Int×Circ×Hold×Unit)⊕((Hold×Unit)⊕(Bool×Hold×Unit))):=fun (item,i,c,v,_)=>
 bif decide (i<(c.Holds.length:Int)) then match m9 c.Holds i with|some x =>bif x.Got==item then match m9 c.Holds i with|some x1 =>some (.inr (.inr (true,x1,())))|none =>none else some (.inl (item,wr .i64 (i+1),c,v,()))|none =>none else some (.inr (.inl (v,())))
def qz (c:Circ) (item:Int):Option (Hold×Bool):=
 match c4 d27 (item,0,c,(⟨0,0,0,0,0,0,0,0,0,0,0⟩:Hold),()) with|some (.inl (v,_)) =>some ((⟨0,0,0,0,0,0,0,0,0,0,0⟩:Hold),false)|some (.inr (v2,v3,_)) =>some (v3,v2)|none =>none
def c50:(Int×Circ×Unit)→Option ((Int×Circ×Unit)⊕((Circ×Unit)⊕(Bool×Unit))):=fun (i,c,_)=>
 bif decide (i<(c.Holds.length:Int)) then match m9 c.Holds i with|some x =>(match qbx c.Patrons x.Patron with|some (r1,r2) =>let k18 (v:Bool):Option ((Int×Circ×Unit)⊕((Circ×Unit)⊕(Bool×Unit))):=bif v then some (.inr (.inr (false,()))) else bif x.State==1 then some (.inl (wr .i64 (i+1),c,())) else match qe c x.Got with|some r4 =>(let k17 (v6:Bool):Option ((Int×Circ×Unit)⊕((Circ×Unit)⊕(Bool×Unit))):=bif v6 then some (.inr (.inr (false,()))) else match m9 c.Items r4 with|some x7 =>let k16 (v10:Bool):Option ((Int×Circ×Unit)⊕((Circ×Unit)⊕(Bool×Unit))):=bif v10 then some (.inr (.inr (false,()))) else let k15 (v14:Bool):Option ((Int×Circ×Unit)⊕((Circ×Unit)⊕(Bool×Unit))):=bif v14 then some (.inr (.inr (false,()))) else some (.inl (wr .i64 (i+1),c,()));bif x.State==2 then let k13 (v11:Bool):Option ((Int×Circ×Unit)⊕((Circ×Unit)⊕(Bool×Unit))):=bif v11 then k15 true else k15 (!(x7.Custody.Who==x.Patron));bif !(x7.Custody.State==6) then k13 true else k13 (!(x7.Custody.To==x.Pickup)) else k15 false;bif x.State==3 then let k (v8:Bool):Option ((Int×Circ×Unit)⊕((Circ×Unit)⊕(Bool×Unit))):=bif v8 then k16 true else k16 (!(x7.Custody.Who==x.Patron));bif !(x7.Custody.State==5) then k true else k (!(x7.Custody.Branch==x.Pickup)) else k16 false|none =>none;bif decide (r4<0) then k17 true else match m9 c.Items r4 with|some x5 =>k17 (!(x5.Record==x.Record))|none =>none)|none =>none;bif !r2 then k18 true else k18 (decide (c.NextHold≤x.ID))|none =>none)|none =>none else some (.inr (.inl (c,())))
def b6c:(Int×Circ×Unit)→Option ((Int×Circ×Unit)⊕((Unit)⊕(Bool×Unit))):=fun (i,c,_)=>
 bif decide (i<(c.Items.length:Int)) then match m9 c.Items i with|some x =>(bif !(x.Custody.State==5) then some (.inl (wr .i64 (i+1),c,())) else match m9 c.Items i with|some x20 =>(match qz c x20.ID with|some (r21,r22) =>let k (v:Bool):Option ((Int×Circ×Unit)⊕((Unit)⊕(Bool×Unit))):=bif v then some (.inr (.inr (false,()))) else some (.inl (wr .i64 (i+1),c,()));bif !r22 then k true else k (!(r21.State==3))|none =>none)|none =>none)|none =>none else some (.inr (.inl (())))
def qy (c:Circ):Option Bool:=
 match c4 c50 (0,c,()) with|some (.inl (c19,_)) =>(match c4 b6c (0,c19,()) with|some (.inl (_)) =>some true|some (.inr (v,_)) =>some v|none =>none)|some (.inr (v23,_)) =>some v23|none =>none
def c2j:(Int×Circ×Unit)→Option ((Int×Circ×Unit)⊕((Circ×Unit)⊕(Bool×Unit))):=fun (i,c,_)=>
 bif decide (i<4) then let k (v:Int) (v18:List Int):Option ((Int×Circ×Unit)⊕((Circ×Unit)⊕(Bool×Unit))):=match qq (⟨v,v18⟩:Calendar) with|some r19 =>bif !(r19==0) then some (.inr (.inr (false,()))) else some (.inl (wr .i64 (i+1),c,()))|none =>none;bif i==0 then k c.Cals.x0.Week c.Cals.x0.Closed else bif i==1 then k c.Cals.x1.Week c.Cals.x1.Closed else bif i==2 then k c.Cals.x2.Week c.Cals.x2.Closed else bif i==3 then k c.Cals.x3.Week c.Cals.x3.Closed else none else some (.inr (.inl (c,())))
def b2m:(Int×Circ×Unit)→Option ((Int×Circ×Unit)⊕((Circ×Unit)⊕(Bool×Unit))):=fun (i,c,_)=>
 bif decide (i<(c.Charges.length:Int)) then match m9 c.Charges i with|some x =>(match qbx c.Patrons x.Patron with|some (r21,r22) =>(let k (v:Bool):Option ((Int×Circ×Unit)⊕((Circ×Unit)⊕(Bool×Unit))):=bif v then some (.inr (.inr (false,()))) else some (.inl (wr .i64 (i+1),c,()));bif !r22 then k true else match m9 c.Charges i with|some x23 =>k (decide (c.NextCharge≤x23.ID))|none =>none)|none =>none)|none =>none else some (.inr (.inl (c,())))
def q9 (c:Circ):Option Bool:=
 let k44 (v:Bool):Option Bool:=let k43 (v1:Bool):Option Bool:=let k42 (v2:Bool):Option Bool:=let k41 (v3:Bool):Option Bool:=let k40 (v4:Bool):Option Bool:=bif v4 then some false else match qau c.Patrons with|some r5 =>(let k39 (v8:Bool):Option Bool:=let k38 (v11:Bool):Option Bool:=let k37 (v14:Bool):Option Bool:=let k36 (v17:Bool):Option Bool:=bif v17 then some false else match c4 c2j (0,c,()) with|some (.inl (c20,_)) =>(match c4 b2m (0,c20,()) with|some (.inl (c24,_)) =>(match qx c24 with|some r26 =>let k33 (v29:Bool):Option Bool:=let k (v32:Bool):Option Bool:=some v32;bif v29 then match qy c24 with|some r31 =>k r31|none =>none else k false;bif r26 then match qw c24 with|some r28 =>k33 r28|none =>none else k33 false|none =>none)|some (.inr (v34,_)) =>some v34|none =>none)|some (.inr (v35,_)) =>some v35|none =>none;bif v14 then k36 true else match qh c.Rules with|some r16 =>k36 (!(r16==0))|none =>none;bif v11 then k37 true else match qac c.Charges with|some r13 =>k37 (!(r13==0))|none =>none;bif v8 then k38 true else match qi c.Holds with|some r10 =>k38 (!(r10==0))|none =>none;bif !(r5==0) then k39 true else match qat c.Loans with|some r7 =>k39 (!(r7==0))|none =>none)|none =>none;bif v3 then k40 true else k40 (decide (100000<c.NextCharge));bif v2 then k41 true else k41 (decide (c.NextCharge<1));bif v1 then k42 true else k42 (decide (100000<c.NextHold));bif v then k43 true else k43 (decide (c.NextHold<1));bif decide (c.Today<0) then k44 true else k44 (decide (109572<c.Today))
def b5p:((List Int)×Int×Unit)→Option (((List Int)×Int×Unit)⊕((Unit)⊕(Int×Unit))):=fun (l,i,_)=>
 bif decide (i<(l.length:Int)) then match m9 l i with|some x =>(let k (v:Bool):Option (((List Int)×Int×Unit)⊕((Unit)⊕(Int×Unit))):=bif v then some (.inr (.inr (2,()))) else some (.inl (l,wr .i64 (i+1),()));bif decide (x<1) then k true else match m9 l i with|some x1 =>k (decide (9999<x1))|none =>none)|none =>none else some (.inr (.inl (())))
def qag (l:List Int):Option Int:=
 bif decide (200<(l.length:Int)) then some 13 else match c4 b5p (l,0,()) with|some (.inl (_)) =>some 0|some (.inr (v,_)) =>some v|none =>none
def qd1 (c:Circ) (l:List Int):Option Bool:=
 match qb c with|some r1 =>let k9 (v:Bool):Option Bool:=let k8 (v4:Bool):Option Bool:=let k (v7:Bool):Option Bool:=some v7;bif v4 then match qag l with|some r6 =>k (r6==0)|none =>none else k false;bif v then k8 (decide ((l.length:Int)≤60)) else k8 false;bif r1 then match q9 c with|some r3 =>k9 r3|none =>none else k9 false|none =>none
def qck (branch:Int):Option Bool:=
 let k (v:Bool):Option Bool:=some v;bif decide (1≤branch) then k (decide (branch≤4)) else k false
def qe2 (s:List Int):Option (List Int):=
 bif decide (([]:List Int).length+s.length≤LIM) then some (([])++s) else none
def b50:((List Int)×(List Int)×Int×Int×(List MapI)×Unit)→Option (((List Int)×(List Int)×Int×Int×(List MapI)×Unit)⊕(((List Int)×(List MapI)×Unit))):=fun (l,v,v1,v2,l3,_)=>
 bif decide (v2<v1) then match m9 v v2 with|some x =>some (.inl (l,v,v1,wr .i64 (v2+1),c3k MapI.key x (⟨x,wr .i64 ((a4v MapI.key MapI.val l3 x)+1)⟩:MapI) l3,()))|none =>none else some (.inr ((l,l3,())))
def qax (l:List Int):Option ((List Int)×List MapI):=
 match c4 b50 (l,l,(l.length:Int),0,([]:List MapI),()) with|some ((l4,l5,_)) =>(match qe2 l4 with|some l6 =>(match qbc l6 with|some l8 =>(match qba l8 with|some l10 =>some (l10,l5)|none =>none)|none =>none)|none =>none)|none =>none
def qbz (x:Item) (branch:Int):Option Bool:=
 let k3 (v2:Bool):Option Bool:=some v2;bif x.Custody.Branch==branch then let k (v:Bool):Option Bool:=bif v then k3 true else k3 (x.Custody.State==5);bif x.Custody.State==2 then k true else k (x.Custody.State==3) else k3 false
def b5k:(Int×(List Item)×Int×Int×(List Int)×Unit)→Option ((Int×(List Item)×Int×Int×(List Int)×Unit)⊕(((List Int)×Unit))):=fun (branch,v,v1,v2,l,_)=>
 bif decide (v2<v1) then match m9 v v2 with|some x =>(match qbz x branch with|some r3 =>bif r3 then bif decide (l.length+([x.ID]:List Int).length≤LIM) then some (.inl (branch,v,v1,wr .i64 (v2+1),l++([x.ID]:List Int),())) else none else some (.inl (branch,v,v1,wr .i64 (v2+1),l,()))|none =>none)|none =>none else some (.inr ((l,())))
def qa7 (c:Circ) (branch:Int):Option (List Int):=
 match c4 b5k (branch,c.Items,(c.Items.length:Int),0,([]:List Int),()) with|some ((l,_)) =>some l|none =>none
def qb9 (x:Item) (v:Int):Option Bool:=
 some (x.ID==v)
def b3a {γ0:Type} (p:γ0→Item→Option Bool):((List Item)×γ0×Int×Int×Unit)→Option (((List Item)×γ0×Int×Int×Unit)⊕((Unit)⊕(Int×Unit))):=fun (s,g,v,v1,_)=>
 bif decide (v1<v) then match m9 s v1 with|some x =>(match p g x with|some r =>bif r then some (.inr (.inr (v1,()))) else some (.inl (s,g,v,wr .i64 (v1+1),()))|none =>none)|none =>none else some (.inr (.inl (())))
def qj {γ0:Type} (p:γ0→Item→Option Bool) (s:List Item) (g:γ0):Option Int:=
 match c4 (b3a p) (s,g,(s.length:Int),0,()) with|some (.inl (_)) =>some (-1)|some (.inr (v,_)) =>some v|none =>none
def qaq (c:Circ) (vid:Int):Option (Item×Bool):=
 match qj (fun g x0=>qb9 x0 g.2.1) c.Items ((),(vid,())) with|some r1 =>(bif decide (r1<0) then some ((⟨0,0,0,0,0,[],⟨0,0,0,0⟩⟩:Item),false) else match m9 c.Items r1 with|some x =>some (x,true)|none =>none)|none =>none
def c5f:(Int×(List Int)×(List Int)×Int×Int×Circ×(List MapI)×(List Int)×Unit)→Option ((Int×(List Int)×(List Int)×Int×Int×Circ×(List MapI)×(List Int)×Unit)⊕((Int×(List Int)×Circ×(List MapI)×(List Int)×Unit))):=fun (branch,ids,v,v6,v7,c,l,l8,_)=>
 bif decide (v7<v6) then match m9 v v7 with|some x =>bif (a4v MapI.key MapI.val l x)==0 then bif decide (l8.length+([x]:List Int).length≤LIM) then some (.inl (branch,ids,v,v6,wr .i64 (v7+1),c,l,l8++([x]:List Int),())) else none else some (.inl (branch,ids,v,v6,wr .i64 (v7+1),c,l,l8,()))|none =>none else some (.inr ((branch,ids,c,l,l8,())))
def a9u:(Int×(List Int)×Int×Int×Circ×(List MapI)×(List Int)×(List Int)×(List Int)×(List Int)×Unit)→Option ((Int×(List Int)×Int×Int×Circ×(List MapI)×(List Int)×(List Int)×(List Int)×(List Int)×Unit)⊕(((List Int)×(List Int)×(List Int)×(List Int)×Unit))):=fun (branch,v,v13,v14,c,l,l15,l16,l17,l18,_)=>
 bif decide (v14<v13) then match m9 v v14 with|some x =>(match qaq c x with|some (r19,r20) =>(bif !r20 then bif decide (l16.length+([x]:List Int).length≤LIM) then bif decide (1<a4v MapI.key MapI.val l x) then bif decide (l18.length+([x]:List Int).length≤LIM) then some (.inl (branch,v,v13,wr .i64 (v14+1),c,l,l15,l16++([x]:List Int),l17,l18++([x]:List Int),())) else none else some (.inl (branch,v,v13,wr .i64 (v14+1),c,l,l15,l16++([x]:List Int),l17,l18,())) else none else match qck branch with|some r22 =>(let k (v25:Bool):Option ((Int×(List Int)×Int×Int×Circ×(List MapI)×(List Int)×(List Int)×(List Int)×(List Int)×Unit)⊕(((List Int)×(List Int)×(List Int)×(List Int)×Unit))):=bif v25 then bif decide (l17.length+([x]:List Int).length≤LIM) then bif decide (1<a4v MapI.key MapI.val l x) then bif decide (l18.length+([x]:List Int).length≤LIM) then some (.inl (branch,v,v13,wr .i64 (v14+1),c,l,l15,l16,l17++([x]:List Int),l18++([x]:List Int),())) else none else some (.inl (branch,v,v13,wr .i64 (v14+1),c,l,l15,l16,l17++([x]:List Int),l18,())) else none else bif decide (1<a4v MapI.key MapI.val l x) then bif decide (l18.length+([x]:List Int).length≤LIM) then some (.inl (branch,v,v13,wr .i64 (v14+1),c,l,l15,l16,l17,l18++([x]:List Int),())) else none else some (.inl (branch,v,v13,wr .i64 (v14+1),c,l,l15,l16,l17,l18,()));bif !r22 then k true else match qbz r19 branch with|some r24 =>k (!r24)|none =>none)|none =>none)|none =>none)|none =>none else some (.inr ((l15,l16,l17,l18,())))
def qe7:(Int×Int×(List Problem)×(List Int)×(List Int)×(List Int)×(List Int)×(List Int)×Unit)→Option ((Int×Int×(List Problem)×(List Int)×(List Int)×(List Int)×(List Int)×(List Int)×Unit)⊕(((List Problem)×(List Int)×(List Int)×(List Int)×(List Int)×Unit))):=fun (v,v33,l,l34,l35,l36,l37,l38,_)=>
 bif decide (v33<v) then match m9 l38 v33 with|some _ =>(match l38[v33.toNat]? with|some x =>bif decide (l.length+([(⟨0,x,[],0⟩:Problem)]:List Problem).length≤LIM) then some (.inl (v,wr .i64 (v33+1),l++([(⟨0,x,[],0⟩:Problem)]:List Problem),l34,l35,l36,l37,l38,())) else none|none =>none)|none =>none else some (.inr ((l,l34,l35,l36,l37,())))
def qe6:(Int×Int×(List Problem)×(List Int)×(List Int)×(List Int)×(List Int)×Unit)→Option ((Int×Int×(List Problem)×(List Int)×(List Int)×(List Int)×(List Int)×Unit)⊕(((List Problem)×(List Int)×(List Int)×(List Int)×Unit))):=fun (v,v48,l,l49,l50,l51,l52,_)=>
 bif decide (v48<v) then match m9 l52 v48 with|some _ =>(match l52[v48.toNat]? with|some x =>bif decide (l.length+([(⟨1,x,[],0⟩:Problem)]:List Problem).length≤LIM) then some (.inl (v,wr .i64 (v48+1),l++([(⟨1,x,[],0⟩:Problem)]:List Problem),l49,l50,l51,l52,())) else none|none =>none)|none =>none else some (.inr ((l,l49,l50,l51,())))
def qe5:(Int×Int×(List Problem)×(List Int)×(List Int)×(List Int)×Unit)→Option ((Int×Int×(List Problem)×(List Int)×(List Int)×(List Int)×Unit)⊕(((List Problem)×(List Int)×(List Int)×Unit))):=fun (v,v61,l,l62,l63,l64,_)=>
 bif decide (v61<v) then match m9 l64 v61 with|some _ =>(match l64[v61.toNat]? with|some x =>bif decide (l.length+([(⟨2,x,[],0⟩:Problem)]:List Problem).length≤LIM) then some (.inl (v,wr .i64 (v61+1),l++([(⟨2,x,[],0⟩:Problem)]:List Problem),l62,l63,l64,())) else none|none =>none)|none =>none else some (.inr ((l,l62,l63,())))
def qe4:(Int×Int×(List Problem)×(List Int)×(List Int)×Unit)→Option ((Int×Int×(List Problem)×(List Int)×(List Int)×Unit)⊕(((List Problem)×(List Int)×Unit))):=fun (v,v72,l,l73,l74,_)=>
 bif decide (v72<v) then match m9 l74 v72 with|some _ =>(match l74[v72.toNat]? with|some x =>bif decide (l.length+([(⟨3,x,[],0⟩:Problem)]:List Problem).length≤LIM) then some (.inl (v,wr .i64 (v72+1),l++([(⟨3,x,[],0⟩:Problem)]:List Problem),l73,l74,())) else none|none =>none)|none =>none else some (.inr ((l,l73,())))
def qe3:(Int×Int×(List Problem)×(List Int)×Unit)→Option ((Int×Int×(List Problem)×(List Int)×Unit)⊕(((List Problem)×Unit))):=fun (v,v81,l,l82,_)=>
 bif decide (v81<v) then match m9 l82 v81 with|some _ =>(match l82[v81.toNat]? with|some x =>bif decide (l.length+([(⟨4,x,[],0⟩:Problem)]:List Problem).length≤LIM) then some (.inl (v,wr .i64 (v81+1),l++([(⟨4,x,[],0⟩:Problem)]:List Problem),l82,())) else none|none =>none)|none =>none else some (.inr ((l,())))
def qa (c:Circ) (branch:Int) (l:List Int):Option (List Problem):=
 match qax l with|some (r1,m) =>(match qck branch with|some r3 =>(bif r3 then match qa7 c branch with|some r5 =>(match c4 c5f (branch,r1,r5,(r5.length:Int),0,c,m,([]:List Int),()) with|some ((branch9,ids,c10,l11,l12,_)) =>(match c4 a9u (branch9,ids,(ids.length:Int),0,c10,l11,l12,([]:List Int),([]:List Int),([]:List Int),()) with|some ((l26,l27,l28,l29,_)) =>(match qbc ([]:List Int) with|some _ =>(match qba ([]:List Int) with|some l32 =>(match c4 qe7 ((l32.length:Int),0,([]:List Problem),l26,l27,l28,l29,l32,()) with|some ((l39,l40,l41,l42,l43,_)) =>(match qbc l40 with|some l45 =>(match qba l45 with|some l47 =>(match c4 qe6 ((l47.length:Int),0,l39,l41,l42,l43,l47,()) with|some ((l53,l54,l55,l56,_)) =>(match qbc l55 with|some l58 =>(match qba l58 with|some l60 =>(match c4 qe5 ((l60.length:Int),0,l53,l54,l56,l60,()) with|some ((l65,l66,l67,_)) =>(match qbc l66 with|some l69 =>(match qba l69 with|some l71 =>(match c4 qe4 ((l71.length:Int),0,l65,l67,l71,()) with|some ((l75,l76,_)) =>(match qbc l76 with|some l78 =>(match qba l78 with|some l80 =>(match c4 qe3 ((l80.length:Int),0,l75,l80,()) with|some ((l83,_)) =>some l83|none =>none)|none =>none)|none =>none)|none =>none)|none =>none)|none =>none)|none =>none)|none =>none)|none =>none)|none =>none)|none =>none)|none =>none)|none =>none)|none =>none)|none =>none)|none =>none)|none =>none)|none =>none else match c4 a9u (branch,r1,(r1.length:Int),0,c,m,([]:List Int),([]:List Int),([]:List Int),([]:List Int),()) with|some ((l84,l85,l86,l87,_)) =>(match qbc ([]:List Int) with|some _ =>(match qba ([]:List Int) with|some l90 =>(match c4 qe7 ((l90.length:Int),0,([]:List Problem),l84,l85,l86,l87,l90,()) with|some ((l91,l92,l93,l94,l95,_)) =>(match qbc l92 with|some l97 =>(match qba l97 with|some l99 =>(match c4 qe6 ((l99.length:Int),0,l91,l93,l94,l95,l99,()) with|some ((l100,l101,l102,l103,_)) =>(match qbc l102 with|some l105 =>(match qba l105 with|some l107 =>(match c4 qe5 ((l107.length:Int),0,l100,l101,l103,l107,()) with|some ((l108,l109,l110,_)) =>(match qbc l109 with|some l112 =>(match qba l112 with|some l114 =>(match c4 qe4 ((l114.length:Int),0,l108,l110,l114,()) with|some ((l115,l116,_)) =>(match qbc l116 with|some l118 =>(match qba l118 with|some l120 =>(match c4 qe3 ((l120.length:Int),0,l115,l120,()) with|some ((l121,_)) =>some l121|none =>none)|none =>none)|none =>none)|none =>none)|none =>none)|none =>none)|none =>none)|none =>none)|none =>none)|none =>none)|none =>none)|none =>none)|none =>none)|none =>none)|none =>none)|none =>none)|none =>none)|none =>none
def qcd (c:Circ):Option Circ_desk:=
 some (⟨c,0⟩:Circ_desk)
def qdg (x:Item) (v:Int):Option Bool:=
 some (x.ID==v)
def qb0 (c:Circ) (item:Int):Option Int:=
 match qj (fun g x0=>qdg x0 g.2.1) c.Items ((),(item,())) with|some r1 =>some r1|none =>none
def qs (e:Int) (d:Circ_desk):Option (Unit×Circ_desk):=
 let k (v:Int):Option (Unit×Circ_desk):=some ((),(⟨d.c,v⟩:Circ_desk));bif d.err==0 then k e else k d.err
def qc3 (vid:Int) (d:Circ_desk):Option (Int×Circ_desk):=
 match qb0 d.c vid with|some r1 =>let k (v3:Circ_desk):Option (Int×Circ_desk):=some (r1,v3);bif decide (r1<0) then match qs 9 d with|some (_,v) =>k v|none =>none else k d|none =>none
def qo (d:Circ_desk):Option ((Circ×Int)×Circ_desk):=
 bif !(d.err==0) then some ((ZN,d.err),d) else some ((d.c,0),d)
def qbt (n:Int) (least:Int) (most:Int):Option Bool:=
 let k (v:Bool):Option Bool:=some v;bif decide (least≤n) then k (decide (n≤most)) else k false
def qel (c:Custody):Option Bool:=
 match qbt c.State 1 12 with|some r1 =>(let k23 (v:Bool):Option Bool:=bif v then some false else let k22 (v7:Bool):Option Bool:=let k19 (v18:Bool):Option Bool:=some v18;bif v7 then match qbt c.Who 1 9999 with|some r9 =>bif r9 then k19 (c.To==0) else k19 false|none =>none else bif c.State==6 then match qbt c.Who 0 9999 with|some r12 =>let k (v15:Bool):Option Bool:=bif v15 then k19 (!(c.To==c.Branch)) else k19 false;bif r12 then match qbt c.To 1 4 with|some r14 =>k r14|none =>none else k false|none =>none else let k21 (v20:Bool):Option Bool:=some v20;bif c.Who==0 then k21 (c.To==0) else k21 false;bif c.State==4 then k22 (c.State==4) else bif c.State==5 then k22 (c.State==5) else bif c.State==8 then k22 (c.State==8) else bif c.State==9 then k22 (c.State==9) else k22 (c.State==10);bif !r1 then k23 true else match qbt c.Branch 1 4 with|some r3 =>k23 (!r3)|none =>none)|none =>none
def qej (state:Int) (kind:Int):Option Bool:=
 match qbt state 1 12 with|some r1 =>let k5 (v:Bool):Option Bool:=let k (v4:Bool):Option Bool:=some v4;bif v then match m9 a05 state with|some x =>bif decide (kind<0) then none else k ((wr .u16 (BitVec.ofInt 16 (x.fdiv (2 ^ (min kind.toNat 16))) &&& BitVec.ofInt 16 1).toNat)==1)|none =>none else k false;bif r1 then match qbt kind 1 15 with|some r3 =>k5 r3|none =>none else k5 false|none =>none
def qca (c:Custody) (ok:Bool):Option (Custody×Int):=
 bif !ok then some ((⟨0,0,0,0⟩:Custody),1) else some (c,0)
def qep (c:Custody) (m:Move):Option (Custody×Int):=
 match qca (⟨6,c.Branch,m.Who,m.Branch⟩:Custody) (!(m.Branch==c.Branch)) with|some (r1,r2) =>some (r1,r2)|none =>none
def qem (c:Custody) (m:Move):Option (Custody×Int):=
 match qel c with|some r1 =>(let k95 (v:Bool):Option (Custody×Int):=let k94 (v6:Bool):Option (Custody×Int):=let k93 (v9:Bool):Option (Custody×Int):=let k92 (v12:Bool):Option (Custody×Int):=let k91 (v15:Bool):Option (Custody×Int):=bif v15 then some ((⟨0,0,0,0⟩:Custody),1) else match qej c.State m.Kind with|some r17 =>bif !r17 then some ((⟨0,0,0,0⟩:Custody),12) else let k90 (v18:Bool):Option (Custody×Int):=let k89 (v19:Bool):Option (Custody×Int):=bif v19 then some ((⟨0,0,0,0⟩:Custody),16) else let k88 (v22:Bool):Option (Custody×Int):=let k84 (state79:Int) (ok80:Bool):Option (Custody×Int):=match qca (⟨state79,m.Branch,m.Who,0⟩:Custody) ok80 with|some (r82,r83) =>some (r82,r83)|none =>none;let k87 (v85:Int) (v86:Custody):Option (Custody×Int):=some (v86,v85);bif v22 then k84 2 (m.Who==0) else bif m.Kind==7 then bif m.Who==0 then k84 2 (m.Branch==c.To) else k84 2 false else bif m.Kind==6 then match qep c m with|some (r25,r26) =>k87 r26 r25|none =>none else bif m.Kind==3 then bif m.Branch==c.Branch then k84 4 (!(m.Who==0)) else k84 4 false else bif m.Kind==5 then bif m.Branch==c.Branch then k84 5 (!(m.Who==0)) else k84 5 false else bif m.Kind==10 then bif m.Branch==c.Branch then k84 8 (!(m.Who==0)) else k84 8 false else bif m.Kind==2 then bif m.Branch==c.Branch then k84 3 (m.Who==0) else k84 3 false else bif m.Kind==8 then bif m.Branch==c.Branch then k84 7 (m.Who==0) else k84 7 false else bif m.Kind==11 then let k (v32:Bool):Option (Custody×Int):=match qca (⟨9,c.Branch,c.Who,0⟩:Custody) v32 with|some (r34,r35) =>k87 r35 r34|none =>none;bif m.Branch==c.Branch then k (m.Who==0) else k false else bif m.Kind==12 then let k40 (v36:Bool):Option (Custody×Int):=match qca (⟨10,c.Branch,c.Who,0⟩:Custody) v36 with|some (r38,r39) =>k87 r39 r38|none =>none;bif m.Branch==c.Branch then k40 (m.Who==0) else k40 false else bif m.Kind==13 then bif m.Branch==c.Branch then k84 11 (m.Who==0) else k84 11 false else bif m.Kind==15 then bif m.Branch==c.Branch then k84 12 (m.Who==0) else k84 12 false else k84 0 false;bif m.Kind==1 then k88 (m.Kind==1) else bif m.Kind==4 then k88 (m.Kind==4) else bif m.Kind==9 then k88 (m.Kind==9) else k88 (m.Kind==14);bif v18 then k89 (!(m.Who==c.Who)) else k89 false;bif m.Kind==3 then k90 (c.State==5) else k90 false|none =>none;bif v12 then k91 true else match qbt m.Who 0 9999 with|some r14 =>k91 (!r14)|none =>none;bif v9 then k92 true else match qbt m.Branch 1 4 with|some r11 =>k92 (!r11)|none =>none;bif v6 then k93 true else match qbt m.Kind 1 15 with|some r8 =>k93 (!r8)|none =>none;bif v then k94 true else match qbt m.Item 1 9999 with|some r5 =>k94 (!r5)|none =>none;bif !r1 then k95 true else match qbt m.Day 0 109572 with|some r3 =>k95 (!r3)|none =>none)|none =>none
def qdd (s:List Item):Option (List Item):=
 bif decide (([]:List Item).length+s.length≤LIM) then some (([])++s) else none
def qdr (s:List Move):Option (List Move):=
 bif decide (([]:List Move).length+s.length≤LIM) then some (([])++s) else none
def qbe (i:Int) (kind:Int) (branch:Int) (who:Int) (d:Circ_desk):Option (Unit×Circ_desk):=
 bif !(d.err==0) then some ((),d) else match m9 d.c.Items i with|some x =>(match m9 d.c.Items i with|some x1 =>(match qem x1.Custody (⟨d.c.Today,x.ID,kind,branch,who⟩:Move) with|some (r2,r3) =>let k10 (v:Bool):Option (Unit×Circ_desk):=let k (e:Int):Option (Unit×Circ_desk):=bif !(e==0) then match qs e d with|some (_,v5) =>some ((),v5)|none =>none else match qdd d.c.Items with|some l =>(match m9 l i with|some _ =>(match l[i.toNat]? with|some x7 =>(match qdr d.c.Moves with|some l9 =>bif decide (l9.length+([(⟨d.c.Today,x.ID,kind,branch,who⟩:Move)]:List Move).length≤LIM) then some ((),(⟨⟨d.c.Today,l.set i.toNat (⟨x7.ID,x7.Record,x7.Branch,x7.Kind,x7.Price,x7.Call,r2⟩:Item),d.c.Patrons,d.c.Loans,d.c.Holds,d.c.Charges,d.c.Rules,d.c.Cals,l9++([(⟨d.c.Today,x.ID,kind,branch,who⟩:Move)]:List Move),d.c.NextHold,d.c.NextCharge,d.c.Local⟩,d.err⟩:Circ_desk)) else none|none =>none)|none =>none)|none =>none)|none =>none;bif v then k 13 else k r3;bif r3==0 then k10 (decide (2000≤(d.c.Moves.length:Int))) else k10 false|none =>none)|none =>none)|none =>none
def qb3 (i:Int) (kind:Int) (d:Circ_desk):Option (Unit×Circ_desk):=
 let k (v1:Circ_desk):Option (Unit×Circ_desk):=some ((),v1);bif d.err==0 then match m9 d.c.Items i with|some x =>(match qbe i kind x.Custody.Branch 0 d with|some (_,v) =>k v|none =>none)|none =>none else k d
def qd8 (n:Int):Option Bool:=
 let k (v:Bool):Option Bool:=some v;bif decide (1≤n) then k (decide (n≤9999)) else k false
def qdh (n:Int):Option Bool:=
 let k (v:Bool):Option Bool:=some v;bif decide (0≤n) then k (decide (n≤109572)) else k false
def qby (x:Charge):Option Int:=
 let k22 (v:Bool):Option Int:=let k21 (v2:Bool):Option Int:=let k20 (v5:Bool):Option Int:=let k19 (v8:Bool):Option Int:=let k18 (v17:Int):Option Int:=some v17;bif v8 then k18 2 else let k16 (v9:Bool):Option Int:=bif v9 then k18 1 else let k14 (v10:Bool):Option Int:=let k13 (v11:Bool):Option Int:=let k (v12:Bool):Option Int:=bif v12 then k18 2 else some 0;bif v11 then k true else k (decide (x.Amount≤x.Paid));bif v10 then k13 true else k13 (decide (x.Paid<0));bif decide (x.Amount<1) then k14 true else k14 (decide (100000000<x.Amount));bif decide (x.Kind<1) then k16 true else k16 (decide (3<x.Kind));bif v5 then k19 true else match qdh x.Day with|some r7 =>k19 (!r7)|none =>none;bif v2 then k20 true else match qd8 x.Item with|some r4 =>k20 (!r4)|none =>none;bif v then k21 true else match qd8 x.Patron with|some r1 =>k21 (!r1)|none =>none;bif decide (x.ID<1) then k22 true else k22 (decide (99999<x.ID))
def b2r:((List Charge)×(List Charge)×Int×Int×Unit)→Option (((List Charge)×(List Charge)×Int×Int×Unit)⊕((Unit)⊕(Int×Unit))):=fun (l,v,v1,v2,_)=>
 bif decide (v2<v1) then match m9 v v2 with|some x =>let k (v4:Bool):Option (((List Charge)×(List Charge)×Int×Int×Unit)⊕((Unit)⊕(Int×Unit))):=bif v4 then some (.inr (.inr (7,()))) else match qby x with|some r5 =>bif !(r5==0) then some (.inr (.inr (r5,()))) else some (.inl (l,v,v1,wr .i64 (v2+1),()))|none =>none;bif decide (0<v2) then match m9 l (wr .i64 (v2-1)) with|some x3 =>k (decide (x.ID≤x3.ID))|none =>none else k false|none =>none else some (.inr (.inl (())))
def qbh (l:List Charge):Option Int:=
 bif decide (128<(l.length:Int)) then some 13 else match c4 b2r (l,l,(l.length:Int),0,()) with|some (.inl (_)) =>some 0|some (.inr (v,_)) =>some v|none =>none
def qb2 (l:List Charge) (c:Charge):Option ((List Charge)×Int):=
 bif decide (l.length≤LIM) then bif decide (l.length+([c]:List Charge).length≤LIM) then match qbh (l++([c]:List Charge)) with|some r1 =>bif !(r1==0) then some ([],r1) else some (l++([c]:List Charge),0)|none =>none else none else none
def qdt (vid:Int) (item:Int) (kind:Int) (amount:Int) (d:Circ_desk):Option (Unit×Circ_desk):=
 bif !(d.err==0) then some ((),d) else bif decide (99999<d.c.NextCharge) then match qs 13 d with|some (_,v) =>some ((),v)|none =>none else match qb2 d.c.Charges (⟨d.c.NextCharge,vid,item,d.c.Today,kind,amount,0⟩:Charge) with|some (r2,r3) =>bif !(r3==0) then match qs r3 d with|some (_,v5) =>some ((),v5)|none =>none else some ((),(⟨⟨d.c.Today,d.c.Items,d.c.Patrons,d.c.Loans,d.c.Holds,r2,d.c.Rules,d.c.Cals,d.c.Moves,d.c.NextHold,wr .i64 (d.c.NextCharge+1),d.c.Local⟩,d.err⟩:Circ_desk))|none =>none
def qb4 (h:Hold) (v:Int):Option Bool:=
 some (h.Got==v)
def b8f {γ0:Type} (p:γ0→Hold→Option Bool):((List Hold)×γ0×Int×Int×Unit)→Option (((List Hold)×γ0×Int×Int×Unit)⊕((Unit)⊕(Int×Unit))):=fun (s,g,v,v1,_)=>
 bif decide (v1<v) then match m9 s v1 with|some x =>(match p g x with|some r =>bif r then some (.inr (.inr (v1,()))) else some (.inl (s,g,v,wr .i64 (v1+1),()))|none =>none)|none =>none else some (.inr (.inl (())))
def qc {γ0:Type} (p:γ0→Hold→Option Bool) (s:List Hold) (g:γ0):Option Int:=
 match c4 (b8f p) (s,g,(s.length:Int),0,()) with|some (.inl (_)) =>some (-1)|some (.inr (v,_)) =>some v|none =>none
def qa8 (c:Circ) (item:Int):Option (Hold×Bool):=
 match qc (fun g x0=>qb4 x0 g.2.1) c.Holds ((),(item,())) with|some r1 =>(bif decide (r1<0) then some ((⟨0,0,0,0,0,0,0,0,0,0,0⟩:Hold),false) else match m9 c.Holds r1 with|some x =>some (x,true)|none =>none)|none =>none
def qdf (h:Hold) (v:Int):Option Bool:=
 some (h.Got==v)
def qch (s:List Hold):Option (List Hold):=
 bif decide (([]:List Hold).length+s.length≤LIM) then some (([])++s) else none
def qc7 (l:List Hold) (i:Int) (h:Hold):Option (List Hold):=
 match qch l with|some l1 =>(match m9 l1 i with|some _ =>(match l1[i.toNat]? with|some x =>some (l1.set i.toNat h)|none =>none)|none =>none)|none =>none
def qao (l:List Hold) (item:Int):Option ((List Hold)×Int):=
 match qc (fun g x0=>qdf x0 g.2.1) l ((),(item,())) with|some r1 =>let k (v:Bool):Option ((List Hold)×Int):=bif v then some ([],9) else match m9 l r1 with|some x =>(match qc7 l r1 (⟨x.ID,x.Patron,x.Record,x.Item,x.Pickup,x.Placed,1,0,0,x.Asleep,x.Rank⟩:Hold) with|some r3 =>some (r3,0)|none =>none)|none =>none;bif decide (r1<0) then k true else k (item==0)|none =>none
def qcb (l:List Hold) (e:Int) (d:Circ_desk):Option (Unit×Circ_desk):=
 let k3 (v1:Circ_desk):Option (Unit×Circ_desk):=let k (v2:List Hold):Option (Unit×Circ_desk):=some ((),(⟨⟨v1.c.Today,v1.c.Items,v1.c.Patrons,v1.c.Loans,v2,v1.c.Charges,v1.c.Rules,v1.c.Cals,v1.c.Moves,v1.c.NextHold,v1.c.NextCharge,v1.c.Local⟩,v1.err⟩:Circ_desk));bif v1.err==0 then k l else k v1.c.Holds;bif !(e==0) then match qs e d with|some (_,v) =>k3 v|none =>none else k3 d
def qbq (a:Hold) (b:Hold):Option Int:=
 some (wr .i64 (b.Rank-a.Rank))
def d20 {γ0:Type} (p:γ0→Hold→Hold→Option Int):(Int×Int×γ0×Int×Int×(List Hold)×Unit)→Option ((Int×Int×γ0×Int×Int×(List Hold)×Unit)⊕((Int×Int×γ0×Int×(List Hold)×Unit))):=fun (a,b,g,i,j,l,_)=>
 let k (v:Bool):Option ((Int×Int×γ0×Int×Int×(List Hold)×Unit)⊕((Int×Int×γ0×Int×(List Hold)×Unit))):=bif v then match m9 l (wr .i64 (j-1)) with|some _ =>(match l[(wr .i64 (j-1)).toNat]? with|some x2 =>(match m9 l j with|some _ =>(match l[j.toNat]? with|some x3 =>(match m9 l j with|some _ =>(match l[j.toNat]? with|some x4 =>(match m9 (l.set j.toNat x2) (wr .i64 (j-1)) with|some _ =>(match (l.set j.toNat x2)[(wr .i64 (j-1)).toNat]? with|some x5 =>some (.inl (a,b,g,i,wr .i64 (j-1),(l.set j.toNat x2).set (wr .i64 (j-1)).toNat x3,()))|none =>none)|none =>none)|none =>none)|none =>none)|none =>none)|none =>none)|none =>none)|none =>none else some (.inr ((a,b,g,i,l,())));bif decide (a<j) then match m9 l j with|some _ =>(match l[j.toNat]? with|some x =>(match m9 l (wr .i64 (j-1)) with|some _ =>(match l[(wr .i64 (j-1)).toNat]? with|some x1 =>(match p g x x1 with|some r =>k (decide (r<0))|none =>none)|none =>none)|none =>none)|none =>none)|none =>none else k false
def d2z {γ0:Type} (p:γ0→Hold→Hold→Option Int):(Int×Int×γ0×Int×(List Hold)×Unit)→Option ((Int×Int×γ0×Int×(List Hold)×Unit)⊕(((List Hold)×Unit))):=fun (a,b,g,i,l,_)=>
 bif decide (i<b) then match c4 (d20 p) (a,b,g,i,i,l,()) with|some ((a6,b7,g8,i9,l10,_)) =>some (.inl (a6,b7,g8,wr .i64 (i9+1),l10,()))|none =>none else some (.inr ((l,())))
def qn {γ0:Type} (p:γ0→Hold→Hold→Option Int) (data:List Hold) (a:Int) (b:Int) (g:γ0):Option (List Hold):=
 match c4 (d2z p) (a,b,g,wr .i64 (a+1),data,()) with|some ((l,_)) =>some l|none =>none
def e8u {γ0:Type} (p:γ0→Hold→Hold→Option Int):(Int×γ0×Int×Int×Int×(List Hold)×Unit)→Option ((Int×γ0×Int×Int×Int×(List Hold)×Unit)⊕((Int×γ0×Int×Int×(List Hold)×Unit))):=fun (n,g,blockSize,a,b,l,_)=>
 bif decide (b≤n) then match qn p l a b g with|some l1 =>some (.inl (n,g,blockSize,b,wr .i64 (b+blockSize),l1,()))|none =>none else some (.inr ((n,g,blockSize,a,l,())))
def h00 {γ0:Type} (p:γ0→Hold→Hold→Option Int):(Int×γ0×Int×Int×Int×(List Hold)×Unit)→Option ((Int×γ0×Int×Int×Int×(List Hold)×Unit)⊕((Int×γ0×Int×Int×(List Hold)×Unit))):=fun (n,g,blockSize,a,b,l,_)=>
 bif decide (b≤n) then match qcf p l a (wr .i64 (a+blockSize)) b g with|some l5 =>some (.inl (n,g,blockSize,b,wr .i64 (b+(wr .i64 (2*blockSize))),l5,()))|none =>none else some (.inr ((n,g,blockSize,a,l,())))
def e8v {γ0:Type} (p:γ0→Hold→Hold→Option Int):(Int×γ0×Int×(List Hold)×Unit)→Option ((Int×γ0×Int×(List Hold)×Unit)⊕(((List Hold)×Unit))):=fun (n,g,blockSize,l,_)=>
 bif decide (blockSize<n) then match c4 (h00 p) (n,g,blockSize,0,wr .i64 (2*blockSize),l,()) with|some ((n6,g7,blockSize8,a,l9,_)) =>let k (l11:List Hold):Option ((Int×γ0×Int×(List Hold)×Unit)⊕(((List Hold)×Unit))):=some (.inl (n6,g7,wr .i64 (blockSize8*2),l11,()));bif decide (wr .i64 (a+blockSize8)<n6) then match qcf p l9 a (wr .i64 (a+blockSize8)) n6 g7 with|some l10 =>k l10|none =>none else k l9|none =>none else some (.inr ((l,())))
def ql {γ0:Type} (p:γ0→Hold→Hold→Option Int) (data:List Hold) (n:Int) (g:γ0):Option (List Hold):=
 match c4 (e8u p) (n,g,20,0,20,data,()) with|some ((n2,g3,blockSize,a,l,_)) =>(match qn p l a n2 g3 with|some l4 =>(match c4 (e8v p) (n2,g3,blockSize,l4,()) with|some ((l12,_)) =>some l12|none =>none)|none =>none)|none =>none
def qc9 {γ0:Type} (p:γ0→Hold→Hold→Option Int) (x:List Hold) (g:γ0):Option (List Hold):=
 match ql p x (x.length:Int) g with|some l =>some l|none =>none
def d2v:(Int×Int×(List Hold)×Int×Int×(List Hold)×Unit)→Option ((Int×Int×(List Hold)×Int×Int×(List Hold)×Unit)⊕(((List Hold)×Unit))):=fun (record,day,v,v1,v2,l,_)=>
 bif decide (v2<v1) then match m9 v v2 with|some x =>let k5 (v3:Bool):Option ((Int×Int×(List Hold)×Int×Int×(List Hold)×Unit)⊕(((List Hold)×Unit))):=let k (v4:Bool):Option ((Int×Int×(List Hold)×Int×Int×(List Hold)×Unit)⊕(((List Hold)×Unit))):=bif v4 then bif decide (l.length+([x]:List Hold).length≤LIM) then some (.inl (record,day,v,v1,wr .i64 (v2+1),l++([x]:List Hold),())) else none else some (.inl (record,day,v,v1,wr .i64 (v2+1),l,()));bif v3 then k (decide (x.Asleep≤day)) else k false;bif x.Record==record then k5 (x.State==1) else k5 false|none =>none else some (.inr ((l,())))
def qg (l:List Hold) (record:Int) (day:Int):Option (List Hold):=
 match c4 d2v (record,day,l,(l.length:Int),0,([]:List Hold),()) with|some ((l6,_)) =>(match qc9 (fun g x0 x1=>qbq x0 x1) l6 ((),()) with|some l7 =>some l7|none =>none)|none =>none
def b5f:(Int×Bool×Int×(List Hold)×Int×Int×Item×Unit)→Option ((Int×Bool×Int×(List Hold)×Int×Int×Item×Unit)⊕((Int×Unit)⊕(Int×Unit))):=fun (branch,vlocal,first,v,v2,v3,x,_)=>
 bif decide (v3<v2) then match m9 v v3 with|some x4 =>let k9 (v5:Bool):Option ((Int×Bool×Int×(List Hold)×Int×Int×Item×Unit)⊕((Int×Unit)⊕(Int×Unit))):=bif v5 then some (.inl (branch,vlocal,first,v,v2,wr .i64 (v3+1),x,())) else let k8 (v6:Bool):Option ((Int×Bool×Int×(List Hold)×Int×Int×Item×Unit)⊕((Int×Unit)⊕(Int×Unit))):=bif v6 then some (.inr (.inr (x4.ID,()))) else let k (first7:Int):Option ((Int×Bool×Int×(List Hold)×Int×Int×Item×Unit)⊕((Int×Unit)⊕(Int×Unit))):=some (.inl (branch,vlocal,first7,v,v2,wr .i64 (v3+1),x,()));bif first==0 then k x4.ID else k first;bif !vlocal then k8 true else k8 (x4.Pickup==branch);bif !(x4.Item==0) then k9 (!(x4.Item==x.ID)) else k9 false|none =>none else some (.inr (.inl (first,())))
def qa0 (l:List Hold) (x:Item) (branch:Int) (day:Int) (vlocal:Bool):Option Int:=
 match qg l x.Record day with|some r1 =>(match c4 b5f (branch,vlocal,0,r1,(r1.length:Int),0,x,()) with|some (.inl (first,_)) =>some first|some (.inr (v,_)) =>some v|none =>none)|none =>none
def qcu (c:Circ) (x:Item):Option Int:=
 match qa0 c.Holds x x.Custody.Branch c.Today c.Local with|some r1 =>some r1|none =>none
def qde (h:Hold) (v:Int):Option Bool:=
 some (h.ID==v)
def qbw (l:List Hold) (vid:Int):Option Int:=
 match qc (fun g x0=>qde x0 g.2.1) l ((),(vid,())) with|some r1 =>some r1|none =>none
def qe0 (l:List Hold) (vid:Int):Option (Hold×Bool):=
 match qbw l vid with|some r1 =>bif decide (0≤r1) then match m9 l r1 with|some x =>some (x,true)|none =>none else some ((⟨0,0,0,0,0,0,0,0,0,0,0⟩:Hold),false)|none =>none
def qcl (p:Patron) (v:Int):Option Bool:=
 some (p.ID==v)
def b5g {γ0:Type} (p:γ0→Patron→Option Bool):((List Patron)×γ0×Int×Int×Unit)→Option (((List Patron)×γ0×Int×Int×Unit)⊕((Unit)⊕(Int×Unit))):=fun (s,g,v,v1,_)=>
 bif decide (v1<v) then match m9 s v1 with|some x =>(match p g x with|some r =>bif r then some (.inr (.inr (v1,()))) else some (.inl (s,g,v,wr .i64 (v1+1),()))|none =>none)|none =>none else some (.inr (.inl (())))
def qa1 {γ0:Type} (p:γ0→Patron→Option Bool) (s:List Patron) (g:γ0):Option Int:=
 match c4 (b5g p) (s,g,(s.length:Int),0,()) with|some (.inl (_)) =>some (-1)|some (.inr (v,_)) =>some v|none =>none
def qbv (l:List Patron) (vid:Int):Option Int:=
 match qa1 (fun g x0=>qcl x0 g.2.1) l ((),(vid,())) with|some r1 =>some r1|none =>none
def qes (l:List Patron) (vid:Int):Option (Patron×Bool):=
 match qbv l vid with|some r1 =>(bif decide (r1<0) then some ((⟨0,0,0,0,false,[]⟩:Patron),false) else match m9 l r1 with|some x =>some (x,true)|none =>none)|none =>none
def qdw (key:Int) (n:Int):Option Bool:=
 let k (v:Bool):Option Bool:=some v;bif key==0 then k true else k (key==n)
def qbu (r:Rule) (patron:Int) (item:Int) (branch:Int):Option Bool:=
 match qdw r.Patron patron with|some r2 =>let k8 (v:Bool):Option Bool:=let k (v7:Bool):Option Bool:=some v7;bif v then match qdw r.Branch branch with|some r6 =>k r6|none =>none else k false;bif r2 then match qdw r.Item item with|some r4 =>k8 r4|none =>none else k8 false|none =>none
def a9s:(Int×Int×Int×(List Int)×Unit)→Option ((Int×Int×Int×(List Int)×Unit)⊕((Int×Unit))):=fun (n,v,v1,l,_)=>
 bif decide (v1<v) then match m9 l v1 with|some _ =>(match l[v1.toNat]? with|some x =>let k (n2:Int):Option ((Int×Int×Int×(List Int)×Unit)⊕((Int×Unit))):=some (.inl (n2,v,wr .i64 (v1+1),l,()));bif !(x==0) then k (wr .i64 ((wr .i64 (n*2))+1)) else k (wr .i64 (n*2))|none =>none)|none =>none else some (.inr ((n,())))
def qa2 (r:Rule):Option Int:=
 match c4 a9s (0,(([r.Patron,r.Item,r.Branch]).length:Int),0,[r.Patron,r.Item,r.Branch],()) with|some ((n,_)) =>some n|none =>none
def b2o:((List Rule)×Int×Int×Int×Int×(List Rule)×Int×Int×Unit)→Option (((List Rule)×Int×Int×Int×Int×(List Rule)×Int×Int×Unit)⊕((Int×Unit))):=fun (l,patron,item,branch,vat,v,v1,v2,_)=>
 bif decide (v2<v1) then match m9 v v2 with|some x =>(match qbu x patron item branch with|some r3 =>let k12 (v10:Bool):Option (((List Rule)×Int×Int×Int×Int×(List Rule)×Int×Int×Unit)⊕((Int×Unit))):=let k (vat11:Int):Option (((List Rule)×Int×Int×Int×Int×(List Rule)×Int×Int×Unit)⊕((Int×Unit))):=some (.inl (l,patron,item,branch,vat11,v,v1,wr .i64 (v2+1),()));bif v10 then k v2 else k vat;bif r3 then bif decide (vat<0) then k12 true else match qa2 x with|some r5 =>(match m9 l vat with|some x6 =>(match qa2 x6 with|some r8 =>k12 (decide (r8<r5))|none =>none)|none =>none)|none =>none else k12 false|none =>none)|none =>none else some (.inr ((vat,())))
def qal (l:List Rule) (patron:Int) (item:Int) (branch:Int):Option Int:=
 match c4 b2o (l,patron,item,branch,(-1),l,(l.length:Int),0,()) with|some ((vat,_)) =>some vat|none =>none
def qcr (l:List Rule) (patron:Int) (item:Int) (branch:Int):Option (Rule×Bool):=
 match qal l patron item branch with|some r1 =>(bif decide (r1<0) then some ((⟨0,0,0,0,0,0,0,0,0,0,0,0,0⟩:Rule),false) else match m9 l r1 with|some x =>some (x,true)|none =>none)|none =>none
def qct (c:Circ) (vid:Int) (x:Item):Option (Rule×Bool):=
 match qes c.Patrons vid with|some (r1,r2) =>(bif !r2 then some ((⟨0,0,0,0,0,0,0,0,0,0,0,0,0⟩:Rule),false) else match qcr c.Rules r1.Kind x.Kind x.Branch with|some (r4,r5) =>some (r4,r5)|none =>none)|none =>none
def qer (n:Int) (low:Int) (high:Int):Option Bool:=
 let k (v:Bool):Option Bool:=some v;bif decide (low≤n) then k (decide (n≤high)) else k false
def qcx (c:Circ) (branch:Int):Option Calendar:=
 match qer branch 1 4 with|some r1 =>bif !r1 then some (⟨0,[]⟩:Calendar) else let k (v:Int) (v2:List Int):Option Calendar:=some (⟨v,v2⟩:Calendar);bif (wr .i64 (branch-1))==0 then k c.Cals.x0.Week c.Cals.x0.Closed else bif (wr .i64 (branch-1))==1 then k c.Cals.x1.Week c.Cals.x1.Closed else bif (wr .i64 (branch-1))==2 then k c.Cals.x2.Week c.Cals.x2.Closed else bif (wr .i64 (branch-1))==3 then k c.Cals.x3.Week c.Cals.x3.Closed else none|none =>none
def qcm (d:Int):Option Bool:=
 let k (v:Bool):Option Bool:=some v;bif decide (0≤d) then k (decide (d≤109572)) else k false
def qd6 (x:Int):Option Bool:=
 some (!(x==x))
def qd9 (x:Int) (y:Int):Option Bool:=
 match qd6 x with|some r1 =>let k5 (v:Bool):Option Bool:=let k (v4:Bool):Option Bool:=some v4;bif v then k true else k (decide (x<y));bif r1 then match qd6 y with|some r3 =>k5 (!r3)|none =>none else k5 false|none =>none
def qds (x:Int):Option Bool:=
 some (!(x==x))
def b5n:((List Int)×Int×Int×Int×Int×Unit)→Option (((List Int)×Int×Int×Int×Int×Unit)⊕(((List Int)×Int×Int×Int×Unit))):=fun (x,target,n,i,j,_)=>
 bif decide (i<j) then match m9 x (wr .i64 ((wr .u64 (wr .i64 (i+j))).fdiv (2 ^ 1))) with|some x1 =>(match qd9 x1 target with|some r2 =>let k (i3:Int) (j4:Int):Option (((List Int)×Int×Int×Int×Int×Unit)⊕(((List Int)×Int×Int×Int×Unit))):=some (.inl (x,target,n,i3,j4,()));bif r2 then k (wr .i64 ((wr .i64 ((wr .u64 (wr .i64 (i+j))).fdiv (2 ^ 1)))+1)) j else k i (wr .i64 ((wr .u64 (wr .i64 (i+j))).fdiv (2 ^ 1)))|none =>none)|none =>none else some (.inr ((x,target,n,i,())))
def qae (x:List Int) (target:Int):Option (Int×Bool):=
 match c4 b5n (x,target,(x.length:Int),0,(x.length:Int),()) with|some ((x5,target6,n,i,_)) =>let k (v13:Bool):Option (Int×Bool):=some (i,v13);bif decide (i<n) then match m9 x5 i with|some x7 =>(bif x7==target6 then k true else match m9 x5 i with|some x8 =>(match qds x8 with|some r9 =>bif r9 then match qds target6 with|some r11 =>k r11|none =>none else k false|none =>none)|none =>none)|none =>none else k false|none =>none
def d9u:(Int×Calendar×(V7 Bool)×(V7 Bool)×Unit)→Option ((Int×Calendar×(V7 Bool)×(V7 Bool)×Unit)⊕(((V7 Bool)×(V7 Bool)×Unit))):=fun (v,c,v1,vopen,_)=>
 bif decide (v<7) then bif decide (v<0) then none else bif v==0 then some (.inl (wr .i64 (v+1),c,v1,(⟨(wr .i64 (BitVec.ofInt 64 (c.Week.fdiv (2 ^ (min v.toNat 64))) &&& BitVec.ofInt 64 1).toNat)==0,vopen.x1,vopen.x2,vopen.x3,vopen.x4,vopen.x5,vopen.x6⟩:V7 Bool),())) else bif v==1 then some (.inl (wr .i64 (v+1),c,v1,(⟨vopen.x0,(wr .i64 (BitVec.ofInt 64 (c.Week.fdiv (2 ^ (min v.toNat 64))) &&& BitVec.ofInt 64 1).toNat)==0,vopen.x2,vopen.x3,vopen.x4,vopen.x5,vopen.x6⟩:V7 Bool),())) else bif v==2 then some (.inl (wr .i64 (v+1),c,v1,(⟨vopen.x0,vopen.x1,(wr .i64 (BitVec.ofInt 64 (c.Week.fdiv (2 ^ (min v.toNat 64))) &&& BitVec.ofInt 64 1).toNat)==0,vopen.x3,vopen.x4,vopen.x5,vopen.x6⟩:V7 Bool),())) else bif v==3 then some (.inl (wr .i64 (v+1),c,v1,(⟨vopen.x0,vopen.x1,vopen.x2,(wr .i64 (BitVec.ofInt 64 (c.Week.fdiv (2 ^ (min v.toNat 64))) &&& BitVec.ofInt 64 1).toNat)==0,vopen.x4,vopen.x5,vopen.x6⟩:V7 Bool),())) else bif v==4 then some (.inl (wr .i64 (v+1),c,v1,(⟨vopen.x0,vopen.x1,vopen.x2,vopen.x3,(wr .i64 (BitVec.ofInt 64 (c.Week.fdiv (2 ^ (min v.toNat 64))) &&& BitVec.ofInt 64 1).toNat)==0,vopen.x5,vopen.x6⟩:V7 Bool),())) else bif v==5 then some (.inl (wr .i64 (v+1),c,v1,(⟨vopen.x0,vopen.x1,vopen.x2,vopen.x3,vopen.x4,(wr .i64 (BitVec.ofInt 64 (c.Week.fdiv (2 ^ (min v.toNat 64))) &&& BitVec.ofInt 64 1).toNat)==0,vopen.x6⟩:V7 Bool),())) else bif v==6 then some (.inl (wr .i64 (v+1),c,v1,(⟨vopen.x0,vopen.x1,vopen.x2,vopen.x3,vopen.x4,vopen.x5,(wr .i64 (BitVec.ofInt 64 (c.Week.fdiv (2 ^ (min v.toNat 64))) &&& BitVec.ofInt 64 1).toNat)==0⟩:V7 Bool),())) else none else some (.inr ((v1,vopen,())))
def qak (c:Calendar):Option (V7 Bool):=
 match c4 d9u (0,c,(⟨false,false,false,false,false,false,false⟩:V7 Bool),(⟨false,false,false,false,false,false,false⟩:V7 Bool),()) with|some ((v,vopen,_)) =>some vopen|none =>none
def qet (day:Int):Option Bool:=
 let k (v:Bool):Option Bool:=some v;bif decide (0≤day) then k (decide (day≤109572)) else k false
def qcq (day:Int):Option Int:=
 match qet day with|some r1 =>bif !r1 then some (-1) else some (day.tmod 7)|none =>none
def qcc (c:Calendar) (day:Int):Option Bool:=
 match qcm day with|some r1 =>(bif !r1 then some false else match qae c.Closed day with|some (r3,r4) =>let k (v9:Bool):Option Bool:=some v9;bif !r4 then match qak c with|some r6 =>(match qcq day with|some r8 =>bif r8==0 then k r6.x0 else bif r8==1 then k r6.x1 else bif r8==2 then k r6.x2 else bif r8==3 then k r6.x3 else bif r8==4 then k r6.x4 else bif r8==5 then k r6.x5 else bif r8==6 then k r6.x6 else none|none =>none)|none =>none else k false|none =>none)|none =>none
def c2k:(Int×Calendar×Unit)→Option ((Int×Calendar×Unit)⊕((Unit)⊕(Int×Int×Unit))):=fun (d,c,_)=>
 bif decide (d≤109572) then match qcc c d with|some r1 =>bif r1 then some (.inr (.inr (d,0,()))) else some (.inl (wr .i64 (d+1),c,()))|none =>none else some (.inr (.inl (())))
def qa3 (c:Calendar) (day:Int):Option (Int×Int):=
 match c4 c2k ((if day<0 then 0 else day),c,()) with|some (.inl (_)) =>some (0,2)|some (.inr (v,v2,_)) =>some (v,v2)|none =>none
def b5s:(Int×Int×Int×Calendar×Unit)→Option ((Int×Int×Int×Calendar×Unit)⊕((Int×Unit)⊕(Int×Int×Unit))):=fun (d,v,v5,c,_)=>
 bif decide (v5<v) then match qa3 c (wr .i64 (d+1)) with|some (r6,r7) =>bif !(r7==0) then some (.inr (.inr (0,r7,()))) else some (.inl (r6,v,wr .i64 (v5+1),c,()))|none =>none else some (.inr (.inl (d,())))
def qaj (c:Calendar) (day:Int) (n:Int):Option (Int×Int):=
 let k (v:Bool):Option (Int×Int):=bif v then some (0,1) else match qcm day with|some r1 =>(bif !r1 then some (0,2) else bif n==0 then match qa3 c day with|some (r3,r4) =>some (r3,r4)|none =>none else match c4 b5s (day,n,0,c,()) with|some (.inl (d,_)) =>some (d,0)|some (.inr (v8,v9,_)) =>some (v8,v9)|none =>none)|none =>none;bif decide (n<0) then k true else k (decide (1000<n))
def qek (branch:Int) (n:Int) (d:Circ_desk):Option (Int×Circ_desk):=
 match qcx d.c branch with|some r1 =>(match qaj r1 d.c.Today n with|some (r3,r4) =>let k (v6:Circ_desk):Option (Int×Circ_desk):=some (r3,v6);bif !(r4==0) then match qs r4 d with|some (_,v) =>k v|none =>none else k d|none =>none)|none =>none
def qeb (n:Int) (low:Int) (high:Int):Option Bool:=
 let k (v:Bool):Option Bool:=some v;bif decide (low≤n) then k (decide (n≤high)) else k false
def qb5 (o:Hold) (v:Int) (v1:Int):Option Bool:=
 let k (v2:Bool):Option Bool:=some v2;bif o.Got==v then k (!(o.ID==v1)) else k false
def qeg {γ0:Type} (p:γ0→Hold→Option Bool) (s:List Hold) (g:γ0):Option Bool:=
 match qc p s g with|some r1 =>some (decide (0≤r1))|none =>none
def qay (l:List Hold) (vid:Int) (item:Int) (state:Int) (vuntil:Int):Option ((List Hold)×Int):=
 match qbw l vid with|some r1 =>bif decide (r1<0) then some ([],9) else let k18 (v:Bool):Option ((List Hold)×Int):=match qeb item 1 9999 with|some r5 =>let k17 (v8:Bool):Option ((List Hold)×Int):=bif v8 then some ([],1) else match m9 l r1 with|some x =>let k16 (v11:Bool):Option ((List Hold)×Int):=bif v11 then some ([],12) else match qeg (fun g x0=>qb5 x0 g.2.1 g.2.2.1) l ((),(item,vid,())) with|some r13 =>(bif r13 then some ([],7) else match qc7 l r1 (⟨x.ID,x.Patron,x.Record,x.Item,x.Pickup,x.Placed,state,item,vuntil,x.Asleep,x.Rank⟩:Hold) with|some r15 =>some (r15,0)|none =>none)|none =>none;bif !(x.State==1) then let k (v9:Bool):Option ((List Hold)×Int):=bif v9 then k16 true else k16 (!(state==3));bif !(x.State==2) then k true else k (!(x.Got==item)) else k16 false|none =>none;bif !r5 then k17 true else bif !v then bif !(state==2) then k17 true else k17 (!(vuntil==0)) else k17 false|none =>none;bif state==3 then match qeb vuntil 1 109572 with|some r3 =>k18 r3|none =>none else k18 false|none =>none
def qc1 (i:Int) (h:Hold) (d:Circ_desk):Option (Unit×Circ_desk):=
 bif !(d.err==0) then some ((),d) else match m9 d.c.Items i with|some x =>(match qct d.c h.Patron x with|some (r1,r2) =>let k13 (days:Int):Option (Unit×Circ_desk):=match qbe i 5 x.Custody.Branch h.Patron d with|some (_,v) =>(match qek x.Custody.Branch days v with|some (r5,v6) =>let k (v12:Circ_desk):Option (Unit×Circ_desk):=some ((),v12);bif v6.err==0 then match qay v6.c.Holds h.ID x.ID 3 r5 with|some (r8,r9) =>(match qcb r8 r9 v6 with|some (_,v11) =>k v11|none =>none)|none =>none else k v6|none =>none)|none =>none;bif r2 then k13 r1.Shelf else k13 7|none =>none)|none =>none
def qci (i:Int) (d:Circ_desk):Option (Unit×Circ_desk):=
 bif !(d.err==0) then some ((),d) else match m9 d.c.Items i with|some x =>(match qcu d.c x with|some r1 =>(match qe0 d.c.Holds r1 with|some (r3,r4) =>let k25 (v:Bool):Option (Unit×Circ_desk):=let k24 (v23:Circ_desk):Option (Unit×Circ_desk):=some ((),v23);bif v then match qbe i 6 x.Branch 0 d with|some (_,v6) =>k24 v6|none =>none else let k (v7:Bool):Option (Unit×Circ_desk):=bif v7 then match qb3 i 2 d with|some (_,v9) =>k24 v9|none =>none else bif !r4 then k24 d else bif r3.Pickup==x.Custody.Branch then match qc1 i r3 d with|some (_,v11) =>k24 v11|none =>none else match qbe i 6 r3.Pickup r3.Patron d with|some (_,v13) =>bif v13.err==0 then match qay v13.c.Holds r1 x.ID 2 0 with|some (r15,r16) =>(match qcb r15 r16 v13 with|some (_,v18) =>k24 v18|none =>none)|none =>none else k24 v13|none =>none;bif !r4 then k (!(x.Custody.State==3)) else k false;bif !r4 then k25 (!(x.Branch==x.Custody.Branch)) else k25 false|none =>none)|none =>none)|none =>none
def a3t:(Int×Int×Int×Circ_desk×Unit)→Option ((Int×Int×Int×Circ_desk×Unit)⊕((Circ_desk×Unit)⊕(Circ_desk×Unit))):=fun (record,v,v1,d,_)=>
 bif decide (v1<v) then bif !(d.err==0) then some (.inr (.inr (d,()))) else match m9 d.c.Items v1 with|some x =>let k9 (v2:Bool):Option ((Int×Int×Int×Circ_desk×Unit)⊕((Circ_desk×Unit)⊕(Circ_desk×Unit))):=let k8 (v4:Bool):Option ((Int×Int×Int×Circ_desk×Unit)⊕((Circ_desk×Unit)⊕(Circ_desk×Unit))):=let k (v7:Circ_desk):Option ((Int×Int×Int×Circ_desk×Unit)⊕((Circ_desk×Unit)⊕(Circ_desk×Unit))):=some (.inl (record,v,wr .i64 (v1+1),v7,()));bif v4 then match qci v1 d with|some (_,v6) =>k v6|none =>none else k d;bif v2 then match qcu d.c x with|some r3 =>k8 (!(r3==0))|none =>none else k8 false;bif x.Record==record then k9 (x.Custody.State==3) else k9 false|none =>none else some (.inr (.inl (d,())))
def qbd (record:Int) (d:Circ_desk):Option (Unit×Circ_desk):=
 match c4 a3t (record,(d.c.Items.length:Int),0,d,()) with|some (.inl (d10,_)) =>some ((),d10)|some (.inr (d11,_)) =>some ((),d11)|none =>none
def qc6 (c:Circ) (item:Int):Option (Circ×Int):=
 match qcd c with|some d =>(match qc3 item d with|some (r2,v) =>(bif decide (r2<0) then match qo v with|some ((r4,r5),v6) =>some (r4,r5)|none =>none else match m9 c.Items r2 with|some x =>let k35 (v7:Bool):Option (Circ×Int):=bif v7 then match qb3 r2 12 v with|some (_,v9) =>let k (v12:Circ_desk):Option (Circ×Int):=match qo v12 with|some ((r14,r15),v16) =>some (r14,r15)|none =>none;bif !(x.Price==0) then match qdt x.Custody.Who item 2 x.Price v9 with|some (_,v11) =>k v11|none =>none else k v9|none =>none else match qb3 r2 13 v with|some (_,v18) =>(match qa8 c item with|some (r20,r21) =>let k34 (v29:Circ_desk):Option (Circ×Int):=match qo v29 with|some ((r31,r32),v33) =>some (r31,r32)|none =>none;bif r21 then match qao c.Holds item with|some (r23,r24) =>(match qcb r23 r24 v18 with|some (_,v26) =>(match qbd x.Record v26 with|some (_,v28) =>k34 v28|none =>none)|none =>none)|none =>none else k34 v18|none =>none)|none =>none;bif x.Custody.State==4 then k35 true else k35 (x.Custody.State==9)|none =>none)|none =>none)|none =>none
def qb6 (c:Circ) (item:Int) (branch:Int):Option (Circ×Int):=
 match qcd c with|some d =>(match qc3 item d with|some (r2,v) =>let k (v7:Circ_desk):Option (Circ×Int):=match qo v7 with|some ((r9,r10),v11) =>some (r9,r10)|none =>none;bif decide (0≤r2) then match qbe r2 1 branch 0 v with|some (_,v4) =>(match qci r2 v4 with|some (_,v6) =>k v6|none =>none)|none =>none else k v|none =>none)|none =>none
def qcg (n:Int) (d:Circ_desk):Option ((Circ×Int×Int)×Circ_desk):=
 bif !(d.err==0) then some ((ZN,0,d.err),d) else some ((d.c,n,0),d)
def qbp (item:Int):Option (Int×Unit):=
 some (item,())
def qb8 (n:Loan) (v:Int):Option Bool:=
 some (n.Item==v)
def b5y {γ0:Type} (p:γ0→Loan→Option Bool):((List Loan)×γ0×Int×Int×Unit)→Option (((List Loan)×γ0×Int×Int×Unit)⊕((Unit)⊕(Int×Unit))):=fun (s,g,v,v1,_)=>
 bif decide (v1<v) then match m9 s v1 with|some x =>(match p g x with|some r =>bif r then some (.inr (.inr (v1,()))) else some (.inl (s,g,v,wr .i64 (v1+1),()))|none =>none)|none =>none else some (.inr (.inl (())))
def qav {γ0:Type} (p:γ0→Loan→Option Bool) (s:List Loan) (g:γ0):Option Int:=
 match c4 (b5y p) (s,g,(s.length:Int),0,()) with|some (.inl (_)) =>some (-1)|some (.inr (v,_)) =>some v|none =>none
def qdu {γ0:Type} (p:γ0→Loan→Option Bool) (l:List Loan) (g:γ0):Option (Loan×Int):=
 match qav p l g with|some r1 =>(bif decide (r1<0) then some ((⟨0,0,0,0,0,false⟩:Loan),(-1)) else match m9 l r1 with|some x =>some (x,r1)|none =>none)|none =>none
def qdc (s:List Loan):Option (List Loan):=
 bif decide (([]:List Loan).length+s.length≤LIM) then some (([])++s) else none
def qei (l:List Loan) (i:Int):Option (List Loan):=
 match qdc l with|some l1 =>(match qda l1 i (wr .i64 (i+1)) with|some l3 =>some l3|none =>none)|none =>none
def qdk (l:List Loan) (item:Int):Option ((List Loan)×Loan×Int):=
 match qbp item with|some r1 =>(match qdu (fun g x0=>qb8 x0 g.2.1) l ((),(r1.1,())) with|some (r3,r4) =>(bif decide (r4<0) then some ([],(⟨0,0,0,0,0,false⟩:Loan),9) else match qei l r4 with|some r6 =>some (r6,r3,0)|none =>none)|none =>none)|none =>none
def qdv (l:List Loan) (e:Int) (d:Circ_desk):Option (Unit×Circ_desk):=
 let k3 (v1:Circ_desk):Option (Unit×Circ_desk):=let k (v2:List Loan):Option (Unit×Circ_desk):=some ((),(⟨⟨v1.c.Today,v1.c.Items,v1.c.Patrons,v2,v1.c.Holds,v1.c.Charges,v1.c.Rules,v1.c.Cals,v1.c.Moves,v1.c.NextHold,v1.c.NextCharge,v1.c.Local⟩,v1.err⟩:Circ_desk));bif v1.err==0 then k l else k v1.c.Loans;bif !(e==0) then match qs e d with|some (_,v) =>k3 v|none =>none else k3 d
def qcj (d:Int):Option Bool:=
 match qcm d with|some r1 =>some (!r1)|none =>none
def b5z {γ0:Type} (p:γ0→Int→Option Bool):((List Int)×γ0×Int×Int×Unit)→Option (((List Int)×γ0×Int×Int×Unit)⊕((Unit)⊕(Int×Unit))):=fun (s,g,v,v1,_)=>
 bif decide (v1<v) then match m9 s v1 with|some x =>(match p g x with|some r =>bif r then some (.inr (.inr (v1,()))) else some (.inl (s,g,v,wr .i64 (v1+1),()))|none =>none)|none =>none else some (.inr (.inl (())))
def qaw {γ0:Type} (p:γ0→Int→Option Bool) (s:List Int) (g:γ0):Option Int:=
 match c4 (b5z p) (s,g,(s.length:Int),0,()) with|some (.inl (_)) =>some (-1)|some (.inr (v,_)) =>some v|none =>none
def qd3 {γ0:Type} (p:γ0→Int→Option Bool) (s:List Int) (g:γ0):Option Bool:=
 match qaw p s g with|some r1 =>some (decide (0≤r1))|none =>none
def c5w:((List Int)×Int×Int×Calendar×Unit)→Option (((List Int)×Int×Int×Calendar×Unit)⊕((Unit)⊕(Int×Unit))):=fun (v,v4,v5,c,_)=>
 bif decide (v5<v4) then match m9 v v5 with|some x =>let k (v7:Bool):Option (((List Int)×Int×Int×Calendar×Unit)⊕((Unit)⊕(Int×Unit))):=bif v7 then some (.inr (.inr (7,()))) else some (.inl (v,v4,wr .i64 (v5+1),c,()));bif decide (0<v5) then match m9 c.Closed (wr .i64 (v5-1)) with|some x6 =>k (decide (x≤x6))|none =>none else k false|none =>none else some (.inr (.inl (())))
def qu (c:Calendar):Option Int:=
 let k9 (v:Bool):Option Int:=let k (v3:Int):Option Int:=some v3;bif v then k 1 else bif decide (64<(c.Closed.length:Int)) then k 13 else match qd3 (fun g x0=>qcj x0) c.Closed ((),()) with|some r1 =>(bif r1 then k 2 else match c4 c5w (c.Closed,(c.Closed.length:Int),0,c,()) with|some (.inl (_)) =>some 0|some (.inr (v8,_)) =>some v8|none =>none)|none =>none;bif decide (c.Week<0) then k9 true else k9 (decide (127≤c.Week))
def qdx (day:Int) (weekday:Int):Option Int:=
 match qcq 0 with|some r1 =>bif decide (day<(wr .i64 ((wr .i64 (weekday-r1))+7)).tmod 7) then some 0 else some (wr .i64 ((wr .i64 ((wr .i64 (day-((wr .i64 ((wr .i64 (weekday-r1))+7)).tmod 7))).tdiv 7))+1))|none =>none
def c5e:(Int×Int×Int×(V7 Bool)×Int×Calendar×(V7 Bool)×Unit)→Option ((Int×Int×Int×(V7 Bool)×Int×Calendar×(V7 Bool)×Unit)⊕((Int×Int×Int×Calendar×(V7 Bool)×Unit))):=fun (vfrom,vto,n,v,v2,c,vopen,_)=>
 bif decide (v2<7) then let k8 (v3:Bool):Option ((Int×Int×Int×(V7 Bool)×Int×Calendar×(V7 Bool)×Unit)⊕((Int×Int×Int×Calendar×(V7 Bool)×Unit))):=let k (n7:Int):Option ((Int×Int×Int×(V7 Bool)×Int×Calendar×(V7 Bool)×Unit)⊕((Int×Int×Int×Calendar×(V7 Bool)×Unit))):=some (.inl (vfrom,vto,n7,v,wr .i64 (v2+1),c,vopen,()));bif v3 then match qdx vto v2 with|some r4 =>(match qdx (wr .i64 (vfrom-1)) v2 with|some r6 =>k (wr .i64 (n+(wr .i64 (r4-r6))))|none =>none)|none =>none else k n;bif v2==0 then k8 v.x0 else bif v2==1 then k8 v.x1 else bif v2==2 then k8 v.x2 else bif v2==3 then k8 v.x3 else bif v2==4 then k8 v.x4 else bif v2==5 then k8 v.x5 else bif v2==6 then k8 v.x6 else none else some (.inr ((vfrom,vto,n,c,vopen,())))
def b5e:(Int×Int×Int×(List Int)×Int×Int×(V7 Bool)×Unit)→Option ((Int×Int×Int×(List Int)×Int×Int×(V7 Bool)×Unit)⊕((Int×Unit))):=fun (vfrom,vto,n,v,v12,v13,vopen,_)=>
 bif decide (v13<v12) then match m9 v v13 with|some x =>let k20 (v14:Bool):Option ((Int×Int×Int×(List Int)×Int×Int×(V7 Bool)×Unit)⊕((Int×Unit))):=let k19 (v17:Bool):Option ((Int×Int×Int×(List Int)×Int×Int×(V7 Bool)×Unit)⊕((Int×Unit))):=let k (n18:Int):Option ((Int×Int×Int×(List Int)×Int×Int×(V7 Bool)×Unit)⊕((Int×Unit))):=some (.inl (vfrom,vto,n18,v,v12,wr .i64 (v13+1),vopen,()));bif v17 then k (wr .i64 (n-1)) else k n;bif v14 then match qcq x with|some r15 =>bif r15==0 then k19 vopen.x0 else bif r15==1 then k19 vopen.x1 else bif r15==2 then k19 vopen.x2 else bif r15==3 then k19 vopen.x3 else bif r15==4 then k19 vopen.x4 else bif r15==5 then k19 vopen.x5 else bif r15==6 then k19 vopen.x6 else none|none =>none else k19 false;bif decide (vfrom≤x) then k20 (decide (x≤vto)) else k20 false|none =>none else some (.inr ((n,())))
def q8 (c:Calendar) (vfrom:Int) (vto:Int):Option Int:=
 bif decide ((if 109572<vto then 109572 else vto)<(if vfrom<0 then 0 else vfrom)) then some 0 else match qak c with|some r1 =>(match c4 c5e ((if vfrom<0 then 0 else vfrom),(if 109572<vto then 109572 else vto),0,r1,0,c,r1,()) with|some ((vfrom9,vto10,n,c11,vopen,_)) =>(match c4 b5e (vfrom9,vto10,n,c11.Closed,(c11.Closed.length:Int),0,vopen,()) with|some ((n21,_)) =>some n21|none =>none)|none =>none)|none =>none
def qdl (r:Rule) (c:Calendar) (due:Int) (back:Int):Option Int:=
 match qu c with|some r2 =>(let k10 (v:Bool):Option Int:=let k (v7:Bool):Option Int:=bif v7 then some 0 else match q8 c (wr .i64 (due+1)) back with|some r9 =>bif decide (r9≤r.Grace) then some 0 else some (if r.MaxFine<wr .i64 (r9*r.Fine) then r.MaxFine else wr .i64 (r9*r.Fine))|none =>none;bif v then k true else match qdh back with|some r6 =>k (!r6)|none =>none;bif !(r2==0) then k10 true else match qdh due with|some r4 =>k10 (!r4)|none =>none)|none =>none
def qco (x:Charge) (v:Int) (v1:Int) (v2:Int):Option Bool:=
 let k6 (v3:Bool):Option Bool:=let k (v5:Bool):Option Bool:=some v5;bif v3 then bif v2==0 then k true else k (x.Kind==v2) else k false;bif x.Patron==v then k6 (x.Item==v1) else k6 false
def b5w {γ0:Type} (p:γ0→Charge→Option Bool):(γ0×Int×Int×(List Charge)×Int×Int×(List Charge)×Unit)→Option ((γ0×Int×Int×(List Charge)×Int×Int×(List Charge)×Unit)⊕((Int×Int×(List Charge)×Unit))):=fun (g,paid,n,v,v1,v2,l,_)=>
 bif decide (v2<v1) then match m9 v v2 with|some x =>(match p g x with|some r =>bif r then some (.inl (g,wr .i64 (paid+x.Paid),wr .i64 (n+1),v,v1,wr .i64 (v2+1),l,())) else bif decide (l.length+([x]:List Charge).length≤LIM) then some (.inl (g,paid,n,v,v1,wr .i64 (v2+1),l++([x]:List Charge),())) else none|none =>none)|none =>none else some (.inr ((paid,n,l,())))
def qar {γ0:Type} (p:γ0→Charge→Option Bool) (l:List Charge) (g:γ0):Option ((List Charge)×Int×Int):=
 match c4 (b5w p) (g,0,0,l,(l.length:Int),0,([]:List Charge),()) with|some ((paid,n,l3,_)) =>some (l3,paid,n)|none =>none
def qbr (l:List Charge) (patron:Int) (item:Int) (kind:Int):Option ((List Charge)×Int):=
 match qar (fun g x0=>qco x0 g.2.1 g.2.2.1 g.2.2.2.1) l ((),(patron,item,kind,())) with|some (r1,r2,r3) =>some (r1,r2)|none =>none
def qeh (i:Int) (branch:Int) (d:Circ_desk):Option (Unit×Circ_desk):=
 match m9 d.c.Items i with|some x =>(match qbe i 4 branch 0 d with|some (_,v) =>(bif !(v.err==0) then some ((),v) else match qdk v.c.Loans x.ID with|some (r2,r3,r4) =>(match qdv r2 r4 v with|some (_,v6) =>(match qct v6.c r3.Patron x with|some (r8,r9) =>let k (v17:Circ_desk):Option (Unit×Circ_desk):=match qbr v17.c.Charges r3.Patron x.ID 2 with|some (r19,r20) =>some ((),(⟨⟨v17.c.Today,v17.c.Items,v17.c.Patrons,v17.c.Loans,v17.c.Holds,r19,v17.c.Rules,v17.c.Cals,v17.c.Moves,v17.c.NextHold,v17.c.NextCharge,v17.c.Local⟩,v17.err⟩:Circ_desk))|none =>none;bif r9 then match qcx v6.c branch with|some r11 =>(match qdl r8 r11 r3.Due v6.c.Today with|some r13 =>bif !(r13==0) then match qdt r3.Patron x.ID 1 r13 v6 with|some (_,v15) =>k v15|none =>none else k v6|none =>none)|none =>none else k v6|none =>none)|none =>none)|none =>none)|none =>none)|none =>none
def qev (c:Circ) (item:Int) (branch:Int):Option (Circ×Int×Int):=
 match qcd c with|some d =>(match qc3 item d with|some (r2,v) =>(bif decide (r2<0) then match qcg 0 v with|some ((r4,r5,r6),v7) =>some (r4,r5,r6)|none =>none else match m9 c.Items r2 with|some x =>let k43 (v9:Bool):Option (Circ×Int×Int):=let k42 (v23:Circ_desk):Option (Circ×Int×Int):=match qa8 v23.c item with|some (r25,r26) =>let k41 (v27:Bool):Option (Circ×Int×Int):=let k (v32:Circ_desk):Option (Circ×Int×Int):=match qa8 v32.c item with|some (r34,r35) =>(match qcg r34.ID v32 with|some ((r37,r38,r39),v40) =>some (r37,r38,r39)|none =>none)|none =>none;bif v27 then match qc1 r2 r25 v23 with|some (_,v29) =>k v29|none =>none else match qci r2 v23 with|some (_,v31) =>k v31|none =>none;bif r26 then k41 (r25.State==2) else k41 false|none =>none;bif v9 then match qeh r2 branch v with|some (_,v11) =>k42 v11|none =>none else bif x.Custody.State==8 then match qbe r2 4 branch 0 v with|some (_,v13) =>k42 v13|none =>none else bif x.Custody.State==11 then match qbe r2 14 branch 0 v with|some (_,v15) =>k42 v15|none =>none else bif x.Custody.State==6 then match qbe r2 7 branch 0 v with|some (_,v17) =>k42 v17|none =>none else match qs 12 v with|some (_,v19) =>k42 v19|none =>none;bif x.Custody.State==4 then k43 (x.Custody.State==4) else bif x.Custody.State==9 then k43 (x.Custody.State==9) else k43 (x.Custody.State==10)|none =>none)|none =>none)|none =>none
def qdb (c:Circ) (vid:Int) (branch:Int):Option (Circ×Int):=
 match qev c vid branch with|some (r1,r2,r3) =>some (r1,r3)|none =>none
def qc0 (c:Circ) (x:Item) (branch:Int):Option (Circ×Int):=
 let k18 (v16:Int) (v17:Circ):Option (Circ×Int):=some (v17,v16);bif x.Custody.State==1 then match qb6 c x.ID branch with|some (r1,r2) =>k18 r2 r1|none =>none else let k (v5:Bool):Option (Circ×Int):=bif v5 then match qdb c x.ID branch with|some (r7,r8) =>k18 r8 r7|none =>none else bif x.Custody.State==12 then k18 0 c else bif x.Custody.State==6 then bif x.Custody.To==branch then match qdb c x.ID branch with|some (r10,r11) =>k18 r11 r10|none =>none else match qc6 c x.ID with|some (r20,r21) =>(bif !(r21==0) then some (ZN,r21) else match qdb r20 x.ID branch with|some (r23,r24) =>some (r23,r24)|none =>none)|none =>none else match qc6 c x.ID with|some (r20,r21) =>(bif !(r21==0) then some (ZN,r21) else match qdb r20 x.ID branch with|some (r23,r24) =>some (r23,r24)|none =>none)|none =>none;bif x.Custody.State==4 then k (x.Custody.State==4) else bif x.Custody.State==9 then k (x.Custody.State==9) else bif x.Custody.State==10 then k (x.Custody.State==10) else bif x.Custody.State==8 then k (x.Custody.State==8) else k (x.Custody.State==11)
def b52:(Int×(List Problem)×Int×Int×Circ×Circ×Unit)→Option ((Int×(List Problem)×Int×Int×Circ×Circ×Unit)⊕((Circ×Circ×Unit)⊕(Int×Circ×Unit))):=fun (branch,v,v4,v5,c,v6,_)=>
 bif decide (v5<v4) then match m9 v v5 with|some x =>(match qaq c x.Index with|some (r7,r8) =>(match qbz r7 branch with|some r10 =>let k23 (v11:Bool):Option ((Int×(List Problem)×Int×Int×Circ×Circ×Unit)⊕((Circ×Circ×Unit)⊕(Int×Circ×Unit))):=let k22 (e20:Int) (c21:Circ):Option ((Int×(List Problem)×Int×Int×Circ×Circ×Unit)⊕((Circ×Circ×Unit)⊕(Int×Circ×Unit))):=bif !(e20==0) then some (.inr (.inr (e20,ZN,()))) else some (.inl (branch,v,v4,wr .i64 (v5+1),c21,v6,()));bif v11 then match qc6 c r7.ID with|some (r13,r14) =>k22 r14 r13|none =>none else let k (v15:Bool):Option ((Int×(List Problem)×Int×Int×Circ×Circ×Unit)⊕((Circ×Circ×Unit)⊕(Int×Circ×Unit))):=bif v15 then match qc0 c r7 branch with|some (r17,r18) =>k22 r18 r17|none =>none else k22 0 c;bif x.Kind==2 then k (!r10) else k false;bif x.Kind==1 then k23 r10 else k23 false|none =>none)|none =>none)|none =>none else some (.inr (.inl (c,v6,())))
def qbb (c:Circ) (branch:Int) (l:List Int):Option (Circ×Int):=
 match qck branch with|some r1 =>(bif !r1 then some (ZN,2) else match qa c branch l with|some r3 =>(match c4 b52 (branch,r3,(r3.length:Int),0,c,ZN,()) with|some (.inl (c24,v,_)) =>some (c24,0)|some (.inr (v25,v26,_)) =>some (v26,v25)|none =>none)|none =>none)|none =>none
def qcp (x:Item) (branch:Int):Option Bool:=
 let k3 (v2:Bool):Option Bool:=some v2;bif x.Custody.Branch==branch then let k (v:Bool):Option Bool:=bif v then k3 true else k3 (x.Custody.State==5);bif x.Custody.State==2 then k true else k (x.Custody.State==3) else k3 false
def b5h:((List Int)×Int×Int×Int×Unit)→Option (((List Int)×Int×Int×Int×Unit)⊕((Int×Unit))):=fun (l,n,k,i,_)=>
 bif decide (i<(l.length:Int)) then match m9 l i with|some x =>let k2 (k1:Int):Option (((List Int)×Int×Int×Int×Unit)⊕((Int×Unit))):=some (.inl (l,n,k1,wr .i64 (i+1),()));bif x==n then k2 (wr .i64 (k+1)) else k2 k|none =>none else some (.inr ((k,())))
def qa4 (l:List Int) (n:Int):Option Int:=
 match c4 b5h (l,n,0,0,()) with|some ((k,_)) =>some k|none =>none
def b51:((List Int)×Int×Int×Int×Unit)→Option (((List Int)×Int×Int×Int×Unit)⊕((Int×Unit))):=fun (l,above,best,i,_)=>
 bif decide (i<(l.length:Int)) then match m9 l i with|some x =>let k5 (v2:Bool):Option (((List Int)×Int×Int×Int×Unit)⊕((Int×Unit))):=let k (best4:Int):Option (((List Int)×Int×Int×Int×Unit)⊕((Int×Unit))):=some (.inl (l,above,best4,wr .i64 (i+1),()));bif v2 then match m9 l i with|some x3 =>k x3|none =>none else k best;bif decide (above<x) then bif best==0 then k5 true else match m9 l i with|some x1 =>k5 (decide (x1<best))|none =>none else k5 false|none =>none else some (.inr ((best,())))
def qaz (l:List Int) (above:Int):Option Int:=
 match c4 b51 (l,above,0,0,()) with|some ((best,_)) =>some best|none =>none
def b5x:(Int×Int×Circ×Item×Unit)→Option ((Int×Int×Circ×Item×Unit)⊕((Item×Unit)⊕(Bool×Item×Unit))):=fun (vid,i,c,v,_)=>
 bif decide (i<(c.Items.length:Int)) then match m9 c.Items i with|some x =>bif x.ID==vid then match m9 c.Items i with|some x1 =>some (.inr (.inr (true,x1,())))|none =>none else some (.inl (vid,wr .i64 (i+1),c,v,()))|none =>none else some (.inr (.inl (v,())))
def qas (c:Circ) (vid:Int):Option (Item×Bool):=
 match c4 b5x (vid,0,c,(⟨0,0,0,0,0,[],⟨0,0,0,0⟩⟩:Item),()) with|some (.inl (v,_)) =>some ((⟨0,0,0,0,0,[],⟨0,0,0,0⟩⟩:Item),false)|some (.inr (v2,v3,_)) =>some (v3,v2)|none =>none
def c5q:(Int×(List Int)×Int×Circ×(List Problem)×Unit)→Option ((Int×(List Int)×Int×Circ×(List Problem)×Unit)⊕((Int×(List Int)×Circ×(List Problem)×Unit))):=fun (branch,l,i,c,l1,_)=>
 bif decide (i<(c.Items.length:Int)) then match m9 c.Items i with|some x =>(match qcp x branch with|some r2 =>let k (v:Bool):Option ((Int×(List Int)×Int×Circ×(List Problem)×Unit)⊕((Int×(List Int)×Circ×(List Problem)×Unit))):=bif v then match m9 c.Items i with|some x6 =>bif decide (l1.length+([(⟨1,x6.ID,[],0⟩:Problem)]:List Problem).length≤LIM) then some (.inl (branch,l,wr .i64 (i+1),c,l1++([(⟨1,x6.ID,[],0⟩:Problem)]:List Problem),())) else none|none =>none else some (.inl (branch,l,wr .i64 (i+1),c,l1,()));bif r2 then match m9 c.Items i with|some x3 =>(match qa4 l x3.ID with|some r5 =>k (r5==0)|none =>none)|none =>none else k false|none =>none)|none =>none else some (.inr ((branch,l,c,l1,())))
def b6a:(Int×(List Int)×Int×Int×Circ×(List Problem)×Unit)→Option ((Int×(List Int)×Int×Int×Circ×(List Problem)×Unit)⊕((Int×(List Int)×Int×Circ×(List Problem)×Unit))):=fun (branch,l,kind,n,c,l13,_)=>
 bif !(n==0) then match qas c n with|some (r14,r15) =>let k31 (v:Bool):Option ((Int×(List Int)×Int×Int×Circ×(List Problem)×Unit)⊕((Int×(List Int)×Int×Circ×(List Problem)×Unit))):=let k30 (v18:Bool):Option ((Int×(List Int)×Int×Int×Circ×(List Problem)×Unit)⊕((Int×(List Int)×Int×Circ×(List Problem)×Unit))):=let k29 (v20:Bool):Option ((Int×(List Int)×Int×Int×Circ×(List Problem)×Unit)⊕((Int×(List Int)×Int×Circ×(List Problem)×Unit))):=let k (v24:Bool):Option ((Int×(List Int)×Int×Int×Circ×(List Problem)×Unit)⊕((Int×(List Int)×Int×Circ×(List Problem)×Unit))):=bif v24 then bif decide (l13.length+([(⟨kind,n,[],0⟩:Problem)]:List Problem).length≤LIM) then match qaz l n with|some r26 =>some (.inl (branch,l,kind,r26,c,l13++([(⟨kind,n,[],0⟩:Problem)]:List Problem),()))|none =>none else none else match qaz l n with|some r28 =>some (.inl (branch,l,kind,r28,c,l13,()))|none =>none;bif v20 then k true else bif kind==4 then match qa4 l n with|some r22 =>k (decide (1<r22))|none =>none else k false;bif v18 then k29 true else bif kind==3 then k29 (!r15) else k29 false;bif v then match qcp r14 branch with|some r17 =>k30 (!r17)|none =>none else k30 false;bif kind==2 then k31 r15 else k31 false|none =>none else some (.inr ((branch,l,kind,c,l13,())))
def d98:(Int×(List Int)×Int×Circ×(List Problem)×Unit)→Option ((Int×(List Int)×Int×Circ×(List Problem)×Unit)⊕(((List Problem)×Unit))):=fun (branch,l,kind,c,l11,_)=>
 bif decide (kind≤4) then match qaz l 0 with|some r12 =>(match c4 b6a (branch,l,kind,r12,c,l11,()) with|some ((branch32,l33,kind34,c35,l36,_)) =>some (.inl (branch32,l33,wr .i64 (kind34+1),c35,l36,()))|none =>none)|none =>none else some (.inr ((l11,())))
def qm (c:Circ) (branch:Int) (l:List Int):Option (List Problem):=
 match c4 c5q (branch,l,0,c,([]:List Problem),()) with|some ((branch7,l8,c9,l10,_)) =>(match c4 d98 (branch7,l8,2,c9,l10,()) with|some ((l37,_)) =>some l37|none =>none)|none =>none
def b3b:(Int×Int×Circ×Circ×Move×Custody×(List Item)×Unit)→Option ((Int×Int×Circ×Circ×Move×Custody×(List Item)×Unit)⊕((Circ×Circ×Move×(List Item)×Unit))):=fun (i,k,c,v,m,u,l,_)=>
 bif decide (k<(c.Items.length:Int)) then match m9 c.Items k with|some x =>let k6 (x5:Item):Option ((Int×Int×Circ×Circ×Move×Custody×(List Item)×Unit)⊕((Circ×Circ×Move×(List Item)×Unit))):=bif decide (l.length+([x5]:List Item).length≤LIM) then some (.inl (i,wr .i64 (k+1),c,v,m,u,l++([x5]:List Item),())) else none;bif k==i then k6 (⟨x.ID,x.Record,x.Branch,x.Kind,x.Price,x.Call,u⟩:Item) else k6 x|none =>none else some (.inr ((c,v,m,l,())))
def qp (c:Circ) (item:Int) (kind:Int) (branch:Int) (who:Int):Option (Circ×Int):=
 match qe c item with|some r1 =>(match m9 c.Items r1 with|some x =>(match qb1 x.Custody (⟨c.Today,item,kind,branch,who⟩:Move) with|some (r3,r4) =>(bif !(r4==0) then some (ZN,r4) else bif decide (2000≤(c.Moves.length:Int)) then some (ZN,13) else match c4 b3b (r1,0,c,ZN,(⟨c.Today,item,kind,branch,who⟩:Move),r3,([]:List Item),()) with|some ((c7,v,m,l,_)) =>bif decide (c7.Moves.length≤LIM) then bif decide (c7.Moves.length+([m]:List Move).length≤LIM) then some ({c7 with Items:=l,Moves:=c7.Moves++([m]:List Move)},0) else none else none|none =>none)|none =>none)|none =>none)|none =>none
def b57:((List Charge)×Int×Charge×(List Charge)×Unit)→Option (((List Charge)×Int×Charge×(List Charge)×Unit)⊕((Charge×(List Charge)×Unit))):=fun (l,i,c,l1,_)=>
 bif decide (i<(l.length:Int)) then match m9 l i with|some x =>bif decide (l1.length+([x]:List Charge).length≤LIM) then some (.inl (l,wr .i64 (i+1),c,l1++([x]:List Charge),())) else none|none =>none else some (.inr ((c,l1,())))
def qbo (l:List Charge) (c:Charge):Option ((List Charge)×Int):=
 match c4 b57 (l,0,c,([]:List Charge),()) with|some ((c2,l3,_)) =>bif decide (l3.length+([c2]:List Charge).length≤LIM) then match qac (l3++([c2]:List Charge)) with|some r4 =>bif !(r4==0) then some ([],r4) else some (l3++([c2]:List Charge),0)|none =>none else none|none =>none
def qdy (c:Circ) (patron:Int) (item:Int) (kind:Int) (amount:Int):Option (Circ×Int):=
 bif decide (99999<c.NextCharge) then some (ZN,13) else match qbo c.Charges (⟨c.NextCharge,patron,item,c.Today,kind,amount,0⟩:Charge) with|some (r1,r2) =>bif !(r2==0) then some (ZN,r2) else some ({c with Charges:=r1,NextCharge:=wr .i64 (c.NextCharge+1)},0)|none =>none
def b5q:((List Hold)×Int×Hold×(List Hold)×Unit)→Option (((List Hold)×Int×Hold×(List Hold)×Unit)⊕(((List Hold)×Unit))):=fun (l,i,h,l1,_)=>
 bif decide (i<(l.length:Int)) then match m9 l i with|some x =>(let k (l3:List Hold):Option (((List Hold)×Int×Hold×(List Hold)×Unit)⊕(((List Hold)×Unit))):=some (.inl (l,wr .i64 (i+1),h,l3,()));bif x.ID==h.ID then bif decide (l1.length+([h]:List Hold).length≤LIM) then k (l1++([h]:List Hold)) else none else match m9 l i with|some x2 =>bif decide (l1.length+([x2]:List Hold).length≤LIM) then k (l1++([x2]:List Hold)) else none|none =>none)|none =>none else some (.inr ((l1,())))
def qah (l:List Hold) (h:Hold):Option (List Hold):=
 match c4 b5q (l,0,h,([]:List Hold),()) with|some ((l4,_)) =>some l4|none =>none
def b56:((List Hold)×Int×Int×Unit)→Option (((List Hold)×Int×Int×Unit)⊕((Unit)⊕((List Hold)×Int×Unit))):=fun (l,item,i,_)=>
 bif decide (i<(l.length:Int)) then let k (v:Bool):Option (((List Hold)×Int×Int×Unit)⊕((Unit)⊕((List Hold)×Int×Unit))):=bif v then match m9 l i with|some x1 =>(match qah l (⟨x1.ID,x1.Patron,x1.Record,x1.Item,x1.Pickup,x1.Placed,1,0,0,x1.Asleep,x1.Rank⟩:Hold) with|some r2 =>some (.inr (.inr (r2,0,())))|none =>none)|none =>none else some (.inl (l,item,wr .i64 (i+1),()));bif !(item==0) then match m9 l i with|some x =>k (x.Got==item)|none =>none else k false else some (.inr (.inl (())))
def qbn (l:List Hold) (item:Int):Option ((List Hold)×Int):=
 match c4 b56 (l,item,0,()) with|some (.inl (_)) =>some ([],9)|some (.inr (v,v3,_)) =>some (v,v3)|none =>none
def c5x:((List Hold)×Int×Int×Int×Int×(List Int)×Unit)→Option (((List Hold)×Int×Int×Int×Int×(List Int)×Unit)⊕(((List Hold)×Int×Int×Int×(List Int)×Unit))):=fun (l,record,day,rank,i,l2,_)=>
 bif decide (i<(l.length:Int)) then match m9 l i with|some x =>let k6 (v:Bool):Option (((List Hold)×Int×Int×Int×Int×(List Int)×Unit)⊕(((List Hold)×Int×Int×Int×(List Int)×Unit))):=let k5 (v3:Bool):Option (((List Hold)×Int×Int×Int×Int×(List Int)×Unit)⊕(((List Hold)×Int×Int×Int×(List Int)×Unit))):=let k (v4:Bool):Option (((List Hold)×Int×Int×Int×Int×(List Int)×Unit)⊕(((List Hold)×Int×Int×Int×(List Int)×Unit))):=bif v4 then bif decide (l2.length+([x.ID]:List Int).length≤LIM) then some (.inl (l,record,day,rank,wr .i64 (i+1),l2++([x.ID]:List Int),())) else none else some (.inl (l,record,day,rank,wr .i64 (i+1),l2,()));bif v3 then k (x.Rank==rank) else k false;bif v then k5 (decide (x.Asleep≤day)) else k5 false;bif x.State==1 then k6 (x.Record==record) else k6 false|none =>none else some (.inr ((l,record,day,rank,l2,())))
def e0e:((List Hold)×Int×Int×Int×(List Int)×Unit)→Option (((List Hold)×Int×Int×Int×(List Int)×Unit)⊕(((List Int)×Unit))):=fun (l,record,day,rank,l1,_)=>
 bif decide (0≤rank) then match c4 c5x (l,record,day,rank,0,l1,()) with|some ((l7,record8,day9,rank10,l11,_)) =>some (.inl (l7,record8,day9,wr .i64 (rank10-1),l11,()))|none =>none else some (.inr ((l1,())))
def qv (l:List Hold) (record:Int) (day:Int):Option (List Int):=
 match c4 e0e (l,record,day,9,([]:List Int),()) with|some ((l12,_)) =>some l12|none =>none
def b5r:((List Hold)×Int×Int×Hold×Unit)→Option (((List Hold)×Int×Int×Hold×Unit)⊕((Hold×Unit)⊕(Bool×Hold×Unit))):=fun (l,vid,i,v,_)=>
 bif decide (i<(l.length:Int)) then match m9 l i with|some x =>bif x.ID==vid then match m9 l i with|some x1 =>some (.inr (.inr (true,x1,())))|none =>none else some (.inl (l,vid,wr .i64 (i+1),v,()))|none =>none else some (.inr (.inl (v,())))
def qai (l:List Hold) (vid:Int):Option (Hold×Bool):=
 match c4 b5r (l,vid,0,(⟨0,0,0,0,0,0,0,0,0,0,0⟩:Hold),()) with|some (.inl (v,_)) =>some ((⟨0,0,0,0,0,0,0,0,0,0,0⟩:Hold),false)|some (.inr (v2,v3,_)) =>some (v3,v2)|none =>none
def b55:((List Hold)×Int×Bool×(List Int)×Int×Int×Item×Unit)→Option (((List Hold)×Int×Bool×(List Int)×Int×Int×Item×Unit)⊕((Int×Unit)⊕(Int×Unit))):=fun (l,branch,vlocal,q,first,i,x,_)=>
 bif decide (i<(q.length:Int)) then match m9 q i with|some x2 =>(match qai l x2 with|some (r3,r4) =>let k8 (v:Bool):Option (((List Hold)×Int×Bool×(List Int)×Int×Int×Item×Unit)⊕((Int×Unit)⊕(Int×Unit))):=bif v then some (.inl (l,branch,vlocal,q,first,wr .i64 (i+1),x,())) else let k7 (v5:Bool):Option (((List Hold)×Int×Bool×(List Int)×Int×Int×Item×Unit)⊕((Int×Unit)⊕(Int×Unit))):=bif v5 then some (.inr (.inr (r3.ID,()))) else let k (first6:Int):Option (((List Hold)×Int×Bool×(List Int)×Int×Int×Item×Unit)⊕((Int×Unit)⊕(Int×Unit))):=some (.inl (l,branch,vlocal,q,first6,wr .i64 (i+1),x,()));bif first==0 then k r3.ID else k first;bif vlocal then k7 (r3.Pickup==branch) else k7 false;bif !(r3.Item==0) then k8 (!(r3.Item==x.ID)) else k8 false|none =>none)|none =>none else some (.inr (.inl (first,())))
def qbm (l:List Hold) (x:Item) (branch:Int) (day:Int) (vlocal:Bool):Option Int:=
 match qv l x.Record day with|some r1 =>(match c4 b55 (l,branch,vlocal,r1,0,0,x,()) with|some (.inl (first,_)) =>some first|some (.inr (v,_)) =>some v|none =>none)|none =>none
def qdm (c:Circ) (item:Int):Option Int:=
 match qe c item with|some r1 =>(match m9 c.Items r1 with|some x =>(match qbm c.Holds x x.Custody.Branch c.Today c.Local with|some r3 =>some r3|none =>none)|none =>none)|none =>none
def qef (r:Rule) (patron:Int) (item:Int) (branch:Int):Option Bool:=
 let k6 (v:Bool):Option Bool:=let k5 (v2:Bool):Option Bool:=let k (v4:Bool):Option Bool:=some v4;bif v2 then bif r.Branch==0 then k true else k (r.Branch==branch) else k false;bif v then bif r.Item==0 then k5 true else k5 (r.Item==item) else k5 false;bif r.Patron==0 then k6 true else k6 (r.Patron==patron)
def qd0 (r:Rule):Option Int:=
 let k4 (n:Int):Option Int:=let k3 (n1:Int):Option Int:=let k (n2:Int):Option Int:=some n2;bif !(r.Branch==0) then k (wr .i64 (n1+1)) else k n1;bif !(r.Item==0) then k3 (wr .i64 (n+2)) else k3 n;bif !(r.Patron==0) then k4 4 else k4 0
def b2s:((List Rule)×Int×Int×Int×Int×Int×Unit)→Option (((List Rule)×Int×Int×Int×Int×Int×Unit)⊕((Int×Unit))):=fun (l,patron,item,branch,best,i,_)=>
 bif decide (i<(l.length:Int)) then match m9 l i with|some x =>(match qef x patron item branch with|some r1 =>let k10 (v8:Bool):Option (((List Rule)×Int×Int×Int×Int×Int×Unit)⊕((Int×Unit))):=let k (best9:Int):Option (((List Rule)×Int×Int×Int×Int×Int×Unit)⊕((Int×Unit))):=some (.inl (l,patron,item,branch,best9,wr .i64 (i+1),()));bif v8 then k i else k best;bif r1 then bif decide (best<0) then k10 true else match m9 l i with|some x2 =>(match qd0 x2 with|some r4 =>(match m9 l best with|some x5 =>(match qd0 x5 with|some r7 =>k10 (decide (r7<r4))|none =>none)|none =>none)|none =>none)|none =>none else k10 false|none =>none)|none =>none else some (.inr ((best,())))
def qbi (l:List Rule) (patron:Int) (item:Int) (branch:Int):Option Int:=
 match c4 b2s (l,patron,item,branch,(-1),0,()) with|some ((best,_)) =>some best|none =>none
def qez (l:List Rule) (patron:Int) (item:Int) (branch:Int):Option (Rule×Bool):=
 match qbi l patron item branch with|some r1 =>(bif decide (r1<0) then some ((⟨0,0,0,0,0,0,0,0,0,0,0,0,0⟩:Rule),false) else match m9 l r1 with|some x =>some (x,true)|none =>none)|none =>none
def qd2 (c:Circ) (patron:Int) (x:Item):Option (Rule×Bool):=
 match qbx c.Patrons patron with|some (r1,r2) =>(bif !r2 then some ((⟨0,0,0,0,0,0,0,0,0,0,0,0,0⟩:Rule),false) else match qez c.Rules r1.Kind x.Kind x.Branch with|some (r4,r5) =>some (r4,r5)|none =>none)|none =>none
def qk (c:Circ) (branch:Int):Option Calendar:=
 let k (v:Int) (v1:List Int):Option Calendar:=some (⟨v,v1⟩:Calendar);bif (wr .i64 (branch-1))==0 then k c.Cals.x0.Week c.Cals.x0.Closed else bif (wr .i64 (branch-1))==1 then k c.Cals.x1.Week c.Cals.x1.Closed else bif (wr .i64 (branch-1))==2 then k c.Cals.x2.Week c.Cals.x2.Closed else bif (wr .i64 (branch-1))==3 then k c.Cals.x3.Week c.Cals.x3.Closed else none
def qe1 (day:Int):Option Bool:=
 let k (v:Bool):Option Bool:=some v;bif decide (0≤day) then k (decide (day≤109572)) else k false
def qea (day:Int):Option Int:=
 match qe1 day with|some r1 =>bif !r1 then some (-1) else some (day.tmod 7)|none =>none
def d24:(Int×Int×Int×Int×Calendar×Unit)→Option ((Int×Int×Int×Int×Calendar×Unit)⊕((Int×Int×Calendar×Unit))):=fun (day,bit,w,i,c,_)=>
 bif decide (i<w) then some (.inl (day,wr .i64 (bit.tdiv 2),w,wr .i64 (i+1),c,())) else some (.inr ((day,bit,c,())))
def b3d:(Int×Int×Calendar×Unit)→Option ((Int×Int×Calendar×Unit)⊕((Unit)⊕(Bool×Unit))):=fun (day,i,c,_)=>
 bif decide (i<(c.Closed.length:Int)) then match m9 c.Closed i with|some x =>bif x==day then some (.inr (.inr (false,()))) else some (.inl (day,wr .i64 (i+1),c,()))|none =>none else some (.inr (.inl (())))
def qt (c:Calendar) (day:Int):Option Bool:=
 let k (v:Bool):Option Bool:=bif v then some false else match qea day with|some r1 =>(match c4 d24 (day,c.Week,r1,0,c,()) with|some ((day2,bit,c3,_)) =>(bif (bit.tmod 2)==1 then some false else match c4 b3d (day2,0,c3,()) with|some (.inl (_)) =>some true|some (.inr (v4,_)) =>some v4|none =>none)|none =>none)|none =>none;bif decide (day<0) then k true else k (decide (109572<day))
def b5j:(Int×Calendar×Unit)→Option ((Int×Calendar×Unit)⊕((Unit)⊕(Int×Int×Unit))):=fun (d,c,_)=>
 bif decide (d≤109572) then match qt c d with|some r1 =>bif r1 then some (.inr (.inr (d,0,()))) else some (.inl (wr .i64 (d+1),c,()))|none =>none else some (.inr (.inl (())))
def qa6 (c:Calendar) (day:Int):Option (Int×Int):=
 match c4 b5j ((if day<0 then 0 else day),c,()) with|some (.inl (_)) =>some (0,2)|some (.inr (v,v2,_)) =>some (v,v2)|none =>none
def b2t:(Int×Int×Int×Calendar×Unit)→Option ((Int×Int×Int×Calendar×Unit)⊕((Int×Unit)⊕(Int×Int×Unit))):=fun (n,d,i,c,_)=>
 bif decide (i<n) then match qa6 c (wr .i64 (d+1)) with|some (r4,r5) =>bif !(r5==0) then some (.inr (.inr (0,r5,()))) else some (.inl (n,r4,wr .i64 (i+1),c,()))|none =>none else some (.inr (.inl (d,())))
def qbj (c:Calendar) (day:Int) (n:Int):Option (Int×Int):=
 let k8 (v:Bool):Option (Int×Int):=bif v then some (0,1) else let k (v1:Bool):Option (Int×Int):=bif v1 then some (0,2) else bif n==0 then match qa6 c day with|some (r2,r3) =>some (r2,r3)|none =>none else match c4 b2t (n,day,0,c,()) with|some (.inl (d,_)) =>some (d,0)|some (.inr (v6,v7,_)) =>some (v6,v7)|none =>none;bif decide (day<0) then k true else k (decide (109572<day));bif decide (n<0) then k8 true else k8 (decide (1000<n))
def b5i:((List Hold)×Int×Int×Int×Int×Int×Hold×Unit)→Option (((List Hold)×Int×Int×Int×Int×Int×Hold×Unit)⊕(((List Hold)×Int×Int×Int×Hold×Unit)⊕((List Hold)×Int×Unit))):=fun (l,number,item,state,vuntil,i,h,_)=>
 bif decide (i<(l.length:Int)) then match m9 l i with|some x =>let k (v:Bool):Option (((List Hold)×Int×Int×Int×Int×Int×Hold×Unit)⊕(((List Hold)×Int×Int×Int×Hold×Unit)⊕((List Hold)×Int×Unit))):=bif v then some (.inr (.inr ([],7,()))) else some (.inl (l,number,item,state,vuntil,wr .i64 (i+1),h,()));bif !(x.ID==number) then match m9 l i with|some x16 =>k (x16.Got==item)|none =>none else k false|none =>none else some (.inr (.inl (l,item,state,vuntil,h,())))
def qa5 (l:List Hold) (number:Int) (item:Int) (state:Int) (vuntil:Int):Option ((List Hold)×Int):=
 match qai l number with|some (r1,r2) =>(bif !r2 then some ([],9) else match qce item with|some r4 =>let k28 (v5:Bool):Option ((List Hold)×Int):=let k27 (v10:Bool):Option ((List Hold)×Int):=let k26 (v12:Bool):Option ((List Hold)×Int):=bif v12 then some ([],1) else let k25 (v15:Bool):Option ((List Hold)×Int):=bif v15 then some ([],12) else match c4 b5i (l,number,item,state,vuntil,0,r1,()) with|some (.inl (l17,item18,state19,vuntil20,h,_)) =>(match qah l17 (⟨h.ID,h.Patron,h.Record,h.Item,h.Pickup,h.Placed,state19,item18,vuntil20,h.Asleep,h.Rank⟩:Hold) with|some r22 =>some (r22,0)|none =>none)|some (.inr (v23,v24,_)) =>some (v23,v24)|none =>none;bif !(r1.State==1) then let k (v13:Bool):Option ((List Hold)×Int):=bif v13 then k25 true else k25 (!(state==3));bif !(r1.State==2) then k true else k (!(r1.Got==item)) else k25 false;bif v10 then k26 true else bif state==2 then k26 (!(vuntil==0)) else k26 false;bif v5 then k27 true else bif state==3 then bif decide (vuntil<1) then k27 true else match qcy vuntil with|some r7 =>k27 (!r7)|none =>none else k27 false;bif !r4 then k28 true else bif !(state==2) then k28 (!(state==3)) else k28 false|none =>none)|none =>none
def qc4 (c:Circ) (item:Int) (h:Hold):Option (Circ×Int):=
 match qe c item with|some r1 =>(match m9 c.Items r1 with|some x =>(match qd2 c h.Patron x with|some (r3,r4) =>let k (days:Int):Option (Circ×Int):=match qp c item 5 x.Custody.Branch h.Patron with|some (r6,r7) =>(bif !(r7==0) then some (ZN,r7) else match qk r6 x.Custody.Branch with|some r9 =>(match qbj r9 r6.Today days with|some (r11,r12) =>(bif !(r12==0) then some (ZN,r12) else match qa5 r6.Holds h.ID item 3 r11 with|some (r14,r15) =>bif !(r15==0) then some (ZN,r15) else some ({r6 with Holds:=r14},0)|none =>none)|none =>none)|none =>none)|none =>none;bif r4 then k r3.Shelf else k 7|none =>none)|none =>none)|none =>none
def qcv (c:Circ) (item:Int):Option (Circ×Int):=
 match qe c item with|some r1 =>(match m9 c.Items r1 with|some x =>(match qdm c item with|some r3 =>(let k (v:Int) (v10:Circ):Option (Circ×Int):=some (v10,v);bif r3==0 then bif !(x.Branch==x.Custody.Branch) then match qp c item 6 x.Branch 0 with|some (r5,r6) =>k r6 r5|none =>none else bif x.Custody.State==3 then k 0 c else match qp c item 2 x.Custody.Branch 0 with|some (r8,r9) =>k r9 r8|none =>none else match qai c.Holds r3 with|some (r12,r13) =>(bif r12.Pickup==x.Custody.Branch then match qc4 c item r12 with|some (r15,r16) =>some (r15,r16)|none =>none else match qp c item 6 r12.Pickup r12.Patron with|some (r18,r19) =>(bif !(r19==0) then some (ZN,r19) else match qa5 r18.Holds r3 item 2 0 with|some (r21,r22) =>bif !(r22==0) then some (ZN,r22) else some ({r18 with Holds:=r21},0)|none =>none)|none =>none)|none =>none)|none =>none)|none =>none)|none =>none
def a3u:(Int×Int×Circ×Circ×Unit)→Option ((Int×Int×Circ×Circ×Unit)⊕((Circ×Circ×Unit)⊕(Int×Circ×Unit))):=fun (record,i,c,v,_)=>
 bif decide (i<(c.Items.length:Int)) then match m9 c.Items i with|some x =>let k7 (v1:Bool):Option ((Int×Int×Circ×Circ×Unit)⊕((Circ×Circ×Unit)⊕(Int×Circ×Unit))):=let k (v3:Bool):Option ((Int×Int×Circ×Circ×Unit)⊕((Circ×Circ×Unit)⊕(Int×Circ×Unit))):=bif v3 then some (.inl (record,wr .i64 (i+1),c,v,())) else match qcv c x.ID with|some (r5,r6) =>bif !(r6==0) then some (.inr (.inr (r6,ZN,()))) else some (.inl (record,wr .i64 (i+1),r5,v,()))|none =>none;bif v1 then k true else match qdm c x.ID with|some r2 =>k (r2==0)|none =>none;bif !(x.Record==record) then k7 true else k7 (!(x.Custody.State==3))|none =>none else some (.inr (.inl (c,v,())))
def qbl (c:Circ) (record:Int):Option (Circ×Int):=
 match c4 a3u (record,0,c,ZN,()) with|some (.inl (c8,v,_)) =>some (c8,0)|some (.inr (v9,v10,_)) =>some (v10,v9)|none =>none
def qdn (c:Circ) (item:Int):Option (Circ×Int):=
 match qe c item with|some r1 =>(bif decide (r1<0) then some (ZN,9) else match m9 c.Items r1 with|some x =>let k22 (v:Bool):Option (Circ×Int):=let k (v8:Int) (v9:Circ):Option (Circ×Int):=some (v9,v8);bif v then match qp c item 12 x.Custody.Branch 0 with|some (r3,r4) =>(bif !(r4==0) then some (ZN,r4) else bif x.Price==0 then k 0 r3 else match qdy r3 x.Custody.Who item 2 x.Price with|some (r6,r7) =>k r7 r6|none =>none)|none =>none else match qp c item 13 x.Custody.Branch 0 with|some (r11,r12) =>(bif !(r12==0) then some (ZN,r12) else match qz r11 item with|some (r14,r15) =>(bif !r15 then some (r11,0) else match qbn r11.Holds item with|some (r17,r18) =>(bif !(r18==0) then some (ZN,r18) else match qbl {r11 with Holds:=r17} x.Record with|some (r20,r21) =>some (r20,r21)|none =>none)|none =>none)|none =>none)|none =>none;bif x.Custody.State==4 then k22 true else k22 (x.Custody.State==9)|none =>none)|none =>none
def qeq (c:Circ) (item:Int) (branch:Int):Option (Circ×Int):=
 match qe c item with|some r1 =>(bif decide (r1<0) then some (ZN,9) else match qp c item 1 branch 0 with|some (r3,r4) =>(bif !(r4==0) then some (ZN,r4) else match qcv r3 item with|some (r6,r7) =>some (r6,r7)|none =>none)|none =>none)|none =>none
def qex (l:List Loan) (item:Int):Option ((List Loan)×Loan×Int):=
 match qab l item with|some r1 =>bif decide (r1<0) then some ([],(⟨0,0,0,0,0,false⟩:Loan),9) else bif decide (0≤(0:Int))&&(decide ((0:Int)≤r1)&&decide (r1≤(l.length:Int))) then bif decide (([]:List Loan).length+((l.take r1.toNat).drop (0:Int).toNat).length≤LIM) then bif decide (0≤(wr .i64 (r1+1):Int))&&(decide ((wr .i64 (r1+1):Int)≤(l.length:Int))&&decide ((l.length:Int)≤(l.length:Int))) then bif decide ((([])++((l.take r1.toNat).drop (0:Int).toNat)).length+((l.take (l.length:Int).toNat).drop (wr .i64 (r1+1):Int).toNat).length≤LIM) then match m9 l r1 with|some x =>some ((([])++((l.take r1.toNat).drop (0:Int).toNat))++((l.take (l.length:Int).toNat).drop (wr .i64 (r1+1):Int).toNat),x,0)|none =>none else none else none else none else none|none =>none
def b2u:(Int×Int×Int×Calendar×Unit)→Option ((Int×Int×Int×Calendar×Unit)⊕((Int×Unit))):=fun (vto,n,d,c,_)=>
 bif decide (d≤(if 109572<vto then 109572 else vto)) then match qt c d with|some r1 =>let k (n2:Int):Option ((Int×Int×Int×Calendar×Unit)⊕((Int×Unit))):=some (.inl (vto,n2,wr .i64 (d+1),c,()));bif r1 then k (wr .i64 (n+1)) else k n|none =>none else some (.inr ((n,())))
def qbk (c:Calendar) (vfrom:Int) (vto:Int):Option Int:=
 match c4 b2u (vto,0,(if vfrom<0 then 0 else vfrom),c,()) with|some ((n,_)) =>some n|none =>none
def qey (r:Rule) (c:Calendar) (due:Int) (back:Int):Option Int:=
 match qq c with|some r2 =>(let k10 (v:Bool):Option Int:=let k (v7:Bool):Option Int:=bif v7 then some 0 else match qbk c (wr .i64 (due+1)) back with|some r9 =>bif decide (r9≤r.Grace) then some 0 else some (if r.MaxFine<wr .i64 (r9*r.Fine) then r.MaxFine else wr .i64 (r9*r.Fine))|none =>none;bif v then k true else match qc8 back with|some r6 =>k (!r6)|none =>none;bif !(r2==0) then k10 true else match qc8 due with|some r4 =>k10 (!r4)|none =>none)|none =>none
def b54:((List Charge)×Int×Int×Int×Int×Int×(List Charge)×Unit)→Option (((List Charge)×Int×Int×Int×Int×Int×(List Charge)×Unit)⊕((Int×(List Charge)×Unit))):=fun (l,patron,item,kind,paid,i,l1,_)=>
 bif decide (i<(l.length:Int)) then match m9 l i with|some x =>let k4 (v:Bool):Option (((List Charge)×Int×Int×Int×Int×Int×(List Charge)×Unit)⊕((Int×(List Charge)×Unit))):=let k (v3:Bool):Option (((List Charge)×Int×Int×Int×Int×Int×(List Charge)×Unit)⊕((Int×(List Charge)×Unit))):=bif v3 then some (.inl (l,patron,item,kind,wr .i64 (paid+x.Paid),wr .i64 (i+1),l1,())) else bif decide (l1.length+([x]:List Charge).length≤LIM) then some (.inl (l,patron,item,kind,paid,wr .i64 (i+1),l1++([x]:List Charge),())) else none;bif v then bif kind==0 then k true else k (x.Kind==kind) else k false;bif x.Patron==patron then k4 (x.Item==item) else k4 false|none =>none else some (.inr ((paid,l1,())))
def qbg (l:List Charge) (patron:Int) (item:Int) (kind:Int):Option ((List Charge)×Int):=
 match c4 b54 (l,patron,item,kind,0,0,([]:List Charge),()) with|some ((paid,l5,_)) =>some (l5,paid)|none =>none
def qen (c:Circ) (item:Int) (branch:Int):Option (Circ×Int):=
 match qp c item 4 branch 0 with|some (r1,r2) =>(bif !(r2==0) then some (ZN,r2) else match qex r1.Loans item with|some (r4,r5,r6) =>(bif !(r6==0) then some (ZN,r6) else match qe {r1 with Loans:=r4} item with|some r8 =>(match m9 r1.Items r8 with|some x =>(match qd2 {r1 with Loans:=r4} r5.Patron x with|some (r10,r11) =>let k23 (fine:Int):Option (Circ×Int):=let k (c19:Circ):Option (Circ×Int):=match qbg c19.Charges r5.Patron item 2 with|some (r21,r22) =>some ({c19 with Charges:=r21},0)|none =>none;bif decide (0<fine) then match qdy {r1 with Loans:=r4} r5.Patron item 1 fine with|some (r17,r18) =>bif !(r18==0) then some (ZN,r18) else k r17|none =>none else k {r1 with Loans:=r4};bif r11 then match qk {r1 with Loans:=r4} branch with|some r13 =>(match qey r10 r13 r5.Due r1.Today with|some r15 =>k23 r15|none =>none)|none =>none else k23 0|none =>none)|none =>none)|none =>none)|none =>none)|none =>none
def qew (c:Circ) (item:Int) (branch:Int):Option (Circ×Int×Int):=
 match qe c item with|some r1 =>(bif decide (r1<0) then some (ZN,0,9) else match m9 c.Items r1 with|some x =>(match qc2 x.Custody with|some r3 =>let k38 (e21:Int) (c22:Circ):Option (Circ×Int×Int):=bif !(e21==0) then some (ZN,0,e21) else match qz c22 item with|some (r24,r25) =>(let k37 (e32:Int) (c33:Circ):Option (Circ×Int×Int):=bif !(e32==0) then some (ZN,0,e32) else match qz c33 item with|some (r35,r36) =>some (c33,r35.ID,0)|none =>none;bif r25 then match qc4 c22 item r24 with|some (r27,r28) =>k37 r28 r27|none =>none else match qcv c22 item with|some (r30,r31) =>k37 r31 r30|none =>none)|none =>none;bif r3 then let k (v:Bool):Option (Circ×Int×Int):=bif v then some (ZN,0,1) else match qen c item branch with|some (r5,r6) =>k38 r6 r5|none =>none;bif decide (branch<1) then k true else k (decide (4<branch)) else bif x.Custody.State==8 then match qp c item 4 branch 0 with|some (r8,r9) =>k38 r9 r8|none =>none else bif x.Custody.State==11 then match qp c item 14 branch 0 with|some (r11,r12) =>k38 r12 r11|none =>none else bif x.Custody.State==6 then match qp c item 7 branch 0 with|some (r14,r15) =>k38 r15 r14|none =>none else k38 12 c|none =>none)|none =>none)|none =>none
def qee (c:Circ) (x:Item) (branch:Int):Option (Circ×Int):=
 bif x.Custody.State==12 then some (c,0) else bif x.Custody.State==1 then match qeq c x.ID branch with|some (r1,r2) =>some (r1,r2)|none =>none else let k19 (v:Bool):Option (Circ×Int):=let k18 (v3:Bool):Option (Circ×Int):=let k17 (v4:Bool):Option (Circ×Int):=let k16 (v5:Bool):Option (Circ×Int):=let k15 (v6:Bool):Option (Circ×Int):=let k (c10:Circ):Option (Circ×Int):=match qew c10 x.ID branch with|some (r12,r13,r14) =>some (r12,r14)|none =>none;bif v6 then match qdn c x.ID with|some (r8,r9) =>bif !(r9==0) then some (ZN,r9) else k r8|none =>none else k c;bif v5 then k15 true else k15 (x.Custody.State==7);bif v4 then k16 true else k16 (x.Custody.State==5);bif v3 then k17 true else k17 (x.Custody.State==3);bif v then k18 true else k18 (x.Custody.State==2);bif x.Custody.State==6 then k19 (!(x.Custody.To==branch)) else k19 false
def b53:(Int×(List Problem)×Int×Circ×Circ×Unit)→Option ((Int×(List Problem)×Int×Circ×Circ×Unit)⊕((Circ×Circ×Unit)⊕(Int×Circ×Unit))):=fun (branch,vall,i,c,v,_)=>
 bif decide (i<(vall.length:Int)) then match m9 vall i with|some x =>(bif decide (2<x.Kind) then some (.inl (branch,vall,wr .i64 (i+1),c,v,())) else match m9 vall i with|some x2 =>(match qas c x2.Index with|some (r3,r4) =>(match qcp r3 branch with|some r6 =>(match m9 vall i with|some x7 =>let k21 (v8:Bool):Option ((Int×(List Problem)×Int×Circ×Circ×Unit)⊕((Circ×Circ×Unit)⊕(Int×Circ×Unit))):=let k20 (e:Int) (y:Circ):Option ((Int×(List Problem)×Int×Circ×Circ×Unit)⊕((Circ×Circ×Unit)⊕(Int×Circ×Unit))):=match m9 vall i with|some x12 =>let k19 (v13:Bool):Option ((Int×(List Problem)×Int×Circ×Circ×Unit)⊕((Circ×Circ×Unit)⊕(Int×Circ×Unit))):=let k (e17:Int) (y18:Circ):Option ((Int×(List Problem)×Int×Circ×Circ×Unit)⊕((Circ×Circ×Unit)⊕(Int×Circ×Unit))):=bif !(e17==0) then some (.inr (.inr (e17,ZN,()))) else some (.inl (branch,vall,wr .i64 (i+1),y18,v,()));bif v13 then match qee c r3 branch with|some (r15,r16) =>k r16 r15|none =>none else k e y;bif x12.Kind==2 then k19 (!r6) else k19 false|none =>none;bif v8 then match qdn c r3.ID with|some (r10,r11) =>k20 r11 r10|none =>none else k20 0 c;bif x7.Kind==1 then k21 r6 else k21 false|none =>none)|none =>none)|none =>none)|none =>none)|none =>none else some (.inr (.inl (c,v,())))
def qbf (c:Circ) (branch:Int) (l:List Int):Option (Circ×Int):=
 let k (v:Bool):Option (Circ×Int):=bif v then some (ZN,2) else match qm c branch l with|some r1 =>(match c4 b53 (branch,r1,0,c,ZN,()) with|some (.inl (c22,v23,_)) =>some (c22,0)|some (.inr (v24,v25,_)) =>some (v25,v24)|none =>none)|none =>none;bif decide (branch<1) then k true else k (decide (4<branch))
def a4h:(Int×Int×Circ×Circ×Unit)→Option ((Int×Int×Circ×Circ×Unit)⊕((Int×Circ×Circ×Unit)⊕(Bool×Unit))):=fun (i,k,a,b,_)=>
 let k17 (v:Int) (v9:List Int):Option ((Int×Int×Circ×Circ×Unit)⊕((Int×Circ×Circ×Unit)⊕(Bool×Unit))):=bif decide (k<(v9.length:Int)) then let k16 (v10:Int) (v11:List Int):Option ((Int×Int×Circ×Circ×Unit)⊕((Int×Circ×Circ×Unit)⊕(Bool×Unit))):=match m9 v11 k with|some x =>let k15 (v12:Int) (v13:List Int):Option ((Int×Int×Circ×Circ×Unit)⊕((Int×Circ×Circ×Unit)⊕(Bool×Unit))):=match m9 v13 k with|some x14 =>bif !(x==x14) then some (.inr (.inr (false,()))) else some (.inl (i,wr .i64 (k+1),a,b,()))|none =>none;bif i==0 then k15 b.Cals.x0.Week b.Cals.x0.Closed else bif i==1 then k15 b.Cals.x1.Week b.Cals.x1.Closed else bif i==2 then k15 b.Cals.x2.Week b.Cals.x2.Closed else bif i==3 then k15 b.Cals.x3.Week b.Cals.x3.Closed else none|none =>none;bif i==0 then k16 a.Cals.x0.Week a.Cals.x0.Closed else bif i==1 then k16 a.Cals.x1.Week a.Cals.x1.Closed else bif i==2 then k16 a.Cals.x2.Week a.Cals.x2.Closed else bif i==3 then k16 a.Cals.x3.Week a.Cals.x3.Closed else none else some (.inr (.inl (i,a,b,())));bif i==0 then k17 a.Cals.x0.Week a.Cals.x0.Closed else bif i==1 then k17 a.Cals.x1.Week a.Cals.x1.Closed else bif i==2 then k17 a.Cals.x2.Week a.Cals.x2.Closed else bif i==3 then k17 a.Cals.x3.Week a.Cals.x3.Closed else none
def b0b:(Int×Circ×Circ×Unit)→Option ((Int×Circ×Circ×Unit)⊕((Unit)⊕(Bool×Unit))):=fun (i,a,b,_)=>
 bif decide (i<4) then let k24 (v:Int) (v1:List Int):Option ((Int×Circ×Circ×Unit)⊕((Unit)⊕(Bool×Unit))):=let k23 (v2:Int) (v3:List Int):Option ((Int×Circ×Circ×Unit)⊕((Unit)⊕(Bool×Unit))):=let k22 (v8:Bool):Option ((Int×Circ×Circ×Unit)⊕((Unit)⊕(Bool×Unit))):=bif v8 then some (.inr (.inr (false,()))) else match c4 a4h (i,0,a,b,()) with|some (.inl (i18,a19,b20,_)) =>some (.inl (wr .i64 (i18+1),a19,b20,()))|some (.inr (v21,_)) =>some (.inr (.inr (v21,())))|none =>none;bif !(v==v2) then k22 true else let k (v4:Int) (v5:List Int):Option ((Int×Circ×Circ×Unit)⊕((Unit)⊕(Bool×Unit))):=bif i==0 then k22 (!((v5.length:Int)==(b.Cals.x0.Closed.length:Int))) else bif i==1 then k22 (!((v5.length:Int)==(b.Cals.x1.Closed.length:Int))) else bif i==2 then k22 (!((v5.length:Int)==(b.Cals.x2.Closed.length:Int))) else bif i==3 then k22 (!((v5.length:Int)==(b.Cals.x3.Closed.length:Int))) else none;bif i==0 then k a.Cals.x0.Week a.Cals.x0.Closed else bif i==1 then k a.Cals.x1.Week a.Cals.x1.Closed else bif i==2 then k a.Cals.x2.Week a.Cals.x2.Closed else bif i==3 then k a.Cals.x3.Week a.Cals.x3.Closed else none;bif i==0 then k23 b.Cals.x0.Week b.Cals.x0.Closed else bif i==1 then k23 b.Cals.x1.Week b.Cals.x1.Closed else bif i==2 then k23 b.Cals.x2.Week b.Cals.x2.Closed else bif i==3 then k23 b.Cals.x3.Week b.Cals.x3.Closed else none;bif i==0 then k24 a.Cals.x0.Week a.Cals.x0.Closed else bif i==1 then k24 a.Cals.x1.Week a.Cals.x1.Closed else bif i==2 then k24 a.Cals.x2.Week a.Cals.x2.Closed else bif i==3 then k24 a.Cals.x3.Week a.Cals.x3.Closed else none else some (.inr (.inl (())))
def qr (a:Circ) (b:Circ):Option Bool:=
 match c4 b0b (0,a,b,()) with|some (.inl (_)) =>some true|some (.inr (v,_)) =>some v|none =>none
def c5n:(Int×Circ×Circ×Unit)→Option ((Int×Circ×Circ×Unit)⊕((Circ×Circ×Unit)⊕(Bool×Unit))):=fun (i,a,b,_)=>
 bif decide (i<(a.Items.length:Int)) then match m9 a.Items i with|some x =>(match m9 b.Items i with|some x10 =>bif !(b7e x x10) then some (.inr (.inr (false,()))) else some (.inl (wr .i64 (i+1),a,b,()))|none =>none)|none =>none else some (.inr (.inl (a,b,())))
def b2x:(Int×Circ×Circ×Unit)→Option ((Int×Circ×Circ×Unit)⊕((Circ×Circ×Unit)⊕(Bool×Unit))):=fun (i,a,b,_)=>
 bif decide (i<(a.Patrons.length:Int)) then match m9 a.Patrons i with|some x =>(match m9 b.Patrons i with|some x13 =>bif !(a83 x x13) then some (.inr (.inr (false,()))) else some (.inl (wr .i64 (i+1),a,b,()))|none =>none)|none =>none else some (.inr (.inl (a,b,())))
def b2y:(Int×Circ×Circ×Unit)→Option ((Int×Circ×Circ×Unit)⊕((Circ×Circ×Unit)⊕(Bool×Unit))):=fun (i,a,b,_)=>
 bif decide (i<(a.Loans.length:Int)) then match m9 a.Loans i with|some x =>(match m9 b.Loans i with|some x16 =>bif !(b7g x x16) then some (.inr (.inr (false,()))) else some (.inl (wr .i64 (i+1),a,b,()))|none =>none)|none =>none else some (.inr (.inl (a,b,())))
def b2z:(Int×Circ×Circ×Unit)→Option ((Int×Circ×Circ×Unit)⊕((Circ×Circ×Unit)⊕(Bool×Unit))):=fun (i,a,b,_)=>
 bif decide (i<(a.Holds.length:Int)) then match m9 a.Holds i with|some x =>(match m9 b.Holds i with|some x19 =>bif !(b7c x x19) then some (.inr (.inr (false,()))) else some (.inl (wr .i64 (i+1),a,b,()))|none =>none)|none =>none else some (.inr (.inl (a,b,())))
def b22:(Int×Circ×Circ×Unit)→Option ((Int×Circ×Circ×Unit)⊕((Circ×Circ×Unit)⊕(Bool×Unit))):=fun (i,a,b,_)=>
 bif decide (i<(a.Charges.length:Int)) then match m9 a.Charges i with|some x =>(match m9 b.Charges i with|some x22 =>bif !(a82 x x22) then some (.inr (.inr (false,()))) else some (.inl (wr .i64 (i+1),a,b,()))|none =>none)|none =>none else some (.inr (.inl (a,b,())))
def b23:(Int×Circ×Circ×Unit)→Option ((Int×Circ×Circ×Unit)⊕((Circ×Circ×Unit)⊕(Bool×Unit))):=fun (i,a,b,_)=>
 bif decide (i<(a.Rules.length:Int)) then match m9 a.Rules i with|some x =>(match m9 b.Rules i with|some x25 =>bif !(b7k x x25) then some (.inr (.inr (false,()))) else some (.inl (wr .i64 (i+1),a,b,()))|none =>none)|none =>none else some (.inr (.inl (a,b,())))
def b25:(Int×Circ×Circ×Unit)→Option ((Int×Circ×Circ×Unit)⊕((Circ×Circ×Unit)⊕(Bool×Unit))):=fun (i,a,b,_)=>
 bif decide (i<(a.Moves.length:Int)) then match m9 a.Moves i with|some x =>(match m9 b.Moves i with|some x28 =>bif !(b7i x x28) then some (.inr (.inr (false,()))) else some (.inl (wr .i64 (i+1),a,b,()))|none =>none)|none =>none else some (.inr (.inl (a,b,())))
def qd (a:Circ) (b:Circ):Option Bool:=
 let k47 (v:Bool):Option Bool:=let k46 (v1:Bool):Option Bool:=let k45 (v2:Bool):Option Bool:=let k44 (v3:Bool):Option Bool:=bif v3 then some false else let k43 (v4:Bool):Option Bool:=let k42 (v5:Bool):Option Bool:=let k41 (v6:Bool):Option Bool:=let k40 (v7:Bool):Option Bool:=let k39 (v8:Bool):Option Bool:=let k (v9:Bool):Option Bool:=bif v9 then some false else match c4 c5n (0,a,b,()) with|some (.inl (a11,b12,_)) =>(match c4 b2x (0,a11,b12,()) with|some (.inl (a14,b15,_)) =>(match c4 b2y (0,a14,b15,()) with|some (.inl (a17,b18,_)) =>(match c4 b2z (0,a17,b18,()) with|some (.inl (a20,b21,_)) =>(match c4 b22 (0,a20,b21,()) with|some (.inl (a23,b24,_)) =>(match c4 b23 (0,a23,b24,()) with|some (.inl (a26,b27,_)) =>(match c4 b25 (0,a26,b27,()) with|some (.inl (a29,b30,_)) =>(match qr a29 b30 with|some r31 =>some r31|none =>none)|some (.inr (v32,_)) =>some v32|none =>none)|some (.inr (v33,_)) =>some v33|none =>none)|some (.inr (v34,_)) =>some v34|none =>none)|some (.inr (v35,_)) =>some v35|none =>none)|some (.inr (v36,_)) =>some v36|none =>none)|some (.inr (v37,_)) =>some v37|none =>none)|some (.inr (v38,_)) =>some v38|none =>none;bif v8 then k true else k (!((a.Moves.length:Int)==(b.Moves.length:Int)));bif v7 then k39 true else k39 (!((a.Rules.length:Int)==(b.Rules.length:Int)));bif v6 then k40 true else k40 (!((a.Charges.length:Int)==(b.Charges.length:Int)));bif v5 then k41 true else k41 (!((a.Holds.length:Int)==(b.Holds.length:Int)));bif v4 then k42 true else k42 (!((a.Loans.length:Int)==(b.Loans.length:Int)));bif !((a.Items.length:Int)==(b.Items.length:Int)) then k43 true else k43 (!((a.Patrons.length:Int)==(b.Patrons.length:Int)));bif v2 then k44 true else k44 (!(a.Local==b.Local));bif v1 then k45 true else k45 (!(a.NextCharge==b.NextCharge));bif v then k46 true else k46 (!(a.NextHold==b.NextHold));bif !(a.Today==b.Today) then k47 true else k47 (!(a.Cals.x0.Week==b.Cals.x0.Week))
def qcz (c:Circ) (branch:Int) (l:List Int):Option Bool:=
 match qd1 c l with|some r1 =>(bif !r1 then match qcs with|some r3 =>some r3|none =>none else match qbb c branch l with|some (r5,r6) =>(match qbf c branch l with|some (r8,r9) =>(match qcs with|some r11 =>let k15 (v:Bool):Option Bool:=let k (v14:Bool):Option Bool:=some v14;bif v then k (r6==r9) else k false;bif r11 then match qd r5 r8 with|some r13 =>k15 r13|none =>none else k15 false|none =>none)|none =>none)|none =>none)|none =>none
def qdq (s:List Patron):Option (List Patron):=
 bif decide (([]:List Patron).length+s.length≤LIM) then some (([])++s) else none
end
section
set_option maxRecDepth 100000
open Go
theorem b9o:j9 y0:=j9.iso (j9.cons (f8.int _) (j9.cons (f8.int _) (j9.cons (f8.int _) (j9.cons (f8.int _) j9.nil)))) (fun _=>rfl)
theorem b9q:j9 a1k:=j9.iso (j9.cons (f8.int _) (j9.cons (f8.int _) (j9.cons (f8.int _) (j9.cons (f8.int _) (j9.cons (f8.int _) (j9.cons f8.str (j9.cons (f8.int _) (j9.cons (f8.int _) (j9.cons (f8.int _) (j9.cons (f8.int _) j9.nil)))))))))) (fun _=>rfl)
theorem b03:j9 a42:=j9.iso (j9.cons (f8.int _) (j9.cons (f8.int _) (j9.cons (f8.int _) (j9.cons (f8.int _) (j9.cons f8.bool (j9.cons f8.str j9.nil)))))) (fun _=>rfl)
theorem b9r:j9 a58:=j9.iso (j9.cons (f8.int _) (j9.cons (f8.int _) (j9.cons (f8.int _) (j9.cons (f8.int _) (j9.cons (f8.int _) (j9.cons f8.bool j9.nil)))))) (fun _=>rfl)
theorem b9p:j9 a0a:=j9.iso (j9.cons (f8.int _) (j9.cons (f8.int _) (j9.cons (f8.int _) (j9.cons (f8.int _) (j9.cons (f8.int _) (j9.cons (f8.int _) (j9.cons (f8.int _) (j9.cons (f8.int _) (j9.cons (f8.int _) (j9.cons (f8.int _) (j9.cons (f8.int _) j9.nil))))))))))) (fun _=>rfl)
theorem b02:j9 a2m:=j9.iso (j9.cons (f8.int _) (j9.cons (f8.int _) (j9.cons (f8.int _) (j9.cons (f8.int _) (j9.cons (f8.int _) (j9.cons (f8.int _) (j9.cons (f8.int _) j9.nil))))))) (fun _=>rfl)
theorem b9v:j9 a6a:=j9.iso (j9.cons (f8.int _) (j9.cons (f8.int _) (j9.cons (f8.int _) (j9.cons (f8.int _) (j9.cons (f8.int _) (j9.cons (f8.int _) (j9.cons (f8.int _) (j9.cons (f8.int _) (j9.cons (f8.int _) (j9.cons (f8.int _) (j9.cons (f8.int _) (j9.cons (f8.int _) (j9.cons (f8.int _) j9.nil))))))))))))) (fun _=>rfl)
theorem b6x:j9 n8:=j9.iso (j9.cons (f8.int _) (j9.cons (f8.lst _) j9.nil)) (fun _=>rfl)
theorem b9u:j9 a59:=j9.iso (j9.cons (f8.int _) (j9.cons (f8.int _) (j9.cons (f8.int _) (j9.cons (f8.int _) (j9.cons (f8.int _) j9.nil))))) (fun _=>rfl)
theorem d5b:j9 f7:=j9.iso (j9.cons (f8.int _) (j9.cons (f8.lst _) (j9.cons (f8.lst _) (j9.cons (f8.lst _) (j9.cons (f8.lst _) (j9.cons (f8.lst _) (j9.cons (f8.lst _) (j9.cons (f8.int _) (j9.cons (f8.lst _) (j9.cons (f8.int _) (j9.cons (f8.lst _) (j9.cons (f8.int _) (j9.cons (f8.lst _) (j9.cons (f8.int _) (j9.cons (f8.lst _) (j9.cons (f8.lst _) (j9.cons (f8.int _) (j9.cons (f8.int _) (j9.cons f8.bool j9.nil))))))))))))))))))) (fun _=>rfl)
theorem b9s:j9 c31:=j9.iso (j9.cons (f8.int _) (j9.cons (f8.int _) j9.nil)) (fun _=>rfl)
theorem a9l:j9 a8x:=j9.iso (j9.cons (f8.int _) (j9.cons (f8.int _) (j9.cons f8.str (j9.cons (f8.int _) j9.nil)))) (fun _=>rfl)
theorem b32:j9 n5:=j9.iso (j9.cons (f8.int _) (j9.cons (f8.lst _) (j9.cons (f8.lst _) (j9.cons (f8.lst _) (j9.cons (f8.lst _) (j9.cons (f8.lst _) (j9.cons (f8.lst _) (j9.cons (f8.int _) (j9.cons (f8.lst _) (j9.cons (f8.int _) (j9.cons (f8.lst _) (j9.cons (f8.int _) (j9.cons (f8.lst _) (j9.cons (f8.int _) (j9.cons (f8.lst _) (j9.cons (f8.lst _) (j9.cons (f8.int _) (j9.cons (f8.int _) (j9.cons f8.bool (j9.cons (f8.int _) j9.nil)))))))))))))))))))) (fun _=>rfl)
theorem b9t:j9 c32:=j9.iso (j9.cons (f8.int _) (j9.cons f8.str j9.nil)) (fun _=>rfl)
theorem a3k:j9 a1y:=j9.iso (j9.cons (f8.int _) (j9.cons (f8.int _) j9.nil)) (fun _=>rfl)
theorem b9w:j9 a0n:=j9.iso (j9.cons f8.bool (j9.cons f8.bool (j9.cons f8.bool (j9.cons f8.bool (j9.cons f8.bool (j9.cons f8.bool (j9.cons f8.bool j9.nil))))))) (fun _=>rfl)
instance:CCC y0:=⟨b9o⟩
instance:CCC a1k:=⟨b9q⟩
instance:CCC a42:=⟨b03⟩
instance:CCC a58:=⟨b9r⟩
instance:CCC a0a:=⟨b9p⟩
instance:CCC a2m:=⟨b02⟩
instance:CCC a6a:=⟨b9v⟩
instance:CCC n8:=⟨b6x⟩
instance:CCC a59:=⟨b9u⟩
instance:CCC f7:=⟨d5b⟩
instance:CCC c31:=⟨b9s⟩
instance:CCC a8x:=⟨a9l⟩
instance:CCC n5:=⟨b32⟩
instance:CCC c32:=⟨b9t⟩
instance:CCC a1y:=⟨a3k⟩
instance:CCC a0n:=⟨b9w⟩
end
section
set_option maxRecDepth 100000
abbrev x0a:=Zc (Cod.cptr (CC.one Zi)) Zn
abbrev x0b:=OC.xs 0 [] [] [] Zz (.r [4] [] [] (Zs 4 Zi Zz))
abbrev x0c:=Zl .kHold
abbrev x0d:=Zx 2 f7 (Zx 3 f7 Zz)
abbrev x0e:=OC.r [2] [] [] (Zs 2 Zi Zz)
abbrev x0f:=OC.r [2] [] [] (Zs 2 Zb Zz)
abbrev x0g:=Zc Zi Zn
abbrev x0h:=OC.r [4] [] [] (Zs 4 Zb Zz)
abbrev x0i:=Cod.fnc 293 (Zn) (Zn)
abbrev x0j:=Zl .ki64
abbrev x0k:=Zs 7 Zi (Zs 8 Zi Zz)
abbrev x0l:=OC.xs 0 [1] [1] [] (Zp 1 1 (Zx 1 f7 Zz)) x0f
abbrev x0m:=Cod.cptr (CC.one Zi)
abbrev x0n:=Zx 3 f7 (FC.own 7 Kd.kProblem false Zz)
abbrev x0o:=Zc Zi x0g
abbrev x0p:=Cod.agg f7
abbrev x0q:=Zs 8 Zi (FC.own 99999 Kd.kHold false Zz)
abbrev x0r:=Zp 1 1 (Zs 3 Zi (Zx 1 f7 Zz))
abbrev x0s:=Zl .kCharge
abbrev x0t:=OC.xs 0 [3,6] [3,6] [] (Zp 3 3 (Zp 6 6 (Zx 3 f7 (Zx 6 f7 Zz)))) (.r [7] [6] [6] (Zp 6 6 (Zs 7 Zi (Zx 6 f7 Zz))))
abbrev x0u:=Zp 2 2 (Zp 3 3 x0d)
abbrev x0v:=OC.xs 0 [] [] [] Zz x0e
abbrev x0w:=Zx 3 f7 (FC.fixb 9 [.nil,.arr 44,.nil,.nil,.nil] (FC.map 23 Kd.kMapI (FC.own 44 Kd.ki64 false Zz)))
abbrev x0x:=Cod.agg a0a
abbrev x0y:=Zl .kLoan
abbrev x0z:=OC.xs 0 [4] [4] [] (Zp 4 4 (Zx 4 a0a Zz)) (.r [5] [4] [4] (Zp 4 4 (Zs 5 Zb (Zx 4 a0a Zz))))
abbrev x00:=Zs 5 Zi Zz
abbrev x01:=Zl .kPatron
abbrev x02:=Zs 0 x0c (Zs 1 Zi (Zs 2 Zi (FC.arr 7 7 (Zs 8 Zi (FC.own 7 Kd.ki64 false Zz)))))
abbrev x03:=Zs 3 Zi Zz
abbrev x04:=Zs 1 Zi (Zs 2 x0i (Zs 6 Zi (Zs 7 Zi (FC.own 99999 Kd.kHold false Zz))))
abbrev x05:=OC.xs 0 [8] [] [] (Zs 8 Zi Zz) (.r [6,7] [] [] (Zs 6 Zi (Zs 7 Zi Zz)))
abbrev x06:=Zl .kItem
abbrev x07:=Zx 1 f7 Zz
abbrev x08:=Cod.agg a1k
abbrev x09:=Zl .kRule
abbrev x1a:=Zp 2 2 (Zp 3 3 (Zs 5 Zi x0d))
abbrev x1b:=Zs 1 Zi (Zs 2 x0j (Zp 3 3 (FC.arr 7 7 (Zs 9 Zi x0n))))
abbrev x1c:=Zc Zb Zn
abbrev x1d:=OC.xs 0 [] [] [] Zz (.r [4,5] [] [] (Zs 4 Zi x00))
abbrev x1e:=Cod.agg y0
abbrev x1f:=Zc x0m x0a
abbrev x1g:=Zs 1 Zi (Zs 2 x0i (Zs 6 Zi (Zs 7 Zi x0q)))
abbrev x1h:=OC.xs 2 [] [] [] Zz x0f
abbrev x1i:=Zc Zi x0o
abbrev x1j:=Zs 0 x0j (Zs 1 Zi (Zs 5 Zi (Zs 6 Zi Zz)))
abbrev d0n:ZC (Circ×Unit):=Zc x0p Zn
abbrev u5:ZD (Bool):=Zb
abbrev h1r {R:Type}:Sm R:=m6 d0n u5 (fun a=>qb a.1)
def f5l {R:Type}:Nat→Sm R:=c0
abbrev d73:=y7 [] [] [1,3] [1] [] x0r d2q x0l
abbrev d74:=y7 [] [] [1,4] [1] [] (Zp 1 1 (Zs 4 Zi x07)) d2r (.xs 2 [1] [1] [] (Zp 1 1 x07) x0f)
abbrev c8w:=y7 [] [] [1,5] [1] [] (Zp 1 1 (Zs 5 Zi x07)) a9v (.xs 4 [] [] [] Zz x0f)
def b0f {R:Type}:Lp Kd El R:=lp 14 c8w.sem (lp 9 d74.sem (lp 4 d73.sem l0))
abbrev e90:ZC ((List UInt8)×Int×Unit):=Zc Cod.str x0g
abbrev c2o:ZD (Int×Int):=(Cod.tup2 x0o)
abbrev c6m {R:Type}:Sm R:=m6 e90 c2o (fun a=>qbs a.1 a.2.1)
abbrev c61:ZC ((List UInt8)×Unit):=Zc Cod.str Zn
abbrev c6d {R:Type}:Sm R:=m6 c61 u5 (fun a=>qaa a.1)
def e4k {R:Type}:Nat→Sm R:=cl 179 c6m c0
abbrev c8a:=y7 [] [] [0,3] [] [] (Zs 0 Cod.str x03) b5l (.xs 0 [] [] [] Zz x0f)
def c1b {R:Type}:Lp Kd El R:=lp 2 c8a.sem l0
abbrev z7:ZD (Int):=Zi
abbrev f4p {R:Type}:Sm R:=m6 e90 z7 (fun a=>qf a.1 a.2.1)
abbrev a1n:ZC (Int×Unit):=Zc Zi Zn
abbrev e00 {R:Type}:Sm R:=m6 a1n u5 (fun a=>qad a.1)
abbrev e0h:ZD ((List UInt8)):=Cod.str
abbrev e03 {R:Type}:Sm R:=m6 c61 e0h (fun a=>qan a.1)
def e4w {R:Type}:Nat→Sm R:=cl 179 c6m (cl 180 f4p (cl 181 e00 c0))
abbrev c8m:=y7 [] [] [0,3,4,5] [] [] (Zs 0 Cod.str (Zs 3 Cod.str (Zs 4 Zb x00))) b5u (.x 0 [3] [] [] (Zs 3 Cod.str Zz))
def c1n {R:Type}:Lp Kd El R:=lp 4 c8m.sem l0
abbrev e9s:ZC ((List Patron)×Unit):=Zc x01 Zn
abbrev e05 {R:Type}:Sm R:=m6 e9s z7 (fun a=>qau a.1)
def e41 {R:Type}:Nat→Sm R:=cl 107 c6d (cl 108 e03 c0)
abbrev c8r:=y7 [] [] [0,3] [] [] (Zs 0 x01 x03) b2q x0v
def c1s {R:Type}:Lp Kd El R:=lp 4 c8r.sem l0
abbrev e9r:ZC ((List Loan)×Unit):=Zc x0y Zn
abbrev e04 {R:Type}:Sm R:=m6 e9r z7 (fun a=>qat a.1)
def e40 {R:Type}:Nat→Sm R:=c0
abbrev c8q:=y7 [] [] [0,3] [] [] (Zs 0 x0y x03) b2p x0v
def c1r {R:Type}:Lp Kd El R:=lp 4 c8q.sem l0
abbrev e1p {R:Type}:Sm R:=m6 a1n u5 (fun a=>qce a.1)
abbrev e1z {R:Type}:Sm R:=m6 a1n u5 (fun a=>qcy a.1)
abbrev g7a:ZC (Hold×Unit):=Zc x0x Zn
abbrev e19 {R:Type}:Sm R:=m6 g7a z7 (fun a=>qdi a.1)
abbrev g7g:ZC ((List Hold)×Unit):=Zc x0c Zn
abbrev f4s {R:Type}:Sm R:=m6 g7g z7 (fun a=>qi a.1)
def f5r {R:Type}:Nat→Sm R:=cl 109 e19 c0
abbrev d8b:=y7 [] [] [0,3] [] [] (Zs 0 x0c x03) c5p (.xs 0 [0] [] [] (Zs 0 x0c Zz) x0e)
abbrev c9g:=y7 [] [] [0,5,6] [] [] (Zs 0 x0c (Zs 5 Zi (Zs 6 Zi Zz))) b29 (.xs 4 [0,5] [] [] (Zs 0 x0c x00) x0e)
abbrev c9f:=y7 [] [] [0,5] [] [] (Zs 0 x0c x00) b59 (.xs 2 [] [] [] Zz x0e)
def b0g {R:Type}:Lp Kd El R:=lp 12 c9f.sem (lp 15 c9g.sem (lp 4 d8b.sem l0))
abbrev e1j {R:Type}:Sm R:=m6 a1n u5 (fun a=>qc8 a.1)
abbrev e9q:ZC ((List Charge)×Unit):=Zc x0s Zn
abbrev c6e {R:Type}:Sm R:=m6 e9q z7 (fun a=>qac a.1)
def e4m {R:Type}:Nat→Sm R:=cl 110 e1j c0
abbrev c8c:=y7 [] [] [0,3] [] [] (Zs 0 x0s x03) b2n x0v
def c1d {R:Type}:Lp Kd El R:=lp 4 c8c.sem l0
abbrev c60:ZC (Int×Int×Int×Unit):=Zc Zi x0o
abbrev g3d {R:Type}:Sm R:=m6 c60 u5 (fun a=>qa9 a.1 a.2.1 a.2.2.1)
abbrev d37:ZC (Rule×Unit):=Zc (Cod.agg a6a) Zn
abbrev e1u {R:Type}:Sm R:=m6 d37 u5 (fun a=>qcn a.1)
abbrev h2o:ZC ((List Rule)×Unit):=Zc x09 Zn
abbrev f4r {R:Type}:Sm R:=m6 h2o z7 (fun a=>qh a.1)
def f5q {R:Type}:Nat→Sm R:=cl 111 e1u c0
abbrev d8a:=y7 [] [] [0,3,4] [] [] (Zs 0 x09 (Zs 3 Zi (Zs 4 Zi Zz))) c5o (.xs 2 [0,3] [] [] (Zs 0 x09 x03) x0e)
abbrev d79:=y7 [] [] [0,3] [] [] (Zs 0 x09 x03) d2w x0v
def b73 {R:Type}:Lp Kd El R:=lp 4 d79.sem (lp 9 d8a.sem l0)
abbrev f44:ZC (Calendar×Unit):=Zc (Cod.agg n8) Zn
abbrev f4v {R:Type}:Sm R:=m6 f44 z7 (fun a=>qq a.1)
def f5x {R:Type}:Nat→Sm R:=c0
abbrev d8k:=y7 [] [] [1,3] [1] [] (Zp 1 1 (Zs 3 Zi (Zx 1 n8 Zz))) c5r (.xs 0 [1] [1] [] (Zp 1 1 (Zx 1 n8 Zz)) x0e)
abbrev c9j:=y7 [] [] [1,4] [1] [] (Zp 1 1 (Zs 4 Zi (Zx 1 n8 Zz))) b3c (.xs 2 [] [] [] Zz x0e)
def b75 {R:Type}:Lp Kd El R:=lp 11 c9j.sem (lp 6 d8k.sem l0)
abbrev c64:ZC ((List Patron)×Int×Unit):=Zc x01 x0g
abbrev g3l {R:Type}:Sm R:=m6 c64 z7 (fun a=>qap a.1 a.2.1)
def e4x {R:Type}:Nat→Sm R:=c0
abbrev c8n:=y7 [] [] [0,1,5] [] [] (Zs 0 x01 (Zs 1 Zi x00)) b5v x0b
def c1o {R:Type}:Lp Kd El R:=lp 2 c8n.sem l0
abbrev f4b:ZD (Patron×Bool):=(Cod.tup2 (Zc (Cod.agg a42) x1c))
abbrev b8m {R:Type}:Sm R:=m6 c64 f4b (fun a=>qbx a.1 a.2.1)
abbrev h1d:ZD (Custody):=x1e
abbrev e2a {R:Type}:Sm R:=m6 a1n h1d (fun a=>qdj a.1)
abbrev g5o {R:Type}:Sm R:=m6 a1n u5 (fun a=>qeo a.1)
abbrev d36:ZC (Custody×Unit):=Zc x1e Zn
abbrev g4f {R:Type}:Sm R:=m6 d36 u5 (fun a=>qc5 a.1)
abbrev g7e:ZC (Move×Unit):=Zc (Cod.agg a59) Zn
abbrev g5a {R:Type}:Sm R:=m6 g7e u5 (fun a=>qdz a.1)
abbrev c2n:ZD ((List Int)):=x0j
abbrev e1a {R:Type}:Sm R:=m6 a1n c2n (fun a=>qb7 a.1)
abbrev b84:ZC (Int×Int×Unit):=Zc Zi x0g
abbrev g3g {R:Type}:Sm R:=m6 b84 u5 (fun a=>qaf a.1 a.2.1)
def e4o {R:Type}:Nat→Sm R:=cl 271 e1a c0
abbrev c8e:=y7 [] [] [0,5,6] [] [] (Zs 0 Zi (Zs 5 x0j (Zs 6 Zi Zz))) b5o (.xs 0 [] [] [] Zz x0h)
def c1f {R:Type}:Lp Kd El R:=lp 3 c8e.sem l0
abbrev c67:ZC (Custody×Move×Unit):=Zc x1e (Zc (Cod.agg a59) Zn)
abbrev g4p {R:Type}:Sm R:=m6 c67 u5 (fun a=>qcw a.1 a.2.1)
abbrev g5u {R:Type}:Sm R:=m6 a1n z7 (fun a=>qeu a.1)
abbrev c96:ZD (Custody×Int):=(Cod.tup2 (Zc x1e x0g))
abbrev c6j {R:Type}:Sm R:=m6 c67 c96 (fun a=>qb1 a.1 a.2.1)
abbrev g6t:ZC (Int×(List Move)×Int×Unit):=Zc Zi (Zc (Zl .kMove) x0g)
abbrev h07:ZD (Custody×Int×Int):=(Cod.tup3 (Zc x1e x0o))
abbrev e02 {R:Type}:Sm R:=m6 g6t h07 (fun a=>qam a.1 a.2.1 a.2.2.1)
def e4v {R:Type}:Nat→Sm R:=cl 151 c6j (cl 185 e2a c0)
abbrev c8l:=y7 [] [] [1,2,6,9,10] [6,9] [] (Zs 1 (Zl .kMove) (Zs 2 Zi (Zp 6 6 (Zp 9 9 (Zs 10 Zi (Zx 6 y0 (Zx 9 y0 Zz))))))) b5t (.xs 0 [6,9] [6,9] [] (Zp 6 6 (Zp 9 9 (Zx 6 y0 (Zx 9 y0 Zz)))) (.r [7,8] [6] [6] (Zp 6 6 (Zs 7 Zi (Zs 8 Zi (Zx 6 y0 Zz))))))
def c1m {R:Type}:Lp Kd El R:=lp 5 c8l.sem l0
abbrev a7z:ZC (Circ×Int×Unit):=Zc x0p x0g
abbrev c27 {R:Type}:Sm R:=m6 a7z z7 (fun a=>qe a.1 a.2.1)
def f5o {R:Type}:Nat→Sm R:=c0
abbrev d77:=y7 [] [] [1,2,5] [2] [] (Zs 1 Zi (Zp 2 2 (Zs 5 Zi (Zx 2 f7 Zz)))) d2u x0b
def c9t {R:Type}:Lp Kd El R:=lp 2 d77.sem l0
abbrev f4z {R:Type}:Sm R:=m6 d0n u5 (fun a=>qx a.1)
def f53 {R:Type}:Nat→Sm R:=cl 86 c27 (cl 107 c6d (cl 113 e02 c0))
abbrev d8s:=y7 [] [] [1,3] [1] [] x0r c5z x0l
abbrev c9m:=y7 [] [] [1,8] [1] [] (Zp 1 1 (Zs 8 Zi x07)) b3e x1h
def b8a {R:Type}:Lp Kd El R:=lp 15 c9m.sem (lp 4 d8s.sem l0)
abbrev e1h {R:Type}:Sm R:=m6 d36 u5 (fun a=>qc2 a.1)
abbrev b83:ZC ((List Loan)×Int×Unit):=Zc x0y x0g
abbrev g3e {R:Type}:Sm R:=m6 b83 z7 (fun a=>qab a.1 a.2.1)
def e4l {R:Type}:Nat→Sm R:=c0
abbrev c8b:=y7 [] [] [0,1,5] [] [] (Zs 0 x0y (Zs 1 Zi x00)) b5m x0b
def c1c {R:Type}:Lp Kd El R:=lp 2 c8b.sem l0
abbrev h1e:ZD (Loan×Bool):=(Cod.tup2 (Zc (Cod.agg a58) x1c))
abbrev e2d {R:Type}:Sm R:=m6 b83 h1e (fun a=>qdo a.1 a.2.1)
abbrev f4y {R:Type}:Sm R:=m6 d0n u5 (fun a=>qw a.1)
def f52 {R:Type}:Nat→Sm R:=cl 60 b8m (cl 86 c27 (cl 114 e1h (cl 115 e2d c0)))
abbrev d8r:=y7 [] [] [1,3] [1] [] x0r c5y x0l
abbrev c9l:=y7 [] [] [1,8] [1] [] (Zp 1 1 (Zs 8 Zi x07)) b6b x1h
def b79 {R:Type}:Lp Kd El R:=lp 10 c9l.sem (lp 2 d8r.sem l0)
abbrev e81:ZD (Hold×Bool):=(Cod.tup2 (Zc x0x x1c))
abbrev f41 {R:Type}:Sm R:=m6 a7z e81 (fun a=>qz a.1 a.2.1)
def f6b {R:Type}:Nat→Sm R:=c0
abbrev d8u:=y7 [] [] [1,2,4,6] [2,4] [] (Zs 1 Zi (Zp 2 2 (Zp 4 4 (Zs 6 Zi (Zx 2 f7 (Zx 4 a0a Zz)))))) d27 x0z
def c9y {R:Type}:Lp Kd El R:=lp 2 d8u.sem l0
abbrev f40 {R:Type}:Sm R:=m6 d0n u5 (fun a=>qy a.1)
def f6a {R:Type}:Nat→Sm R:=cl 60 b8m (cl 86 c27 (cl 89 f41 c0))
abbrev d8t:=y7 [] [] [1,3] [1] [] x0r c50 x0l
abbrev c9n:=y7 [] [] [1,9] [1] [] (Zp 1 1 (Zs 9 Zi x07)) b6c x1h
def b8b {R:Type}:Lp Kd El R:=lp 18 c9n.sem (lp 2 d8t.sem l0)
abbrev h1q {R:Type}:Sm R:=m6 d0n u5 (fun a=>q9 a.1)
def f5k {R:Type}:Nat→Sm R:=cl 54 e05 (cl 55 e04 (cl 56 f4s (cl 57 c6e (cl 58 f4r (cl 59 f4v (cl 60 b8m (cl 61 f4z (cl 62 f4y (cl 63 f40 c0)))))))))
abbrev d71:=y7 [] [] [1,3] [1] [] x0r c2j x0l
abbrev c70:=y7 [] [] [1,4] [1] [] (Zp 1 1 (Zs 4 Zi x07)) b2m (.xs 2 [1] [1] [] (Zp 1 1 x07) x0f)
def b72 {R:Type}:Lp Kd El R:=lp 11 c70.sem (lp 6 d71.sem l0)
abbrev b85:ZC ((List Int)×Unit):=Zc x0j Zn
abbrev g3h {R:Type}:Sm R:=m6 b85 z7 (fun a=>qag a.1)
def e4p {R:Type}:Nat→Sm R:=c0
abbrev c8f:=y7 [] [] [0,3] [] [] (Zs 0 x0j x03) b5p x0v
def c1g {R:Type}:Lp Kd El R:=lp 4 c8f.sem l0
abbrev g68:ZC (Circ×(List Int)×Unit):=Zc x0p (Zc x0j Zn)
abbrev g4s {R:Type}:Sm R:=m6 g68 u5 (fun a=>qd1 a.1 a.2.1)
abbrev e95:ZC (Unit):=Zn
abbrev d0a:ZD (Bool):=u5
def f2t (a:Unit):Option (Bool):=qcs
abbrev c6n {R:Type}:Sm R:=m6 a1n u5 (fun a=>qck a.1)
abbrev c6p {R:Type}:Sm R:=m6 b85 c2n (fun a=>qe2 a.1)
abbrev d35:ZC ((List Int)×Unit):=b85
abbrev f4a:ZD (List Int):=x0j
def f2r (a:(List Int)×Unit):Option (List Int):=qbc a.1
abbrev e1d {R:Type}:Sm R:=m6 d35 f4a f2r
abbrev d34:ZC ((List Int)×Unit):=b85
abbrev f36:ZD ((List Int)):=c2n
def f2q (a:(List Int)×Unit):Option ((List Int)):=qba a.1
abbrev c6k {R:Type}:Sm R:=m6 d34 f36 f2q
abbrev h09:ZD ((List Int)×List MapI):=(Cod.tup2 (Zc x0j (Zc (Zl .kMapI) Zn)))
abbrev e06 {R:Type}:Sm R:=m6 b85 h09 (fun a=>qax a.1)
def e44 {R:Type}:Nat→Sm R:=cl 34 e1d (cl 35 c6k (cl 70 c6p c0))
abbrev c8u:=y7 [] [] [0,4,9,10,11] [] [8] (Zs 0 x0j (FC.arr 4 8 (Zs 9 x0j (Zs 10 Zi (Zs 11 Zi (FC.map 8 Kd.kMapI Zz)))))) b50 (.x 0 [0,4] [] [8] (Zs 0 x0j (FC.arr 4 8 (FC.map 8 Kd.kMapI Zz))))
def c1v {R:Type}:Lp Kd El R:=lp 3 c8u.sem l0
abbrev e92:ZC (Item×Int×Unit):=Zc x08 x0g
abbrev b8n {R:Type}:Sm R:=m6 e92 u5 (fun a=>qbz a.1 a.2.1)
abbrev e0z {R:Type}:Sm R:=m6 a7z c2n (fun a=>qa7 a.1 a.2.1)
def e4j {R:Type}:Nat→Sm R:=cl 33 b8n c0
abbrev c78:=y7 [(5,5,Kd.ki64)] [] [1,5,9,10,11] [] [5] (Zs 1 Zi (FC.arr 5 5 (Zs 9 x06 (Zs 10 Zi (Zs 11 Zi (FC.own 5 Kd.ki64 false Zz)))))) b5k (.x 0 [5] [] [5] (FC.arr 5 5 (FC.own 5 Kd.ki64 false Zz)))
def c1a {R:Type}:Lp Kd El R:=lp 3 c78.sem l0
abbrev e9x:ZC (Item×Int×Unit):=Zc x08 x0a
abbrev e1c {R:Type}:Sm R:=m6 e9x u5 (fun a=>qb9 a.1 a.2.1)
abbrev h2p:ZC ((List Item)×((Unit)×(Int×Unit))×Unit):=Zc x06 (Zc (Cod.fnc 72 (Zn) x0a) Zn)
abbrev h1u {R:Type}:Sm R:=m6 h2p z7 (fun a=>qj (fun g x0=>qb9 x0 g.2.1) a.1 a.2.1)
def f5s {R:Type}:Nat→Sm R:=cl 72 e1c c0
abbrev d8c:=y7 [] [] [0,1,7,8] [] [] (Zs 0 x06 (Zs 1 (Cod.fnc 72 (Zn) x0a) x0k)) (b3a (fun g x0=>qb9 x0 g.2.1)) x0b
def c9v {R:Type}:Lp Kd El R:=lp 2 d8c.sem l0
abbrev f33:ZD (Item×Bool):=(Cod.tup2 (Zc x08 x1c))
abbrev c6h {R:Type}:Sm R:=m6 a7z f33 (fun a=>qaq a.1 a.2.1)
abbrev d30:ZC (Circ×Int×(List Int)×Unit):=Zc x0p (Zc Zi (Zc x0j Zn))
abbrev h04:ZD ((List Problem)):=(Zl .kProblem)
abbrev f4o {R:Type}:Sm R:=m6 d30 h04 (fun a=>qa a.1 a.2.1 a.2.2.1)
def d5a {R:Type}:Nat→Sm R:=cl 21 e0z (cl 30 e06 (cl 31 c6n (cl 32 c6h (cl 33 b8n (cl 34 e1d (cl 35 c6k c0))))))
abbrev d72:=y7 [(309001,44,Kd.ki64)] [] [1,3,7,8,9,30,31,32] [3,9] [23,44] (Zs 1 Zi (Zp 3 3 (Zs 7 x0j (FC.arr 8 23 (Zp 9 9 (Zs 30 x0j (Zs 31 Zi (Zs 32 Zi x0w)))))))) c5f (.x 0 [1,3,7,8,9] [3,9] [23,44] (Zs 1 Zi (Zp 3 3 (Zs 7 x0j (FC.arr 8 23 (Zp 9 9 x0w))))))
abbrev c79:=y7 [(309001,44,Kd.ki64),(309003,66,Kd.ki64),(309004,92,Kd.ki64),(309002,82,Kd.ki64)] [] [1,3,8,9,47,48,49] [3,9] [23,44,66,82,92] (Zs 1 Zi (Zp 3 3 (FC.arr 8 23 (Zp 9 9 (Zs 47 x0j (Zs 48 Zi (Zs 49 Zi (Zx 3 f7 (FC.fixb 9 [.nil,.arr 44,.arr 82,.arr 66,.arr 92] (FC.map 23 Kd.kMapI (FC.own 44 Kd.ki64 false (FC.own 66 Kd.ki64 false (FC.own 82 Kd.ki64 false (FC.own 92 Kd.ki64 false Zz)))))))))))))) a9u (.x 2 [9] [9] [44,66,82,92] (Zp 9 9 (FC.fixb 9 [.nil,.arr 44,.arr 82,.arr 66,.arr 92] (FC.own 44 Kd.ki64 false (FC.own 66 Kd.ki64 false (FC.own 82 Kd.ki64 false (FC.own 92 Kd.ki64 false Zz)))))))
abbrev a6y:=y7 [(16,16,Kd.kProblem)] [] [16,17,95,96,103,104,105] [] [16,44,66,82,92,103] (FC.arr 16 16 (FC.fix 17 (.int .i64 0) (FC.fixa 95 [.nil,.arr 44,.arr 82,.arr 66,.arr 92] (FC.fix 96 (.int .i64 0) (FC.arr 103 103 (Zs 104 Zi (Zs 105 Zi (FC.own 16 Kd.kProblem false (FC.own 44 Kd.ki64 false (FC.own 66 Kd.ki64 false (FC.own 82 Kd.ki64 false (FC.own 92 Kd.ki64 false (FC.own 103 Kd.ki64 false Zz))))))))))))) qe7 (.x 7 [16,95,96] [] [16,44,66,82,92] (FC.arr 16 16 (FC.fixa 95 [.nil,.arr 44,.arr 82,.arr 66,.arr 92] (FC.fix 96 (.int .i64 0) (FC.own 16 Kd.kProblem false (FC.own 44 Kd.ki64 false (FC.own 66 Kd.ki64 false (FC.own 82 Kd.ki64 false (FC.own 92 Kd.ki64 false Zz)))))))))
abbrev a6z:=y7 [] [400095] [16,17,95,96,103,104,105] [] [16,66,82,92,103] (FC.arr 16 16 (FC.fix 17 (.int .i64 1) (FC.fixa 95 [.nil,.und,.arr 82,.arr 66,.arr 92] (FC.fix 96 (.int .i64 1) (FC.arr 103 103 (Zs 104 Zi (Zs 105 Zi (FC.own 16 Kd.kProblem false (FC.own 66 Kd.ki64 false (FC.own 82 Kd.ki64 false (FC.own 92 Kd.ki64 false (FC.own 103 Kd.ki64 false Zz)))))))))))) qe6 (.x 7 [16,95,96] [] [16,66,82,92] (FC.arr 16 16 (FC.fixa 95 [.nil,.und,.arr 82,.arr 66,.arr 92] (FC.fix 96 (.int .i64 1) (FC.own 16 Kd.kProblem false (FC.own 66 Kd.ki64 false (FC.own 82 Kd.ki64 false (FC.own 92 Kd.ki64 false Zz))))))))
abbrev a60:=y7 [] [400095] [16,17,95,96,103,104,105] [] [16,66,92,103] (FC.arr 16 16 (FC.fix 17 (.int .i64 2) (FC.fixa 95 [.nil,.und,.und,.arr 66,.arr 92] (FC.fix 96 (.int .i64 2) (FC.arr 103 103 (Zs 104 Zi (Zs 105 Zi (FC.own 16 Kd.kProblem false (FC.own 66 Kd.ki64 false (FC.own 92 Kd.ki64 false (FC.own 103 Kd.ki64 false Zz))))))))))) qe5 (.x 7 [16,95,96] [] [16,66,92] (FC.arr 16 16 (FC.fixa 95 [.nil,.und,.und,.arr 66,.arr 92] (FC.fix 96 (.int .i64 2) (FC.own 16 Kd.kProblem false (FC.own 66 Kd.ki64 false (FC.own 92 Kd.ki64 false Zz)))))))
abbrev a61:=y7 [] [400095] [16,17,95,96,103,104,105] [] [16,92,103] (FC.arr 16 16 (FC.fix 17 (.int .i64 3) (FC.fixa 95 [.nil,.und,.und,.und,.arr 92] (FC.fix 96 (.int .i64 3) (FC.arr 103 103 (Zs 104 Zi (Zs 105 Zi (FC.own 16 Kd.kProblem false (FC.own 92 Kd.ki64 false (FC.own 103 Kd.ki64 false Zz)))))))))) qe4 (.x 7 [16,95,96] [] [16,92] (FC.arr 16 16 (FC.fixa 95 [.nil,.und,.und,.und,.arr 92] (FC.fix 96 (.int .i64 3) (FC.own 16 Kd.kProblem false (FC.own 92 Kd.ki64 false Zz))))))
abbrev a62:=y7 [] [400095] [16,17,95,96,103,104,105] [] [16,103] (FC.arr 16 16 (FC.fix 17 (.int .i64 4) (FC.fixa 95 [.nil,.und,.und,.und,.und] (FC.fix 96 (.int .i64 4) (FC.arr 103 103 (Zs 104 Zi (Zs 105 Zi (FC.own 16 Kd.kProblem false (FC.own 103 Kd.ki64 false Zz))))))))) qe3 (.x 7 [16,95,96] [] [16] (FC.arr 16 16 (FC.fixa 95 [.nil,.und,.und,.und,.und] (FC.fix 96 (.int .i64 4) (FC.own 16 Kd.kProblem false Zz)))))
abbrev h1b:ZC (Circ_desk):=n5
abbrev g4j {R:Type}:Sm R:=f4n d0n h1b (fun a=>qcd a.1)
abbrev e18 {R:Type}:Sm R:=m6 e9x u5 (fun a=>qdg a.1 a.2.1)
abbrev e3q:ZC ((List Item)×((Unit)×(Int×Unit))×Unit):=Zc x06 (Zc (Cod.fnc 160 (Zn) x0a) Zn)
abbrev e2l {R:Type}:Sm R:=m6 e3q z7 (fun a=>qj (fun g x0=>qdg x0 g.2.1) a.1 a.2.1)
def d06 {R:Type}:Nat→Sm R:=cl 160 e18 c0
abbrev b49:=y7 [] [] [0,1,7,8] [] [] (Zs 0 x06 (Zs 1 (Cod.fnc 160 (Zn) x0a) x0k)) (b3a (fun g x0=>qdg x0 g.2.1)) x0b
def b2b {R:Type}:Lp Kd El R:=lp 2 b49.sem l0
abbrev g3q {R:Type}:Sm R:=m6 a7z z7 (fun a=>qb0 a.1 a.2.1)
abbrev d4f:ZC (Unit×Int×Unit):=Zc (Cod.ptrc 100000) x0g
abbrev b4f:ZD (Unit):=Cod.unit
abbrev h1z {R:Type}:Sm R:=b4j d4f (BC.one n5) b4f (fun a b=>qs a.2.1 b)
abbrev g4d {R:Type}:Sm R:=b4j d4f (BC.one n5) z7 (fun a b=>qc3 a.2.1 b)
abbrev h2s:ZC (Unit×Unit):=Zc (Cod.ptrc 100000) Zn
abbrev a7d:ZD (Circ×Int):=(Cod.tup2 (Zc x0p x0g))
abbrev h1x {R:Type}:Sm R:=b4j h2s (BC.one n5) a7d (fun a b=>qo b)
abbrev g39 {R:Type}:Sm R:=m6 c60 u5 (fun a=>qbt a.1 a.2.1 a.2.2.1)
abbrev g5l {R:Type}:Sm R:=m6 d36 u5 (fun a=>qel a.1)
abbrev g5j {R:Type}:Sm R:=m6 b84 u5 (fun a=>qej a.1 a.2.1)
abbrev g63:ZC (Custody×Bool×Unit):=Zc x1e x1c
abbrev g4h {R:Type}:Sm R:=m6 g63 c96 (fun a=>qca a.1 a.2.1)
abbrev g5p {R:Type}:Sm R:=m6 c67 c96 (fun a=>qep a.1 a.2.1)
abbrev g5m {R:Type}:Sm R:=m6 c67 c96 (fun a=>qem a.1 a.2.1)
abbrev g69:ZC ((List Item)×Unit):=Zc x06 Zn
abbrev f4i:ZD ((List Item)):=x06
abbrev e14 {R:Type}:Sm R:=m6 g69 f4i (fun a=>qdd a.1)
abbrev g7c:ZC ((List Move)×Unit):=Zc (Zl .kMove) Zn
abbrev h1g:ZD ((List Move)):=(Zl .kMove)
abbrev e2f {R:Type}:Sm R:=m6 g7c h1g (fun a=>qdr a.1)
abbrev e9y:ZC (Unit×Int×Int×Int×Int×Unit):=Zc (Cod.ptrc 100000) (Zc Zi x1i)
abbrev g3w {R:Type}:Sm R:=b4j e9y (BC.one n5) b4f (fun a b=>qbe a.2.1 a.2.2.1 a.2.2.2.1 a.2.2.2.2.1 b)
abbrev d32:ZC (Unit×Int×Int×Unit):=Zc (Cod.ptrc 100000) x0o
abbrev g3s {R:Type}:Sm R:=b4j d32 (BC.one n5) b4f (fun a b=>qb3 a.2.1 a.2.2.1 b)
abbrev g4y {R:Type}:Sm R:=m6 a1n u5 (fun a=>qd8 a.1)
abbrev g41 {R:Type}:Sm R:=m6 a1n u5 (fun a=>qdh a.1)
abbrev g6y:ZC (Charge×Unit):=Zc (Cod.agg a2m) Zn
abbrev e1f {R:Type}:Sm R:=m6 g6y z7 (fun a=>qby a.1)
abbrev g3z {R:Type}:Sm R:=m6 e9q z7 (fun a=>qbh a.1)
def e5a {R:Type}:Nat→Sm R:=cl 170 e1f c0
abbrev c81:=y7 [] [] [0,9,10,11] [] [] (Zs 0 x0s (Zs 9 x0s (Zs 10 Zi (Zs 11 Zi Zz)))) b2r x0v
def c14 {R:Type}:Lp Kd El R:=lp 4 c81.sem l0
abbrev e9w:ZC ((List Charge)×Charge×Unit):=Zc x0s (Zc (Cod.agg a2m) Zn)
abbrev c97:ZD ((List Charge)×Int):=(Cod.tup2 (Zc x0s x0g))
abbrev g3r {R:Type}:Sm R:=m6 e9w c97 (fun a=>qb2 a.1 a.2.1)
abbrev g45 {R:Type}:Sm R:=b4j e9y (BC.one n5) b4f (fun a b=>qdt a.2.1 a.2.2.1 a.2.2.2.1 a.2.2.2.2.1 b)
abbrev d33:ZC (Hold×Int×Unit):=Zc x0x x0a
abbrev e08 {R:Type}:Sm R:=m6 d33 u5 (fun a=>qb4 a.1 a.2.1)
abbrev h2n:ZC ((List Hold)×((Unit)×(Int×Unit))×Unit):=Zc x0c (Zc (Cod.fnc 146 (Zn) x0a) Zn)
abbrev h1s {R:Type}:Sm R:=m6 h2n z7 (fun a=>qc (fun g x0=>qb4 x0 g.2.1) a.1 a.2.1)
def f5m {R:Type}:Nat→Sm R:=cl 146 e08 c0
abbrev d75:=y7 [] [] [0,1,7,8] [] [] (Zs 0 x0c (Zs 1 (Cod.fnc 146 (Zn) x0a) x0k)) (b8f (fun g x0=>qb4 x0 g.2.1)) x0b
def c9s {R:Type}:Lp Kd El R:=lp 2 d75.sem l0
abbrev g3c {R:Type}:Sm R:=m6 a7z e81 (fun a=>qa8 a.1 a.2.1)
abbrev e16 {R:Type}:Sm R:=m6 d33 u5 (fun a=>qdf a.1 a.2.1)
abbrev e3o:ZC ((List Hold)×((Unit)×(Int×Unit))×Unit):=Zc x0c (Zc (Cod.fnc 147 (Zn) x0a) Zn)
abbrev e1l {R:Type}:Sm R:=m6 e3o z7 (fun a=>qc (fun g x0=>qdf x0 g.2.1) a.1 a.2.1)
def d03 {R:Type}:Nat→Sm R:=cl 147 e16 c0
abbrev b46:=y7 [] [] [0,1,7,8] [] [] (Zs 0 x0c (Zs 1 (Cod.fnc 147 (Zn) x0a) x0k)) (b8f (fun g x0=>qdf x0 g.2.1)) x0b
def b17 {R:Type}:Lp Kd El R:=lp 2 b46.sem l0
abbrev c98:ZD ((List Hold)):=x0c
abbrev g4m {R:Type}:Sm R:=m6 g7g c98 (fun a=>qch a.1)
abbrev g61:ZC ((List Hold)×Int×Hold×Unit):=Zc x0c (Zc Zi (Zc x0x Zn))
abbrev g4g {R:Type}:Sm R:=m6 g61 c98 (fun a=>qc7 a.1 a.2.1 a.2.2.1)
abbrev b86:ZC ((List Hold)×Int×Unit):=Zc x0c x0g
abbrev c95:ZD ((List Hold)×Int):=(Cod.tup2 (Zc x0c x0g))
abbrev g3k {R:Type}:Sm R:=m6 b86 c95 (fun a=>qao a.1 a.2.1)
abbrev g64:ZC (Unit×(List Hold)×Int×Unit):=Zc (Cod.ptrc 100000) (Zc x0c x0g)
abbrev g4i {R:Type}:Sm R:=b4j g64 (BC.one n5) b4f (fun a b=>qcb a.2.1 a.2.2.1 b)
abbrev g6x:ZC (Hold×Hold×Unit):=Zc x0x (Zc x0x Zn)
abbrev c6l {R:Type}:Sm R:=m6 g6x z7 (fun a=>qbq a.1 a.2.1)
abbrev h2r:ZC ((List Hold)×Int×Int×((Unit)×(Unit))×Unit):=Zc x0c (Zc Zi (Zc Zi (Zc x0i Zn)))
abbrev e80:ZD (List Hold):=x0c
abbrev f4u {R:Type}:Sm R:=m6 h2r e80 (fun a=>qn (fun g x0 x1=>qbq x0 x1) a.1 a.2.1 a.2.2.1 a.2.2.2.1)
def f5v {R:Type}:Nat→Sm R:=cl 293 c6l c0
abbrev d8j:=y7 [] [] [0,1,2,3,8,9] [] [99999] (FC.arr 0 99999 (Zs 1 Zi (Zs 2 Zi (Zs 3 x0i (Zs 8 Zi (Zs 9 Zi (FC.own 99999 Kd.kHold false Zz))))))) (d20 (fun g x0 x1=>qbq x0 x1)) (.x 2 [0,1,2,3,8] [] [99999] (FC.arr 0 99999 (Zs 1 Zi (Zs 2 Zi (Zs 3 x0i x0q)))))
abbrev d8i:=y7 [] [] [0,1,2,3,8] [] [99999] (FC.arr 0 99999 (Zs 1 Zi (Zs 2 Zi (Zs 3 x0i x0q)))) (d2z (fun g x0 x1=>qbq x0 x1)) (.x 0 [] [] [99999] (FC.own 99999 Kd.kHold false Zz))
def b74 {R:Type}:Lp Kd El R:=lp 1 d8i.sem (lp 4 d8j.sem l0)
abbrev e94:ZC ((List Hold)×Int×Int×Int×((Unit)×(Unit))×Unit):=Zc x0c (Zc Zi (Zc Zi (Zc Zi (Zc x0i Zn))))
abbrev f4c:ZD (List Hold):=e80
def f2s (a:(List Hold)×Int×Int×Int×((Unit)×(Unit))×Unit):Option (List Hold):=qcf (fun g x0 x1=>qbq x0 x1) a.1 a.2.1 a.2.2.1 a.2.2.2.1 a.2.2.2.2.1
abbrev g4k {R:Type}:Sm R:=m6 e94 f4c f2s
abbrev h2q:ZC ((List Hold)×Int×((Unit)×(Unit))×Unit):=Zc x0c (Zc Zi (Zc x0i Zn))
abbrev h1w {R:Type}:Sm R:=m6 h2q e80 (fun a=>ql (fun g x0 x1=>qbq x0 x1) a.1 a.2.1 a.2.2.1)
def f5t {R:Type}:Nat→Sm R:=cl 293 c6l (cl 324 f4u (cl 325 g4k c0))
abbrev d8d:=y7 [] [] [0,1,2,6,7,8] [] [99999] (FC.arr 0 99999 x1g) (e8u (fun g x0 x1=>qbq x0 x1)) (.x 0 [0,1,2,6,7] [] [99999] (FC.arr 0 99999 x04))
abbrev d8f:=y7 [] [] [0,1,2,6,7,8] [] [99999] (FC.arr 0 99999 x1g) (h00 (fun g x0 x1=>qbq x0 x1)) (.x 4 [0,1,2,6,7] [] [99999] (FC.arr 0 99999 x04))
abbrev d8e:=y7 [] [] [0,1,2,6] [] [99999] (FC.arr 0 99999 (Zs 1 Zi (Zs 2 x0i (Zs 6 Zi (FC.own 99999 Kd.kHold false Zz))))) (e8v (fun g x0 x1=>qbq x0 x1)) (.x 2 [] [] [99999] (FC.own 99999 Kd.kHold false Zz))
def b0h {R:Type}:Lp Kd El R:=lp 7 d8e.sem (lp 9 d8f.sem (lp 2 d8d.sem l0))
abbrev g62:ZC ((List Hold)×((Unit)×(Unit))×Unit):=Zc x0c (Zc x0i Zn)
abbrev e1k {R:Type}:Sm R:=m6 g62 e80 (fun a=>qc9 (fun g x0 x1=>qbq x0 x1) a.1 a.2.1)
abbrev g7f:ZC ((List Hold)×Int×Int×Unit):=Zc x0c x0o
abbrev f4q {R:Type}:Sm R:=m6 g7f c98 (fun a=>qg a.1 a.2.1 a.2.2.1)
def f5p {R:Type}:Nat→Sm R:=cl 292 e1k c0
abbrev d78:=y7 [(7,7,Kd.kHold)] [] [1,2,7,10,11,12] [] [7] (Zs 1 Zi (Zs 2 Zi (FC.arr 7 7 (Zs 10 x0c (Zs 11 Zi (Zs 12 Zi (FC.own 7 Kd.kHold false Zz))))))) d2v (.x 0 [7] [] [7] (FC.arr 7 7 (FC.own 7 Kd.kHold false Zz)))
def c9u {R:Type}:Lp Kd El R:=lp 3 d78.sem l0
abbrev e9p:ZC ((List Hold)×Item×Int×Int×Bool×Unit):=Zc x0c (Zc x08 (Zc Zi (Zc Zi x1c)))
abbrev g29 {R:Type}:Sm R:=m6 e9p z7 (fun a=>qa0 a.1 a.2.1 a.2.2.1 a.2.2.2.1 a.2.2.2.2.1)
def e4c {R:Type}:Nat→Sm R:=cl 266 f4q c0
abbrev c71:=y7 [] [] [2,4,6,11,18,19,20] [6] [] (Zs 2 Zi (Zs 4 Zb (Zp 6 6 (Zs 11 Zi (Zs 18 x0c (Zs 19 Zi (Zs 20 Zi (Zx 6 a1k Zz)))))))) b5f (.xs 0 [11] [] [] (Zs 11 Zi Zz) (.r [10] [] [] (Zs 10 Zi Zz)))
def c03 {R:Type}:Lp Kd El R:=lp 3 c71.sem l0
abbrev g67:ZC (Circ×Item×Unit):=Zc x0p (Zc x08 Zn)
abbrev e1x {R:Type}:Sm R:=m6 g67 z7 (fun a=>qcu a.1 a.2.1)
abbrev e15 {R:Type}:Sm R:=m6 d33 u5 (fun a=>qde a.1 a.2.1)
abbrev e3p:ZC ((List Hold)×((Unit)×(Int×Unit))×Unit):=Zc x0c (Zc (Cod.fnc 287 (Zn) x0a) Zn)
abbrev e1m {R:Type}:Sm R:=m6 e3p z7 (fun a=>qc (fun g x0=>qde x0 g.2.1) a.1 a.2.1)
def d04 {R:Type}:Nat→Sm R:=cl 287 e15 c0
abbrev b47:=y7 [] [] [0,1,7,8] [] [] (Zs 0 x0c (Zs 1 (Cod.fnc 287 (Zn) x0a) x0k)) (b8f (fun g x0=>qde x0 g.2.1)) x0b
def b19 {R:Type}:Lp Kd El R:=lp 2 b47.sem l0
abbrev g4b {R:Type}:Sm R:=m6 b86 z7 (fun a=>qbw a.1 a.2.1)
abbrev g5b {R:Type}:Sm R:=m6 b86 e81 (fun a=>qe0 a.1 a.2.1)
abbrev g65:ZC (Patron×Int×Unit):=Zc (Cod.agg a42) x0a
abbrev e1s {R:Type}:Sm R:=m6 g65 u5 (fun a=>qcl a.1 a.2.1)
abbrev g6r:ZC ((List Patron)×((Unit)×(Int×Unit))×Unit):=Zc x01 (Zc (Cod.fnc 244 (Zn) x0a) Zn)
abbrev g3a {R:Type}:Sm R:=m6 g6r z7 (fun a=>qa1 (fun g x0=>qcl x0 g.2.1) a.1 a.2.1)
def e4d {R:Type}:Nat→Sm R:=cl 244 e1s c0
abbrev c72:=y7 [] [] [0,1,7,8] [] [] (Zs 0 x01 (Zs 1 (Cod.fnc 244 (Zn) x0a) x0k)) (b5g (fun g x0=>qcl x0 g.2.1)) x0b
def c04 {R:Type}:Lp Kd El R:=lp 2 c72.sem l0
abbrev g4a {R:Type}:Sm R:=m6 c64 z7 (fun a=>qbv a.1 a.2.1)
abbrev g5s {R:Type}:Sm R:=m6 c64 f4b (fun a=>qes a.1 a.2.1)
abbrev g48 {R:Type}:Sm R:=m6 b84 u5 (fun a=>qdw a.1 a.2.1)
abbrev e91:ZC (Rule×Int×Int×Int×Unit):=Zc (Cod.agg a6a) x1i
abbrev e1e {R:Type}:Sm R:=m6 e91 u5 (fun a=>qbu a.1 a.2.1 a.2.2.1 a.2.2.2.1)
abbrev e0v {R:Type}:Sm R:=m6 d37 z7 (fun a=>qa2 a.1)
def e4e {R:Type}:Nat→Sm R:=c0
abbrev c73:=y7 [] [] [3,12,13,14] [] [12] (Zs 3 Zi (FC.arr 12 12 (Zs 13 Zi (Zs 14 Zi (FC.own 12 Kd.ki64 false Zz))))) a9s (.x 0 [3] [] [] x03)
def c05 {R:Type}:Lp Kd El R:=lp 3 c73.sem l0
abbrev c63:ZC ((List Rule)×Int×Int×Int×Unit):=Zc x09 x1i
abbrev g3j {R:Type}:Sm R:=m6 c63 z7 (fun a=>qal a.1 a.2.1 a.2.2.1 a.2.2.2.1)
def e4u {R:Type}:Nat→Sm R:=cl 306 e1e (cl 307 e0v c0)
abbrev c8k:=y7 [] [] [0,1,2,3,9,12,13,14] [] [] (Zs 0 x09 (Zs 1 Zi (Zs 2 Zi (Zs 3 Zi (Zs 9 Zi (Zs 12 x09 (Zs 13 Zi (Zs 14 Zi Zz)))))))) b2o (.x 0 [9] [] [] (Zs 9 Zi Zz))
def c1l {R:Type}:Lp Kd El R:=lp 3 c8k.sem l0
abbrev c99:ZD (Rule×Bool):=(Cod.tup2 (Zc (Cod.agg a6a) x1c))
abbrev g4n {R:Type}:Sm R:=m6 c63 c99 (fun a=>qcr a.1 a.2.1 a.2.2.1 a.2.2.2.1)
abbrev e96:ZC (Circ×Int×Item×Unit):=Zc x0p (Zc Zi (Zc x08 Zn))
abbrev g4o {R:Type}:Sm R:=m6 e96 c99 (fun a=>qct a.1 a.2.1 a.2.2.1)
abbrev g5r {R:Type}:Sm R:=m6 c60 u5 (fun a=>qer a.1 a.2.1 a.2.2.1)
abbrev f4d:ZD (Calendar):=(Cod.agg n8)
abbrev g4q {R:Type}:Sm R:=m6 a7z f4d (fun a=>qcx a.1 a.2.1)
abbrev e1t {R:Type}:Sm R:=m6 a1n u5 (fun a=>qcm a.1)
abbrev g4w {R:Type}:Sm R:=m6 a1n u5 (fun a=>qd6 a.1)
abbrev e12 {R:Type}:Sm R:=m6 b84 u5 (fun a=>qd9 a.1 a.2.1)
abbrev e2g {R:Type}:Sm R:=m6 a1n u5 (fun a=>qds a.1)
abbrev d31:ZC ((List Int)×Int×Unit):=Zc x0j x0g
abbrev h05:ZD (Int×Bool):=(Cod.tup2 (Zc Zi x1c))
abbrev g3f {R:Type}:Sm R:=m6 d31 h05 (fun a=>qae a.1 a.2.1)
def e4n {R:Type}:Nat→Sm R:=cl 140 e12 (cl 322 e2g c0)
abbrev c8d:=y7 [] [] [0,1,6,7,8] [] [] (Zs 0 x0j (Zs 1 Zi (Zs 6 Zi x0k))) b5n (.x 0 [0,1,6,7] [] [] (Zs 0 x0j (Zs 1 Zi (Zs 6 Zi (Zs 7 Zi Zz)))))
def c1e {R:Type}:Lp Kd El R:=lp 3 c8d.sem l0
abbrev h06:ZD ((V7 Bool)):=(Cod.agg a0n)
abbrev e01 {R:Type}:Sm R:=m6 f44 h06 (fun a=>qak a.1)
def e4t {R:Type}:Nat→Sm R:=c0
abbrev c8j:=y7 [] [] [1,2,3,5] [1,2,3] [] (Zp 1 1 (Zp 2 2 (Zp 3 3 (Zs 5 Zi (Zx 1 n8 (Zx 2 a0n (Zx 3 a0n Zz))))))) d9u (.x 0 [2,3] [2,3] [] (Zp 2 2 (Zp 3 3 (Zx 2 a0n (Zx 3 a0n Zz)))))
def c1k {R:Type}:Lp Kd El R:=lp 3 c8j.sem l0
abbrev g5t {R:Type}:Sm R:=m6 a1n u5 (fun a=>qet a.1)
abbrev e1w {R:Type}:Sm R:=m6 a1n z7 (fun a=>qcq a.1)
abbrev c66:ZC (Calendar×Int×Unit):=Zc (Cod.agg n8) x0g
abbrev e1o {R:Type}:Sm R:=m6 c66 u5 (fun a=>qcc a.1 a.2.1)
abbrev e0w {R:Type}:Sm R:=m6 c66 c2o (fun a=>qa3 a.1 a.2.1)
def e4f {R:Type}:Nat→Sm R:=cl 290 e1o c0
abbrev c74:=y7 [] [] [2,6] [2] [] (Zp 2 2 (Zs 6 Zi (Zx 2 n8 Zz))) c2k x1d
def c06 {R:Type}:Lp Kd El R:=lp 2 c74.sem l0
abbrev c62:ZC (Calendar×Int×Int×Unit):=Zc (Cod.agg n8) x0o
abbrev g3i {R:Type}:Sm R:=m6 c62 c2o (fun a=>qaj a.1 a.2.1 a.2.2.1)
def e4s {R:Type}:Nat→Sm R:=cl 175 e1t (cl 260 e0w c0)
abbrev c8i:=y7 [] [] [3,8,28,29] [3] [] (Zp 3 3 (Zs 8 Zi (Zs 28 Zi (Zs 29 Zi (Zx 3 n8 Zz))))) b5s x05
def c1j {R:Type}:Lp Kd El R:=lp 9 c8i.sem l0
abbrev g5k {R:Type}:Sm R:=b4j d32 (BC.one n5) z7 (fun a b=>qek a.2.1 a.2.2.1 b)
abbrev g5d {R:Type}:Sm R:=m6 c60 u5 (fun a=>qeb a.1 a.2.1 a.2.2.1)
abbrev g6v:ZC (Hold×Int×Int×Unit):=Zc x0x x1f
abbrev e09 {R:Type}:Sm R:=m6 g6v u5 (fun a=>qb5 a.1 a.2.1 a.2.2.1)
abbrev c65:ZC ((List Hold)×((Unit)×(Int×Int×Unit))×Unit):=Zc x0c (Zc (Cod.fnc 255 (Zn) x1f) Zn)
abbrev e1n {R:Type}:Sm R:=m6 c65 z7 (fun a=>qc (fun g x0=>qb5 x0 g.2.1 g.2.2.1) a.1 a.2.1)
def d05 {R:Type}:Nat→Sm R:=cl 255 e09 c0
abbrev b48:=y7 [] [] [0,1,7,8] [] [] (Zs 0 x0c (Zs 1 (Cod.fnc 255 (Zn) x1f) x0k)) (b8f (fun g x0=>qb5 x0 g.2.1 g.2.2.1)) x0b
def b2a {R:Type}:Lp Kd El R:=lp 2 b48.sem l0
abbrev g5g {R:Type}:Sm R:=m6 c65 u5 (fun a=>qeg (fun g x0=>qb5 x0 g.2.1 g.2.2.1) a.1 a.2.1)
abbrev e9v:ZC ((List Hold)×Int×Int×Int×Int×Unit):=Zc x0c (Zc Zi x1i)
abbrev g3p {R:Type}:Sm R:=m6 e9v c95 (fun a=>qay a.1 a.2.1 a.2.2.1 a.2.2.2.1 a.2.2.2.2.1)
abbrev g6z:ZC (Unit×Int×Hold×Unit):=Zc (Cod.ptrc 100000) (Zc Zi (Zc x0x Zn))
abbrev g4c {R:Type}:Sm R:=b4j g6z (BC.one n5) b4f (fun a b=>qc1 a.2.1 a.2.2.1 b)
abbrev e1q {R:Type}:Sm R:=b4j d4f (BC.one n5) b4f (fun a b=>qci a.2.1 b)
abbrev g3v {R:Type}:Sm R:=b4j d4f (BC.one n5) b4f (fun a b=>qbd a.2.1 b)
def e47 {R:Type}:Nat→Sm R:=cl 124 e1q (cl 149 e1x c0)
abbrev c8y:=y7 [] [] [0,1,11,12] [100000] [] (Zp 0 100000 (Zs 1 Zi (Zs 11 Zi (Zs 12 Zi (Zx 100000 n5 Zz))))) a3t (.xs 0 [] [100000] [] (Zx 100000 n5 Zz) (.r [] [] [100000] (Zx 100000 n5 Zz)))
def c1y {R:Type}:Lp Kd El R:=lp 1 c8y.sem l0
abbrev e1i {R:Type}:Sm R:=m6 a7z a7d (fun a=>qc6 a.1 a.2.1)
abbrev b4o:ZC (Circ×Int×Int×Unit):=Zc x0p x0o
abbrev g3t {R:Type}:Sm R:=m6 b4o a7d (fun a=>qb6 a.1 a.2.1 a.2.2.1)
abbrev e0i:ZD (Circ×Int×Int):=(Cod.tup3 (Zc x0p x0o))
abbrev g4l {R:Type}:Sm R:=b4j d4f (BC.one n5) e0i (fun a b=>qcg a.2.1 b)
abbrev h1a:ZD ((Int×Unit)):=(Cod.clo 246 x0a)
abbrev g37 {R:Type}:Sm R:=m6 a1n h1a (fun a=>qbp a.1)
abbrev g6w:ZC (Loan×Int×Unit):=Zc (Cod.agg a58) x0a
abbrev e1b {R:Type}:Sm R:=m6 g6w u5 (fun a=>qb8 a.1 a.2.1)
abbrev e9t:ZC ((List Loan)×((Unit)×(Int×Unit))×Unit):=Zc x0y (Zc (Cod.fnc 246 (Zn) x0a) Zn)
abbrev g3n {R:Type}:Sm R:=m6 e9t z7 (fun a=>qav (fun g x0=>qb8 x0 g.2.1) a.1 a.2.1)
def e42 {R:Type}:Nat→Sm R:=cl 246 e1b c0
abbrev c8s:=y7 [] [] [0,1,7,8] [] [] (Zs 0 x0y (Zs 1 (Cod.fnc 246 (Zn) x0a) x0k)) (b5y (fun g x0=>qb8 x0 g.2.1)) x0b
def c1t {R:Type}:Lp Kd El R:=lp 2 c8s.sem l0
abbrev h1h:ZD (Loan×Int):=(Cod.tup2 (Zc (Cod.agg a58) x0g))
abbrev g46 {R:Type}:Sm R:=m6 e9t h1h (fun a=>qdu (fun g x0=>qb8 x0 g.2.1) a.1 a.2.1)
abbrev d0b:ZD ((List Loan)):=x0y
abbrev e13 {R:Type}:Sm R:=m6 e9r d0b (fun a=>qdc a.1)
abbrev d4b:ZC ((List Loan)×Int×Int×Unit):=Zc x0y x0o
abbrev f4h:ZD ((List Loan)):=d0b
def f2y (a:(List Loan)×Int×Int×Unit):Option ((List Loan)):=qda a.1 a.2.1 a.2.2.1
abbrev g4z {R:Type}:Sm R:=m6 d4b f4h f2y
abbrev g5i {R:Type}:Sm R:=m6 b83 d0b (fun a=>qei a.1 a.2.1)
abbrev f4j:ZD ((List Loan)×Loan×Int):=(Cod.tup3 (Zc x0y (Zc (Cod.agg a58) x0g)))
abbrev g42 {R:Type}:Sm R:=m6 b83 f4j (fun a=>qdk a.1 a.2.1)
abbrev g7d:ZC (Unit×(List Loan)×Int×Unit):=Zc (Cod.ptrc 100000) (Zc x0y x0g)
abbrev g47 {R:Type}:Sm R:=b4j g7d (BC.one n5) b4f (fun a b=>qdv a.2.1 a.2.2.1 b)
abbrev e1r {R:Type}:Sm R:=m6 a1n u5 (fun a=>qcj a.1)
abbrev e9u:ZC ((List Int)×((Unit)×(Unit))×Unit):=Zc x0j (Zc (Cod.fnc 174 (Zn) (Zn)) Zn)
abbrev g3o {R:Type}:Sm R:=m6 e9u z7 (fun a=>qaw (fun g x0=>qcj x0) a.1 a.2.1)
def e43 {R:Type}:Nat→Sm R:=cl 174 e1r c0
abbrev c8t:=y7 [] [] [0,1,7,8] [] [] (Zs 0 x0j (Zs 1 (Cod.fnc 174 (Zn) (Zn)) x0k)) (b5z (fun g x0=>qcj x0)) x0b
def c1u {R:Type}:Lp Kd El R:=lp 2 c8t.sem l0
abbrev e11 {R:Type}:Sm R:=m6 e9u u5 (fun a=>qd3 (fun g x0=>qcj x0) a.1 a.2.1)
abbrev h14 {R:Type}:Sm R:=m6 f44 z7 (fun a=>qu a.1)
def f50 {R:Type}:Nat→Sm R:=cl 64 e11 c0
abbrev d8o:=y7 [] [] [1,24,25,26] [1] [] (Zp 1 1 (Zs 24 x0j (Zs 25 Zi (Zs 26 Zi (Zx 1 n8 Zz))))) c5w (.xs 1 [] [] [] Zz x0e)
def c9x {R:Type}:Lp Kd El R:=lp 8 d8o.sem l0
abbrev e2h {R:Type}:Sm R:=m6 b84 z7 (fun a=>qdx a.1 a.2.1)
abbrev h1p {R:Type}:Sm R:=m6 c62 z7 (fun a=>q8 a.1 a.2.1 a.2.2.1)
def f5j {R:Type}:Nat→Sm R:=cl 309 e01 (cl 310 e1w (cl 314 e2h c0))
abbrev d70:=y7 [] [] [1,2,3,7,8,22,23] [3,7] [] (Zs 1 Zi (Zs 2 Zi (Zp 3 3 (Zp 7 7 (Zs 8 Zi (Zs 22 (Cod.agg a0n) (Zs 23 Zi (Zx 3 n8 (Zx 7 a0n Zz))))))))) c5e (.x 0 [1,2,3,7,8] [3,7] [] (Zs 1 Zi (Zs 2 Zi (Zp 3 3 (Zp 7 7 (Zs 8 Zi (Zx 3 n8 (Zx 7 a0n Zz))))))))
abbrev c7z:=y7 [] [] [1,2,7,8,40,41,42] [7] [] (Zs 1 Zi (Zs 2 Zi (Zp 7 7 (Zs 8 Zi (Zs 40 x0j (Zs 41 Zi (Zs 42 Zi (Zx 7 a0n Zz)))))))) b5e (.x 2 [8] [] [] (Zs 8 Zi Zz))
def b71 {R:Type}:Lp Kd El R:=lp 13 c7z.sem (lp 7 d70.sem l0)
abbrev e98:ZC (Rule×Calendar×Int×Int×Unit):=Zc (Cod.agg a6a) (Zc (Cod.agg n8) x0o)
abbrev g43 {R:Type}:Sm R:=m6 e98 z7 (fun a=>qdl a.1 a.2.1 a.2.2.1 a.2.2.2.1)
abbrev g66:ZC (Charge×Int×Int×Int×Unit):=Zc (Cod.agg a2m) (Zc x0m x1f)
abbrev e1v {R:Type}:Sm R:=m6 g66 u5 (fun a=>qco a.1 a.2.1 a.2.2.1 a.2.2.2.1)
abbrev g6u:ZC ((List Charge)×((Unit)×(Int×Int×Int×Unit))×Unit):=Zc x0s (Zc (Cod.fnc 297 (Zn) (Zc x0m x1f)) Zn)
abbrev h08:ZD ((List Charge)×Int×Int):=(Cod.tup3 (Zc x0s x0o))
abbrev g3m {R:Type}:Sm R:=m6 g6u h08 (fun a=>qar (fun g x0=>qco x0 g.2.1 g.2.2.1 g.2.2.2.1) a.1 a.2.1)
def e4y {R:Type}:Nat→Sm R:=cl 297 e1v c0
abbrev c8o:=y7 [(4,4,Kd.kCharge)] [] [1,4,5,6,9,10,11] [] [4] (Zs 1 (Cod.fnc 297 (Zn) (Zc x0m x1f)) (FC.arr 4 4 (Zs 5 Zi (Zs 6 Zi (Zs 9 x0s (Zs 10 Zi (Zs 11 Zi (FC.own 4 Kd.kCharge false Zz)))))))) (b5w (fun g x0=>qco x0 g.2.1 g.2.2.1 g.2.2.2.1)) (.x 0 [4,5,6] [] [4] (FC.arr 4 4 (Zs 5 Zi (Zs 6 Zi (FC.own 4 Kd.kCharge false Zz)))))
def c1p {R:Type}:Lp Kd El R:=lp 2 c8o.sem l0
abbrev e9z:ZC ((List Charge)×Int×Int×Int×Unit):=Zc x0s x1i
abbrev g38 {R:Type}:Sm R:=m6 e9z c97 (fun a=>qbr a.1 a.2.1 a.2.2.1 a.2.2.2.1)
abbrev g5h {R:Type}:Sm R:=b4j d32 (BC.one n5) b4f (fun a b=>qeh a.2.1 a.2.2.1 b)
abbrev g5v {R:Type}:Sm R:=m6 b4o e0i (fun a=>qev a.1 a.2.1 a.2.2.1)
abbrev g40 {R:Type}:Sm R:=m6 b4o a7d (fun a=>qdb a.1 a.2.1 a.2.2.1)
abbrev e93:ZC (Circ×Item×Int×Unit):=Zc x0p (Zc x08 x0g)
abbrev e1g {R:Type}:Sm R:=m6 e93 a7d (fun a=>qc0 a.1 a.2.1 a.2.2.1)
abbrev g3u {R:Type}:Sm R:=m6 d30 a7d (fun a=>qbb a.1 a.2.1 a.2.2.1)
def e46 {R:Type}:Nat→Sm R:=cl 12 f4o (cl 31 c6n (cl 32 c6h (cl 33 b8n (cl 41 e1i (cl 42 e1g c0)))))
abbrev c8x:=y7 [] [] [1,3,6,21,22,23] [3,6] [] (Zs 1 Zi (Zp 3 3 (Zp 6 6 (Zs 21 (Zl .kProblem) (Zs 22 Zi (Zs 23 Zi (Zx 3 f7 (Zx 6 f7 Zz)))))))) b52 x0t
def c1x {R:Type}:Lp Kd El R:=lp 4 c8x.sem l0
abbrev c6o {R:Type}:Sm R:=m6 e92 u5 (fun a=>qcp a.1 a.2.1)
abbrev e0x {R:Type}:Sm R:=m6 d31 z7 (fun a=>qa4 a.1 a.2.1)
def e4g {R:Type}:Nat→Sm R:=c0
abbrev c75:=y7 [] [] [0,1,5,6] [] [] x1j b5h (.x 0 [5] [] [] x00)
def c07 {R:Type}:Lp Kd El R:=lp 3 c75.sem l0
abbrev e07 {R:Type}:Sm R:=m6 d31 z7 (fun a=>qaz a.1 a.2.1)
def e45 {R:Type}:Nat→Sm R:=c0
abbrev c8v:=y7 [] [] [0,1,5,6] [] [] x1j b51 (.x 0 [5] [] [] x00)
def c1w {R:Type}:Lp Kd El R:=lp 3 c8v.sem l0
abbrev c6i {R:Type}:Sm R:=m6 a7z f33 (fun a=>qas a.1 a.2.1)
def e4z {R:Type}:Nat→Sm R:=c0
abbrev c8p:=y7 [] [] [1,2,4,6] [2,4] [] (Zs 1 Zi (Zp 2 2 (Zp 4 4 (Zs 6 Zi (Zx 2 f7 (Zx 4 a1k Zz)))))) b5x (.xs 0 [4] [4] [] (Zp 4 4 (Zx 4 a1k Zz)) (.r [5] [4] [4] (Zp 4 4 (Zs 5 Zb (Zx 4 a1k Zz)))))
def c1q {R:Type}:Lp Kd El R:=lp 2 c8p.sem l0
abbrev f4t {R:Type}:Sm R:=m6 d30 h04 (fun a=>qm a.1 a.2.1 a.2.2.1)
def f5u {R:Type}:Nat→Sm R:=cl 36 c6o (cl 37 e0x (cl 38 e07 (cl 39 c6i c0)))
abbrev d8g:=y7 [(7,7,Kd.kProblem)] [] [1,2,3,7,8] [3] [7] (Zs 1 Zi (Zs 2 x0j (Zp 3 3 (FC.arr 7 7 (Zs 8 Zi x0n))))) c5q (.x 0 [1,2,3,7] [3] [7] (Zs 1 Zi (Zs 2 x0j (Zp 3 3 (FC.arr 7 7 x0n)))))
abbrev c9h:=y7 [] [] [1,2,3,7,9,10] [3] [7] (Zs 1 Zi (Zs 2 x0j (Zp 3 3 (FC.arr 7 7 (Zs 9 Zi (Zs 10 Zi x0n)))))) b6a (.x 4 [1,2,3,7,9] [3] [7] x1b)
abbrev d8h:=y7 [] [] [1,2,3,7,9] [3] [7] x1b d98 (.x 2 [7] [] [7] (FC.arr 7 7 (FC.own 7 Kd.kProblem false Zz)))
def b0i {R:Type}:Lp Kd El R:=lp 8 d8h.sem (lp 11 c9h.sem (lp 3 d8g.sem l0))
abbrev g7h:ZC (Circ×Int×Int×Int×Int×Unit):=Zc x0p (Zc Zi x1i)
abbrev h1y {R:Type}:Sm R:=m6 g7h a7d (fun a=>qp a.1 a.2.1 a.2.2.1 a.2.2.2.1 a.2.2.2.2.1)
def f5w {R:Type}:Nat→Sm R:=cl 86 c27 (cl 151 c6j c0)
abbrev c9i:=y7 [(16,16,Kd.kItem)] [] [5,10,12,13,14,16,17] [5,10,13,14] [16] (Zp 5 5 (Zp 10 10 (Zs 12 Zi (Zp 13 13 (Zp 14 14 (FC.arr 16 16 (Zs 17 Zi (Zx 5 f7 (Zx 10 f7 (Zx 13 a59 (Zx 14 y0 (FC.own 16 Kd.kItem false Zz)))))))))))) b3b (.x 0 [5,10,13,16] [5,10,13] [16] (Zp 5 5 (Zp 10 10 (Zp 13 13 (FC.arr 16 16 (Zx 5 f7 (Zx 10 f7 (Zx 13 a59 (FC.own 16 Kd.kItem false Zz)))))))))
def c9w {R:Type}:Lp Kd El R:=lp 10 c9i.sem l0
abbrev g36 {R:Type}:Sm R:=m6 e9w c97 (fun a=>qbo a.1 a.2.1)
def e5h {R:Type}:Nat→Sm R:=cl 57 c6e c0
abbrev c88:=y7 [(6,6,Kd.kCharge)] [] [0,3,6,7] [3] [6] (Zs 0 x0s (Zp 3 3 (FC.arr 6 6 (Zs 7 Zi (Zx 3 a2m (FC.own 6 Kd.kCharge false Zz)))))) b57 (.x 0 [3,6] [3] [6] (Zp 3 3 (FC.arr 6 6 (Zx 3 a2m (FC.own 6 Kd.kCharge false Zz)))))
def c2c {R:Type}:Lp Kd El R:=lp 3 c88.sem l0
abbrev g49 {R:Type}:Sm R:=m6 g7h a7d (fun a=>qdy a.1 a.2.1 a.2.2.1 a.2.2.2.1 a.2.2.2.2.1)
abbrev g6s:ZC ((List Hold)×Hold×Unit):=Zc x0c (Zc x0x Zn)
abbrev c6f {R:Type}:Sm R:=m6 g6s c98 (fun a=>qah a.1 a.2.1)
def e4q {R:Type}:Nat→Sm R:=c0
abbrev c8g:=y7 [(5,5,Kd.kHold)] [] [0,3,5,6] [3] [5] (Zs 0 x0c (Zp 3 3 (FC.arr 5 5 (Zs 6 Zi (Zx 3 a0a (FC.own 5 Kd.kHold false Zz)))))) b5q (.x 0 [5] [] [5] (FC.arr 5 5 (FC.own 5 Kd.kHold false Zz)))
def c1h {R:Type}:Lp Kd El R:=lp 3 c8g.sem l0
abbrev g35 {R:Type}:Sm R:=m6 b86 c95 (fun a=>qbn a.1 a.2.1)
def e5g {R:Type}:Nat→Sm R:=cl 153 c6f c0
abbrev c87:=y7 [] [] [0,1,6] [] [] (Zs 0 x0c (Zs 1 Zi (Zs 6 Zi Zz))) b56 (.xs 0 [] [] [] Zz (.r [4,5] [] [] (Zs 4 x0c x00)))
def c2b {R:Type}:Lp Kd El R:=lp 2 c87.sem l0
abbrev f4x {R:Type}:Sm R:=m6 g7f c2n (fun a=>qv a.1 a.2.1 a.2.2.1)
def f51 {R:Type}:Nat→Sm R:=c0
abbrev d8q:=y7 [] [] [0,1,2,7,8,9] [] [7] (Zs 0 x0c (Zs 1 Zi (Zs 2 Zi (FC.arr 7 7 (Zs 8 Zi (Zs 9 Zi (FC.own 7 Kd.ki64 false Zz))))))) c5x (.x 2 [0,1,2,7,8] [] [7] x02)
abbrev d8p:=y7 [(7,7,Kd.ki64)] [] [0,1,2,7,8] [] [7] x02 e0e (.x 0 [7] [] [7] (FC.arr 7 7 (FC.own 7 Kd.ki64 false Zz)))
def b78 {R:Type}:Lp Kd El R:=lp 3 d8p.sem (lp 6 d8q.sem l0)
abbrev c6g {R:Type}:Sm R:=m6 b86 e81 (fun a=>qai a.1 a.2.1)
def e4r {R:Type}:Nat→Sm R:=c0
abbrev c8h:=y7 [] [] [0,1,4,6] [4] [] (Zs 0 x0c (Zs 1 Zi (Zp 4 4 (Zs 6 Zi (Zx 4 a0a Zz))))) b5r x0z
def c1i {R:Type}:Lp Kd El R:=lp 2 c8h.sem l0
abbrev g34 {R:Type}:Sm R:=m6 e9p z7 (fun a=>qbm a.1 a.2.1 a.2.2.1 a.2.2.2.1 a.2.2.2.2.1)
def e5f {R:Type}:Nat→Sm R:=cl 219 c6g (cl 272 f4x c0)
abbrev c86:=y7 [] [] [0,2,4,6,11,12,13] [6] [] (Zs 0 x0c (Zs 2 Zi (Zs 4 Zb (Zp 6 6 (Zs 11 x0j (Zs 12 Zi (Zs 13 Zi (Zx 6 a1k Zz)))))))) b55 (.xs 0 [12] [] [] (Zs 12 Zi Zz) (.r [10] [] [] (Zs 10 Zi Zz)))
def c2a {R:Type}:Lp Kd El R:=lp 4 c86.sem l0
abbrev e2b {R:Type}:Sm R:=m6 a7z z7 (fun a=>qdm a.1 a.2.1)
abbrev e2k {R:Type}:Sm R:=m6 e91 u5 (fun a=>qef a.1 a.2.1 a.2.2.1 a.2.2.2.1)
abbrev e10 {R:Type}:Sm R:=m6 d37 z7 (fun a=>qd0 a.1)
abbrev g30 {R:Type}:Sm R:=m6 c63 z7 (fun a=>qbi a.1 a.2.1 a.2.2.1 a.2.2.2.1)
def e5b {R:Type}:Nat→Sm R:=cl 315 e2k (cl 316 e10 c0)
abbrev c82:=y7 [] [] [0,1,2,3,9,10] [] [] (Zs 0 x09 (Zs 1 Zi (Zs 2 Zi (Zs 3 Zi (Zs 9 Zi (Zs 10 Zi Zz)))))) b2s (.x 0 [9] [] [] (Zs 9 Zi Zz))
def c15 {R:Type}:Lp Kd El R:=lp 3 c82.sem l0
abbrev g5z {R:Type}:Sm R:=m6 c63 c99 (fun a=>qez a.1 a.2.1 a.2.2.1 a.2.2.2.1)
abbrev g4t {R:Type}:Sm R:=m6 e96 c99 (fun a=>qd2 a.1 a.2.1 a.2.2.1)
abbrev h1v {R:Type}:Sm R:=m6 a7z f4d (fun a=>qk a.1 a.2.1)
abbrev g5c {R:Type}:Sm R:=m6 a1n u5 (fun a=>qe1 a.1)
abbrev e2i {R:Type}:Sm R:=m6 a1n z7 (fun a=>qea a.1)
abbrev e2m {R:Type}:Sm R:=m6 c66 u5 (fun a=>qt a.1 a.2.1)
def f5z {R:Type}:Nat→Sm R:=cl 317 e2i c0
abbrev d8n:=y7 [] [] [1,2,5,6,7] [2] [] (Zs 1 Zi (Zp 2 2 (Zs 5 Zi (Zs 6 Zi (Zs 7 Zi (Zx 2 n8 Zz)))))) d24 (.x 0 [1,2,5] [2] [] (Zs 1 Zi (Zp 2 2 (Zs 5 Zi (Zx 2 n8 Zz)))))
abbrev c9k:=y7 [] [] [1,2,8] [2] [] (Zs 1 Zi (Zp 2 2 (Zs 8 Zi (Zx 2 n8 Zz)))) b3d (.xs 2 [] [] [] Zz x0h)
def b77 {R:Type}:Lp Kd El R:=lp 12 c9k.sem (lp 6 d8n.sem l0)
abbrev e0y {R:Type}:Sm R:=m6 c66 c2o (fun a=>qa6 a.1 a.2.1)
def e4i {R:Type}:Nat→Sm R:=cl 299 e2m c0
abbrev c77:=y7 [] [] [2,6] [2] [] (Zp 2 2 (Zs 6 Zi (Zx 2 n8 Zz))) b5j x1d
def c09 {R:Type}:Lp Kd El R:=lp 2 c77.sem l0
abbrev g31 {R:Type}:Sm R:=m6 c62 c2o (fun a=>qbj a.1 a.2.1 a.2.2.1)
def e5c {R:Type}:Nat→Sm R:=cl 275 e0y c0
abbrev c83:=y7 [] [] [2,3,8,9] [3] [] (Zs 2 Zi (Zp 3 3 (Zs 8 Zi (Zs 9 Zi (Zx 3 n8 Zz))))) b2t x05
def c16 {R:Type}:Lp Kd El R:=lp 9 c83.sem l0
abbrev g3b {R:Type}:Sm R:=m6 e9v c95 (fun a=>qa5 a.1 a.2.1 a.2.2.1 a.2.2.2.1 a.2.2.2.2.1)
def e4h {R:Type}:Nat→Sm R:=cl 153 c6f (cl 182 e1p (cl 183 e1z (cl 219 c6g c0)))
abbrev c76:=y7 [] [] [0,1,2,3,4,12,14] [12] [] (Zs 0 x0c (Zs 1 Zi (Zs 2 Zi (Zs 3 Zi (Zs 4 Zi (Zp 12 12 (Zs 14 Zi (Zx 12 a0a Zz)))))))) b5i (.xs 0 [0,2,3,4,12] [12] [] (Zs 0 x0c (Zs 2 Zi (Zs 3 Zi (Zs 4 Zi (Zp 12 12 (Zx 12 a0a Zz)))))) (.r [10,11] [] [] (Zs 10 x0c (Zs 11 Zi Zz))))
def c08 {R:Type}:Lp Kd El R:=lp 9 c76.sem l0
abbrev g60:ZC (Circ×Int×Hold×Unit):=Zc x0p (Zc Zi (Zc x0x Zn))
abbrev g4e {R:Type}:Sm R:=m6 g60 a7d (fun a=>qc4 a.1 a.2.1 a.2.2.1)
abbrev e1y {R:Type}:Sm R:=m6 a7z a7d (fun a=>qcv a.1 a.2.1)
abbrev g33 {R:Type}:Sm R:=m6 a7z a7d (fun a=>qbl a.1 a.2.1)
def e5e {R:Type}:Nat→Sm R:=cl 154 e2b (cl 155 e1y c0)
abbrev c85:=y7 [] [] [1,2,4,6] [2,4] [] (Zs 1 Zi (Zp 2 2 (Zp 4 4 (Zs 6 Zi (Zx 2 f7 (Zx 4 f7 Zz)))))) a3u (.xs 0 [2,4] [2,4] [] (Zp 2 2 (Zp 4 4 (Zx 2 f7 (Zx 4 f7 Zz)))) (.r [5] [4] [4] (Zp 4 4 (Zs 5 Zi (Zx 4 f7 Zz)))))
def c18 {R:Type}:Lp Kd El R:=lp 2 c85.sem l0
abbrev e2c {R:Type}:Sm R:=m6 a7z a7d (fun a=>qdn a.1 a.2.1)
abbrev g5q {R:Type}:Sm R:=m6 b4o a7d (fun a=>qeq a.1 a.2.1 a.2.2.1)
abbrev g5x {R:Type}:Sm R:=m6 b83 f4j (fun a=>qex a.1 a.2.1)
abbrev g32 {R:Type}:Sm R:=m6 c62 z7 (fun a=>qbk a.1 a.2.1 a.2.2.1)
def e5d {R:Type}:Nat→Sm R:=cl 299 e2m c0
abbrev c84:=y7 [] [] [2,3,7,8] [3] [] (Zs 2 Zi (Zp 3 3 (Zs 7 Zi (Zs 8 Zi (Zx 3 n8 Zz))))) b2u (.x 0 [7] [] [] (Zs 7 Zi Zz))
def c17 {R:Type}:Lp Kd El R:=lp 3 c84.sem l0
abbrev g5y {R:Type}:Sm R:=m6 e98 z7 (fun a=>qey a.1 a.2.1 a.2.2.1 a.2.2.2.1)
abbrev g3y {R:Type}:Sm R:=m6 e9z c97 (fun a=>qbg a.1 a.2.1 a.2.2.1 a.2.2.2.1)
def e49 {R:Type}:Nat→Sm R:=c0
abbrev c80:=y7 [(10,10,Kd.kCharge)] [] [0,1,2,3,10,11,12] [] [10] (Zs 0 x0s (Zs 1 Zi (Zs 2 Zi (Zs 3 Zi (FC.arr 10 10 (Zs 11 Zi (Zs 12 Zi (FC.own 10 Kd.kCharge false Zz)))))))) b54 (.x 0 [10,11] [] [10] (FC.arr 10 10 (Zs 11 Zi (FC.own 10 Kd.kCharge false Zz))))
def c12 {R:Type}:Lp Kd El R:=lp 4 c80.sem l0
abbrev g5n {R:Type}:Sm R:=m6 b4o a7d (fun a=>qen a.1 a.2.1 a.2.2.1)
abbrev g5w {R:Type}:Sm R:=m6 b4o e0i (fun a=>qew a.1 a.2.1 a.2.2.1)
abbrev e2j {R:Type}:Sm R:=m6 e93 a7d (fun a=>qee a.1 a.2.1 a.2.2.1)
abbrev g3x {R:Type}:Sm R:=m6 d30 a7d (fun a=>qbf a.1 a.2.1 a.2.2.1)
def e48 {R:Type}:Nat→Sm R:=cl 13 f4t (cl 36 c6o (cl 39 c6i (cl 43 e2c (cl 44 e2j c0))))
abbrev c8z:=y7 [] [] [1,3,6,8,9] [3,6] [] (Zs 1 Zi (Zp 3 3 (Zp 6 6 (Zs 8 (Zl .kProblem) (Zs 9 Zi (Zx 3 f7 (Zx 6 f7 Zz))))))) b53 x0t
def c1z {R:Type}:Lp Kd El R:=lp 5 c8z.sem l0
abbrev g7i:ZC (Circ×Circ×Unit):=Zc x0p (Zc x0p Zn)
abbrev f4w {R:Type}:Sm R:=m6 g7i u5 (fun a=>qr a.1 a.2.1)
def f5y {R:Type}:Nat→Sm R:=c0
abbrev d8m:=y7 [] [] [2,3,5,6] [2,3] [] (Zp 2 2 (Zp 3 3 (Zs 5 Zi (Zs 6 Zi x0d)))) a4h (.xs 2 [2,3,5] [2,3] [] x1a x0h)
abbrev d8l:=y7 [] [] [2,3,5] [2,3] [] x1a b0b (.xs 0 [] [] [] Zz x0h)
def b76 {R:Type}:Lp Kd El R:=lp 2 d8l.sem (lp 7 d8m.sem l0)
abbrev h1t {R:Type}:Sm R:=m6 g7i u5 (fun a=>qd a.1 a.2.1)
def f5n {R:Type}:Nat→Sm R:=cl 45 f4w c0
abbrev d76:=y7 [] [] [2,3,5] [2,3] [] x1a c5n (.xs 0 [2,3] [2,3] [] x0u x0h)
abbrev c89:=y7 [] [] [2,3,6] [2,3] [] (Zp 2 2 (Zp 3 3 (Zs 6 Zi x0d))) b2x (.xs 2 [2,3] [2,3] [] x0u x0h)
abbrev c9a:=y7 [] [] [2,3,7] [2,3] [] (Zp 2 2 (Zp 3 3 (Zs 7 Zi x0d))) b2y (.xs 4 [2,3] [2,3] [] x0u x0h)
abbrev c9b:=y7 [] [] [2,3,8] [2,3] [] (Zp 2 2 (Zp 3 3 (Zs 8 Zi x0d))) b2z (.xs 6 [2,3] [2,3] [] x0u x0h)
abbrev c9c:=y7 [] [] [2,3,9] [2,3] [] (Zp 2 2 (Zp 3 3 (Zs 9 Zi x0d))) b22 (.xs 8 [2,3] [2,3] [] x0u x0h)
abbrev c9d:=y7 [] [] [2,3,10] [2,3] [] (Zp 2 2 (Zp 3 3 (Zs 10 Zi x0d))) b23 (.xs 10 [2,3] [2,3] [] x0u x0h)
abbrev c9e:=y7 [] [] [2,3,11] [2,3] [] (Zp 2 2 (Zp 3 3 (Zs 11 Zi x0d))) b25 (.xs 12 [2,3] [2,3] [] x0u x0h)
def a4m {R:Type}:Lp Kd El R:=lp 36 c9e.sem (lp 31 c9d.sem (lp 26 c9c.sem (lp 21 c9b.sem (lp 16 c9a.sem (lp 11 c89.sem (lp 6 d76.sem l0))))))
abbrev e97:ZC (Circ×Int×(List Int)×Unit):=d30
abbrev h1c:ZD (Bool):=u5
def f2u (a:Circ×Int×(List Int)×Unit):Option (Bool):=qcz a.1 a.2.1 a.2.2.1
abbrev g4r {R:Type}:Sm R:=m6 e97 h1c f2u
abbrev d4a:ZC (Int×Unit):=a1n
abbrev f4g:ZD ((List UInt8)):=e0h
def f2x (a:Int×Unit):Option ((List UInt8)):=qd7 a.1
abbrev g4x {R:Type}:Sm R:=m6 d4a f4g f2x
abbrev d39:ZC ((List Item)×Int×(List Item)×Unit):=Zc x06 (Zc Zi (Zc x06 Zn))
abbrev f4f:ZD ((List Item)):=f4i
def f2w (a:(List Item)×Int×(List Item)×Unit):Option ((List Item)):=qd5 a.1 a.2.1 a.2.2.1
abbrev g4v {R:Type}:Sm R:=m6 d39 f4f f2w
abbrev d4d:ZC ((List UInt8)×Unit):=c61
abbrev f4k:ZD (Bool):=u5
def f22 (a:(List UInt8)×Unit):Option (Bool):=qec a.1
abbrev g5e {R:Type}:Sm R:=m6 d4d f4k f22
abbrev d38:ZC ((List Loan)×Int×(List Loan)×Unit):=Zc x0y (Zc Zi (Zc x0y Zn))
abbrev f4e:ZD ((List Loan)):=d0b
def f2v (a:(List Loan)×Int×(List Loan)×Unit):Option ((List Loan)):=qd4 a.1 a.2.1 a.2.2.1
abbrev g4u {R:Type}:Sm R:=m6 d38 f4e f2v
abbrev d4e:ZC ((List UInt8)×Unit):=c61
abbrev f4l:ZD ((List UInt8)):=e0h
def f25 (a:(List UInt8)×Unit):Option ((List UInt8)):=qed a.1
abbrev g5f {R:Type}:Sm R:=m6 d4e f4l f25
abbrev d4c:ZC ((List Patron)×Int×(List Patron)×Unit):=Zc x01 (Zc Zi (Zc x01 Zn))
abbrev e0j:ZD ((List Patron)):=x01
def f2z (a:(List Patron)×Int×(List Patron)×Unit):Option ((List Patron)):=qdp a.1 a.2.1 a.2.2.1
abbrev g44 {R:Type}:Sm R:=m6 d4c e0j f2z
abbrev g7b:ZC ((List Patron)×Unit):=e9s
abbrev h1f:ZD ((List Patron)):=e0j
def g87 (a:(List Patron)×Unit):Option ((List Patron)):=qdq a.1
abbrev e2e {R:Type}:Sm R:=m6 g7b h1f g87
end
section
set_option maxRecDepth 100000
open Go
theorem g7t:∀k,j9 (ccK k)
 |.kItem=>b9q
 |.kPatron=>b03
 |.kLoan=>b9r
 |.kHold=>b9p
 |.kCharge=>b02
 |.kRule=>b9v
 |.ki64=>j9.one (f8.int _)
 |.kMove=>b9u
 |.kMapI=>b9s
 |.kProblem=>a9l
 |.kstr=>j9.one f8.str
 |.kMapS=>b9t
 |.kbool=>j9.one f8.bool
 |.ku64=>j9.one (f8.int _)
 |.ku8=>j9.one (f8.int _)
 |.kUtf8_acceptRange=>a3k
 |.ku16=>j9.one (f8.int _)
theorem h4l:SgOk sg:=g50 (cc:=ccK) (fun _=>rfl) (fun _=>rfl) g7t (by intro k x;cases k<;>rfl) (by intro k x;cases k<;>rfl) (by intro k;cases k<;>decide)
theorem eok:∀t,g8j t=true→EqOk Tryz.prog t:=a3x kr (a3x kr (a3x kr (a3x kr (a3x kr (a3x kr (a3x kr (a3x kr (a3x kr (g0f)))))))))
theorem mok:∀t M,g9r t=some M→e3c Tryz.prog sg t M:=c90 (e8n (kt:=3) (et:=9) kr kr kr (fun _ _=>rfl) (fun _ _=>rfl) (fun _=>rfl)) (c90 (e8m (kt:=3) (et:=3) kr kr kr (fun _ _=>rfl) (fun _ _=>rfl) (fun _=>rfl)) (g2b))
theorem good:GoodP Tryz.prog sg:=⟨h4k kr kr,h4l,eok,mok⟩
end
end Go.Proofs.YteaknldbhmocpaaGreatDoor
namespace Go.Proofs.YteaknldbhmocpaaGreatDoor.Ev
open Go
section
variable {P:Program} {w:World}
theorem a0e {dT sT ty elem:TypeId} {i0:TypeInfo} {g o dLen dCap sLen sCap z:Nat} {a:Addr} {L cs:List Value} {t:TypeId} (hu:P.underlying dT=some (.slice elem)) (hi:P.info? elem=some i0) (hz:i0.size=z)
 (hg:w.heap[g]?=some (.cells L.toArray t (0,0))) (hn:cs.length=Nat.min sLen dLen*z) (hsrc:∀j v,cs[j]?=some v→w.cell? (a.add j)=some v) (hfit:o+cs.length≤L.length) (h1:∀v∈cs,v.oneCell'=true) :
 (Builtin.copy_ #[dT,sT] ty #[.slice (some ⟨g,o,none⟩) dLen dCap,.slice (some a) sLen sCap]).run P w=.ok (goInt (Nat.min sLen dLen)) (w.setRow g (Go.splice L o cs).toArray):=by
 have hl:=run_firstCells_some (P:=P) w z (Nat.min sLen dLen) a sLen sCap cs hn hsrc;have hst:=run_storeCells_at P g o t cs 0 L.toArray w hg (by simpa using hfit) h1;simp only[ybe]at hst;subst hz;simp[Builtin.copy_,run_underlying hu,Builtin.lenOf,sizeOf,typeInfo,hi,hl,hst,Go.splice]
theorem b3w {ops:Array Oper} {rest:List Oper} {o:Oper} {a:Act} {Q:Exit→Act→World→Prop} (hgd:o.guard=none) (d s:Operand) (t t':TypeId)
 (ho:o.op=.call {callee:=.builtin .copy,args:=#[d,s],argTypes:=#[t,t']}) (v u:Value) (hd:a.eval d=v) (hs:a.eval s=u) {v':Value} {w':World}
 (hr:(Builtin.copy_ #[t,t'] o.type #[v,u]).run P w=.ok v' w') (h:wpList P ops Q rest (a.put o.dst v') w'):wpList P ops Q (o::rest) a w:=
 wpList_plain hgd fun _ hK=>by
  unfold Oper.wp execOp;simp only[ho,resolve,invoke,builtin,Sem.run_bind,Sem.run_pure,Result.andThen_ok,List.map_toArray,ybo,ybY,hd,hs,hr];exact hK _ _ h
theorem a3b {ops:Array Oper} {o:Oper} {a:Act} {K:Act→World→Prop} {Q:Exit→Act→World→Prop} {E:Prop}
 (hg:o.guard=none) (d x:Operand) (dT sT:TypeId) (hop:o.op=Op.call {callee:=Callee.builtin Builtin.copy,args:=#[d,x],argTypes:=#[dT,sT]})
 (v u:Value) (hd:a.eval d=v) (hx:a.eval x=u) {v':Value} {w':World} (hr:(Builtin.copy_ #[dT,sT] o.type #[v,u]).run P w=.ok v' w') (hK:K (a.put o.dst v') w') :
 if Region.wanted o (yielded ops a.tmps)=true then Oper.wp P o a w K Q else E:=by
 have hw:Region.wanted o (yielded ops a.tmps)=true:=by simp[Region.wanted,hg]
 rw[yaJ hw];unfold Oper.wp;simp[execOp,hop,resolve,invoke,builtin,hd,hx,hr,Result.andThen];exact hK
theorem d3j {ops:Array Oper} {o:Oper} {a:Act} {K:Act→World→Prop} {Q:Exit→Act→World→Prop} {E:Prop}
 (hg:o.guard=none) (d x:Operand) (dT sT:TypeId) (hop:o.op=Op.call {callee:=Callee.builtin Builtin.append,args:=#[d,x],argTypes:=#[dT,sT]})
 (v u:Value) (hd:a.eval d=v) (hx:a.eval x=u) {v':Value} {w':World} (hr:(Builtin.append_ #[dT,sT] o.type #[v,u]).run P w=.ok v' w') (hK:K (a.put o.dst v') w') :
 if Region.wanted o (yielded ops a.tmps)=true then Oper.wp P o a w K Q else E:=by
 have hw:Region.wanted o (yielded ops a.tmps)=true:=by simp[Region.wanted,hg]
 rw[yaJ hw];unfold Oper.wp;simp[execOp,hop,resolve,invoke,builtin,hd,hx,hr,Result.andThen];exact hK
theorem a0f {ops:Array Oper} {rest:List Oper} {o:Oper} {a:Act} {Q:Exit→Act→World→Prop} (hgd:o.guard=none) (s x:Operand) (t tn:TypeId)
 (ho:o.op=.call {callee:=.builtin .append,args:=#[s,x],argTypes:=#[t,tn]}) (vs vx:Value) (hs:a.eval s=vs) (hx:a.eval x=vx)
 {v':Value} {w':World} (hr:(Builtin.append_ #[t,tn] o.type #[vs,vx]).run P w=.ok v' w') (h:wpList P ops Q rest (a.put o.dst v') w'):wpList P ops Q (o::rest) a w:=
 Lib.wpList_append_run w hgd s x t tn ho vs vx hs hx v' w' hr h
theorem c6a {t e ty:TypeId} {i0:TypeInfo} {z0:Value} {b o n c:Nat} {L:List Value} {tt:TypeId} (ht:P.underlying t=some (.slice e)) (hi:P.info? e=some i0) (hz:i0.zero=some z0)
 (hn:0<n) (hb:w.heap[b]?=some (.cells L.toArray tt (0,0))) (hfit:o+n*z0.cells.size≤L.length) (h1:∀v∈z0.cells,v.oneCell'=true) :
 (Builtin.clear_ #[t] ty #[.slice (some ⟨b,o,none⟩) n c]).run P w=.ok (.tuple #[]) (w.setRow b (Go.splice L o (Builtin.zeroCells z0.cells n).toList).toArray):=by
 have hl:(Builtin.zeroCells z0.cells n).toList.length=n*z0.cells.size:=by rw[ya4,Go.size_zeroCells]
 have hst:=run_storeCells_at P b o tt (Builtin.zeroCells z0.cells n).toList 0 L.toArray w hb (by rw[hl];simpa using hfit) (fun v hv=>by
  simp only[Builtin.zeroCells,Array.toList_map,ybd,Array.toList_range,ybS]at hv;obtain ⟨q,hq,rfl⟩:=hv;have hp:0<z0.cells.size:=Nat.pos_of_ne_zero (fun h=>by rw[h]at hq;omega);rw[getElem!_pos z0.cells _ (Nat.mod_lt _ hp)];exact h1 _ (Array.getElem_mem _))
 simp only[ybe]at hst;obtain ⟨m,rfl⟩:∃m,n=m+1:=⟨n-1,by omega⟩
 simp only[ybl]at hst;simp[Builtin.clear_,run_underlying ht,sizeOf,typeInfo,zeroValue,hi,hz,hst,Go.splice]
theorem a3p {tS tR e:TypeId} {i0:TypeInfo} (ht:P.underlying tS=some (.slice e)) (hi:P.info? e=some i0) {a b:Addr} {la ca lb cb:Nat} (hne:a.block≠b.block)
 {va vb:Array Value} {ta tb:TypeId} {fa:Nat×Nat} (ha:w.heap[a.block]?=some (.cells va ta fa)) (ha0:0<va.size) (hb:w.heap[b.block]?=some (.cells vb tb (0,0))) (hb0:0<vb.size) :
 (Extern.SlicesOverlaps.overlaps #[tS,tS] #[tR] #[.slice (some a) la ca,.slice (some b) lb cb]).run P w=.ok (.bool false) w:=by
 have hnb:(a.block != b.block)=true:=by simpa using hne
 have hnb':(a.block==b.block)=false:=by simpa using hne
 have hsa:w.shape? a.block=some (ta,va.size):=by simp[World.shape?,ha]
 have hsb:w.shape? b.block=some (tb,vb.size):=by simp[World.shape?,hb]
 have hfb:w.frozen? b=false:=by simp[World.frozen?,hb]
 have hfb':w.frozen? {block:=b.block,off:=vb.size}=false:=by simp[World.frozen?,hb]
 change Sem.run P (α:=Value) (do
  let some t:=(#[tS,tS]:Array TypeId)[0]?|stuck "slices.overlaps: no parameter types"
  let .slice elem ←underlying t|stuck "slices.overlaps: slice type expected"
  let size ←sizeOf elem
  match (some a:Option Addr),(some b:Option Addr) with
  |some a,some b=>
   if la=0∨lb=0∨size=0 then pure (Value.bool false)
   else if a.block != b.block&&(←frozen a)&&(←frozen b) then unsupported .addressObserved
   else do
    if a.block != b.block then do
     noView a;noView b
     if ←mayBeOne a b then return Value.bool ((←choose (.extern "sameAddr.stringBytes" 2))==1)
    pure (Value.bool (a.block==b.block&&a.off<b.off+lb*size&&b.off<a.off+la*size))
  |_,_=>pure (Value.bool false)) w=_
 have hz:(Go.sizeOf e).run P w=.ok i0.size w:=by simp[sizeOf,typeInfo,hi]
 by_cases h0:la=0∨lb=0∨i0.size=0
 ·simp[run_underlying ht,hz,h0]
 ·obtain ⟨ka,hka⟩:∃k,va.size=k+1:=⟨va.size-1,by omega⟩
  obtain ⟨kb,hkb⟩:∃k,vb.size=k+1:=⟨vb.size-1,by omega⟩
  rw[hka]at hsa;rw[hkb]at hsb hfb';by_cases hfa:w.frozen? a=true
  ·simp[run_underlying ht,hz,h0,hnb,hnb',frozen,noView,viewAt,mayBeOne,stringish,shape,Sem.run,hsa,hsb,hfa,hfb,hfb']
  ·have hfa:w.frozen? a=false:=by simpa using hfa
   by_cases hfe:w.frozen? {block:=a.block,off:=ka+1}=true
   ·simp[run_underlying ht,hz,h0,hnb,hnb',frozen,noView,viewAt,mayBeOne,stringish,shape,Sem.run,hsa,hsb,hfa,hfb,hfb',hfe]
   ·have hfe:w.frozen? {block:=a.block,off:=ka+1}=false:=by simpa using hfe
    simp[run_underlying ht,hz,h0,hnb,hnb',frozen,noView,viewAt,mayBeOne,stringish,shape,Sem.run,hsa,hsb,hfa,hfb,hfb',hfe]
end
end Go.Proofs.YteaknldbhmocpaaGreatDoor.Ev
