/- InventoryKeeps: a part of the proof of the given statement, which is proved without conditions. -/
import Derived.Test.YteaknldbhmocpaaGreatDoorR3
import Derived.Sort.Defs
import Derived.Lib.Small
import Derived.Lib.BitFns
import Derived.Lib.DecodeN
import Derived.Lib.SlicesCompact
import Derived.KernelRfl
import Derived.Test.YteaknldbhmocpaaGreatDoorProg
import Derived.Shelf.RegionOpenPlain
import Derived.WalkKit
import Derived.Lib.Walk
import Derived.Lib.AppendZerosOnto
import Derived.Lib.AppendZeros
import Derived.Laws.Externs
import Derived.Laws.CopyOwn
import Derived.Deep.RegionLaw
set_option linter.all false
namespace Go.Proofs.YteaknldbhmocpaaGreatDoor.Ev
open Go
def b2d {α:Type} (s:List α) (i:Int) (v:List α):Option (List α):=
 match v with
 | [y]=>bif decide (0≤i)&&decide (i≤(s.length:Int))&&decide (s.length+1≤1073741824) then some (s.take i.toNat++y::s.drop i.toNat) else none
 |_=>none
def b1v {α:Type} (s:List α) (i j:Int):Option (List α):=
 bif decide (0≤i)&&decide (i≤j)&&decide (j≤(s.length:Int))&&decide (s.length≤1073741824) then some (s.take i.toNat++s.drop j.toNat) else none
def dcd:List UInt8→Nat×Nat
 | []=>(0,0)
 |a::r=>
  if 32≤a.toNat∧a.toNat<127 then (a.toNat,1)
  else if 194≤a.toNat∧a.toNat<224 then
   (match r with
   |b::_=>if (128≤b.toNat∧b.toNat<192)∧160≤(a.toNat-192)*64+b.toNat-128 then ((a.toNat-192)*64+b.toNat-128,2) else (0,0)
   | []=>(0,0))
  else if 224≤a.toNat∧a.toNat<240 then
   (match r with
   |b::c::_=>
    if ((128≤b.toNat∧b.toNat<192)∧(128≤c.toNat∧c.toNat<192))∧2048≤(a.toNat-224)*4096+(b.toNat-128)*64+c.toNat-128∧
     ((a.toNat-224)*4096+(b.toNat-128)*64+c.toNat-128<55296∨57343<(a.toNat-224)*4096+(b.toNat-128)*64+c.toNat-128) then
     ((a.toNat-224)*4096+(b.toNat-128)*64+c.toNat-128,3) else (0,0)
   |_=>(0,0))
  else (0,0)
def d3s:Nat→List UInt8→Bool
 |0,_=>true
 |n+1,l=>if l=[] then true else if (dcd l).2=0 then false else d3s n (l.drop (dcd l).2)
def vld (s:List UInt8):Bool:=d3s s.length s
def wid (l:List UInt8):Nat:=if (dcd l).2<1 then 1 else (dcd l).2
def blk (c:Nat):Bool:=c==32||c==160
def b8v:Nat→List UInt8→List UInt8→Bool→List UInt8
 |0,_,out,_=>out
 |n+1,l,out,gap=>if l=[] then out else
  if blk (dcd l).1 then b8v n (l.drop (wid l)) out true
  else b8v n (l.drop (wid l)) ((if gap&&!(out==[]) then out++[32] else out)++l.take (wid l)) false
def cln (s:List UInt8):List UInt8:=b8v s.length s [] false
end Go.Proofs.YteaknldbhmocpaaGreatDoor.Ev
namespace Go.Proofs.YteaknldbhmocpaaGreatDoor
open Ev
open Go (IntKind)
section
set_option maxRecDepth 100000
structure V4 (α:Type) where
 x0:α
 x1:α
 x2:α
 x3:α
structure V7 (α:Type) where
 x0:α
 x1:α
 x2:α
 x3:α
 x4:α
 x5:α
 x6:α
structure Custody where
 State:Int
 Branch:Int
 Who:Int
 To:Int
structure Item where
 ID:Int
 Record:Int
 Branch:Int
 Kind:Int
 Price:Int
 Call:List UInt8
 Custody:Custody
structure Patron where
 ID:Int
 Kind:Int
 Branch:Int
 Until:Int
 Stopped:Bool
 Name:List UInt8
structure Loan where
 Item:Int
 Patron:Int
 Out:Int
 Due:Int
 Renewals:Int
 Recalled:Bool
structure Hold where
 ID:Int
 Patron:Int
 Record:Int
 Item:Int
 Pickup:Int
 Placed:Int
 State:Int
 Got:Int
 Until:Int
 Asleep:Int
 Rank:Int
structure Charge where
 ID:Int
 Patron:Int
 Item:Int
 Day:Int
 Kind:Int
 Amount:Int
 Paid:Int
structure Rule where
 Patron:Int
 Item:Int
 Branch:Int
 Days:Int
 Renewals:Int
 Fine:Int
 Grace:Int
 MaxFine:Int
 Loans:Int
 Shelf:Int
 Recall:Int
 Fixed:Int
 Rank:Int
structure Calendar where
 Week:Int
 Closed:List Int
structure Move where
 Day:Int
 Item:Int
 Kind:Int
 Branch:Int
 Who:Int
structure Circ where
 Today:Int
 Items:List Item
 Patrons:List Patron
 Loans:List Loan
 Holds:List Hold
 Charges:List Charge
 Rules:List Rule
 Cals:V4 Calendar
 Moves:List Move
 NextHold:Int
 NextCharge:Int
 Local:Bool
structure MapI where
 key:Int
 val:Int
structure Problem where
 Kind:Int
 Index:Int
 Tag:List UInt8
 Code:Int
structure Circ_desk where
 c:Circ
 err:Int
structure MapS where
 key:Int
 val:List UInt8
structure Utf8_acceptRange where
 lo:Int
 hi:Int
inductive Kd where
 |kItem
 |kPatron
 |kLoan
 |kHold
 |kCharge
 |kRule
 |ki64
 |kMove
 |kMapI
 |kProblem
 |kstr
 |kMapS
 |kbool
 |ku64
 |ku8
 |kUtf8_acceptRange
 |ku16
abbrev El:Kd→Type
 |.kItem=>Item
 |.kPatron=>Patron
 |.kLoan=>Loan
 |.kHold=>Hold
 |.kCharge=>Charge
 |.kRule=>Rule
 |.ki64=>Int
 |.kMove=>Move
 |.kMapI=>MapI
 |.kProblem=>Problem
 |.kstr=>List UInt8
 |.kMapS=>MapS
 |.kbool=>Bool
 |.ku64=>Int
 |.ku8=>Int
 |.kUtf8_acceptRange=>Utf8_acceptRange
 |.ku16=>Int
abbrev DD:=D Kd El
abbrev Sm (R:Type):=a3a Kd El R
abbrev a0m {α β:Type} (ta:List (Nat×Nat×Kd)) (se ss bs az:List Nat) (fc:FC Kd El α) [FCC fc] (step:α→Option (α⊕β)) (oc:OC Kd El β):LD Kd El α β:=⟨ta,se,ss,bs,az,fc,step,oc⟩
instance:KdEq Kd where
 dec:=fun a b=>match a,b with
  |.kItem,.kItem=>some ⟨rfl⟩
  |.kPatron,.kPatron=>some ⟨rfl⟩
  |.kLoan,.kLoan=>some ⟨rfl⟩
  |.kHold,.kHold=>some ⟨rfl⟩
  |.kCharge,.kCharge=>some ⟨rfl⟩
  |.kRule,.kRule=>some ⟨rfl⟩
  |.ki64,.ki64=>some ⟨rfl⟩
  |.kMove,.kMove=>some ⟨rfl⟩
  |.kMapI,.kMapI=>some ⟨rfl⟩
  |.kProblem,.kProblem=>some ⟨rfl⟩
  |.kstr,.kstr=>some ⟨rfl⟩
  |.kMapS,.kMapS=>some ⟨rfl⟩
  |.kbool,.kbool=>some ⟨rfl⟩
  |.ku64,.ku64=>some ⟨rfl⟩
  |.ku8,.ku8=>some ⟨rfl⟩
  |.kUtf8_acceptRange,.kUtf8_acceptRange=>some ⟨rfl⟩
  |.ku16,.ku16=>some ⟨rfl⟩
  |_,_=>none
abbrev wr (k:IntKind) (n:Int):Int:=IntKind.wrap k n
def c4r (x:Custody):List DD:=[.int .i64 x.State,.int .i64 x.Branch,.int .i64 x.Who,.int .i64 x.To]
def u0:CC Kd El Custody:=(CC.cons (Cod.int .i64) (CC.cons (Cod.int .i64) (CC.cons (Cod.int .i64) (CC.cons (Cod.int .i64) CC.nil)))).iso c4r (fun p=>⟨p.1,p.2.1,p.2.2.1,p.2.2.2.1⟩)
def e6b (x:Item):List DD:=[.int .i64 x.ID,.int .i64 x.Record,.int .i64 x.Branch,.int .i64 x.Kind,.int .i64 x.Price,.str x.Call,.int .i64 x.Custody.State,.int .i64 x.Custody.Branch,.int .i64 x.Custody.Who,.int .i64 x.Custody.To]
def a3c:CC Kd El Item:=(CC.cons (Cod.int .i64) (CC.cons (Cod.int .i64) (CC.cons (Cod.int .i64) (CC.cons (Cod.int .i64) (CC.cons (Cod.int .i64) (CC.cons Cod.str (CC.cons (Cod.int .i64) (CC.cons (Cod.int .i64) (CC.cons (Cod.int .i64) (CC.cons (Cod.int .i64) CC.nil)))))))))).iso e6b (fun p=>⟨p.1,p.2.1,p.2.2.1,p.2.2.2.1,p.2.2.2.2.1,p.2.2.2.2.2.1,⟨p.2.2.2.2.2.2.1,p.2.2.2.2.2.2.2.1,p.2.2.2.2.2.2.2.2.1,p.2.2.2.2.2.2.2.2.2.1⟩⟩)
def d1i (x:Patron):List DD:=[.int .i64 x.ID,.int .i64 x.Kind,.int .i64 x.Branch,.int .i64 x.Until,.bool x.Stopped,.str x.Name]
def a4k:CC Kd El Patron:=(CC.cons (Cod.int .i64) (CC.cons (Cod.int .i64) (CC.cons (Cod.int .i64) (CC.cons (Cod.int .i64) (CC.cons Cod.bool (CC.cons Cod.str CC.nil)))))).iso d1i (fun p=>⟨p.1,p.2.1,p.2.2.1,p.2.2.2.1,p.2.2.2.2.1,p.2.2.2.2.2.1⟩)
def e6c (x:Loan):List DD:=[.int .i64 x.Item,.int .i64 x.Patron,.int .i64 x.Out,.int .i64 x.Due,.int .i64 x.Renewals,.bool x.Recalled]
def a6a:CC Kd El Loan:=(CC.cons (Cod.int .i64) (CC.cons (Cod.int .i64) (CC.cons (Cod.int .i64) (CC.cons (Cod.int .i64) (CC.cons (Cod.int .i64) (CC.cons Cod.bool CC.nil)))))).iso e6c (fun p=>⟨p.1,p.2.1,p.2.2.1,p.2.2.2.1,p.2.2.2.2.1,p.2.2.2.2.2.1⟩)
def e6a (x:Hold):List DD:=[.int .i64 x.ID,.int .i64 x.Patron,.int .i64 x.Record,.int .i64 x.Item,.int .i64 x.Pickup,.int .i64 x.Placed,.int .i64 x.State,.int .i64 x.Got,.int .i64 x.Until,.int .i64 x.Asleep,.int .i64 x.Rank]
def a2d:CC Kd El Hold:=(CC.cons (Cod.int .i64) (CC.cons (Cod.int .i64) (CC.cons (Cod.int .i64) (CC.cons (Cod.int .i64) (CC.cons (Cod.int .i64) (CC.cons (Cod.int .i64) (CC.cons (Cod.int .i64) (CC.cons (Cod.int .i64) (CC.cons (Cod.int .i64) (CC.cons (Cod.int .i64) (CC.cons (Cod.int .i64) CC.nil))))))))))).iso e6a (fun p=>⟨p.1,p.2.1,p.2.2.1,p.2.2.2.1,p.2.2.2.2.1,p.2.2.2.2.2.1,p.2.2.2.2.2.2.1,p.2.2.2.2.2.2.2.1,p.2.2.2.2.2.2.2.2.1,p.2.2.2.2.2.2.2.2.2.1,p.2.2.2.2.2.2.2.2.2.2.1⟩)
def d1h (x:Charge):List DD:=[.int .i64 x.ID,.int .i64 x.Patron,.int .i64 x.Item,.int .i64 x.Day,.int .i64 x.Kind,.int .i64 x.Amount,.int .i64 x.Paid]
def a4j:CC Kd El Charge:=(CC.cons (Cod.int .i64) (CC.cons (Cod.int .i64) (CC.cons (Cod.int .i64) (CC.cons (Cod.int .i64) (CC.cons (Cod.int .i64) (CC.cons (Cod.int .i64) (CC.cons (Cod.int .i64) CC.nil))))))).iso d1h (fun p=>⟨p.1,p.2.1,p.2.2.1,p.2.2.2.1,p.2.2.2.2.1,p.2.2.2.2.2.1,p.2.2.2.2.2.2.1⟩)
def e6g (x:Rule):List DD:=[.int .i64 x.Patron,.int .i64 x.Item,.int .i64 x.Branch,.int .i64 x.Days,.int .i64 x.Renewals,.int .i64 x.Fine,.int .i64 x.Grace,.int .i64 x.MaxFine,.int .i64 x.Loans,.int .i64 x.Shelf,.int .i64 x.Recall,.int .i64 x.Fixed,.int .i64 x.Rank]
def a3v:CC Kd El Rule:=(CC.cons (Cod.int .i64) (CC.cons (Cod.int .i64) (CC.cons (Cod.int .i64) (CC.cons (Cod.int .i64) (CC.cons (Cod.int .i64) (CC.cons (Cod.int .i64) (CC.cons (Cod.int .i64) (CC.cons (Cod.int .i64) (CC.cons (Cod.int .i64) (CC.cons (Cod.int .i64) (CC.cons (Cod.int .i64) (CC.cons (Cod.int .i64) (CC.cons (Cod.int .i64) CC.nil))))))))))))).iso e6g (fun p=>⟨p.1,p.2.1,p.2.2.1,p.2.2.2.1,p.2.2.2.2.1,p.2.2.2.2.2.1,p.2.2.2.2.2.2.1,p.2.2.2.2.2.2.2.1,p.2.2.2.2.2.2.2.2.1,p.2.2.2.2.2.2.2.2.2.1,p.2.2.2.2.2.2.2.2.2.2.1,p.2.2.2.2.2.2.2.2.2.2.2.1,p.2.2.2.2.2.2.2.2.2.2.2.2.1⟩)
def c0e (x:Calendar):List DD:=[.int .i64 x.Week,.lst .ki64 x.Closed]
def s8:CC Kd El Calendar:=(CC.cons (Cod.int .i64) (CC.cons (Cod.lst Kd.ki64) CC.nil)).iso c0e (fun p=>⟨p.1,p.2.1⟩)
def e6f (x:Move):List DD:=[.int .i64 x.Day,.int .i64 x.Item,.int .i64 x.Kind,.int .i64 x.Branch,.int .i64 x.Who]
def a82:CC Kd El Move:=(CC.cons (Cod.int .i64) (CC.cons (Cod.int .i64) (CC.cons (Cod.int .i64) (CC.cons (Cod.int .i64) (CC.cons (Cod.int .i64) CC.nil))))).iso e6f (fun p=>⟨p.1,p.2.1,p.2.2.1,p.2.2.2.1,p.2.2.2.2.1⟩)
def e59 (x:Circ):List DD:=[.int .i64 x.Today,.lst .kItem x.Items,.lst .kPatron x.Patrons,.lst .kLoan x.Loans,.lst .kHold x.Holds,.lst .kCharge x.Charges,.lst .kRule x.Rules,.int .i64 x.Cals.x0.Week,.lst .ki64 x.Cals.x0.Closed,.int .i64 x.Cals.x1.Week,.lst .ki64 x.Cals.x1.Closed,.int .i64 x.Cals.x2.Week,.lst .ki64 x.Cals.x2.Closed,.int .i64 x.Cals.x3.Week,.lst .ki64 x.Cals.x3.Closed,.lst .kMove x.Moves,.int .i64 x.NextHold,.int .i64 x.NextCharge,.bool x.Local]
def j7:CC Kd El Circ:=(CC.cons (Cod.int .i64) (CC.cons (Cod.lst Kd.kItem) (CC.cons (Cod.lst Kd.kPatron) (CC.cons (Cod.lst Kd.kLoan) (CC.cons (Cod.lst Kd.kHold) (CC.cons (Cod.lst Kd.kCharge) (CC.cons (Cod.lst Kd.kRule) (CC.cons (Cod.int .i64) (CC.cons (Cod.lst Kd.ki64) (CC.cons (Cod.int .i64) (CC.cons (Cod.lst Kd.ki64) (CC.cons (Cod.int .i64) (CC.cons (Cod.lst Kd.ki64) (CC.cons (Cod.int .i64) (CC.cons (Cod.lst Kd.ki64) (CC.cons (Cod.lst Kd.kMove) (CC.cons (Cod.int .i64) (CC.cons (Cod.int .i64) (CC.cons Cod.bool CC.nil))))))))))))))))))).iso e59 (fun p=>⟨p.1,p.2.1,p.2.2.1,p.2.2.2.1,p.2.2.2.2.1,p.2.2.2.2.2.1,p.2.2.2.2.2.2.1,⟨⟨p.2.2.2.2.2.2.2.1,p.2.2.2.2.2.2.2.2.1⟩,⟨p.2.2.2.2.2.2.2.2.2.1,p.2.2.2.2.2.2.2.2.2.2.1⟩,⟨p.2.2.2.2.2.2.2.2.2.2.2.1,p.2.2.2.2.2.2.2.2.2.2.2.2.1⟩,⟨p.2.2.2.2.2.2.2.2.2.2.2.2.2.1,p.2.2.2.2.2.2.2.2.2.2.2.2.2.2.1⟩⟩,p.2.2.2.2.2.2.2.2.2.2.2.2.2.2.2.1,p.2.2.2.2.2.2.2.2.2.2.2.2.2.2.2.2.1,p.2.2.2.2.2.2.2.2.2.2.2.2.2.2.2.2.2.1,p.2.2.2.2.2.2.2.2.2.2.2.2.2.2.2.2.2.2.1⟩)
def e6d (x:MapI):List DD:=[.int .i64 x.key,.int .i64 x.val]
def c34:CC Kd El MapI:=(CC.cons (Cod.int .i64) (CC.cons (Cod.int .i64) CC.nil)).iso e6d (fun p=>⟨p.1,p.2.1⟩)
def c4s (x:Problem):List DD:=[.int .i64 x.Kind,.int .i64 x.Index,.str x.Tag,.int .u8 x.Code]
def a83:CC Kd El Problem:=(CC.cons (Cod.int .i64) (CC.cons (Cod.int .i64) (CC.cons Cod.str (CC.cons (Cod.int .u8) CC.nil)))).iso c4s (fun p=>⟨p.1,p.2.1,p.2.2.1,p.2.2.2.1⟩)
def b7p (x:Circ_desk):List DD:=[.int .i64 x.c.Today,.lst .kItem x.c.Items,.lst .kPatron x.c.Patrons,.lst .kLoan x.c.Loans,.lst .kHold x.c.Holds,.lst .kCharge x.c.Charges,.lst .kRule x.c.Rules,.int .i64 x.c.Cals.x0.Week,.lst .ki64 x.c.Cals.x0.Closed,.int .i64 x.c.Cals.x1.Week,.lst .ki64 x.c.Cals.x1.Closed,.int .i64 x.c.Cals.x2.Week,.lst .ki64 x.c.Cals.x2.Closed,.int .i64 x.c.Cals.x3.Week,.lst .ki64 x.c.Cals.x3.Closed,.lst .kMove x.c.Moves,.int .i64 x.c.NextHold,.int .i64 x.c.NextCharge,.bool x.c.Local,.int .i64 x.err]
def n8:CC Kd El Circ_desk:=(CC.cons (Cod.int .i64) (CC.cons (Cod.lst Kd.kItem) (CC.cons (Cod.lst Kd.kPatron) (CC.cons (Cod.lst Kd.kLoan) (CC.cons (Cod.lst Kd.kHold) (CC.cons (Cod.lst Kd.kCharge) (CC.cons (Cod.lst Kd.kRule) (CC.cons (Cod.int .i64) (CC.cons (Cod.lst Kd.ki64) (CC.cons (Cod.int .i64) (CC.cons (Cod.lst Kd.ki64) (CC.cons (Cod.int .i64) (CC.cons (Cod.lst Kd.ki64) (CC.cons (Cod.int .i64) (CC.cons (Cod.lst Kd.ki64) (CC.cons (Cod.lst Kd.kMove) (CC.cons (Cod.int .i64) (CC.cons (Cod.int .i64) (CC.cons Cod.bool (CC.cons (Cod.int .i64) CC.nil)))))))))))))))))))).iso b7p (fun p=>⟨⟨p.1,p.2.1,p.2.2.1,p.2.2.2.1,p.2.2.2.2.1,p.2.2.2.2.2.1,p.2.2.2.2.2.2.1,⟨⟨p.2.2.2.2.2.2.2.1,p.2.2.2.2.2.2.2.2.1⟩,⟨p.2.2.2.2.2.2.2.2.2.1,p.2.2.2.2.2.2.2.2.2.2.1⟩,⟨p.2.2.2.2.2.2.2.2.2.2.2.1,p.2.2.2.2.2.2.2.2.2.2.2.2.1⟩,⟨p.2.2.2.2.2.2.2.2.2.2.2.2.2.1,p.2.2.2.2.2.2.2.2.2.2.2.2.2.2.1⟩⟩,p.2.2.2.2.2.2.2.2.2.2.2.2.2.2.2.1,p.2.2.2.2.2.2.2.2.2.2.2.2.2.2.2.2.1,p.2.2.2.2.2.2.2.2.2.2.2.2.2.2.2.2.2.1,p.2.2.2.2.2.2.2.2.2.2.2.2.2.2.2.2.2.2.1⟩,p.2.2.2.2.2.2.2.2.2.2.2.2.2.2.2.2.2.2.2.1⟩)
def e6e (x:MapS):List DD:=[.int .i64 x.key,.str x.val]
def c35:CC Kd El MapS:=(CC.cons (Cod.int .i64) (CC.cons Cod.str CC.nil)).iso e6e (fun p=>⟨p.1,p.2.1⟩)
def a69 (x:Utf8_acceptRange):List DD:=[.int .u8 x.lo,.int .u8 x.hi]
def a2e:CC Kd El Utf8_acceptRange:=(CC.cons (Cod.int .u8) (CC.cons (Cod.int .u8) CC.nil)).iso a69 (fun p=>⟨p.1,p.2.1⟩)
def b1z (x:V4 Calendar):List DD:=[.int .i64 x.x0.Week,.lst .ki64 x.x0.Closed,.int .i64 x.x1.Week,.lst .ki64 x.x1.Closed,.int .i64 x.x2.Week,.lst .ki64 x.x2.Closed,.int .i64 x.x3.Week,.lst .ki64 x.x3.Closed]
def a45:CC Kd El (V4 Calendar):=(CC.cons (Cod.int .i64) (CC.cons (Cod.lst Kd.ki64) (CC.cons (Cod.int .i64) (CC.cons (Cod.lst Kd.ki64) (CC.cons (Cod.int .i64) (CC.cons (Cod.lst Kd.ki64) (CC.cons (Cod.int .i64) (CC.cons (Cod.lst Kd.ki64) CC.nil)))))))).iso b1z (fun p=>⟨⟨p.1,p.2.1⟩,⟨p.2.2.1,p.2.2.2.1⟩,⟨p.2.2.2.2.1,p.2.2.2.2.2.1⟩,⟨p.2.2.2.2.2.2.1,p.2.2.2.2.2.2.2.1⟩⟩)
def c4t (x:V7 Bool):List DD:=[.bool x.x0,.bool x.x1,.bool x.x2,.bool x.x3,.bool x.x4,.bool x.x5,.bool x.x6]
def a0x:CC Kd El (V7 Bool):=(CC.cons Cod.bool (CC.cons Cod.bool (CC.cons Cod.bool (CC.cons Cod.bool (CC.cons Cod.bool (CC.cons Cod.bool (CC.cons Cod.bool CC.nil))))))).iso c4t (fun p=>⟨p.1,p.2.1,p.2.2.1,p.2.2.2.1,p.2.2.2.2.1,p.2.2.2.2.2.1,p.2.2.2.2.2.2.1⟩)
def ccK:(k:Kd)→CC Kd El (El k)
 |.kItem=>a3c
 |.kPatron=>a4k
 |.kLoan=>a6a
 |.kHold=>a2d
 |.kCharge=>a4j
 |.kRule=>a3v
 |.ki64=>CC.one (Cod.int .i64)
 |.kMove=>a82
 |.kMapI=>c34
 |.kProblem=>a83
 |.kstr=>CC.one Cod.str
 |.kMapS=>c35
 |.kbool=>CC.one Cod.bool
 |.ku64=>CC.one (Cod.int .u64)
 |.ku8=>CC.one (Cod.int .u8)
 |.kUtf8_acceptRange=>a2e
 |.ku16=>CC.one (Cod.int .u16)
def h3d:Kd→Nat
 |.kItem=>10
 |.kPatron=>6
 |.kLoan=>6
 |.kHold=>11
 |.kCharge=>7
 |.kRule=>13
 |.ki64=>1
 |.kMove=>5
 |.kMapI=>2
 |.kProblem=>4
 |.kstr=>1
 |.kMapS=>2
 |.kbool=>1
 |.ku64=>1
 |.ku8=>1
 |.kUtf8_acceptRange=>2
 |.ku16=>1
def h3c (t:Nat):Option Kd:=bif Nat.beq t 321 then some .kMapS else bif Nat.beq t 319 then some .kMapI else bif Nat.beq t 312 then some .ku8 else bif Nat.beq t 311 then some .ku8 else bif Nat.beq t 261 then some .ku16 else bif Nat.beq t 259 then some .kUtf8_acceptRange else bif Nat.beq t 208 then some .ku64 else bif Nat.beq t 166 then some .ku64 else bif Nat.beq t 155 then some .ki64 else bif Nat.beq t 110 then some .ku64 else bif Nat.beq t 87 then some .kMove else bif Nat.beq t 85 then some .kRule else bif Nat.beq t 83 then some .kCharge else bif Nat.beq t 81 then some .kHold else bif Nat.beq t 79 then some .kLoan else bif Nat.beq t 77 then some .kPatron else bif Nat.beq t 61 then some .kItem else bif Nat.beq t 57 then some .kProblem else bif Nat.beq t 42 then some .ki64 else bif Nat.beq t 12 then some .ku64 else bif Nat.beq t 11 then some .kstr else bif Nat.beq t 10 then some .kstr else bif Nat.beq t 9 then some .kstr else bif Nat.beq t 6 then some .ku8 else bif Nat.beq t 5 then some .ku8 else bif Nat.beq t 4 then some .kbool else bif Nat.beq t 3 then some .ki64 else bif Nat.beq t 2 then some .ki64 else none
def g9:List Int:=(List.range 20).map fun i=>((10 ^ i:Nat):Int)
def u3:List Int:=(List.range 256).map fun c=>(Go.Lib.firstT c:Int)
def j5:List Utf8_acceptRange:=(List.range 16).map fun i=>⟨(Go.Lib.accLo i:Int),(Go.Lib.accHi i:Int)⟩
def a1i:List Int:=[0,32770,41316,42344,6160,8268,8320,8704,16,4112,32784,49152,0]
def c7w (t:Nat):Option ((k:Kd)×List (El k)):=bif Nat.beq t 3 then some ⟨.ku16,a1i⟩ else bif Nat.beq t 2 then some ⟨.kUtf8_acceptRange,j5⟩ else bif Nat.beq t 1 then some ⟨.ku8,u3⟩ else bif Nat.beq t 0 then some ⟨.ku64,g9⟩ else none
def h3f (f:Nat):Md:=bif Nat.beq f 256 then .fresh else bif Nat.beq f 134 then .inpl else bif Nat.beq f 73 then .inpl else bif Nat.beq f 19 then .fresh else bif Nat.beq f 325 then .inpl else bif Nat.beq f 324 then .inpl else bif Nat.beq f 313 then .cons else bif Nat.beq f 312 then .inpl else bif Nat.beq f 292 then .inpl else bif Nat.beq f 253 then .mut else bif Nat.beq f 250 then .fresh else bif Nat.beq f 249 then .cons else bif Nat.beq f 212 then .mut else bif Nat.beq f 210 then .fresh else bif Nat.beq f 202 then .fresh else bif Nat.beq f 201 then .cons else bif Nat.beq f 192 then .mut else bif Nat.beq f 190 then .fresh else bif Nat.beq f 130 then .mut else bif Nat.beq f 127 then .mut else bif Nat.beq f 125 then .mut else bif Nat.beq f 124 then .mut else bif Nat.beq f 123 then .mut else bif Nat.beq f 122 then .fresh else bif Nat.beq f 121 then .cons else bif Nat.beq f 84 then .mut else bif Nat.beq f 82 then .mut else bif Nat.beq f 80 then .mut else bif Nat.beq f 79 then .mut else bif Nat.beq f 78 then .mut else bif Nat.beq f 77 then .mut else bif Nat.beq f 76 then .newb else bif Nat.beq f 70 then .fresh else bif Nat.beq f 35 then .cons else bif Nat.beq f 34 then .inpl else bif Nat.beq f 30 then .nmap else .data
def g7f (t:Nat):Bool:=Nat.beq t 59||(Nat.beq t 57||(false))
def g1c:MpK Kd El:=h1x .kMapI MapI.key MapI.val (fun k v=>⟨k,v⟩)
def g1d:MpK Kd El:=h1y .kMapS MapS.key MapS.val (fun k v=>⟨k,v⟩)
def g8n (t:Nat):Option (MpK Kd El):=bif Nat.beq t 88 then some g1d else bif Nat.beq t 62 then some g1c else none
def h3a (f:Nat):Option Kd:=bif Nat.beq f 324 then some .kHold else bif Nat.beq f 313 then some .kLoan else bif Nat.beq f 312 then some .kHold else bif Nat.beq f 292 then some .kHold else bif Nat.beq f 249 then some .kPatron else bif Nat.beq f 201 then some .kLoan else bif Nat.beq f 134 then some .ki64 else bif Nat.beq f 121 then some .kItem else bif Nat.beq f 73 then some .ki64 else bif Nat.beq f 35 then some .ki64 else bif Nat.beq f 34 then some .ki64 else none
def h1t (n:Nat):Bool:=Nat.beq n 0
def sg:Sg Kd El:=⟨fun k=>(ccK k).enc,fun k=>(ccK k).dec,h3d,h3c,c7w,h3f,g7f,g8n,h3a,h1t⟩
def s9 (x y:Custody):Bool:=(x.State==y.State&&(x.Branch==y.Branch&&(x.Who==y.Who&&(x.To==y.To&&true))))
abbrev ZC:=CC Kd El
abbrev ZF:=FC Kd El
abbrev ZD:=Cod Kd El
abbrev Zi:ZD Int:=Cod.int .i64
abbrev Zb:ZD Bool:=Cod.bool
abbrev Zl (k:Kd):ZD (List (El k)):=Cod.lst k
abbrev Zn:ZC Unit:=CC.nil
abbrev Zz:ZF Unit:=FC.nil
section
variable {α β:Type}
abbrev Zc:ZD α→ZC β→ZC (α×β):=CC.cons
abbrev Zs:Nat→ZD α→ZF β→ZF (α×β):=FC.slot
abbrev Zp:Nat→Nat→ZF β→ZF β:=FC.ptr
abbrev Zx:Nat→ZC α→ZF β→ZF (α×β):=FC.box
end
abbrev ZN:Circ:=⟨0,[],[],[],[],[],[],⟨⟨0,[]⟩,⟨0,[]⟩,⟨0,[]⟩,⟨0,[]⟩⟩,[],0,0,false⟩
end
section
def qd2 (s:List Item) (i:Int) (v:List Item):Option (List Item):=b2d s i v
def qdi (s:List Patron) (i:Int) (v:List Patron):Option (List Patron):=b2d s i v
def qd1 (s:List Loan) (i:Int) (v:List Loan):Option (List Loan):=b2d s i v
def qc2 (s:List Loan) (i j:Int):Option (List Loan):=b1v s i j
def qbe (s:List Int):Option (List Int):=bif decide (s.length≤LIM) then some (s.mergeSort fun x y=>decide (x≤y)) else none
def qbd (s:List Int):Option (List Int):=bif decide (s.length≤LIM) then some (Go.Lib.compact s) else none
def qb7 {γ0:Type} (p:γ0→Hold→Hold→Option Int) (s:List Hold) (a m b:Int) (g:γ0):Option (List Hold):=none
@[inline] def g4w:Nat→Nat→List UInt8→List UInt8|0,_,a=>a|f+1,u,a=>bif decide (u<10) then UInt8.ofNat (48+u)::a else g4w f (u / 10) (UInt8.ofNat (48+u % 10)::a)
def qd6 (n:Int):Option (List UInt8):=bif decide (-9223372036854775808≤n)&&decide (n≤9223372036854775807) then some (bif decide (n<0) then 45::g4w 20 n.natAbs [] else g4w 20 n.natAbs []) else none
def qcg (s:List UInt8):Option Bool:=bif decide (s.length≤LIM) then some (vld s) else none
def qde (s:List UInt8):Option (List UInt8):=bif decide (s.length≤LIM)&&vld s then some (cln s) else none
end
section
set_option maxRecDepth 100000
def qb0:Option Bool:=some true
def d2r:(Int×Circ×Unit)→Option ((Int×Circ×Unit)⊕((Circ×Unit)⊕(Bool×Unit))):=fun (i,c,_)=>
 bif decide (i<(c.Items.length:Int)) then match n5 c.Items i with|some x =>bif decide (300<(x.Call.length:Int)) then some (.inr (.inr (false,()))) else some (.inl (wr .i64 (i+1),c,()))|none =>none else some (.inr (.inl (c,())))
def d2s:(Int×Circ×Unit)→Option ((Int×Circ×Unit)⊕((Circ×Unit)⊕(Bool×Unit))):=fun (i,c,_)=>
 bif decide (i<(c.Patrons.length:Int)) then match n5 c.Patrons i with|some x =>bif decide (300<(x.Name.length:Int)) then some (.inr (.inr (false,()))) else some (.inl (wr .i64 (i+1),c,()))|none =>none else some (.inr (.inl (c,())))
def a9z:(Int×Circ×Unit)→Option ((Int×Circ×Unit)⊕((Unit)⊕(Bool×Unit))):=fun (i,c,_)=>
 bif decide (i<4) then let k (v:Int) (v8:List Int):Option ((Int×Circ×Unit)⊕((Unit)⊕(Bool×Unit))):=bif decide (20<(v8.length:Int)) then some (.inr (.inr (false,()))) else some (.inl (wr .i64 (i+1),c,()));bif i==0 then k c.Cals.x0.Week c.Cals.x0.Closed else bif i==1 then k c.Cals.x1.Week c.Cals.x1.Closed else bif i==2 then k c.Cals.x2.Week c.Cals.x2.Closed else bif i==3 then k c.Cals.x3.Week c.Cals.x3.Closed else none else some (.inr (.inl (())))
def qa (c:Circ):Option Bool:=
 let k16 (v:Bool):Option Bool:=let k15 (v1:Bool):Option Bool:=let k14 (v2:Bool):Option Bool:=let k13 (v3:Bool):Option Bool:=let k12 (v4:Bool):Option Bool:=let k (v5:Bool):Option Bool:=bif v5 then some false else match c9 d2r (0,c,()) with|some (.inl (c6,_)) =>(match c9 d2s (0,c6,()) with|some (.inl (c7,_)) =>(match c9 a9z (0,c7,()) with|some (.inl (_)) =>some true|some (.inr (v9,_)) =>some v9|none =>none)|some (.inr (v10,_)) =>some v10|none =>none)|some (.inr (v11,_)) =>some v11|none =>none;bif v4 then k true else k (decide (200<(c.Moves.length:Int)));bif v3 then k12 true else k12 (decide (10<(c.Rules.length:Int)));bif v2 then k13 true else k13 (decide (30<(c.Charges.length:Int)));bif v1 then k14 true else k14 (decide (12<(c.Loans.length:Int)));bif v then k15 true else k15 (decide (12<(c.Holds.length:Int)));bif decide (10<(c.Items.length:Int)) then k16 true else k16 (decide (8<(c.Patrons.length:Int)))
def qbk (s:List UInt8) (i:Int):Option (Int×Int):=
 match n5 s i with|some b =>let k35 (v:Bool):Option (Int×Int):=bif v then some (wr .i64 (b.toNat:Int),1) else let k34 (v1:Bool):Option (Int×Int):=let k33 (v2:Bool):Option (Int×Int):=let k32 (v4:Bool):Option (Int×Int):=let k31 (v6:Bool):Option (Int×Int):=let k (v8:Int) (v9:Int):Option (Int×Int):=some (v8,v9);bif v6 then match n5 s (wr .i64 (i+1)) with|some b7 =>bif decide (160≤wr .i64 ((wr .i64 ((wr .i64 ((wr .i64 ((wr .i64 (b.toNat:Int))-192))*64))+(wr .i64 (b7.toNat:Int))))-128)) then k (wr .i64 ((wr .i64 ((wr .i64 ((wr .i64 ((wr .i64 (b.toNat:Int))-192))*64))+(wr .i64 (b7.toNat:Int))))-128)) 2 else k 0 0|none =>none else let k30 (v10:Bool):Option (Int×Int):=let k29 (v11:Bool):Option (Int×Int):=let k28 (v13:Bool):Option (Int×Int):=let k27 (v15:Bool):Option (Int×Int):=let k26 (v17:Bool):Option (Int×Int):=let k25 (v19:Bool):Option (Int×Int):=bif v19 then match n5 s (wr .i64 (i+1)) with|some b20 =>(match n5 s (wr .i64 (i+2)) with|some b21 =>let k24 (v23:Bool):Option (Int×Int):=bif v23 then some (wr .i64 ((wr .i64 ((wr .i64 ((wr .i64 ((wr .i64 ((wr .i64 (b.toNat:Int))-224))*4096))+(wr .i64 ((wr .i64 ((wr .i64 (b20.toNat:Int))-128))*64))))+(wr .i64 (b21.toNat:Int))))-128),3) else some (0,0);bif decide (2048≤wr .i64 ((wr .i64 ((wr .i64 ((wr .i64 ((wr .i64 ((wr .i64 (b.toNat:Int))-224))*4096))+(wr .i64 ((wr .i64 ((wr .i64 (b20.toNat:Int))-128))*64))))+(wr .i64 (b21.toNat:Int))))-128)) then bif decide (wr .i64 ((wr .i64 ((wr .i64 ((wr .i64 ((wr .i64 ((wr .i64 (b.toNat:Int))-224))*4096))+(wr .i64 ((wr .i64 ((wr .i64 (b20.toNat:Int))-128))*64))))+(wr .i64 (b21.toNat:Int))))-128)<55296) then k24 true else k24 (decide (57343<wr .i64 ((wr .i64 ((wr .i64 ((wr .i64 ((wr .i64 ((wr .i64 (b.toNat:Int))-224))*4096))+(wr .i64 ((wr .i64 ((wr .i64 (b20.toNat:Int))-128))*64))))+(wr .i64 (b21.toNat:Int))))-128))) else k24 false|none =>none)|none =>none else some (0,0);bif v17 then match n5 s (wr .i64 (i+2)) with|some b18 =>k25 (decide ((b18.toNat:Int)<192))|none =>none else k25 false;bif v15 then match n5 s (wr .i64 (i+2)) with|some b16 =>k26 (decide (128≤(b16.toNat:Int)))|none =>none else k26 false;bif v13 then match n5 s (wr .i64 (i+1)) with|some b14 =>k27 (decide ((b14.toNat:Int)<192))|none =>none else k27 false;bif v11 then match n5 s (wr .i64 (i+1)) with|some b12 =>k28 (decide (128≤(b12.toNat:Int)))|none =>none else k28 false;bif v10 then k29 (decide (wr .i64 (i+2)<(s.length:Int))) else k29 false;bif decide (224≤wr .i64 (b.toNat:Int)) then k30 (decide (wr .i64 (b.toNat:Int)<240)) else k30 false;bif v4 then match n5 s (wr .i64 (i+1)) with|some b5 =>k31 (decide ((b5.toNat:Int)<192))|none =>none else k31 false;bif v2 then match n5 s (wr .i64 (i+1)) with|some b3 =>k32 (decide (128≤(b3.toNat:Int)))|none =>none else k32 false;bif v1 then k33 (decide (wr .i64 (i+1)<(s.length:Int))) else k33 false;bif decide (194≤wr .i64 (b.toNat:Int)) then k34 (decide (wr .i64 (b.toNat:Int)<224)) else k34 false;bif decide (32≤wr .i64 (b.toNat:Int)) then k35 (decide (wr .i64 (b.toNat:Int)<127)) else k35 false|none =>none
def b5r:((List UInt8)×Int×Unit)→Option (((List UInt8)×Int×Unit)⊕((Unit)⊕(Bool×Unit))):=fun (s,i,_)=>
 bif decide (i<(s.length:Int)) then match qbk s i with|some (r1,r2) =>bif r2==0 then some (.inr (.inr (false,()))) else some (.inl (s,wr .i64 (i+r2),()))|none =>none else some (.inr (.inl (())))
def qaa (s:List UInt8):Option Bool:=
 match c9 b5r (s,0,()) with|some (.inl (_)) =>some true|some (.inr (v,_)) =>some v|none =>none
def qf (s:List UInt8) (i:Int):Option Int:=
 match qbk s i with|some (r1,r2) =>some (if r2<1 then 1 else r2)|none =>none
def q9 (c:Int):Option Bool:=
 let k (v:Bool):Option Bool:=some v;bif c==32 then k true else k (c==160)
def b5y:((List UInt8)×(List UInt8)×Bool×Int×Unit)→Option (((List UInt8)×(List UInt8)×Bool×Int×Unit)⊕(((List UInt8)×Unit))):=fun (s,vout,gap,i,_)=>
 bif decide (i<(s.length:Int)) then match qbk s i with|some (r1,r2) =>(match qf s i with|some r4 =>(match q9 r1 with|some r6 =>let k11 (vout9:List UInt8) (gap10:Bool):Option (((List UInt8)×(List UInt8)×Bool×Int×Unit)⊕(((List UInt8)×Unit))):=some (.inl (s,vout9,gap10,wr .i64 (i+r4),()));bif r6 then k11 vout true else let k8 (v:Bool):Option (((List UInt8)×(List UInt8)×Bool×Int×Unit)⊕(((List UInt8)×Unit))):=let k (vout7:List UInt8):Option (((List UInt8)×(List UInt8)×Bool×Int×Unit)⊕(((List UInt8)×Unit))):=bif decide (0≤(i:Int))&&(decide ((i:Int)≤wr .i64 (i+r4))&&decide (wr .i64 (i+r4)≤(s.length:Int))) then bif decide (vout7.length+((s.take (wr .i64 (i+r4)).toNat).drop (i:Int).toNat).length≤LIM) then k11 (vout7++((s.take (wr .i64 (i+r4)).toNat).drop (i:Int).toNat)) false else none else none;bif v then bif decide (vout.length+([32]).length≤LIM) then k (vout++([32])) else none else k vout;bif gap then k8 (!(vout==([]))) else k8 false|none =>none)|none =>none)|none =>none else some (.inr ((vout,())))
def qal (s:List UInt8):Option (List UInt8):=
 match c9 b5y (s,[],false,0,()) with|some ((vout,_)) =>some vout|none =>none
def b2w:((List Patron)×Int×Unit)→Option (((List Patron)×Int×Unit)⊕((Unit)⊕(Int×Unit))):=fun (l,i,_)=>
 bif decide (i<(l.length:Int)) then match n5 l i with|some x =>let k18 (v:Bool):Option (((List Patron)×Int×Unit)⊕((Unit)⊕(Int×Unit))):=bif v then some (.inr (.inr (2,()))) else let k17 (v2:Bool):Option (((List Patron)×Int×Unit)⊕((Unit)⊕(Int×Unit))):=bif v2 then some (.inr (.inr (7,()))) else let k16 (v3:Bool):Option (((List Patron)×Int×Unit)⊕((Unit)⊕(Int×Unit))):=let k15 (v4:Bool):Option (((List Patron)×Int×Unit)⊕((Unit)⊕(Int×Unit))):=let k14 (v5:Bool):Option (((List Patron)×Int×Unit)⊕((Unit)⊕(Int×Unit))):=bif v5 then some (.inr (.inr (1,()))) else let k13 (v6:Bool):Option (((List Patron)×Int×Unit)⊕((Unit)⊕(Int×Unit))):=bif v6 then some (.inr (.inr (2,()))) else let k12 (v8:Bool):Option (((List Patron)×Int×Unit)⊕((Unit)⊕(Int×Unit))):=let k (v11:Bool):Option (((List Patron)×Int×Unit)⊕((Unit)⊕(Int×Unit))):=bif v11 then some (.inr (.inr (3,()))) else bif decide (200<(x.Name.length:Int)) then some (.inr (.inr (4,()))) else some (.inl (l,wr .i64 (i+1),()));bif v8 then k true else match qal x.Name with|some r10 =>k (!(r10==x.Name))|none =>none;bif x.Name==([]) then k12 true else match qaa x.Name with|some r7 =>k12 (!r7)|none =>none;bif decide (x.Until<0) then k13 true else k13 (decide (109572<x.Until));bif v4 then k14 true else k14 (decide (4<x.Branch));bif v3 then k15 true else k15 (decide (x.Branch<1));bif decide (x.Kind<1) then k16 true else k16 (decide (9<x.Kind));bif decide (0<i) then match n5 l (wr .i64 (i-1)) with|some x1 =>k17 (decide (x.ID≤x1.ID))|none =>none else k17 false;bif decide (x.ID<1) then k18 true else k18 (decide (9999<x.ID))|none =>none else some (.inr (.inl (())))
def qak (l:List Patron):Option Int:=
 bif decide (32<(l.length:Int)) then some 13 else match c9 b2w (l,0,()) with|some (.inl (_)) =>some 0|some (.inr (v,_)) =>some v|none =>none
def b2v:((List Loan)×Int×Unit)→Option (((List Loan)×Int×Unit)⊕((Unit)⊕(Int×Unit))):=fun (l,i,_)=>
 bif decide (i<(l.length:Int)) then match n5 l i with|some x =>let k21 (v:Bool):Option (((List Loan)×Int×Unit)⊕((Unit)⊕(Int×Unit))):=bif v then some (.inr (.inr (7,()))) else let k20 (v2:Bool):Option (((List Loan)×Int×Unit)⊕((Unit)⊕(Int×Unit))):=let k19 (v3:Bool):Option (((List Loan)×Int×Unit)⊕((Unit)⊕(Int×Unit))):=let k18 (v4:Bool):Option (((List Loan)×Int×Unit)⊕((Unit)⊕(Int×Unit))):=let k17 (v5:Bool):Option (((List Loan)×Int×Unit)⊕((Unit)⊕(Int×Unit))):=let k16 (v6:Bool):Option (((List Loan)×Int×Unit)⊕((Unit)⊕(Int×Unit))):=let k15 (v7:Bool):Option (((List Loan)×Int×Unit)⊕((Unit)⊕(Int×Unit))):=let k14 (v8:Bool):Option (((List Loan)×Int×Unit)⊕((Unit)⊕(Int×Unit))):=let k13 (v9:Bool):Option (((List Loan)×Int×Unit)⊕((Unit)⊕(Int×Unit))):=let k12 (v10:Bool):Option (((List Loan)×Int×Unit)⊕((Unit)⊕(Int×Unit))):=let k (v11:Bool):Option (((List Loan)×Int×Unit)⊕((Unit)⊕(Int×Unit))):=bif v11 then some (.inr (.inr (2,()))) else some (.inl (l,wr .i64 (i+1),()));bif v10 then k true else k (decide (10<x.Renewals));bif v9 then k12 true else k12 (decide (x.Renewals<0));bif v8 then k13 true else k13 (decide (x.Due<x.Out));bif v7 then k14 true else k14 (decide (109572<x.Due));bif v6 then k15 true else k15 (decide (x.Due<0));bif v5 then k16 true else k16 (decide (109572<x.Out));bif v4 then k17 true else k17 (decide (x.Out<0));bif v3 then k18 true else k18 (decide (9999<x.Patron));bif v2 then k19 true else k19 (decide (x.Patron<1));bif decide (x.Item<1) then k20 true else k20 (decide (9999<x.Item));bif decide (0<i) then match n5 l (wr .i64 (i-1)) with|some x1 =>k21 (decide (x.Item≤x1.Item))|none =>none else k21 false|none =>none else some (.inr (.inl (())))
def qaj (l:List Loan):Option Int:=
 bif decide (64<(l.length:Int)) then some 13 else match c9 b2v (l,0,()) with|some (.inl (_)) =>some 0|some (.inr (v,_)) =>some v|none =>none
def qdh (n:Int):Option Bool:=
 let k (v:Bool):Option Bool:=some v;bif decide (1≤n) then k (decide (n≤9999)) else k false
def qdx (n:Int):Option Bool:=
 let k (v:Bool):Option Bool:=some v;bif decide (0≤n) then k (decide (n≤109572)) else k false
def qct (h:Hold):Option Int:=
 let k41 (v:Bool):Option Int:=let k40 (v2:Bool):Option Int:=let k39 (v5:Bool):Option Int:=let k38 (v9:Bool):Option Int:=let k37 (v10:Bool):Option Int:=let k36 (v11:Bool):Option Int:=let k35 (v14:Bool):Option Int:=let k34 (v18:Bool):Option Int:=let k33 (v21:Bool):Option Int:=let k32 (v24:Bool):Option Int:=let k31 (v25:Bool):Option Int:=let k30 (v26:Bool):Option Int:=bif v26 then some 2 else let k29 (v27:Bool):Option Int:=bif v27 then some 1 else let k (v28:Bool):Option Int:=bif v28 then some 12 else some 0;bif !((decide (0<h.Got))==(!(h.State==1))) then k true else k (!((decide (0<h.Until))==(h.State==3)));bif decide (h.State<1) then k29 true else k29 (decide (3<h.State));bif v25 then k30 true else k30 (decide (9<h.Rank));bif v24 then k31 true else k31 (decide (h.Rank<0));bif v21 then k32 true else match qdx h.Asleep with|some r23 =>k32 (!r23)|none =>none;bif v18 then k33 true else match qdx h.Until with|some r20 =>k33 (!r20)|none =>none;bif v14 then k34 true else bif !(h.Got==0) then match qdh h.Got with|some r16 =>k34 (!r16)|none =>none else k34 false;bif v11 then k35 true else match qdx h.Placed with|some r13 =>k35 (!r13)|none =>none;bif v10 then k36 true else k36 (decide (4<h.Pickup));bif v9 then k37 true else k37 (decide (h.Pickup<1));bif v5 then k38 true else bif !(h.Item==0) then match qdh h.Item with|some r7 =>k38 (!r7)|none =>none else k38 false;bif v2 then k39 true else match qdh h.Record with|some r4 =>k39 (!r4)|none =>none;bif v then k40 true else match qdh h.Patron with|some r1 =>k40 (!r1)|none =>none;bif decide (h.ID<1) then k41 true else k41 (decide (99999<h.ID))
def c5r:((List Hold)×Int×Unit)→Option (((List Hold)×Int×Unit)⊕(((List Hold)×Unit)⊕(Int×Unit))):=fun (l,i,_)=>
 bif decide (i<(l.length:Int)) then let k (v:Bool):Option (((List Hold)×Int×Unit)⊕(((List Hold)×Unit)⊕(Int×Unit))):=bif v then some (.inr (.inr (7,()))) else match n5 l i with|some x2 =>(match qct x2 with|some r3 =>bif !(r3==0) then some (.inr (.inr (r3,()))) else some (.inl (l,wr .i64 (i+1),()))|none =>none)|none =>none;bif decide (0<i) then match n5 l i with|some x =>(match n5 l (wr .i64 (i-1)) with|some x1 =>k (decide (x.ID≤x1.ID))|none =>none)|none =>none else k false else some (.inr (.inl (l,())))
def b29:((List Hold)×Int×Int×Unit)→Option (((List Hold)×Int×Int×Unit)⊕(((List Hold)×Int×Unit)⊕(Int×Unit))):=fun (l,i,k,_)=>
 bif decide (k<i) then match n5 l i with|some x =>(match n5 l k with|some x5 =>let k14 (v:Bool):Option (((List Hold)×Int×Int×Unit)⊕(((List Hold)×Int×Unit)⊕(Int×Unit))):=let k13 (v12:Bool):Option (((List Hold)×Int×Int×Unit)⊕(((List Hold)×Int×Unit)⊕(Int×Unit))):=bif v12 then some (.inr (.inr (7,()))) else some (.inl (l,i,wr .i64 (k+1),()));bif v then k13 true else match n5 l i with|some x8 =>bif decide (0<x8.Got) then match n5 l i with|some x9 =>(match n5 l k with|some x10 =>k13 (x9.Got==x10.Got)|none =>none)|none =>none else k13 false|none =>none;bif x.Patron==x5.Patron then match n5 l i with|some x6 =>(match n5 l k with|some x7 =>k14 (x6.Record==x7.Record)|none =>none)|none =>none else k14 false|none =>none)|none =>none else some (.inr (.inl (l,i,())))
def b6e:((List Hold)×Int×Unit)→Option (((List Hold)×Int×Unit)⊕((Unit)⊕(Int×Unit))):=fun (l,i,_)=>
 bif decide (i<(l.length:Int)) then match c9 b29 (l,i,0,()) with|some (.inl (l15,i16,_)) =>some (.inl (l15,wr .i64 (i16+1),()))|some (.inr (v,_)) =>some (.inr (.inr (v,())))|none =>none else some (.inr (.inl (())))
def qj (l:List Hold):Option Int:=
 bif decide (64<(l.length:Int)) then some 13 else match c9 c5r (l,0,()) with|some (.inl (l4,_)) =>(match c9 b6e (l4,0,()) with|some (.inl (_)) =>some 0|some (.inr (v,_)) =>some v|none =>none)|some (.inr (v17,_)) =>some v17|none =>none
def qec (n:Int):Option Bool:=
 let k (v:Bool):Option Bool:=some v;bif decide (0≤n) then k (decide (n≤109572)) else k false
def b2x:((List Charge)×Int×Unit)→Option (((List Charge)×Int×Unit)⊕((Unit)⊕(Int×Unit))):=fun (l,i,_)=>
 bif decide (i<(l.length:Int)) then match n5 l i with|some x =>let k22 (v:Bool):Option (((List Charge)×Int×Unit)⊕((Unit)⊕(Int×Unit))):=bif v then some (.inr (.inr (7,()))) else let k21 (v2:Bool):Option (((List Charge)×Int×Unit)⊕((Unit)⊕(Int×Unit))):=let k20 (v3:Bool):Option (((List Charge)×Int×Unit)⊕((Unit)⊕(Int×Unit))):=let k19 (v4:Bool):Option (((List Charge)×Int×Unit)⊕((Unit)⊕(Int×Unit))):=let k18 (v5:Bool):Option (((List Charge)×Int×Unit)⊕((Unit)⊕(Int×Unit))):=let k17 (v6:Bool):Option (((List Charge)×Int×Unit)⊕((Unit)⊕(Int×Unit))):=let k16 (v8:Bool):Option (((List Charge)×Int×Unit)⊕((Unit)⊕(Int×Unit))):=bif v8 then some (.inr (.inr (2,()))) else let k15 (v9:Bool):Option (((List Charge)×Int×Unit)⊕((Unit)⊕(Int×Unit))):=bif v9 then some (.inr (.inr (1,()))) else let k14 (v10:Bool):Option (((List Charge)×Int×Unit)⊕((Unit)⊕(Int×Unit))):=let k13 (v11:Bool):Option (((List Charge)×Int×Unit)⊕((Unit)⊕(Int×Unit))):=let k (v12:Bool):Option (((List Charge)×Int×Unit)⊕((Unit)⊕(Int×Unit))):=bif v12 then some (.inr (.inr (2,()))) else some (.inl (l,wr .i64 (i+1),()));bif v11 then k true else k (decide (x.Amount≤x.Paid));bif v10 then k13 true else k13 (decide (x.Paid<0));bif decide (x.Amount<1) then k14 true else k14 (decide (100000000<x.Amount));bif decide (x.Kind<1) then k15 true else k15 (decide (3<x.Kind));bif v6 then k16 true else match qec x.Day with|some r7 =>k16 (!r7)|none =>none;bif v5 then k17 true else k17 (decide (9999<x.Item));bif v4 then k18 true else k18 (decide (x.Item<1));bif v3 then k19 true else k19 (decide (9999<x.Patron));bif v2 then k20 true else k20 (decide (x.Patron<1));bif decide (x.ID<1) then k21 true else k21 (decide (99999<x.ID));bif decide (0<i) then match n5 l (wr .i64 (i-1)) with|some x1 =>k22 (decide (x.ID≤x1.ID))|none =>none else k22 false|none =>none else some (.inr (.inl (())))
def qaq (l:List Charge):Option Int:=
 bif decide (128<(l.length:Int)) then some 13 else match c9 b2x (l,0,()) with|some (.inl (_)) =>some 0|some (.inr (v,_)) =>some v|none =>none
def qa4 (n:Int) (low:Int) (high:Int):Option Bool:=
 let k (v:Bool):Option Bool:=some v;bif decide (low≤n) then k (decide (n≤high)) else k false
def qcd (r:Rule):Option Bool:=
 match qa4 r.Patron 0 9 with|some r2 =>let k48 (v:Bool):Option Bool:=let k47 (v7:Bool):Option Bool:=match qa4 r.Days 0 365 with|some r9 =>let k46 (v12:Bool):Option Bool:=let k45 (v15:Bool):Option Bool:=match qa4 r.Fine 0 1000 with|some r17 =>let k44 (v20:Bool):Option Bool:=let k43 (v23:Bool):Option Bool:=let k42 (v24:Bool):Option Bool:=let k41 (v25:Bool):Option Bool:=let k40 (v28:Bool):Option Bool:=let k39 (v31:Bool):Option Bool:=let k38 (v34:Bool):Option Bool:=let k (v37:Bool):Option Bool:=some v37;bif v34 then match qa4 r.Rank 0 9 with|some r36 =>k r36|none =>none else k false;bif v31 then match qa4 r.Fixed 0 109572 with|some r33 =>k38 r33|none =>none else k38 false;bif v28 then match qa4 r.Recall 1 60 with|some r30 =>k39 r30|none =>none else k39 false;bif v25 then match qa4 r.Shelf 1 60 with|some r27 =>k40 r27|none =>none else k40 false;bif v24 then k41 v23 else k41 false;bif v7 then k42 v15 else k42 false;bif v20 then match qa4 r.MaxFine 0 100000000 with|some r22 =>k43 r22|none =>none else k43 false;bif r17 then match qa4 r.Grace 0 30 with|some r19 =>k44 r19|none =>none else k44 false|none =>none;bif v12 then match qa4 r.Loans 0 99 with|some r14 =>k45 r14|none =>none else k45 false;bif r9 then match qa4 r.Renewals 0 10 with|some r11 =>k46 r11|none =>none else k46 false|none =>none;bif v then match qa4 r.Branch 0 4 with|some r6 =>k47 r6|none =>none else k47 false;bif r2 then match qa4 r.Item 0 9 with|some r4 =>k48 r4|none =>none else k48 false|none =>none
def c5p:((List Rule)×Int×Int×Unit)→Option (((List Rule)×Int×Int×Unit)⊕(((List Rule)×Int×Unit)⊕(Int×Unit))):=fun (l,i,k,_)=>
 bif decide (k<i) then match n5 l k with|some x =>(match n5 l i with|some x2 =>let k9 (v:Bool):Option (((List Rule)×Int×Int×Unit)⊕(((List Rule)×Int×Unit)⊕(Int×Unit))):=let k8 (v7:Bool):Option (((List Rule)×Int×Int×Unit)⊕(((List Rule)×Int×Unit)⊕(Int×Unit))):=bif v7 then some (.inr (.inr (7,()))) else some (.inl (l,i,wr .i64 (k+1),()));bif v then match n5 l k with|some x5 =>(match n5 l i with|some x6 =>k8 (x5.Branch==x6.Branch)|none =>none)|none =>none else k8 false;bif x.Patron==x2.Patron then match n5 l k with|some x3 =>(match n5 l i with|some x4 =>k9 (x3.Item==x4.Item)|none =>none)|none =>none else k9 false|none =>none)|none =>none else some (.inr (.inl (l,i,())))
def d22:((List Rule)×Int×Unit)→Option (((List Rule)×Int×Unit)⊕((Unit)⊕(Int×Unit))):=fun (l,i,_)=>
 bif decide (i<(l.length:Int)) then match n5 l i with|some x =>(match qcd x with|some r1 =>(bif !r1 then some (.inr (.inr (2,()))) else match c9 c5p (l,i,0,()) with|some (.inl (l10,i11,_)) =>some (.inl (l10,wr .i64 (i11+1),()))|some (.inr (v,_)) =>some (.inr (.inr (v,())))|none =>none)|none =>none)|none =>none else some (.inr (.inl (())))
def qh (l:List Rule):Option Int:=
 bif decide (32<(l.length:Int)) then some 13 else match c9 d22 (l,0,()) with|some (.inl (_)) =>some 0|some (.inr (v,_)) =>some v|none =>none
def c5v:(Int×Calendar×Unit)→Option ((Int×Calendar×Unit)⊕((Calendar×Unit)⊕(Int×Unit))):=fun (i,c,_)=>
 bif decide (i<(c.Closed.length:Int)) then match n5 c.Closed i with|some x =>(let k (v:Bool):Option ((Int×Calendar×Unit)⊕((Calendar×Unit)⊕(Int×Unit))):=bif v then some (.inr (.inr (2,()))) else some (.inl (wr .i64 (i+1),c,()));bif decide (x<0) then k true else match n5 c.Closed i with|some x1 =>k (decide (109572<x1))|none =>none)|none =>none else some (.inr (.inl (c,())))
def b3b:(Int×Calendar×Unit)→Option ((Int×Calendar×Unit)⊕((Unit)⊕(Int×Unit))):=fun (i,c,_)=>
 bif decide (i<(c.Closed.length:Int)) then match n5 c.Closed i with|some x =>(match n5 c.Closed (wr .i64 (i-1)) with|some x3 =>bif decide (x≤x3) then some (.inr (.inr (7,()))) else some (.inl (wr .i64 (i+1),c,()))|none =>none)|none =>none else some (.inr (.inl (())))
def qt (c:Calendar):Option Int:=
 let k (v:Bool):Option Int:=bif v then some 1 else bif decide (64<(c.Closed.length:Int)) then some 13 else match c9 c5v (0,c,()) with|some (.inl (c2,_)) =>(match c9 b3b (1,c2,()) with|some (.inl (_)) =>some 0|some (.inr (v4,_)) =>some v4|none =>none)|some (.inr (v5,_)) =>some v5|none =>none;bif decide (c.Week<0) then k true else k (decide (126<c.Week))
def b5z:((List Patron)×Int×Int×Unit)→Option (((List Patron)×Int×Int×Unit)⊕((Unit)⊕(Int×Unit))):=fun (l,vid,i,_)=>
 bif decide (i<(l.length:Int)) then match n5 l i with|some x =>bif x.ID==vid then some (.inr (.inr (i,()))) else some (.inl (l,vid,wr .i64 (i+1),()))|none =>none else some (.inr (.inl (())))
def qam (l:List Patron) (vid:Int):Option Int:=
 match c9 b5z (l,vid,0,()) with|some (.inl (_)) =>some (-1)|some (.inr (v,_)) =>some v|none =>none
def qbt (l:List Patron) (vid:Int):Option (Patron×Bool):=
 match qam l vid with|some r1 =>(bif decide (r1<0) then some ((⟨0,0,0,0,false,[]⟩:Patron),false) else match n5 l r1 with|some x =>some (x,true)|none =>none)|none =>none
def qcu (branch:Int):Option Custody:=
 some (⟨1,branch,0,0⟩:Custody)
def qej (state:Int):Option Bool:=
 let k6 (v:Bool):Option Bool:=let k5 (v1:Bool):Option Bool:=let k4 (v2:Bool):Option Bool:=let k (v3:Bool):Option Bool:=some v3;bif v2 then k true else k (state==10);bif v1 then k4 true else k4 (state==9);bif v then k5 true else k5 (state==8);bif state==4 then k6 true else k6 (state==5)
def qcv (c:Custody):Option Bool:=
 let k17 (v:Bool):Option Bool:=let k16 (v1:Bool):Option Bool:=let k15 (v2:Bool):Option Bool:=bif v2 then some false else let k10 (v9:Bool):Option Bool:=some v9;bif c.State==6 then let k8 (v3:Bool):Option Bool:=let k7 (v4:Bool):Option Bool:=let k (v5:Bool):Option Bool:=bif v5 then k10 (!(c.To==c.Branch)) else k10 false;bif v4 then k (decide (c.To≤4)) else k false;bif v3 then k7 (decide (1≤c.To)) else k7 false;bif decide (0≤c.Who) then k8 (decide (c.Who≤9999)) else k8 false else bif !(c.To==0) then some false else match qej c.State with|some r11 =>let k14 (v13:Bool):Option Bool:=some v13;bif r11 then bif decide (1≤c.Who) then k14 (decide (c.Who≤9999)) else k14 false else some (c.Who==0)|none =>none;bif v1 then k15 true else k15 (decide (4<c.Branch));bif v then k16 true else k16 (decide (c.Branch<1));bif decide (c.State<1) then k17 true else k17 (decide (12<c.State))
def qdr (m:Move):Option Bool:=
 let k16 (v:Bool):Option Bool:=let k15 (v1:Bool):Option Bool:=let k14 (v2:Bool):Option Bool:=let k13 (v3:Bool):Option Bool:=let k12 (v4:Bool):Option Bool:=let k11 (v5:Bool):Option Bool:=let k10 (v6:Bool):Option Bool:=let k9 (v7:Bool):Option Bool:=let k (v8:Bool):Option Bool:=some v8;bif v7 then k (decide (m.Who≤9999)) else k false;bif v6 then k9 (decide (0≤m.Who)) else k9 false;bif v5 then k10 (decide (m.Branch≤4)) else k10 false;bif v4 then k11 (decide (1≤m.Branch)) else k11 false;bif v3 then k12 (decide (m.Kind≤15)) else k12 false;bif v2 then k13 (decide (1≤m.Kind)) else k13 false;bif v1 then k14 (decide (m.Item≤9999)) else k14 false;bif v then k15 (decide (1≤m.Item)) else k15 false;bif decide (0≤m.Day) then k16 (decide (m.Day≤109572)) else k16 false
def qb4 (kind:Int):Option (List Int):=
 bif kind==1 then some ([1]) else bif kind==2 then some ([2,5]) else bif kind==3 then some ([3,5]) else bif kind==4 then some ([4,8,9,10]) else let k (v:Bool):Option (List Int):=bif v then some ([2,3]) else bif kind==6 then some ([2,3,5]) else bif kind==7 then some ([6]) else bif kind==9 then some ([7]) else bif kind==10 then some ([3]) else bif kind==11 then some ([4]) else bif kind==12 then some ([4,9]) else bif kind==13 then some ([2,3,5,6,7]) else bif kind==14 then some ([11]) else bif kind==15 then some ([1,2,3,11,10]) else some ([]);bif kind==5 then k (kind==5) else k (kind==8)
def b5t:(Int×(List Int)×Int×Unit)→Option ((Int×(List Int)×Int×Unit)⊕((Unit)⊕(Bool×Unit))):=fun (state,l,i,_)=>
 bif decide (i<(l.length:Int)) then match n5 l i with|some x =>bif x==state then some (.inr (.inr (true,()))) else some (.inl (state,l,wr .i64 (i+1),()))|none =>none else some (.inr (.inl (())))
def qad (state:Int) (kind:Int):Option Bool:=
 match qb4 kind with|some r1 =>(match c9 b5t (state,r1,0,()) with|some (.inl (_)) =>some false|some (.inr (v,_)) =>some v|none =>none)|none =>none
def qci (c:Custody) (m:Move):Option Bool:=
 let k14 (v2:Bool):Option Bool:=let k11 (v10:Bool):Option Bool:=some v10;bif v2 then k11 (m.Who==0) else bif m.Kind==7 then bif m.Who==0 then k11 (m.Branch==c.To) else k11 false else bif m.Kind==6 then k11 (!(m.Branch==c.Branch)) else let k (v5:Bool):Option Bool:=bif v5 then bif m.Branch==c.Branch then k11 (decide (1≤m.Who)) else k11 false else let k13 (v12:Bool):Option Bool:=some v12;bif m.Branch==c.Branch then k13 (m.Who==0) else k13 false;bif m.Kind==3 then k (m.Kind==3) else bif m.Kind==5 then k (m.Kind==5) else k (m.Kind==10);bif m.Kind==1 then k14 (m.Kind==1) else bif m.Kind==4 then k14 (m.Kind==4) else bif m.Kind==9 then k14 (m.Kind==9) else k14 (m.Kind==14)
def qem (kind:Int):Option Int:=
 let k13 (v3:Bool):Option Int:=let k (v12:Int):Option Int:=some v12;bif v3 then k 2 else bif kind==2 then k 3 else bif kind==3 then k 4 else bif kind==5 then k 5 else bif kind==6 then k 6 else bif kind==8 then k 7 else bif kind==10 then k 8 else bif kind==11 then k 9 else bif kind==12 then k 10 else bif kind==13 then k 11 else some 12;bif kind==1 then k13 (kind==1) else bif kind==4 then k13 (kind==4) else bif kind==7 then k13 (kind==7) else bif kind==9 then k13 (kind==9) else k13 (kind==14)
def qb5 (c:Custody) (m:Move):Option (Custody×Int):=
 match qcv c with|some r1 =>(let k26 (v:Bool):Option (Custody×Int):=bif v then some ((⟨0,0,0,0⟩:Custody),1) else match qad c.State m.Kind with|some r5 =>bif !r5 then some ((⟨0,0,0,0⟩:Custody),12) else let k25 (v6:Bool):Option (Custody×Int):=let k24 (v7:Bool):Option (Custody×Int):=bif v7 then some ((⟨0,0,0,0⟩:Custody),16) else match qci c m with|some r9 =>(bif !r9 then some ((⟨0,0,0,0⟩:Custody),1) else match qem m.Kind with|some r11 =>let k23 (vout20:Int) (vout21:Int) (vout22:Int):Option (Custody×Int):=some ((⟨r11,vout20,vout21,vout22⟩:Custody),0);bif r11==2 then k23 m.Branch 0 0 else let k19 (v13:Bool):Option (Custody×Int):=bif v13 then k23 c.Branch m.Who 0 else bif r11==6 then k23 c.Branch m.Who m.Branch else let k (v14:Bool):Option (Custody×Int):=bif v14 then k23 c.Branch c.Who 0 else k23 c.Branch 0 0;bif r11==9 then k (r11==9) else k (r11==10);bif r11==4 then k19 (r11==4) else bif r11==5 then k19 (r11==5) else k19 (r11==8)|none =>none)|none =>none;bif v6 then k24 (!(m.Who==c.Who)) else k24 false;bif m.Kind==3 then k25 (c.State==5) else k25 false|none =>none;bif !r1 then k26 true else match qdr m with|some r3 =>k26 (!r3)|none =>none)|none =>none
def b5s:((List Move)×Int×Int×Custody×Custody×Unit)→Option (((List Move)×Int×Int×Custody×Custody×Unit)⊕((Custody×Custody×Unit)⊕(Int×Int×Custody×Unit))):=fun (l,item,i,v,c,_)=>
 bif decide (i<(l.length:Int)) then match n5 l i with|some x =>(bif !(x.Item==item) then some (.inl (l,item,wr .i64 (i+1),v,c,())) else match n5 l i with|some x2 =>(match qb5 c x2 with|some (r3,r4) =>bif !(r4==0) then some (.inr (.inr (i,r4,(⟨0,0,0,0⟩:Custody),()))) else some (.inl (l,item,wr .i64 (i+1),v,r3,()))|none =>none)|none =>none)|none =>none else some (.inr (.inl (v,c,())))
def qac (branch:Int) (l:List Move) (item:Int):Option (Custody×Int×Int):=
 let k (v:Bool):Option (Custody×Int×Int):=bif v then some ((⟨0,0,0,0⟩:Custody),(-1),1) else match qcu branch with|some r1 =>(match c9 b5s (l,item,0,(⟨0,0,0,0⟩:Custody),r1,()) with|some (.inl (v5,c,_)) =>some (c,(-1),0)|some (.inr (v6,v7,v8,_)) =>some (v8,v6,v7)|none =>none)|none =>none;bif decide (branch<1) then k true else k (decide (4<branch))
def d27:(Int×Int×Circ×Unit)→Option ((Int×Int×Circ×Unit)⊕((Unit)⊕(Int×Unit))):=fun (item,i,c,_)=>
 bif decide (i<(c.Items.length:Int)) then match n5 c.Items i with|some x =>bif x.ID==item then some (.inr (.inr (i,()))) else some (.inl (item,wr .i64 (i+1),c,()))|none =>none else some (.inr (.inl (())))
def qq (c:Circ) (item:Int):Option Int:=
 match c9 d27 (item,0,c,()) with|some (.inl (_)) =>some (-1)|some (.inr (v,_)) =>some v|none =>none
def c5x:(Int×Circ×Unit)→Option ((Int×Circ×Unit)⊕((Circ×Unit)⊕(Bool×Unit))):=fun (i,c,_)=>
 bif decide (i<(c.Items.length:Int)) then match n5 c.Items i with|some x =>let k29 (v:Bool):Option ((Int×Circ×Unit)⊕((Circ×Unit)⊕(Bool×Unit))):=let k28 (v3:Bool):Option ((Int×Circ×Unit)⊕((Circ×Unit)⊕(Bool×Unit))):=let k27 (v4:Bool):Option ((Int×Circ×Unit)⊕((Circ×Unit)⊕(Bool×Unit))):=let k26 (v5:Bool):Option ((Int×Circ×Unit)⊕((Circ×Unit)⊕(Bool×Unit))):=let k25 (v6:Bool):Option ((Int×Circ×Unit)⊕((Circ×Unit)⊕(Bool×Unit))):=let k24 (v7:Bool):Option ((Int×Circ×Unit)⊕((Circ×Unit)⊕(Bool×Unit))):=bif v7 then some (.inr (.inr (false,()))) else let k23 (v8:Bool):Option ((Int×Circ×Unit)⊕((Circ×Unit)⊕(Bool×Unit))):=let k22 (v9:Bool):Option ((Int×Circ×Unit)⊕((Circ×Unit)⊕(Bool×Unit))):=let k21 (v10:Bool):Option ((Int×Circ×Unit)⊕((Circ×Unit)⊕(Bool×Unit))):=let k20 (v11:Bool):Option ((Int×Circ×Unit)⊕((Circ×Unit)⊕(Bool×Unit))):=let k19 (v13:Bool):Option ((Int×Circ×Unit)⊕((Circ×Unit)⊕(Bool×Unit))):=bif v13 then some (.inr (.inr (false,()))) else match qac x.Branch c.Moves x.ID with|some (r15,r16,r17) =>let k (v18:Bool):Option ((Int×Circ×Unit)⊕((Circ×Unit)⊕(Bool×Unit))):=bif v18 then some (.inr (.inr (false,()))) else some (.inl (wr .i64 (i+1),c,()));bif !(r17==0) then k true else k (!(s9 r15 x.Custody))|none =>none;bif v11 then k19 true else match qaa x.Call with|some r12 =>k19 (!r12)|none =>none;bif v10 then k20 true else k20 (decide (200<(x.Call.length:Int)));bif v9 then k21 true else k21 (decide (100000000<x.Price));bif v8 then k22 true else k22 (decide (x.Price<0));bif decide (x.Kind<1) then k23 true else k23 (decide (9<x.Kind));bif v6 then k24 true else k24 (decide (4<x.Branch));bif v5 then k25 true else k25 (decide (x.Branch<1));bif v4 then k26 true else k26 (decide (9999<x.Record));bif v3 then k27 true else k27 (decide (x.Record<1));bif v then k28 true else bif decide (0<i) then match n5 c.Items (wr .i64 (i-1)) with|some x1 =>k28 (decide (x.ID≤x1.ID))|none =>none else k28 false;bif decide (x.ID<1) then k29 true else k29 (decide (9999<x.ID))|none =>none else some (.inr (.inl (c,())))
def b3c:(Int×Circ×Unit)→Option ((Int×Circ×Unit)⊕((Unit)⊕(Bool×Unit))):=fun (i,c,_)=>
 bif decide (i<(c.Moves.length:Int)) then match n5 c.Moves i with|some x =>(match qq c x.Item with|some r31 =>bif decide (r31<0) then some (.inr (.inr (false,()))) else some (.inl (wr .i64 (i+1),c,()))|none =>none)|none =>none else some (.inr (.inl (())))
def qw (c:Circ):Option Bool:=
 let k (v:Bool):Option Bool:=bif v then some false else match c9 c5x (0,c,()) with|some (.inl (c30,_)) =>(match c9 b3c (0,c30,()) with|some (.inl (_)) =>some true|some (.inr (v32,_)) =>some v32|none =>none)|some (.inr (v33,_)) =>some v33|none =>none;bif decide (64<(c.Items.length:Int)) then k true else k (decide (2000<(c.Moves.length:Int)))
def qdo (u:Custody):Option Bool:=
 let k2 (v:Bool):Option Bool:=let k (v1:Bool):Option Bool:=some v1;bif v then k true else k (u.State==10);bif u.State==4 then k2 true else k2 (u.State==9)
def b5v:((List Loan)×Int×Int×Unit)→Option (((List Loan)×Int×Int×Unit)⊕((Unit)⊕(Int×Unit))):=fun (l,item,i,_)=>
 bif decide (i<(l.length:Int)) then match n5 l i with|some x =>bif x.Item==item then some (.inr (.inr (i,()))) else some (.inl (l,item,wr .i64 (i+1),()))|none =>none else some (.inr (.inl (())))
def qaf (l:List Loan) (item:Int):Option Int:=
 match c9 b5v (l,item,0,()) with|some (.inl (_)) =>some (-1)|some (.inr (v,_)) =>some v|none =>none
def qcy (l:List Loan) (item:Int):Option (Loan×Bool):=
 match qaf l item with|some r1 =>(bif decide (r1<0) then some ((⟨0,0,0,0,0,false⟩:Loan),false) else match n5 l r1 with|some x =>some (x,true)|none =>none)|none =>none
def c5w:(Int×Circ×Unit)→Option ((Int×Circ×Unit)⊕((Circ×Unit)⊕(Bool×Unit))):=fun (i,c,_)=>
 bif decide (i<(c.Loans.length:Int)) then match n5 c.Loans i with|some x =>(match qq c x.Item with|some r1 =>(match qbt c.Patrons x.Patron with|some (r3,r4) =>let k12 (v:Bool):Option ((Int×Circ×Unit)⊕((Circ×Unit)⊕(Bool×Unit))):=let k11 (v8:Bool):Option ((Int×Circ×Unit)⊕((Circ×Unit)⊕(Bool×Unit))):=let k (v10:Bool):Option ((Int×Circ×Unit)⊕((Circ×Unit)⊕(Bool×Unit))):=bif v10 then some (.inr (.inr (false,()))) else some (.inl (wr .i64 (i+1),c,()));bif v8 then k true else match n5 c.Items r1 with|some x9 =>k (!(x9.Custody.Who==x.Patron))|none =>none;bif v then k11 true else match n5 c.Items r1 with|some x5 =>(match qdo x5.Custody with|some r7 =>k11 (!r7)|none =>none)|none =>none;bif decide (r1<0) then k12 true else k12 (!r4)|none =>none)|none =>none)|none =>none else some (.inr (.inl (c,())))
def b6j:(Int×Circ×Unit)→Option ((Int×Circ×Unit)⊕((Unit)⊕(Bool×Unit))):=fun (i,c,_)=>
 bif decide (i<(c.Items.length:Int)) then match n5 c.Items i with|some x =>(match qcy c.Loans x.ID with|some (r14,r15) =>(match n5 c.Items i with|some x16 =>(match qdo x16.Custody with|some r18 =>bif !(r15==r18) then some (.inr (.inr (false,()))) else some (.inl (wr .i64 (i+1),c,()))|none =>none)|none =>none)|none =>none)|none =>none else some (.inr (.inl (())))
def qv (c:Circ):Option Bool:=
 match c9 c5w (0,c,()) with|some (.inl (c13,_)) =>(match c9 b6j (0,c13,()) with|some (.inl (_)) =>some true|some (.inr (v,_)) =>some v|none =>none)|some (.inr (v19,_)) =>some v19|none =>none
def b5x:(Int×Int×Circ×Hold×Unit)→Option ((Int×Int×Circ×Hold×Unit)⊕((Hold×Unit)⊕(Bool×Hold×Unit))):=fun (item,i,c,v,_)=>
 bif decide (i<(c.Holds.length:Int)) then match n5 c.Holds i with|some x =>bif x.Got==item then match n5 c.Holds i with|some x1 =>some (.inr (.inr (true,x1,())))|none =>none else some (.inl (item,wr .i64 (i+1),c,v,()))|none =>none else some (.inr (.inl (v,())))
def qai (c:Circ) (item:Int):Option (Hold×Bool):=
 match c9 b5x (item,0,c,(⟨0,0,0,0,0,0,0,0,0,0,0⟩:Hold),()) with|some (.inl (v,_)) =>some ((⟨0,0,0,0,0,0,0,0,0,0,0⟩:Hold),false)|some (.inr (v2,v3,_)) =>some (v3,v2)|none =>none
def c5y:(Int×Circ×Unit)→Option ((Int×Circ×Unit)⊕((Circ×Unit)⊕(Bool×Unit))):=fun (i,c,_)=>
 bif decide (i<(c.Holds.length:Int)) then match n5 c.Holds i with|some x =>(match qbt c.Patrons x.Patron with|some (r1,r2) =>let k18 (v:Bool):Option ((Int×Circ×Unit)⊕((Circ×Unit)⊕(Bool×Unit))):=bif v then some (.inr (.inr (false,()))) else bif x.State==1 then some (.inl (wr .i64 (i+1),c,())) else match qq c x.Got with|some r4 =>(let k17 (v6:Bool):Option ((Int×Circ×Unit)⊕((Circ×Unit)⊕(Bool×Unit))):=bif v6 then some (.inr (.inr (false,()))) else match n5 c.Items r4 with|some x7 =>let k16 (v10:Bool):Option ((Int×Circ×Unit)⊕((Circ×Unit)⊕(Bool×Unit))):=bif v10 then some (.inr (.inr (false,()))) else let k15 (v14:Bool):Option ((Int×Circ×Unit)⊕((Circ×Unit)⊕(Bool×Unit))):=bif v14 then some (.inr (.inr (false,()))) else some (.inl (wr .i64 (i+1),c,()));bif x.State==2 then let k13 (v11:Bool):Option ((Int×Circ×Unit)⊕((Circ×Unit)⊕(Bool×Unit))):=bif v11 then k15 true else k15 (!(x7.Custody.Who==x.Patron));bif !(x7.Custody.State==6) then k13 true else k13 (!(x7.Custody.To==x.Pickup)) else k15 false;bif x.State==3 then let k (v8:Bool):Option ((Int×Circ×Unit)⊕((Circ×Unit)⊕(Bool×Unit))):=bif v8 then k16 true else k16 (!(x7.Custody.Who==x.Patron));bif !(x7.Custody.State==5) then k true else k (!(x7.Custody.Branch==x.Pickup)) else k16 false|none =>none;bif decide (r4<0) then k17 true else match n5 c.Items r4 with|some x5 =>k17 (!(x5.Record==x.Record))|none =>none)|none =>none;bif !r2 then k18 true else k18 (decide (c.NextHold≤x.ID))|none =>none)|none =>none else some (.inr (.inl (c,())))
def b6k:(Int×Circ×Unit)→Option ((Int×Circ×Unit)⊕((Unit)⊕(Bool×Unit))):=fun (i,c,_)=>
 bif decide (i<(c.Items.length:Int)) then match n5 c.Items i with|some x =>(bif !(x.Custody.State==5) then some (.inl (wr .i64 (i+1),c,())) else match n5 c.Items i with|some x20 =>(match qai c x20.ID with|some (r21,r22) =>let k (v:Bool):Option ((Int×Circ×Unit)⊕((Unit)⊕(Bool×Unit))):=bif v then some (.inr (.inr (false,()))) else some (.inl (wr .i64 (i+1),c,()));bif !r22 then k true else k (!(r21.State==3))|none =>none)|none =>none)|none =>none else some (.inr (.inl (())))
def qx (c:Circ):Option Bool:=
 match c9 c5y (0,c,()) with|some (.inl (c19,_)) =>(match c9 b6k (0,c19,()) with|some (.inl (_)) =>some true|some (.inr (v,_)) =>some v|none =>none)|some (.inr (v23,_)) =>some v23|none =>none
def c2b:(Int×Circ×Unit)→Option ((Int×Circ×Unit)⊕((Circ×Unit)⊕(Bool×Unit))):=fun (i,c,_)=>
 bif decide (i<4) then let k (v:Int) (v18:List Int):Option ((Int×Circ×Unit)⊕((Circ×Unit)⊕(Bool×Unit))):=match qt (⟨v,v18⟩:Calendar) with|some r19 =>bif !(r19==0) then some (.inr (.inr (false,()))) else some (.inl (wr .i64 (i+1),c,()))|none =>none;bif i==0 then k c.Cals.x0.Week c.Cals.x0.Closed else bif i==1 then k c.Cals.x1.Week c.Cals.x1.Closed else bif i==2 then k c.Cals.x2.Week c.Cals.x2.Closed else bif i==3 then k c.Cals.x3.Week c.Cals.x3.Closed else none else some (.inr (.inl (c,())))
def b2u:(Int×Circ×Unit)→Option ((Int×Circ×Unit)⊕((Circ×Unit)⊕(Bool×Unit))):=fun (i,c,_)=>
 bif decide (i<(c.Charges.length:Int)) then match n5 c.Charges i with|some x =>(match qbt c.Patrons x.Patron with|some (r21,r22) =>(let k (v:Bool):Option ((Int×Circ×Unit)⊕((Circ×Unit)⊕(Bool×Unit))):=bif v then some (.inr (.inr (false,()))) else some (.inl (wr .i64 (i+1),c,()));bif !r22 then k true else match n5 c.Charges i with|some x23 =>k (decide (c.NextCharge≤x23.ID))|none =>none)|none =>none)|none =>none else some (.inr (.inl (c,())))
def q8 (c:Circ):Option Bool:=
 let k44 (v:Bool):Option Bool:=let k43 (v1:Bool):Option Bool:=let k42 (v2:Bool):Option Bool:=let k41 (v3:Bool):Option Bool:=let k40 (v4:Bool):Option Bool:=bif v4 then some false else match qak c.Patrons with|some r5 =>(let k39 (v8:Bool):Option Bool:=let k38 (v11:Bool):Option Bool:=let k37 (v14:Bool):Option Bool:=let k36 (v17:Bool):Option Bool:=bif v17 then some false else match c9 c2b (0,c,()) with|some (.inl (c20,_)) =>(match c9 b2u (0,c20,()) with|some (.inl (c24,_)) =>(match qw c24 with|some r26 =>let k33 (v29:Bool):Option Bool:=let k (v32:Bool):Option Bool:=some v32;bif v29 then match qx c24 with|some r31 =>k r31|none =>none else k false;bif r26 then match qv c24 with|some r28 =>k33 r28|none =>none else k33 false|none =>none)|some (.inr (v34,_)) =>some v34|none =>none)|some (.inr (v35,_)) =>some v35|none =>none;bif v14 then k36 true else match qh c.Rules with|some r16 =>k36 (!(r16==0))|none =>none;bif v11 then k37 true else match qaq c.Charges with|some r13 =>k37 (!(r13==0))|none =>none;bif v8 then k38 true else match qj c.Holds with|some r10 =>k38 (!(r10==0))|none =>none;bif !(r5==0) then k39 true else match qaj c.Loans with|some r7 =>k39 (!(r7==0))|none =>none)|none =>none;bif v3 then k40 true else k40 (decide (100000<c.NextCharge));bif v2 then k41 true else k41 (decide (c.NextCharge<1));bif v1 then k42 true else k42 (decide (100000<c.NextHold));bif v then k43 true else k43 (decide (c.NextHold<1));bif decide (c.Today<0) then k44 true else k44 (decide (109572<c.Today))
def b5u:((List Int)×Int×Unit)→Option (((List Int)×Int×Unit)⊕((Unit)⊕(Int×Unit))):=fun (l,i,_)=>
 bif decide (i<(l.length:Int)) then match n5 l i with|some x =>(let k (v:Bool):Option (((List Int)×Int×Unit)⊕((Unit)⊕(Int×Unit))):=bif v then some (.inr (.inr (2,()))) else some (.inl (l,wr .i64 (i+1),()));bif decide (x<1) then k true else match n5 l i with|some x1 =>k (decide (9999<x1))|none =>none)|none =>none else some (.inr (.inl (())))
def qae (l:List Int):Option Int:=
 bif decide (200<(l.length:Int)) then some 13 else match c9 b5u (l,0,()) with|some (.inl (_)) =>some 0|some (.inr (v,_)) =>some v|none =>none
def qdg (c:Circ) (l:List Int):Option Bool:=
 match qa c with|some r1 =>let k9 (v:Bool):Option Bool:=let k8 (v4:Bool):Option Bool:=let k (v7:Bool):Option Bool:=some v7;bif v4 then match qae l with|some r6 =>k (r6==0)|none =>none else k false;bif v then k8 (decide ((l.length:Int)≤60)) else k8 false;bif r1 then match q8 c with|some r3 =>k9 r3|none =>none else k9 false|none =>none
def qca (branch:Int):Option Bool:=
 let k (v:Bool):Option Bool:=some v;bif decide (1≤branch) then k (decide (branch≤4)) else k false
def qep (s:List Int):Option (List Int):=
 bif decide (([]:List Int).length+s.length≤LIM) then some (([])++s) else none
def b55:((List Int)×(List Int)×Int×Int×(List MapI)×Unit)→Option (((List Int)×(List Int)×Int×Int×(List MapI)×Unit)⊕(((List Int)×(List MapI)×Unit))):=fun (l,v,v1,v2,l3,_)=>
 bif decide (v2<v1) then match n5 v v2 with|some x =>some (.inl (l,v,v1,wr .i64 (v2+1),c3n MapI.key x (⟨x,wr .i64 ((a49 MapI.key MapI.val l3 x)+1)⟩:MapI) l3,()))|none =>none else some (.inr ((l,l3,())))
def qau (l:List Int):Option ((List Int)×List MapI):=
 match c9 b55 (l,l,(l.length:Int),0,([]:List MapI),()) with|some ((l4,l5,_)) =>(match qep l4 with|some l6 =>(match qbe l6 with|some l8 =>(match qbd l8 with|some l10 =>some (l10,l5)|none =>none)|none =>none)|none =>none)|none =>none
def qbu (x:Item) (branch:Int):Option Bool:=
 let k3 (v2:Bool):Option Bool:=some v2;bif x.Custody.Branch==branch then let k (v:Bool):Option Bool:=bif v then k3 true else k3 (x.Custody.State==5);bif x.Custody.State==2 then k true else k (x.Custody.State==3) else k3 false
def b5w:(Int×(List Item)×Int×Int×(List Int)×Unit)→Option ((Int×(List Item)×Int×Int×(List Int)×Unit)⊕(((List Int)×Unit))):=fun (branch,v,v1,v2,l,_)=>
 bif decide (v2<v1) then match n5 v v2 with|some x =>(match qbu x branch with|some r3 =>bif r3 then bif decide (l.length+([x.ID]:List Int).length≤LIM) then some (.inl (branch,v,v1,wr .i64 (v2+1),l++([x.ID]:List Int),())) else none else some (.inl (branch,v,v1,wr .i64 (v2+1),l,()))|none =>none)|none =>none else some (.inr ((l,())))
def qag (c:Circ) (branch:Int):Option (List Int):=
 match c9 b5w (branch,c.Items,(c.Items.length:Int),0,([]:List Int),()) with|some ((l,_)) =>some l|none =>none
def qb1 (x:Item) (v:Int):Option Bool:=
 some (x.ID==v)
def b3a {γ0:Type} (p:γ0→Item→Option Bool):((List Item)×γ0×Int×Int×Unit)→Option (((List Item)×γ0×Int×Int×Unit)⊕((Unit)⊕(Int×Unit))):=fun (s,g,v,v1,_)=>
 bif decide (v1<v) then match n5 s v1 with|some x =>(match p g x with|some r =>bif r then some (.inr (.inr (v1,()))) else some (.inl (s,g,v,wr .i64 (v1+1),()))|none =>none)|none =>none else some (.inr (.inl (())))
def qk {γ0:Type} (p:γ0→Item→Option Bool) (s:List Item) (g:γ0):Option Int:=
 match c9 (b3a p) (s,g,(s.length:Int),0,()) with|some (.inl (_)) =>some (-1)|some (.inr (v,_)) =>some v|none =>none
def qav (c:Circ) (vid:Int):Option (Item×Bool):=
 match qk (fun g x0=>qb1 x0 g.2.1) c.Items ((),(vid,())) with|some r1 =>(bif decide (r1<0) then some ((⟨0,0,0,0,0,[],⟨0,0,0,0⟩⟩:Item),false) else match n5 c.Items r1 with|some x =>some (x,true)|none =>none)|none =>none
def c5k:(Int×(List Int)×(List Int)×Int×Int×Circ×(List MapI)×(List Int)×Unit)→Option ((Int×(List Int)×(List Int)×Int×Int×Circ×(List MapI)×(List Int)×Unit)⊕((Int×(List Int)×Circ×(List MapI)×(List Int)×Unit))):=fun (branch,ids,v,v6,v7,c,l,l8,_)=>
 bif decide (v7<v6) then match n5 v v7 with|some x =>bif (a49 MapI.key MapI.val l x)==0 then bif decide (l8.length+([x]:List Int).length≤LIM) then some (.inl (branch,ids,v,v6,wr .i64 (v7+1),c,l,l8++([x]:List Int),())) else none else some (.inl (branch,ids,v,v6,wr .i64 (v7+1),c,l,l8,()))|none =>none else some (.inr ((branch,ids,c,l,l8,())))
def a90:(Int×(List Int)×Int×Int×Circ×(List MapI)×(List Int)×(List Int)×(List Int)×(List Int)×Unit)→Option ((Int×(List Int)×Int×Int×Circ×(List MapI)×(List Int)×(List Int)×(List Int)×(List Int)×Unit)⊕(((List Int)×(List Int)×(List Int)×(List Int)×Unit))):=fun (branch,v,v13,v14,c,l,l15,l16,l17,l18,_)=>
 bif decide (v14<v13) then match n5 v v14 with|some x =>(match qav c x with|some (r19,r20) =>(bif !r20 then bif decide (l16.length+([x]:List Int).length≤LIM) then bif decide (1<a49 MapI.key MapI.val l x) then bif decide (l18.length+([x]:List Int).length≤LIM) then some (.inl (branch,v,v13,wr .i64 (v14+1),c,l,l15,l16++([x]:List Int),l17,l18++([x]:List Int),())) else none else some (.inl (branch,v,v13,wr .i64 (v14+1),c,l,l15,l16++([x]:List Int),l17,l18,())) else none else match qca branch with|some r22 =>(let k (v25:Bool):Option ((Int×(List Int)×Int×Int×Circ×(List MapI)×(List Int)×(List Int)×(List Int)×(List Int)×Unit)⊕(((List Int)×(List Int)×(List Int)×(List Int)×Unit))):=bif v25 then bif decide (l17.length+([x]:List Int).length≤LIM) then bif decide (1<a49 MapI.key MapI.val l x) then bif decide (l18.length+([x]:List Int).length≤LIM) then some (.inl (branch,v,v13,wr .i64 (v14+1),c,l,l15,l16,l17++([x]:List Int),l18++([x]:List Int),())) else none else some (.inl (branch,v,v13,wr .i64 (v14+1),c,l,l15,l16,l17++([x]:List Int),l18,())) else none else bif decide (1<a49 MapI.key MapI.val l x) then bif decide (l18.length+([x]:List Int).length≤LIM) then some (.inl (branch,v,v13,wr .i64 (v14+1),c,l,l15,l16,l17,l18++([x]:List Int),())) else none else some (.inl (branch,v,v13,wr .i64 (v14+1),c,l,l15,l16,l17,l18,()));bif !r22 then k true else match qbu r19 branch with|some r24 =>k (!r24)|none =>none)|none =>none)|none =>none)|none =>none else some (.inr ((l15,l16,l17,l18,())))
def qeu:(Int×Int×(List Problem)×(List Int)×(List Int)×(List Int)×(List Int)×(List Int)×Unit)→Option ((Int×Int×(List Problem)×(List Int)×(List Int)×(List Int)×(List Int)×(List Int)×Unit)⊕(((List Problem)×(List Int)×(List Int)×(List Int)×(List Int)×Unit))):=fun (v,v33,l,l34,l35,l36,l37,l38,_)=>
 bif decide (v33<v) then match n5 l38 v33 with|some _ =>(match l38[v33.toNat]? with|some x =>bif decide (l.length+([(⟨0,x,[],0⟩:Problem)]:List Problem).length≤LIM) then some (.inl (v,wr .i64 (v33+1),l++([(⟨0,x,[],0⟩:Problem)]:List Problem),l34,l35,l36,l37,l38,())) else none|none =>none)|none =>none else some (.inr ((l,l34,l35,l36,l37,())))
def qet:(Int×Int×(List Problem)×(List Int)×(List Int)×(List Int)×(List Int)×Unit)→Option ((Int×Int×(List Problem)×(List Int)×(List Int)×(List Int)×(List Int)×Unit)⊕(((List Problem)×(List Int)×(List Int)×(List Int)×Unit))):=fun (v,v48,l,l49,l50,l51,l52,_)=>
 bif decide (v48<v) then match n5 l52 v48 with|some _ =>(match l52[v48.toNat]? with|some x =>bif decide (l.length+([(⟨1,x,[],0⟩:Problem)]:List Problem).length≤LIM) then some (.inl (v,wr .i64 (v48+1),l++([(⟨1,x,[],0⟩:Problem)]:List Problem),l49,l50,l51,l52,())) else none|none =>none)|none =>none else some (.inr ((l,l49,l50,l51,())))
def qes:(Int×Int×(List Problem)×(List Int)×(List Int)×(List Int)×Unit)→Option ((Int×Int×(List Problem)×(List Int)×(List Int)×(List Int)×Unit)⊕(((List Problem)×(List Int)×(List Int)×Unit))):=fun (v,v61,l,l62,l63,l64,_)=>
 bif decide (v61<v) then match n5 l64 v61 with|some _ =>(match l64[v61.toNat]? with|some x =>bif decide (l.length+([(⟨2,x,[],0⟩:Problem)]:List Problem).length≤LIM) then some (.inl (v,wr .i64 (v61+1),l++([(⟨2,x,[],0⟩:Problem)]:List Problem),l62,l63,l64,())) else none|none =>none)|none =>none else some (.inr ((l,l62,l63,())))
def qer:(Int×Int×(List Problem)×(List Int)×(List Int)×Unit)→Option ((Int×Int×(List Problem)×(List Int)×(List Int)×Unit)⊕(((List Problem)×(List Int)×Unit))):=fun (v,v72,l,l73,l74,_)=>
 bif decide (v72<v) then match n5 l74 v72 with|some _ =>(match l74[v72.toNat]? with|some x =>bif decide (l.length+([(⟨3,x,[],0⟩:Problem)]:List Problem).length≤LIM) then some (.inl (v,wr .i64 (v72+1),l++([(⟨3,x,[],0⟩:Problem)]:List Problem),l73,l74,())) else none|none =>none)|none =>none else some (.inr ((l,l73,())))
def qeq:(Int×Int×(List Problem)×(List Int)×Unit)→Option ((Int×Int×(List Problem)×(List Int)×Unit)⊕(((List Problem)×Unit))):=fun (v,v81,l,l82,_)=>
 bif decide (v81<v) then match n5 l82 v81 with|some _ =>(match l82[v81.toNat]? with|some x =>bif decide (l.length+([(⟨4,x,[],0⟩:Problem)]:List Problem).length≤LIM) then some (.inl (v,wr .i64 (v81+1),l++([(⟨4,x,[],0⟩:Problem)]:List Problem),l82,())) else none|none =>none)|none =>none else some (.inr ((l,())))
def qb (c:Circ) (branch:Int) (l:List Int):Option (List Problem):=
 match qau l with|some (r1,m) =>(match qca branch with|some r3 =>(bif r3 then match qag c branch with|some r5 =>(match c9 c5k (branch,r1,r5,(r5.length:Int),0,c,m,([]:List Int),()) with|some ((branch9,ids,c10,l11,l12,_)) =>(match c9 a90 (branch9,ids,(ids.length:Int),0,c10,l11,l12,([]:List Int),([]:List Int),([]:List Int),()) with|some ((l26,l27,l28,l29,_)) =>(match qbe ([]:List Int) with|some _ =>(match qbd ([]:List Int) with|some l32 =>(match c9 qeu ((l32.length:Int),0,([]:List Problem),l26,l27,l28,l29,l32,()) with|some ((l39,l40,l41,l42,l43,_)) =>(match qbe l40 with|some l45 =>(match qbd l45 with|some l47 =>(match c9 qet ((l47.length:Int),0,l39,l41,l42,l43,l47,()) with|some ((l53,l54,l55,l56,_)) =>(match qbe l55 with|some l58 =>(match qbd l58 with|some l60 =>(match c9 qes ((l60.length:Int),0,l53,l54,l56,l60,()) with|some ((l65,l66,l67,_)) =>(match qbe l66 with|some l69 =>(match qbd l69 with|some l71 =>(match c9 qer ((l71.length:Int),0,l65,l67,l71,()) with|some ((l75,l76,_)) =>(match qbe l76 with|some l78 =>(match qbd l78 with|some l80 =>(match c9 qeq ((l80.length:Int),0,l75,l80,()) with|some ((l83,_)) =>some l83|none =>none)|none =>none)|none =>none)|none =>none)|none =>none)|none =>none)|none =>none)|none =>none)|none =>none)|none =>none)|none =>none)|none =>none)|none =>none)|none =>none)|none =>none)|none =>none)|none =>none)|none =>none else match c9 a90 (branch,r1,(r1.length:Int),0,c,m,([]:List Int),([]:List Int),([]:List Int),([]:List Int),()) with|some ((l84,l85,l86,l87,_)) =>(match qbe ([]:List Int) with|some _ =>(match qbd ([]:List Int) with|some l90 =>(match c9 qeu ((l90.length:Int),0,([]:List Problem),l84,l85,l86,l87,l90,()) with|some ((l91,l92,l93,l94,l95,_)) =>(match qbe l92 with|some l97 =>(match qbd l97 with|some l99 =>(match c9 qet ((l99.length:Int),0,l91,l93,l94,l95,l99,()) with|some ((l100,l101,l102,l103,_)) =>(match qbe l102 with|some l105 =>(match qbd l105 with|some l107 =>(match c9 qes ((l107.length:Int),0,l100,l101,l103,l107,()) with|some ((l108,l109,l110,_)) =>(match qbe l109 with|some l112 =>(match qbd l112 with|some l114 =>(match c9 qer ((l114.length:Int),0,l108,l110,l114,()) with|some ((l115,l116,_)) =>(match qbe l116 with|some l118 =>(match qbd l118 with|some l120 =>(match c9 qeq ((l120.length:Int),0,l115,l120,()) with|some ((l121,_)) =>some l121|none =>none)|none =>none)|none =>none)|none =>none)|none =>none)|none =>none)|none =>none)|none =>none)|none =>none)|none =>none)|none =>none)|none =>none)|none =>none)|none =>none)|none =>none)|none =>none)|none =>none)|none =>none
def qb6 (c:Circ):Option Circ_desk:=
 some (⟨c,0⟩:Circ_desk)
def qdd (x:Item) (v:Int):Option Bool:=
 some (x.ID==v)
def qaz (c:Circ) (item:Int):Option Int:=
 match qk (fun g x0=>qdd x0 g.2.1) c.Items ((),(item,())) with|some r1 =>some r1|none =>none
def qu (e:Int) (d:Circ_desk):Option (Unit×Circ_desk):=
 let k (v:Int):Option (Unit×Circ_desk):=some ((),(⟨d.c,v⟩:Circ_desk));bif d.err==0 then k e else k d.err
def qco (vid:Int) (d:Circ_desk):Option (Int×Circ_desk):=
 match qaz d.c vid with|some r1 =>let k (v3:Circ_desk):Option (Int×Circ_desk):=some (r1,v3);bif decide (r1<0) then match qu 9 d with|some (_,v) =>k v|none =>none else k d|none =>none
def qab (d:Circ_desk):Option ((Circ×Int)×Circ_desk):=
 bif !(d.err==0) then some ((ZN,d.err),d) else some ((d.c,0),d)
def qbh (n:Int) (least:Int) (most:Int):Option Bool:=
 let k (v:Bool):Option Bool:=some v;bif decide (least≤n) then k (decide (n≤most)) else k false
def qei (c:Custody):Option Bool:=
 match qbh c.State 1 12 with|some r1 =>(let k23 (v:Bool):Option Bool:=bif v then some false else let k22 (v7:Bool):Option Bool:=let k19 (v18:Bool):Option Bool:=some v18;bif v7 then match qbh c.Who 1 9999 with|some r9 =>bif r9 then k19 (c.To==0) else k19 false|none =>none else bif c.State==6 then match qbh c.Who 0 9999 with|some r12 =>let k (v15:Bool):Option Bool:=bif v15 then k19 (!(c.To==c.Branch)) else k19 false;bif r12 then match qbh c.To 1 4 with|some r14 =>k r14|none =>none else k false|none =>none else let k21 (v20:Bool):Option Bool:=some v20;bif c.Who==0 then k21 (c.To==0) else k21 false;bif c.State==4 then k22 (c.State==4) else bif c.State==5 then k22 (c.State==5) else bif c.State==8 then k22 (c.State==8) else bif c.State==9 then k22 (c.State==9) else k22 (c.State==10);bif !r1 then k23 true else match qbh c.Branch 1 4 with|some r3 =>k23 (!r3)|none =>none)|none =>none
def qeg (state:Int) (kind:Int):Option Bool:=
 match qbh state 1 12 with|some r1 =>let k5 (v:Bool):Option Bool:=let k (v4:Bool):Option Bool:=some v4;bif v then match n5 a1i state with|some x =>bif decide (kind<0) then none else k ((wr .u16 (BitVec.ofInt 16 (x.fdiv (2 ^ (min kind.toNat 16))) &&& BitVec.ofInt 16 1).toNat)==1)|none =>none else k false;bif r1 then match qbh kind 1 15 with|some r3 =>k5 r3|none =>none else k5 false|none =>none
def qb2 (c:Custody) (ok:Bool):Option (Custody×Int):=
 bif !ok then some ((⟨0,0,0,0⟩:Custody),1) else some (c,0)
def qek (c:Custody) (m:Move):Option (Custody×Int):=
 match qb2 (⟨6,c.Branch,m.Who,m.Branch⟩:Custody) (!(m.Branch==c.Branch)) with|some (r1,r2) =>some (r1,r2)|none =>none
def qc8 (c:Custody) (m:Move):Option (Custody×Int):=
 match qei c with|some r1 =>(let k95 (v:Bool):Option (Custody×Int):=let k94 (v6:Bool):Option (Custody×Int):=let k93 (v9:Bool):Option (Custody×Int):=let k92 (v12:Bool):Option (Custody×Int):=let k91 (v15:Bool):Option (Custody×Int):=bif v15 then some ((⟨0,0,0,0⟩:Custody),1) else match qeg c.State m.Kind with|some r17 =>bif !r17 then some ((⟨0,0,0,0⟩:Custody),12) else let k90 (v18:Bool):Option (Custody×Int):=let k89 (v19:Bool):Option (Custody×Int):=bif v19 then some ((⟨0,0,0,0⟩:Custody),16) else let k88 (v22:Bool):Option (Custody×Int):=let k84 (state79:Int) (ok80:Bool):Option (Custody×Int):=match qb2 (⟨state79,m.Branch,m.Who,0⟩:Custody) ok80 with|some (r82,r83) =>some (r82,r83)|none =>none;let k87 (v85:Int) (v86:Custody):Option (Custody×Int):=some (v86,v85);bif v22 then k84 2 (m.Who==0) else bif m.Kind==7 then bif m.Who==0 then k84 2 (m.Branch==c.To) else k84 2 false else bif m.Kind==6 then match qek c m with|some (r25,r26) =>k87 r26 r25|none =>none else bif m.Kind==3 then bif m.Branch==c.Branch then k84 4 (!(m.Who==0)) else k84 4 false else bif m.Kind==5 then bif m.Branch==c.Branch then k84 5 (!(m.Who==0)) else k84 5 false else bif m.Kind==10 then bif m.Branch==c.Branch then k84 8 (!(m.Who==0)) else k84 8 false else bif m.Kind==2 then bif m.Branch==c.Branch then k84 3 (m.Who==0) else k84 3 false else bif m.Kind==8 then bif m.Branch==c.Branch then k84 7 (m.Who==0) else k84 7 false else bif m.Kind==11 then let k (v32:Bool):Option (Custody×Int):=match qb2 (⟨9,c.Branch,c.Who,0⟩:Custody) v32 with|some (r34,r35) =>k87 r35 r34|none =>none;bif m.Branch==c.Branch then k (m.Who==0) else k false else bif m.Kind==12 then let k40 (v36:Bool):Option (Custody×Int):=match qb2 (⟨10,c.Branch,c.Who,0⟩:Custody) v36 with|some (r38,r39) =>k87 r39 r38|none =>none;bif m.Branch==c.Branch then k40 (m.Who==0) else k40 false else bif m.Kind==13 then bif m.Branch==c.Branch then k84 11 (m.Who==0) else k84 11 false else bif m.Kind==15 then bif m.Branch==c.Branch then k84 12 (m.Who==0) else k84 12 false else k84 0 false;bif m.Kind==1 then k88 (m.Kind==1) else bif m.Kind==4 then k88 (m.Kind==4) else bif m.Kind==9 then k88 (m.Kind==9) else k88 (m.Kind==14);bif v18 then k89 (!(m.Who==c.Who)) else k89 false;bif m.Kind==3 then k90 (c.State==5) else k90 false|none =>none;bif v12 then k91 true else match qbh m.Who 0 9999 with|some r14 =>k91 (!r14)|none =>none;bif v9 then k92 true else match qbh m.Branch 1 4 with|some r11 =>k92 (!r11)|none =>none;bif v6 then k93 true else match qbh m.Kind 1 15 with|some r8 =>k93 (!r8)|none =>none;bif v then k94 true else match qbh m.Item 1 9999 with|some r5 =>k94 (!r5)|none =>none;bif !r1 then k95 true else match qbh m.Day 0 109572 with|some r3 =>k95 (!r3)|none =>none)|none =>none
def qc5 (s:List Item):Option (List Item):=
 bif decide (([]:List Item).length+s.length≤LIM) then some (([])++s) else none
def qdk (s:List Move):Option (List Move):=
 bif decide (([]:List Move).length+s.length≤LIM) then some (([])++s) else none
def qbi (i:Int) (kind:Int) (branch:Int) (who:Int) (d:Circ_desk):Option (Unit×Circ_desk):=
 bif !(d.err==0) then some ((),d) else match n5 d.c.Items i with|some x =>(match n5 d.c.Items i with|some x1 =>(match qc8 x1.Custody (⟨d.c.Today,x.ID,kind,branch,who⟩:Move) with|some (r2,r3) =>let k10 (v:Bool):Option (Unit×Circ_desk):=let k (e:Int):Option (Unit×Circ_desk):=bif !(e==0) then match qu e d with|some (_,v5) =>some ((),v5)|none =>none else match qc5 d.c.Items with|some l =>(match n5 l i with|some _ =>(match l[i.toNat]? with|some x7 =>(match qdk d.c.Moves with|some l9 =>bif decide (l9.length+([(⟨d.c.Today,x.ID,kind,branch,who⟩:Move)]:List Move).length≤LIM) then some ((),(⟨⟨d.c.Today,l.set i.toNat (⟨x7.ID,x7.Record,x7.Branch,x7.Kind,x7.Price,x7.Call,r2⟩:Item),d.c.Patrons,d.c.Loans,d.c.Holds,d.c.Charges,d.c.Rules,d.c.Cals,l9++([(⟨d.c.Today,x.ID,kind,branch,who⟩:Move)]:List Move),d.c.NextHold,d.c.NextCharge,d.c.Local⟩,d.err⟩:Circ_desk)) else none|none =>none)|none =>none)|none =>none)|none =>none;bif v then k 13 else k r3;bif r3==0 then k10 (decide (2000≤(d.c.Moves.length:Int))) else k10 false|none =>none)|none =>none)|none =>none
def qbx (i:Int) (kind:Int) (d:Circ_desk):Option (Unit×Circ_desk):=
 let k (v1:Circ_desk):Option (Unit×Circ_desk):=some ((),v1);bif d.err==0 then match n5 d.c.Items i with|some x =>(match qbi i kind x.Custody.Branch 0 d with|some (_,v) =>k v|none =>none)|none =>none else k d
def qd7 (n:Int):Option Bool:=
 let k (v:Bool):Option Bool:=some v;bif decide (1≤n) then k (decide (n≤9999)) else k false
def qdf (n:Int):Option Bool:=
 let k (v:Bool):Option Bool:=some v;bif decide (0≤n) then k (decide (n≤109572)) else k false
def qbr (x:Charge):Option Int:=
 let k22 (v:Bool):Option Int:=let k21 (v2:Bool):Option Int:=let k20 (v5:Bool):Option Int:=let k19 (v8:Bool):Option Int:=let k18 (v17:Int):Option Int:=some v17;bif v8 then k18 2 else let k16 (v9:Bool):Option Int:=bif v9 then k18 1 else let k14 (v10:Bool):Option Int:=let k13 (v11:Bool):Option Int:=let k (v12:Bool):Option Int:=bif v12 then k18 2 else some 0;bif v11 then k true else k (decide (x.Amount≤x.Paid));bif v10 then k13 true else k13 (decide (x.Paid<0));bif decide (x.Amount<1) then k14 true else k14 (decide (100000000<x.Amount));bif decide (x.Kind<1) then k16 true else k16 (decide (3<x.Kind));bif v5 then k19 true else match qdf x.Day with|some r7 =>k19 (!r7)|none =>none;bif v2 then k20 true else match qd7 x.Item with|some r4 =>k20 (!r4)|none =>none;bif v then k21 true else match qd7 x.Patron with|some r1 =>k21 (!r1)|none =>none;bif decide (x.ID<1) then k22 true else k22 (decide (99999<x.ID))
def b2z:((List Charge)×(List Charge)×Int×Int×Unit)→Option (((List Charge)×(List Charge)×Int×Int×Unit)⊕((Unit)⊕(Int×Unit))):=fun (l,v,v1,v2,_)=>
 bif decide (v2<v1) then match n5 v v2 with|some x =>let k (v4:Bool):Option (((List Charge)×(List Charge)×Int×Int×Unit)⊕((Unit)⊕(Int×Unit))):=bif v4 then some (.inr (.inr (7,()))) else match qbr x with|some r5 =>bif !(r5==0) then some (.inr (.inr (r5,()))) else some (.inl (l,v,v1,wr .i64 (v2+1),()))|none =>none;bif decide (0<v2) then match n5 l (wr .i64 (v2-1)) with|some x3 =>k (decide (x.ID≤x3.ID))|none =>none else k false|none =>none else some (.inr (.inl (())))
def qay (l:List Charge):Option Int:=
 bif decide (128<(l.length:Int)) then some 13 else match c9 b2z (l,l,(l.length:Int),0,()) with|some (.inl (_)) =>some 0|some (.inr (v,_)) =>some v|none =>none
def qcj (l:List Charge) (c:Charge):Option ((List Charge)×Int):=
 bif decide (l.length≤LIM) then bif decide (l.length+([c]:List Charge).length≤LIM) then match qay (l++([c]:List Charge)) with|some r1 =>bif !(r1==0) then some ([],r1) else some (l++([c]:List Charge),0)|none =>none else none else none
def qdm (vid:Int) (item:Int) (kind:Int) (amount:Int) (d:Circ_desk):Option (Unit×Circ_desk):=
 bif !(d.err==0) then some ((),d) else bif decide (99999<d.c.NextCharge) then match qu 13 d with|some (_,v) =>some ((),v)|none =>none else match qcj d.c.Charges (⟨d.c.NextCharge,vid,item,d.c.Today,kind,amount,0⟩:Charge) with|some (r2,r3) =>bif !(r3==0) then match qu r3 d with|some (_,v5) =>some ((),v5)|none =>none else some ((),(⟨⟨d.c.Today,d.c.Items,d.c.Patrons,d.c.Loans,d.c.Holds,r2,d.c.Rules,d.c.Cals,d.c.Moves,d.c.NextHold,wr .i64 (d.c.NextCharge+1),d.c.Local⟩,d.err⟩:Circ_desk))|none =>none
def qby (h:Hold) (v:Int):Option Bool:=
 some (h.Got==v)
def b8i {γ0:Type} (p:γ0→Hold→Option Bool):((List Hold)×γ0×Int×Int×Unit)→Option (((List Hold)×γ0×Int×Int×Unit)⊕((Unit)⊕(Int×Unit))):=fun (s,g,v,v1,_)=>
 bif decide (v1<v) then match n5 s v1 with|some x =>(match p g x with|some r =>bif r then some (.inr (.inr (v1,()))) else some (.inl (s,g,v,wr .i64 (v1+1),()))|none =>none)|none =>none else some (.inr (.inl (())))
def qc {γ0:Type} (p:γ0→Hold→Option Bool) (s:List Hold) (g:γ0):Option Int:=
 match c9 (b8i p) (s,g,(s.length:Int),0,()) with|some (.inl (_)) =>some (-1)|some (.inr (v,_)) =>some v|none =>none
def qap (c:Circ) (item:Int):Option (Hold×Bool):=
 match qc (fun g x0=>qby x0 g.2.1) c.Holds ((),(item,())) with|some r1 =>(bif decide (r1<0) then some ((⟨0,0,0,0,0,0,0,0,0,0,0⟩:Hold),false) else match n5 c.Holds r1 with|some x =>some (x,true)|none =>none)|none =>none
def qdc (h:Hold) (v:Int):Option Bool:=
 some (h.Got==v)
def qcl (s:List Hold):Option (List Hold):=
 bif decide (([]:List Hold).length+s.length≤LIM) then some (([])++s) else none
def qcz (l:List Hold) (i:Int) (h:Hold):Option (List Hold):=
 match qcl l with|some l1 =>(match n5 l1 i with|some _ =>(match l1[i.toNat]? with|some x =>some (l1.set i.toNat h)|none =>none)|none =>none)|none =>none
def qbc (l:List Hold) (item:Int):Option ((List Hold)×Int):=
 match qc (fun g x0=>qdc x0 g.2.1) l ((),(item,())) with|some r1 =>let k (v:Bool):Option ((List Hold)×Int):=bif v then some ([],9) else match n5 l r1 with|some x =>(match qcz l r1 (⟨x.ID,x.Patron,x.Record,x.Item,x.Pickup,x.Placed,1,0,0,x.Asleep,x.Rank⟩:Hold) with|some r3 =>some (r3,0)|none =>none)|none =>none;bif decide (r1<0) then k true else k (item==0)|none =>none
def qb3 (l:List Hold) (e:Int) (d:Circ_desk):Option (Unit×Circ_desk):=
 let k3 (v1:Circ_desk):Option (Unit×Circ_desk):=let k (v2:List Hold):Option (Unit×Circ_desk):=some ((),(⟨⟨v1.c.Today,v1.c.Items,v1.c.Patrons,v1.c.Loans,v2,v1.c.Charges,v1.c.Rules,v1.c.Cals,v1.c.Moves,v1.c.NextHold,v1.c.NextCharge,v1.c.Local⟩,v1.err⟩:Circ_desk));bif v1.err==0 then k l else k v1.c.Holds;bif !(e==0) then match qu e d with|some (_,v) =>k3 v|none =>none else k3 d
def qba (a:Hold) (b:Hold):Option Int:=
 some (wr .i64 (b.Rank-a.Rank))
def d26 {γ0:Type} (p:γ0→Hold→Hold→Option Int):(Int×Int×γ0×Int×Int×(List Hold)×Unit)→Option ((Int×Int×γ0×Int×Int×(List Hold)×Unit)⊕((Int×Int×γ0×Int×(List Hold)×Unit))):=fun (a,b,g,i,j,l,_)=>
 let k (v:Bool):Option ((Int×Int×γ0×Int×Int×(List Hold)×Unit)⊕((Int×Int×γ0×Int×(List Hold)×Unit))):=bif v then match n5 l (wr .i64 (j-1)) with|some _ =>(match l[(wr .i64 (j-1)).toNat]? with|some x2 =>(match n5 l j with|some _ =>(match l[j.toNat]? with|some x3 =>(match n5 l j with|some _ =>(match l[j.toNat]? with|some x4 =>(match n5 (l.set j.toNat x2) (wr .i64 (j-1)) with|some _ =>(match (l.set j.toNat x2)[(wr .i64 (j-1)).toNat]? with|some x5 =>some (.inl (a,b,g,i,wr .i64 (j-1),(l.set j.toNat x2).set (wr .i64 (j-1)).toNat x3,()))|none =>none)|none =>none)|none =>none)|none =>none)|none =>none)|none =>none)|none =>none)|none =>none else some (.inr ((a,b,g,i,l,())));bif decide (a<j) then match n5 l j with|some _ =>(match l[j.toNat]? with|some x =>(match n5 l (wr .i64 (j-1)) with|some _ =>(match l[(wr .i64 (j-1)).toNat]? with|some x1 =>(match p g x x1 with|some r =>k (decide (r<0))|none =>none)|none =>none)|none =>none)|none =>none)|none =>none else k false
def d25 {γ0:Type} (p:γ0→Hold→Hold→Option Int):(Int×Int×γ0×Int×(List Hold)×Unit)→Option ((Int×Int×γ0×Int×(List Hold)×Unit)⊕(((List Hold)×Unit))):=fun (a,b,g,i,l,_)=>
 bif decide (i<b) then match c9 (d26 p) (a,b,g,i,i,l,()) with|some ((a6,b7,g8,i9,l10,_)) =>some (.inl (a6,b7,g8,wr .i64 (i9+1),l10,()))|none =>none else some (.inr ((l,())))
def qn {γ0:Type} (p:γ0→Hold→Hold→Option Int) (data:List Hold) (a:Int) (b:Int) (g:γ0):Option (List Hold):=
 match c9 (d25 p) (a,b,g,wr .i64 (a+1),data,()) with|some ((l,_)) =>some l|none =>none
def e8x {γ0:Type} (p:γ0→Hold→Hold→Option Int):(Int×γ0×Int×Int×Int×(List Hold)×Unit)→Option ((Int×γ0×Int×Int×Int×(List Hold)×Unit)⊕((Int×γ0×Int×Int×(List Hold)×Unit))):=fun (n,g,blockSize,a,b,l,_)=>
 bif decide (b≤n) then match qn p l a b g with|some l1 =>some (.inl (n,g,blockSize,b,wr .i64 (b+blockSize),l1,()))|none =>none else some (.inr ((n,g,blockSize,a,l,())))
def g91 {γ0:Type} (p:γ0→Hold→Hold→Option Int):(Int×γ0×Int×Int×Int×(List Hold)×Unit)→Option ((Int×γ0×Int×Int×Int×(List Hold)×Unit)⊕((Int×γ0×Int×Int×(List Hold)×Unit))):=fun (n,g,blockSize,a,b,l,_)=>
 bif decide (b≤n) then match qb7 p l a (wr .i64 (a+blockSize)) b g with|some l5 =>some (.inl (n,g,blockSize,b,wr .i64 (b+(wr .i64 (2*blockSize))),l5,()))|none =>none else some (.inr ((n,g,blockSize,a,l,())))
def e8y {γ0:Type} (p:γ0→Hold→Hold→Option Int):(Int×γ0×Int×(List Hold)×Unit)→Option ((Int×γ0×Int×(List Hold)×Unit)⊕(((List Hold)×Unit))):=fun (n,g,blockSize,l,_)=>
 bif decide (blockSize<n) then match c9 (g91 p) (n,g,blockSize,0,wr .i64 (2*blockSize),l,()) with|some ((n6,g7,blockSize8,a,l9,_)) =>let k (l11:List Hold):Option ((Int×γ0×Int×(List Hold)×Unit)⊕(((List Hold)×Unit))):=some (.inl (n6,g7,wr .i64 (blockSize8*2),l11,()));bif decide (wr .i64 (a+blockSize8)<n6) then match qb7 p l9 a (wr .i64 (a+blockSize8)) n6 g7 with|some l10 =>k l10|none =>none else k l9|none =>none else some (.inr ((l,())))
def ql {γ0:Type} (p:γ0→Hold→Hold→Option Int) (data:List Hold) (n:Int) (g:γ0):Option (List Hold):=
 match c9 (e8x p) (n,g,20,0,20,data,()) with|some ((n2,g3,blockSize,a,l,_)) =>(match qn p l a n2 g3 with|some l4 =>(match c9 (e8y p) (n2,g3,blockSize,l4,()) with|some ((l12,_)) =>some l12|none =>none)|none =>none)|none =>none
def qc1 {γ0:Type} (p:γ0→Hold→Hold→Option Int) (x:List Hold) (g:γ0):Option (List Hold):=
 match ql p x (x.length:Int) g with|some l =>some l|none =>none
def d21:(Int×Int×(List Hold)×Int×Int×(List Hold)×Unit)→Option ((Int×Int×(List Hold)×Int×Int×(List Hold)×Unit)⊕(((List Hold)×Unit))):=fun (record,day,v,v1,v2,l,_)=>
 bif decide (v2<v1) then match n5 v v2 with|some x =>let k5 (v3:Bool):Option ((Int×Int×(List Hold)×Int×Int×(List Hold)×Unit)⊕(((List Hold)×Unit))):=let k (v4:Bool):Option ((Int×Int×(List Hold)×Int×Int×(List Hold)×Unit)⊕(((List Hold)×Unit))):=bif v4 then bif decide (l.length+([x]:List Hold).length≤LIM) then some (.inl (record,day,v,v1,wr .i64 (v2+1),l++([x]:List Hold),())) else none else some (.inl (record,day,v,v1,wr .i64 (v2+1),l,()));bif v3 then k (decide (x.Asleep≤day)) else k false;bif x.Record==record then k5 (x.State==1) else k5 false|none =>none else some (.inr ((l,())))
def qg (l:List Hold) (record:Int) (day:Int):Option (List Hold):=
 match c9 d21 (record,day,l,(l.length:Int),0,([]:List Hold),()) with|some ((l6,_)) =>(match qc1 (fun g x0 x1=>qba x0 x1) l6 ((),()) with|some l7 =>some l7|none =>none)|none =>none
def b5n:(Int×Bool×Int×(List Hold)×Int×Int×Item×Unit)→Option ((Int×Bool×Int×(List Hold)×Int×Int×Item×Unit)⊕((Int×Unit)⊕(Int×Unit))):=fun (branch,vlocal,first,v,v2,v3,x,_)=>
 bif decide (v3<v2) then match n5 v v3 with|some x4 =>let k9 (v5:Bool):Option ((Int×Bool×Int×(List Hold)×Int×Int×Item×Unit)⊕((Int×Unit)⊕(Int×Unit))):=bif v5 then some (.inl (branch,vlocal,first,v,v2,wr .i64 (v3+1),x,())) else let k8 (v6:Bool):Option ((Int×Bool×Int×(List Hold)×Int×Int×Item×Unit)⊕((Int×Unit)⊕(Int×Unit))):=bif v6 then some (.inr (.inr (x4.ID,()))) else let k (first7:Int):Option ((Int×Bool×Int×(List Hold)×Int×Int×Item×Unit)⊕((Int×Unit)⊕(Int×Unit))):=some (.inl (branch,vlocal,first7,v,v2,wr .i64 (v3+1),x,()));bif first==0 then k x4.ID else k first;bif !vlocal then k8 true else k8 (x4.Pickup==branch);bif !(x4.Item==0) then k9 (!(x4.Item==x.ID)) else k9 false|none =>none else some (.inr (.inl (first,())))
def qa6 (l:List Hold) (x:Item) (branch:Int) (day:Int) (vlocal:Bool):Option Int:=
 match qg l x.Record day with|some r1 =>(match c9 b5n (branch,vlocal,0,r1,(r1.length:Int),0,x,()) with|some (.inl (first,_)) =>some first|some (.inr (v,_)) =>some v|none =>none)|none =>none
def qch (c:Circ) (x:Item):Option Int:=
 match qa6 c.Holds x x.Custody.Branch c.Today c.Local with|some r1 =>some r1|none =>none
def qdb (h:Hold) (v:Int):Option Bool:=
 some (h.ID==v)
def qbq (l:List Hold) (vid:Int):Option Int:=
 match qc (fun g x0=>qdb x0 g.2.1) l ((),(vid,())) with|some r1 =>some r1|none =>none
def qeo (l:List Hold) (vid:Int):Option (Hold×Bool):=
 match qbq l vid with|some r1 =>bif decide (0≤r1) then match n5 l r1 with|some x =>some (x,true)|none =>none else some ((⟨0,0,0,0,0,0,0,0,0,0,0⟩:Hold),false)|none =>none
def qcb (p:Patron) (v:Int):Option Bool:=
 some (p.ID==v)
def b5m {γ0:Type} (p:γ0→Patron→Option Bool):((List Patron)×γ0×Int×Int×Unit)→Option (((List Patron)×γ0×Int×Int×Unit)⊕((Unit)⊕(Int×Unit))):=fun (s,g,v,v1,_)=>
 bif decide (v1<v) then match n5 s v1 with|some x =>(match p g x with|some r =>bif r then some (.inr (.inr (v1,()))) else some (.inl (s,g,v,wr .i64 (v1+1),()))|none =>none)|none =>none else some (.inr (.inl (())))
def qa1 {γ0:Type} (p:γ0→Patron→Option Bool) (s:List Patron) (g:γ0):Option Int:=
 match c9 (b5m p) (s,g,(s.length:Int),0,()) with|some (.inl (_)) =>some (-1)|some (.inr (v,_)) =>some v|none =>none
def qbm (l:List Patron) (vid:Int):Option Int:=
 match qa1 (fun g x0=>qcb x0 g.2.1) l ((),(vid,())) with|some r1 =>some r1|none =>none
def qds (l:List Patron) (vid:Int):Option (Patron×Bool):=
 match qbm l vid with|some r1 =>(bif decide (r1<0) then some ((⟨0,0,0,0,false,[]⟩:Patron),false) else match n5 l r1 with|some x =>some (x,true)|none =>none)|none =>none
def qdp (key:Int) (n:Int):Option Bool:=
 let k (v:Bool):Option Bool:=some v;bif key==0 then k true else k (key==n)
def qbn (r:Rule) (patron:Int) (item:Int) (branch:Int):Option Bool:=
 match qdp r.Patron patron with|some r2 =>let k8 (v:Bool):Option Bool:=let k (v7:Bool):Option Bool:=some v7;bif v then match qdp r.Branch branch with|some r6 =>k r6|none =>none else k false;bif r2 then match qdp r.Item item with|some r4 =>k8 r4|none =>none else k8 false|none =>none
def a9y:(Int×Int×Int×(List Int)×Unit)→Option ((Int×Int×Int×(List Int)×Unit)⊕((Int×Unit))):=fun (n,v,v1,l,_)=>
 bif decide (v1<v) then match n5 l v1 with|some _ =>(match l[v1.toNat]? with|some x =>let k (n2:Int):Option ((Int×Int×Int×(List Int)×Unit)⊕((Int×Unit))):=some (.inl (n2,v,wr .i64 (v1+1),l,()));bif !(x==0) then k (wr .i64 ((wr .i64 (n*2))+1)) else k (wr .i64 (n*2))|none =>none)|none =>none else some (.inr ((n,())))
def qa2 (r:Rule):Option Int:=
 match c9 a9y (0,(([r.Patron,r.Item,r.Branch]).length:Int),0,[r.Patron,r.Item,r.Branch],()) with|some ((n,_)) =>some n|none =>none
def b2y:((List Rule)×Int×Int×Int×Int×(List Rule)×Int×Int×Unit)→Option (((List Rule)×Int×Int×Int×Int×(List Rule)×Int×Int×Unit)⊕((Int×Unit))):=fun (l,patron,item,branch,vat,v,v1,v2,_)=>
 bif decide (v2<v1) then match n5 v v2 with|some x =>(match qbn x patron item branch with|some r3 =>let k12 (v10:Bool):Option (((List Rule)×Int×Int×Int×Int×(List Rule)×Int×Int×Unit)⊕((Int×Unit))):=let k (vat11:Int):Option (((List Rule)×Int×Int×Int×Int×(List Rule)×Int×Int×Unit)⊕((Int×Unit))):=some (.inl (l,patron,item,branch,vat11,v,v1,wr .i64 (v2+1),()));bif v10 then k v2 else k vat;bif r3 then bif decide (vat<0) then k12 true else match qa2 x with|some r5 =>(match n5 l vat with|some x6 =>(match qa2 x6 with|some r8 =>k12 (decide (r8<r5))|none =>none)|none =>none)|none =>none else k12 false|none =>none)|none =>none else some (.inr ((vat,())))
def qax (l:List Rule) (patron:Int) (item:Int) (branch:Int):Option Int:=
 match c9 b2y (l,patron,item,branch,(-1),l,(l.length:Int),0,()) with|some ((vat,_)) =>some vat|none =>none
def qda (l:List Rule) (patron:Int) (item:Int) (branch:Int):Option (Rule×Bool):=
 match qax l patron item branch with|some r1 =>(bif decide (r1<0) then some ((⟨0,0,0,0,0,0,0,0,0,0,0,0,0⟩:Rule),false) else match n5 l r1 with|some x =>some (x,true)|none =>none)|none =>none
def qcw (c:Circ) (vid:Int) (x:Item):Option (Rule×Bool):=
 match qds c.Patrons vid with|some (r1,r2) =>(bif !r2 then some ((⟨0,0,0,0,0,0,0,0,0,0,0,0,0⟩:Rule),false) else match qda c.Rules r1.Kind x.Kind x.Branch with|some (r4,r5) =>some (r4,r5)|none =>none)|none =>none
def qbp (n:Int) (low:Int) (high:Int):Option Bool:=
 let k (v:Bool):Option Bool:=some v;bif decide (low≤n) then k (decide (n≤high)) else k false
def qc0 (c:Circ) (branch:Int):Option Calendar:=
 match qbp branch 1 4 with|some r1 =>bif !r1 then some (⟨0,[]⟩:Calendar) else let k (v:Int) (v2:List Int):Option Calendar:=some (⟨v,v2⟩:Calendar);bif (wr .i64 (branch-1))==0 then k c.Cals.x0.Week c.Cals.x0.Closed else bif (wr .i64 (branch-1))==1 then k c.Cals.x1.Week c.Cals.x1.Closed else bif (wr .i64 (branch-1))==2 then k c.Cals.x2.Week c.Cals.x2.Closed else bif (wr .i64 (branch-1))==3 then k c.Cals.x3.Week c.Cals.x3.Closed else none|none =>none
def qcc (d:Int):Option Bool:=
 let k (v:Bool):Option Bool:=some v;bif decide (0≤d) then k (decide (d≤109572)) else k false
def qd5 (x:Int):Option Bool:=
 some (!(x==x))
def qd8 (x:Int) (y:Int):Option Bool:=
 match qd5 x with|some r1 =>let k5 (v:Bool):Option Bool:=let k (v4:Bool):Option Bool:=some v4;bif v then k true else k (decide (x<y));bif r1 then match qd5 y with|some r3 =>k5 (!r3)|none =>none else k5 false|none =>none
def qdl (x:Int):Option Bool:=
 some (!(x==x))
def b50:((List Int)×Int×Int×Int×Int×Unit)→Option (((List Int)×Int×Int×Int×Int×Unit)⊕(((List Int)×Int×Int×Int×Unit))):=fun (x,target,n,i,j,_)=>
 bif decide (i<j) then match n5 x (wr .i64 ((wr .u64 (wr .i64 (i+j))).fdiv (2 ^ 1))) with|some x1 =>(match qd8 x1 target with|some r2 =>let k (i3:Int) (j4:Int):Option (((List Int)×Int×Int×Int×Int×Unit)⊕(((List Int)×Int×Int×Int×Unit))):=some (.inl (x,target,n,i3,j4,()));bif r2 then k (wr .i64 ((wr .i64 ((wr .u64 (wr .i64 (i+j))).fdiv (2 ^ 1)))+1)) j else k i (wr .i64 ((wr .u64 (wr .i64 (i+j))).fdiv (2 ^ 1)))|none =>none)|none =>none else some (.inr ((x,target,n,i,())))
def qan (x:List Int) (target:Int):Option (Int×Bool):=
 match c9 b50 (x,target,(x.length:Int),0,(x.length:Int),()) with|some ((x5,target6,n,i,_)) =>let k (v13:Bool):Option (Int×Bool):=some (i,v13);bif decide (i<n) then match n5 x5 i with|some x7 =>(bif x7==target6 then k true else match n5 x5 i with|some x8 =>(match qdl x8 with|some r9 =>bif r9 then match qdl target6 with|some r11 =>k r11|none =>none else k false|none =>none)|none =>none)|none =>none else k false|none =>none
def d9u:(Int×Calendar×(V7 Bool)×(V7 Bool)×Unit)→Option ((Int×Calendar×(V7 Bool)×(V7 Bool)×Unit)⊕(((V7 Bool)×(V7 Bool)×Unit))):=fun (v,c,v1,vopen,_)=>
 bif decide (v<7) then bif decide (v<0) then none else bif v==0 then some (.inl (wr .i64 (v+1),c,v1,(⟨(wr .i64 (BitVec.ofInt 64 (c.Week.fdiv (2 ^ (min v.toNat 64))) &&& BitVec.ofInt 64 1).toNat)==0,vopen.x1,vopen.x2,vopen.x3,vopen.x4,vopen.x5,vopen.x6⟩:V7 Bool),())) else bif v==1 then some (.inl (wr .i64 (v+1),c,v1,(⟨vopen.x0,(wr .i64 (BitVec.ofInt 64 (c.Week.fdiv (2 ^ (min v.toNat 64))) &&& BitVec.ofInt 64 1).toNat)==0,vopen.x2,vopen.x3,vopen.x4,vopen.x5,vopen.x6⟩:V7 Bool),())) else bif v==2 then some (.inl (wr .i64 (v+1),c,v1,(⟨vopen.x0,vopen.x1,(wr .i64 (BitVec.ofInt 64 (c.Week.fdiv (2 ^ (min v.toNat 64))) &&& BitVec.ofInt 64 1).toNat)==0,vopen.x3,vopen.x4,vopen.x5,vopen.x6⟩:V7 Bool),())) else bif v==3 then some (.inl (wr .i64 (v+1),c,v1,(⟨vopen.x0,vopen.x1,vopen.x2,(wr .i64 (BitVec.ofInt 64 (c.Week.fdiv (2 ^ (min v.toNat 64))) &&& BitVec.ofInt 64 1).toNat)==0,vopen.x4,vopen.x5,vopen.x6⟩:V7 Bool),())) else bif v==4 then some (.inl (wr .i64 (v+1),c,v1,(⟨vopen.x0,vopen.x1,vopen.x2,vopen.x3,(wr .i64 (BitVec.ofInt 64 (c.Week.fdiv (2 ^ (min v.toNat 64))) &&& BitVec.ofInt 64 1).toNat)==0,vopen.x5,vopen.x6⟩:V7 Bool),())) else bif v==5 then some (.inl (wr .i64 (v+1),c,v1,(⟨vopen.x0,vopen.x1,vopen.x2,vopen.x3,vopen.x4,(wr .i64 (BitVec.ofInt 64 (c.Week.fdiv (2 ^ (min v.toNat 64))) &&& BitVec.ofInt 64 1).toNat)==0,vopen.x6⟩:V7 Bool),())) else bif v==6 then some (.inl (wr .i64 (v+1),c,v1,(⟨vopen.x0,vopen.x1,vopen.x2,vopen.x3,vopen.x4,vopen.x5,(wr .i64 (BitVec.ofInt 64 (c.Week.fdiv (2 ^ (min v.toNat 64))) &&& BitVec.ofInt 64 1).toNat)==0⟩:V7 Bool),())) else none else some (.inr ((v1,vopen,())))
def qah (c:Calendar):Option (V7 Bool):=
 match c9 d9u (0,c,(⟨false,false,false,false,false,false,false⟩:V7 Bool),(⟨false,false,false,false,false,false,false⟩:V7 Bool),()) with|some ((v,vopen,_)) =>some vopen|none =>none
def qel (day:Int):Option Bool:=
 let k (v:Bool):Option Bool:=some v;bif decide (0≤day) then k (decide (day≤109572)) else k false
def qcf (day:Int):Option Int:=
 match qel day with|some r1 =>bif !r1 then some (-1) else some (day.tmod 7)|none =>none
def qcp (c:Calendar) (day:Int):Option Bool:=
 match qcc day with|some r1 =>(bif !r1 then some false else match qan c.Closed day with|some (r3,r4) =>let k (v9:Bool):Option Bool:=some v9;bif !r4 then match qah c with|some r6 =>(match qcf day with|some r8 =>bif r8==0 then k r6.x0 else bif r8==1 then k r6.x1 else bif r8==2 then k r6.x2 else bif r8==3 then k r6.x3 else bif r8==4 then k r6.x4 else bif r8==5 then k r6.x5 else bif r8==6 then k r6.x6 else none|none =>none)|none =>none else k false|none =>none)|none =>none
def c2c:(Int×Calendar×Unit)→Option ((Int×Calendar×Unit)⊕((Unit)⊕(Int×Int×Unit))):=fun (d,c,_)=>
 bif decide (d≤109572) then match qcp c d with|some r1 =>bif r1 then some (.inr (.inr (d,0,()))) else some (.inl (wr .i64 (d+1),c,()))|none =>none else some (.inr (.inl (())))
def qa3 (c:Calendar) (day:Int):Option (Int×Int):=
 match c9 c2c ((if day<0 then 0 else day),c,()) with|some (.inl (_)) =>some (0,2)|some (.inr (v,v2,_)) =>some (v,v2)|none =>none
def b56:(Int×Int×Int×Calendar×Unit)→Option ((Int×Int×Int×Calendar×Unit)⊕((Int×Unit)⊕(Int×Int×Unit))):=fun (d,v,v5,c,_)=>
 bif decide (v5<v) then match qa3 c (wr .i64 (d+1)) with|some (r6,r7) =>bif !(r7==0) then some (.inr (.inr (0,r7,()))) else some (.inl (r6,v,wr .i64 (v5+1),c,()))|none =>none else some (.inr (.inl (d,())))
def qaw (c:Calendar) (day:Int) (n:Int):Option (Int×Int):=
 let k (v:Bool):Option (Int×Int):=bif v then some (0,1) else match qcc day with|some r1 =>(bif !r1 then some (0,2) else bif n==0 then match qa3 c day with|some (r3,r4) =>some (r3,r4)|none =>none else match c9 b56 (day,n,0,c,()) with|some (.inl (d,_)) =>some (d,0)|some (.inr (v8,v9,_)) =>some (v8,v9)|none =>none)|none =>none;bif decide (n<0) then k true else k (decide (1000<n))
def qeh (branch:Int) (n:Int) (d:Circ_desk):Option (Int×Circ_desk):=
 match qc0 d.c branch with|some r1 =>(match qaw r1 d.c.Today n with|some (r3,r4) =>let k (v6:Circ_desk):Option (Int×Circ_desk):=some (r3,v6);bif !(r4==0) then match qu r4 d with|some (_,v) =>k v|none =>none else k d|none =>none)|none =>none
def qbo (n:Int) (low:Int) (high:Int):Option Bool:=
 let k (v:Bool):Option Bool:=some v;bif decide (low≤n) then k (decide (n≤high)) else k false
def qbz (o:Hold) (v:Int) (v1:Int):Option Bool:=
 let k (v2:Bool):Option Bool:=some v2;bif o.Got==v then k (!(o.ID==v1)) else k false
def qed {γ0:Type} (p:γ0→Hold→Option Bool) (s:List Hold) (g:γ0):Option Bool:=
 match qc p s g with|some r1 =>some (decide (0≤r1))|none =>none
def qa5 (l:List Hold) (vid:Int) (item:Int) (state:Int) (vuntil:Int):Option ((List Hold)×Int):=
 match qbq l vid with|some r1 =>bif decide (r1<0) then some ([],9) else let k18 (v:Bool):Option ((List Hold)×Int):=match qbo item 1 9999 with|some r5 =>let k17 (v8:Bool):Option ((List Hold)×Int):=bif v8 then some ([],1) else match n5 l r1 with|some x =>let k16 (v11:Bool):Option ((List Hold)×Int):=bif v11 then some ([],12) else match qed (fun g x0=>qbz x0 g.2.1 g.2.2.1) l ((),(item,vid,())) with|some r13 =>(bif r13 then some ([],7) else match qcz l r1 (⟨x.ID,x.Patron,x.Record,x.Item,x.Pickup,x.Placed,state,item,vuntil,x.Asleep,x.Rank⟩:Hold) with|some r15 =>some (r15,0)|none =>none)|none =>none;bif !(x.State==1) then let k (v9:Bool):Option ((List Hold)×Int):=bif v9 then k16 true else k16 (!(state==3));bif !(x.State==2) then k true else k (!(x.Got==item)) else k16 false|none =>none;bif !r5 then k17 true else bif !v then bif !(state==2) then k17 true else k17 (!(vuntil==0)) else k17 false|none =>none;bif state==3 then match qbo vuntil 1 109572 with|some r3 =>k18 r3|none =>none else k18 false|none =>none
def qcn (i:Int) (h:Hold) (d:Circ_desk):Option (Unit×Circ_desk):=
 bif !(d.err==0) then some ((),d) else match n5 d.c.Items i with|some x =>(match qcw d.c h.Patron x with|some (r1,r2) =>let k13 (days:Int):Option (Unit×Circ_desk):=match qbi i 5 x.Custody.Branch h.Patron d with|some (_,v) =>(match qeh x.Custody.Branch days v with|some (r5,v6) =>let k (v12:Circ_desk):Option (Unit×Circ_desk):=some ((),v12);bif v6.err==0 then match qa5 v6.c.Holds h.ID x.ID 3 r5 with|some (r8,r9) =>(match qb3 r8 r9 v6 with|some (_,v11) =>k v11|none =>none)|none =>none else k v6|none =>none)|none =>none;bif r2 then k13 r1.Shelf else k13 7|none =>none)|none =>none
def qb8 (i:Int) (d:Circ_desk):Option (Unit×Circ_desk):=
 bif !(d.err==0) then some ((),d) else match n5 d.c.Items i with|some x =>(match qch d.c x with|some r1 =>(match qeo d.c.Holds r1 with|some (r3,r4) =>let k25 (v:Bool):Option (Unit×Circ_desk):=let k24 (v23:Circ_desk):Option (Unit×Circ_desk):=some ((),v23);bif v then match qbi i 6 x.Branch 0 d with|some (_,v6) =>k24 v6|none =>none else let k (v7:Bool):Option (Unit×Circ_desk):=bif v7 then match qbx i 2 d with|some (_,v9) =>k24 v9|none =>none else bif !r4 then k24 d else bif r3.Pickup==x.Custody.Branch then match qcn i r3 d with|some (_,v11) =>k24 v11|none =>none else match qbi i 6 r3.Pickup r3.Patron d with|some (_,v13) =>bif v13.err==0 then match qa5 v13.c.Holds r1 x.ID 2 0 with|some (r15,r16) =>(match qb3 r15 r16 v13 with|some (_,v18) =>k24 v18|none =>none)|none =>none else k24 v13|none =>none;bif !r4 then k (!(x.Custody.State==3)) else k false;bif !r4 then k25 (!(x.Branch==x.Custody.Branch)) else k25 false|none =>none)|none =>none)|none =>none
def a34:(Int×Int×Int×Circ_desk×Unit)→Option ((Int×Int×Int×Circ_desk×Unit)⊕((Circ_desk×Unit)⊕(Circ_desk×Unit))):=fun (record,v,v1,d,_)=>
 bif decide (v1<v) then bif !(d.err==0) then some (.inr (.inr (d,()))) else match n5 d.c.Items v1 with|some x =>let k9 (v2:Bool):Option ((Int×Int×Int×Circ_desk×Unit)⊕((Circ_desk×Unit)⊕(Circ_desk×Unit))):=let k8 (v4:Bool):Option ((Int×Int×Int×Circ_desk×Unit)⊕((Circ_desk×Unit)⊕(Circ_desk×Unit))):=let k (v7:Circ_desk):Option ((Int×Int×Int×Circ_desk×Unit)⊕((Circ_desk×Unit)⊕(Circ_desk×Unit))):=some (.inl (record,v,wr .i64 (v1+1),v7,()));bif v4 then match qb8 v1 d with|some (_,v6) =>k v6|none =>none else k d;bif v2 then match qch d.c x with|some r3 =>k8 (!(r3==0))|none =>none else k8 false;bif x.Record==record then k9 (x.Custody.State==3) else k9 false|none =>none else some (.inr (.inl (d,())))
def qbg (record:Int) (d:Circ_desk):Option (Unit×Circ_desk):=
 match c9 a34 (record,(d.c.Items.length:Int),0,d,()) with|some (.inl (d10,_)) =>some ((),d10)|some (.inr (d11,_)) =>some ((),d11)|none =>none
def qcx (c:Circ) (item:Int):Option (Circ×Int):=
 match qb6 c with|some d =>(match qco item d with|some (r2,v) =>(bif decide (r2<0) then match qab v with|some ((r4,r5),v6) =>some (r4,r5)|none =>none else match n5 c.Items r2 with|some x =>let k35 (v7:Bool):Option (Circ×Int):=bif v7 then match qbx r2 12 v with|some (_,v9) =>let k (v12:Circ_desk):Option (Circ×Int):=match qab v12 with|some ((r14,r15),v16) =>some (r14,r15)|none =>none;bif !(x.Price==0) then match qdm x.Custody.Who item 2 x.Price v9 with|some (_,v11) =>k v11|none =>none else k v9|none =>none else match qbx r2 13 v with|some (_,v18) =>(match qap c item with|some (r20,r21) =>let k34 (v29:Circ_desk):Option (Circ×Int):=match qab v29 with|some ((r31,r32),v33) =>some (r31,r32)|none =>none;bif r21 then match qbc c.Holds item with|some (r23,r24) =>(match qb3 r23 r24 v18 with|some (_,v26) =>(match qbg x.Record v26 with|some (_,v28) =>k34 v28|none =>none)|none =>none)|none =>none else k34 v18|none =>none)|none =>none;bif x.Custody.State==4 then k35 true else k35 (x.Custody.State==9)|none =>none)|none =>none)|none =>none
def qcs (c:Circ) (item:Int) (branch:Int):Option (Circ×Int):=
 match qb6 c with|some d =>(match qco item d with|some (r2,v) =>let k (v7:Circ_desk):Option (Circ×Int):=match qab v7 with|some ((r9,r10),v11) =>some (r9,r10)|none =>none;bif decide (0≤r2) then match qbi r2 1 branch 0 v with|some (_,v4) =>(match qb8 r2 v4 with|some (_,v6) =>k v6|none =>none)|none =>none else k v|none =>none)|none =>none
def qck (n:Int) (d:Circ_desk):Option ((Circ×Int×Int)×Circ_desk):=
 bif !(d.err==0) then some ((ZN,0,d.err),d) else some ((d.c,n,0),d)
def qa0 (item:Int):Option (Int×Unit):=
 some (item,())
def qbv (n:Loan) (v:Int):Option Bool:=
 some (n.Item==v)
def b53 {γ0:Type} (p:γ0→Loan→Option Bool):((List Loan)×γ0×Int×Int×Unit)→Option (((List Loan)×γ0×Int×Int×Unit)⊕((Unit)⊕(Int×Unit))):=fun (s,g,v,v1,_)=>
 bif decide (v1<v) then match n5 s v1 with|some x =>(match p g x with|some r =>bif r then some (.inr (.inr (v1,()))) else some (.inl (s,g,v,wr .i64 (v1+1),()))|none =>none)|none =>none else some (.inr (.inl (())))
def qas {γ0:Type} (p:γ0→Loan→Option Bool) (s:List Loan) (g:γ0):Option Int:=
 match c9 (b53 p) (s,g,(s.length:Int),0,()) with|some (.inl (_)) =>some (-1)|some (.inr (v,_)) =>some v|none =>none
def qcm {γ0:Type} (p:γ0→Loan→Option Bool) (l:List Loan) (g:γ0):Option (Loan×Int):=
 match qas p l g with|some r1 =>(bif decide (r1<0) then some ((⟨0,0,0,0,0,false⟩:Loan),(-1)) else match n5 l r1 with|some x =>some (x,r1)|none =>none)|none =>none
def qc4 (s:List Loan):Option (List Loan):=
 bif decide (([]:List Loan).length+s.length≤LIM) then some (([])++s) else none
def qef (l:List Loan) (i:Int):Option (List Loan):=
 match qc4 l with|some l1 =>(match qc2 l1 i (wr .i64 (i+1)) with|some l3 =>some l3|none =>none)|none =>none
def qdu (l:List Loan) (item:Int):Option ((List Loan)×Loan×Int):=
 match qa0 item with|some r1 =>(match qcm (fun g x0=>qbv x0 g.2.1) l ((),(r1.1,())) with|some (r3,r4) =>(bif decide (r4<0) then some ([],(⟨0,0,0,0,0,false⟩:Loan),9) else match qef l r4 with|some r6 =>some (r6,r3,0)|none =>none)|none =>none)|none =>none
def qdn (l:List Loan) (e:Int) (d:Circ_desk):Option (Unit×Circ_desk):=
 let k3 (v1:Circ_desk):Option (Unit×Circ_desk):=let k (v2:List Loan):Option (Unit×Circ_desk):=some ((),(⟨⟨v1.c.Today,v1.c.Items,v1.c.Patrons,v2,v1.c.Holds,v1.c.Charges,v1.c.Rules,v1.c.Cals,v1.c.Moves,v1.c.NextHold,v1.c.NextCharge,v1.c.Local⟩,v1.err⟩:Circ_desk));bif v1.err==0 then k l else k v1.c.Loans;bif !(e==0) then match qu e d with|some (_,v) =>k3 v|none =>none else k3 d
def qb9 (d:Int):Option Bool:=
 match qcc d with|some r1 =>some (!r1)|none =>none
def b54 {γ0:Type} (p:γ0→Int→Option Bool):((List Int)×γ0×Int×Int×Unit)→Option (((List Int)×γ0×Int×Int×Unit)⊕((Unit)⊕(Int×Unit))):=fun (s,g,v,v1,_)=>
 bif decide (v1<v) then match n5 s v1 with|some x =>(match p g x with|some r =>bif r then some (.inr (.inr (v1,()))) else some (.inl (s,g,v,wr .i64 (v1+1),()))|none =>none)|none =>none else some (.inr (.inl (())))
def qat {γ0:Type} (p:γ0→Int→Option Bool) (s:List Int) (g:γ0):Option Int:=
 match c9 (b54 p) (s,g,(s.length:Int),0,()) with|some (.inl (_)) =>some (-1)|some (.inr (v,_)) =>some v|none =>none
def qd0 {γ0:Type} (p:γ0→Int→Option Bool) (s:List Int) (g:γ0):Option Bool:=
 match qat p s g with|some r1 =>some (decide (0≤r1))|none =>none
def c5u:((List Int)×Int×Int×Calendar×Unit)→Option (((List Int)×Int×Int×Calendar×Unit)⊕((Unit)⊕(Int×Unit))):=fun (v,v4,v5,c,_)=>
 bif decide (v5<v4) then match n5 v v5 with|some x =>let k (v7:Bool):Option (((List Int)×Int×Int×Calendar×Unit)⊕((Unit)⊕(Int×Unit))):=bif v7 then some (.inr (.inr (7,()))) else some (.inl (v,v4,wr .i64 (v5+1),c,()));bif decide (0<v5) then match n5 c.Closed (wr .i64 (v5-1)) with|some x6 =>k (decide (x≤x6))|none =>none else k false|none =>none else some (.inr (.inl (())))
def qr (c:Calendar):Option Int:=
 let k9 (v:Bool):Option Int:=let k (v3:Int):Option Int:=some v3;bif v then k 1 else bif decide (64<(c.Closed.length:Int)) then k 13 else match qd0 (fun g x0=>qb9 x0) c.Closed ((),()) with|some r1 =>(bif r1 then k 2 else match c9 c5u (c.Closed,(c.Closed.length:Int),0,c,()) with|some (.inl (_)) =>some 0|some (.inr (v8,_)) =>some v8|none =>none)|none =>none;bif decide (c.Week<0) then k9 true else k9 (decide (127≤c.Week))
def qdq (day:Int) (weekday:Int):Option Int:=
 match qcf 0 with|some r1 =>bif decide (day<(wr .i64 ((wr .i64 (weekday-r1))+7)).tmod 7) then some 0 else some (wr .i64 ((wr .i64 ((wr .i64 (day-((wr .i64 ((wr .i64 (weekday-r1))+7)).tmod 7))).tdiv 7))+1))|none =>none
def c50:(Int×Int×Int×(V7 Bool)×Int×Calendar×(V7 Bool)×Unit)→Option ((Int×Int×Int×(V7 Bool)×Int×Calendar×(V7 Bool)×Unit)⊕((Int×Int×Int×Calendar×(V7 Bool)×Unit))):=fun (vfrom,vto,n,v,v2,c,vopen,_)=>
 bif decide (v2<7) then let k8 (v3:Bool):Option ((Int×Int×Int×(V7 Bool)×Int×Calendar×(V7 Bool)×Unit)⊕((Int×Int×Int×Calendar×(V7 Bool)×Unit))):=let k (n7:Int):Option ((Int×Int×Int×(V7 Bool)×Int×Calendar×(V7 Bool)×Unit)⊕((Int×Int×Int×Calendar×(V7 Bool)×Unit))):=some (.inl (vfrom,vto,n7,v,wr .i64 (v2+1),c,vopen,()));bif v3 then match qdq vto v2 with|some r4 =>(match qdq (wr .i64 (vfrom-1)) v2 with|some r6 =>k (wr .i64 (n+(wr .i64 (r4-r6))))|none =>none)|none =>none else k n;bif v2==0 then k8 v.x0 else bif v2==1 then k8 v.x1 else bif v2==2 then k8 v.x2 else bif v2==3 then k8 v.x3 else bif v2==4 then k8 v.x4 else bif v2==5 then k8 v.x5 else bif v2==6 then k8 v.x6 else none else some (.inr ((vfrom,vto,n,c,vopen,())))
def b6m:(Int×Int×Int×(List Int)×Int×Int×(V7 Bool)×Unit)→Option ((Int×Int×Int×(List Int)×Int×Int×(V7 Bool)×Unit)⊕((Int×Unit))):=fun (vfrom,vto,n,v,v12,v13,vopen,_)=>
 bif decide (v13<v12) then match n5 v v13 with|some x =>let k20 (v14:Bool):Option ((Int×Int×Int×(List Int)×Int×Int×(V7 Bool)×Unit)⊕((Int×Unit))):=let k19 (v17:Bool):Option ((Int×Int×Int×(List Int)×Int×Int×(V7 Bool)×Unit)⊕((Int×Unit))):=let k (n18:Int):Option ((Int×Int×Int×(List Int)×Int×Int×(V7 Bool)×Unit)⊕((Int×Unit))):=some (.inl (vfrom,vto,n18,v,v12,wr .i64 (v13+1),vopen,()));bif v17 then k (wr .i64 (n-1)) else k n;bif v14 then match qcf x with|some r15 =>bif r15==0 then k19 vopen.x0 else bif r15==1 then k19 vopen.x1 else bif r15==2 then k19 vopen.x2 else bif r15==3 then k19 vopen.x3 else bif r15==4 then k19 vopen.x4 else bif r15==5 then k19 vopen.x5 else bif r15==6 then k19 vopen.x6 else none|none =>none else k19 false;bif decide (vfrom≤x) then k20 (decide (x≤vto)) else k20 false|none =>none else some (.inr ((n,())))
def qz (c:Calendar) (vfrom:Int) (vto:Int):Option Int:=
 bif decide ((if 109572<vto then 109572 else vto)<(if vfrom<0 then 0 else vfrom)) then some 0 else match qah c with|some r1 =>(match c9 c50 ((if vfrom<0 then 0 else vfrom),(if 109572<vto then 109572 else vto),0,r1,0,c,r1,()) with|some ((vfrom9,vto10,n,c11,vopen,_)) =>(match c9 b6m (vfrom9,vto10,n,c11.Closed,(c11.Closed.length:Int),0,vopen,()) with|some ((n21,_)) =>some n21|none =>none)|none =>none)|none =>none
def qdv (r:Rule) (c:Calendar) (due:Int) (back:Int):Option Int:=
 match qr c with|some r2 =>(let k10 (v:Bool):Option Int:=let k (v7:Bool):Option Int:=bif v7 then some 0 else match qz c (wr .i64 (due+1)) back with|some r9 =>bif decide (r9≤r.Grace) then some 0 else some (if r.MaxFine<wr .i64 (r9*r.Fine) then r.MaxFine else wr .i64 (r9*r.Fine))|none =>none;bif v then k true else match qdf back with|some r6 =>k (!r6)|none =>none;bif !(r2==0) then k10 true else match qdf due with|some r4 =>k10 (!r4)|none =>none)|none =>none
def qce (x:Charge) (v:Int) (v1:Int) (v2:Int):Option Bool:=
 let k6 (v3:Bool):Option Bool:=let k (v5:Bool):Option Bool:=some v5;bif v3 then bif v2==0 then k true else k (x.Kind==v2) else k false;bif x.Patron==v then k6 (x.Item==v1) else k6 false
def b51 {γ0:Type} (p:γ0→Charge→Option Bool):(γ0×Int×Int×(List Charge)×Int×Int×(List Charge)×Unit)→Option ((γ0×Int×Int×(List Charge)×Int×Int×(List Charge)×Unit)⊕((Int×Int×(List Charge)×Unit))):=fun (g,paid,n,v,v1,v2,l,_)=>
 bif decide (v2<v1) then match n5 v v2 with|some x =>(match p g x with|some r =>bif r then some (.inl (g,wr .i64 (paid+x.Paid),wr .i64 (n+1),v,v1,wr .i64 (v2+1),l,())) else bif decide (l.length+([x]:List Charge).length≤LIM) then some (.inl (g,paid,n,v,v1,wr .i64 (v2+1),l++([x]:List Charge),())) else none|none =>none)|none =>none else some (.inr ((paid,n,l,())))
def qao {γ0:Type} (p:γ0→Charge→Option Bool) (l:List Charge) (g:γ0):Option ((List Charge)×Int×Int):=
 match c9 (b51 p) (g,0,0,l,(l.length:Int),0,([]:List Charge),()) with|some ((paid,n,l3,_)) =>some (l3,paid,n)|none =>none
def qbj (l:List Charge) (patron:Int) (item:Int) (kind:Int):Option ((List Charge)×Int):=
 match qao (fun g x0=>qce x0 g.2.1 g.2.2.1 g.2.2.2.1) l ((),(patron,item,kind,())) with|some (r1,r2,r3) =>some (r1,r2)|none =>none
def qee (i:Int) (branch:Int) (d:Circ_desk):Option (Unit×Circ_desk):=
 match n5 d.c.Items i with|some x =>(match qbi i 4 branch 0 d with|some (_,v) =>(bif !(v.err==0) then some ((),v) else match qdu v.c.Loans x.ID with|some (r2,r3,r4) =>(match qdn r2 r4 v with|some (_,v6) =>(match qcw v6.c r3.Patron x with|some (r8,r9) =>let k (v17:Circ_desk):Option (Unit×Circ_desk):=match qbj v17.c.Charges r3.Patron x.ID 2 with|some (r19,r20) =>some ((),(⟨⟨v17.c.Today,v17.c.Items,v17.c.Patrons,v17.c.Loans,v17.c.Holds,r19,v17.c.Rules,v17.c.Cals,v17.c.Moves,v17.c.NextHold,v17.c.NextCharge,v17.c.Local⟩,v17.err⟩:Circ_desk))|none =>none;bif r9 then match qc0 v6.c branch with|some r11 =>(match qdv r8 r11 r3.Due v6.c.Today with|some r13 =>bif !(r13==0) then match qdm r3.Patron x.ID 1 r13 v6 with|some (_,v15) =>k v15|none =>none else k v6|none =>none)|none =>none else k v6|none =>none)|none =>none)|none =>none)|none =>none)|none =>none
def qen (c:Circ) (item:Int) (branch:Int):Option (Circ×Int×Int):=
 match qb6 c with|some d =>(match qco item d with|some (r2,v) =>(bif decide (r2<0) then match qck 0 v with|some ((r4,r5,r6),v7) =>some (r4,r5,r6)|none =>none else match n5 c.Items r2 with|some x =>let k43 (v9:Bool):Option (Circ×Int×Int):=let k42 (v23:Circ_desk):Option (Circ×Int×Int):=match qap v23.c item with|some (r25,r26) =>let k41 (v27:Bool):Option (Circ×Int×Int):=let k (v32:Circ_desk):Option (Circ×Int×Int):=match qap v32.c item with|some (r34,r35) =>(match qck r34.ID v32 with|some ((r37,r38,r39),v40) =>some (r37,r38,r39)|none =>none)|none =>none;bif v27 then match qcn r2 r25 v23 with|some (_,v29) =>k v29|none =>none else match qb8 r2 v23 with|some (_,v31) =>k v31|none =>none;bif r26 then k41 (r25.State==2) else k41 false|none =>none;bif v9 then match qee r2 branch v with|some (_,v11) =>k42 v11|none =>none else bif x.Custody.State==8 then match qbi r2 4 branch 0 v with|some (_,v13) =>k42 v13|none =>none else bif x.Custody.State==11 then match qbi r2 14 branch 0 v with|some (_,v15) =>k42 v15|none =>none else bif x.Custody.State==6 then match qbi r2 7 branch 0 v with|some (_,v17) =>k42 v17|none =>none else match qu 12 v with|some (_,v19) =>k42 v19|none =>none;bif x.Custody.State==4 then k43 (x.Custody.State==4) else bif x.Custody.State==9 then k43 (x.Custody.State==9) else k43 (x.Custody.State==10)|none =>none)|none =>none)|none =>none
def qc3 (c:Circ) (vid:Int) (branch:Int):Option (Circ×Int):=
 match qen c vid branch with|some (r1,r2,r3) =>some (r1,r3)|none =>none
def qc6 (c:Circ) (x:Item) (branch:Int):Option (Circ×Int):=
 let k18 (v16:Int) (v17:Circ):Option (Circ×Int):=some (v17,v16);bif x.Custody.State==1 then match qcs c x.ID branch with|some (r1,r2) =>k18 r2 r1|none =>none else let k (v5:Bool):Option (Circ×Int):=bif v5 then match qc3 c x.ID branch with|some (r7,r8) =>k18 r8 r7|none =>none else bif x.Custody.State==12 then k18 0 c else bif x.Custody.State==6 then bif x.Custody.To==branch then match qc3 c x.ID branch with|some (r10,r11) =>k18 r11 r10|none =>none else match qcx c x.ID with|some (r20,r21) =>(bif !(r21==0) then some (ZN,r21) else match qc3 r20 x.ID branch with|some (r23,r24) =>some (r23,r24)|none =>none)|none =>none else match qcx c x.ID with|some (r20,r21) =>(bif !(r21==0) then some (ZN,r21) else match qc3 r20 x.ID branch with|some (r23,r24) =>some (r23,r24)|none =>none)|none =>none;bif x.Custody.State==4 then k (x.Custody.State==4) else bif x.Custody.State==9 then k (x.Custody.State==9) else bif x.Custody.State==10 then k (x.Custody.State==10) else bif x.Custody.State==8 then k (x.Custody.State==8) else k (x.Custody.State==11)
def b5o:(Int×(List Problem)×Int×Int×Circ×Circ×Unit)→Option ((Int×(List Problem)×Int×Int×Circ×Circ×Unit)⊕((Circ×Circ×Unit)⊕(Int×Circ×Unit))):=fun (branch,v,v4,v5,c,v6,_)=>
 bif decide (v5<v4) then match n5 v v5 with|some x =>(match qav c x.Index with|some (r7,r8) =>(match qbu r7 branch with|some r10 =>let k23 (v11:Bool):Option ((Int×(List Problem)×Int×Int×Circ×Circ×Unit)⊕((Circ×Circ×Unit)⊕(Int×Circ×Unit))):=let k22 (e20:Int) (c21:Circ):Option ((Int×(List Problem)×Int×Int×Circ×Circ×Unit)⊕((Circ×Circ×Unit)⊕(Int×Circ×Unit))):=bif !(e20==0) then some (.inr (.inr (e20,ZN,()))) else some (.inl (branch,v,v4,wr .i64 (v5+1),c21,v6,()));bif v11 then match qcx c r7.ID with|some (r13,r14) =>k22 r14 r13|none =>none else let k (v15:Bool):Option ((Int×(List Problem)×Int×Int×Circ×Circ×Unit)⊕((Circ×Circ×Unit)⊕(Int×Circ×Unit))):=bif v15 then match qc6 c r7 branch with|some (r17,r18) =>k22 r18 r17|none =>none else k22 0 c;bif x.Kind==2 then k (!r10) else k false;bif x.Kind==1 then k23 r10 else k23 false|none =>none)|none =>none)|none =>none else some (.inr (.inl (c,v6,())))
def qa7 (c:Circ) (branch:Int) (l:List Int):Option (Circ×Int):=
 match qca branch with|some r1 =>(bif !r1 then some (ZN,2) else match qb c branch l with|some r3 =>(match c9 b5o (branch,r3,(r3.length:Int),0,c,ZN,()) with|some (.inl (c24,v,_)) =>some (c24,0)|some (.inr (v25,v26,_)) =>some (v26,v25)|none =>none)|none =>none)|none =>none
def qc7 (x:Item):Option Bool:=
 match qbp x.ID 1 9999 with|some r1 =>let k21 (v:Bool):Option Bool:=let k20 (v6:Bool):Option Bool:=let k19 (v9:Bool):Option Bool:=let k18 (v12:Bool):Option Bool:=let k17 (v13:Bool):Option Bool:=let k (v16:Bool):Option Bool:=some v16;bif v13 then match qcg x.Call with|some r15 =>k r15|none =>none else k false;bif v12 then k17 (decide ((x.Call.length:Int)≤200)) else k17 false;bif v9 then match qbp x.Price 0 100000000 with|some r11 =>k18 r11|none =>none else k18 false;bif v6 then match qbp x.Kind 1 9 with|some r8 =>k19 r8|none =>none else k19 false;bif v then match qbp x.Branch 1 4 with|some r5 =>k20 r5|none =>none else k20 false;bif r1 then match qbp x.Record 1 9999 with|some r3 =>k21 r3|none =>none else k21 false|none =>none
def qd4 (branch:Int):Option Custody:=
 some (⟨1,branch,0,0⟩:Custody)
def b5p:(Int×(List Move)×Int×Int×Custody×Custody×Unit)→Option ((Int×(List Move)×Int×Int×Custody×Custody×Unit)⊕((Custody×Custody×Unit)⊕(Int×Int×Custody×Unit))):=fun (item,v,v4,v5,v6,c,_)=>
 bif decide (v5<v4) then match n5 v v5 with|some x =>(bif !(x.Item==item) then some (.inl (item,v,v4,wr .i64 (v5+1),v6,c,())) else match qc8 c x with|some (r7,r8) =>bif !(r8==0) then some (.inr (.inr (v5,r8,(⟨0,0,0,0⟩:Custody),()))) else some (.inl (item,v,v4,wr .i64 (v5+1),v6,r7,()))|none =>none)|none =>none else some (.inr (.inl (v6,c,())))
def qa8 (branch:Int) (l:List Move) (item:Int):Option (Custody×Int×Int):=
 match qbh branch 1 4 with|some r1 =>(bif !r1 then some ((⟨0,0,0,0⟩:Custody),(-1),1) else match qd4 branch with|some r3 =>(match c9 b5p (item,l,(l.length:Int),0,(⟨0,0,0,0⟩:Custody),r3,()) with|some (.inl (v,c,_)) =>some (c,(-1),0)|some (.inr (v9,v10,v11,_)) =>some (v11,v9,v10)|none =>none)|none =>none)|none =>none
def c5t:((List Item)×Int×Int×Circ×Unit)→Option (((List Item)×Int×Int×Circ×Unit)⊕((Circ×Unit)⊕(Bool×Unit))):=fun (v,v1,v2,c,_)=>
 bif decide (v2<v1) then match n5 v v2 with|some x =>(match qc7 x with|some r3 =>let k (v6:Bool):Option (((List Item)×Int×Int×Circ×Unit)⊕((Circ×Unit)⊕(Bool×Unit))):=bif v6 then some (.inr (.inr (false,()))) else some (.inl (v,v1,wr .i64 (v2+1),c,()));bif !r3 then k true else bif decide (0<v2) then match n5 c.Items (wr .i64 (v2-1)) with|some x4 =>k (decide (x.ID≤x4.ID))|none =>none else k false|none =>none)|none =>none else some (.inr (.inl (c,())))
def b6h:((List Move)×Int×Int×Circ×Unit)→Option (((List Move)×Int×Int×Circ×Unit)⊕((Circ×Unit)⊕(Bool×Unit))):=fun (v,v8,v9,c,_)=>
 bif decide (v9<v8) then match n5 v v9 with|some x =>(match qaz c x.Item with|some r10 =>bif decide (r10<0) then some (.inr (.inr (false,()))) else some (.inl (v,v8,wr .i64 (v9+1),c,()))|none =>none)|none =>none else some (.inr (.inl (c,())))
def b6i:((List Item)×Int×Int×Circ×Unit)→Option (((List Item)×Int×Int×Circ×Unit)⊕((Unit)⊕(Bool×Unit))):=fun (v,v12,v13,c,_)=>
 bif decide (v13<v12) then match n5 v v13 with|some x =>(match qa8 x.Branch c.Moves x.ID with|some (r14,r15,r16) =>let k (v17:Bool):Option (((List Item)×Int×Int×Circ×Unit)⊕((Unit)⊕(Bool×Unit))):=bif v17 then some (.inr (.inr (false,()))) else some (.inl (v,v12,wr .i64 (v13+1),c,()));bif !(r16==0) then k true else k (!(s9 r14 x.Custody))|none =>none)|none =>none else some (.inr (.inl (())))
def qp (c:Circ):Option Bool:=
 let k (v:Bool):Option Bool:=bif v then some false else match c9 c5t (c.Items,(c.Items.length:Int),0,c,()) with|some (.inl (c7,_)) =>(match c9 b6h (c7.Moves,(c7.Moves.length:Int),0,c7,()) with|some (.inl (c11,_)) =>(match c9 b6i (c11.Items,(c11.Items.length:Int),0,c11,()) with|some (.inl (_)) =>some true|some (.inr (v18,_)) =>some v18|none =>none)|some (.inr (v19,_)) =>some v19|none =>none)|some (.inr (v20,_)) =>some v20|none =>none;bif decide (64<(c.Items.length:Int)) then k true else k (decide (2000<(c.Moves.length:Int)))
def qc9 (p:Patron):Option Int:=
 let k17 (v:Bool):Option Int:=let k16 (v1:Bool):Option Int:=let k15 (v2:Bool):Option Int:=let k14 (v13:Int):Option Int:=some v13;bif v2 then k14 1 else let k12 (v3:Bool):Option Int:=bif v3 then k14 2 else let k10 (v5:Bool):Option Int:=let k (v8:Bool):Option Int:=bif v8 then k14 3 else bif decide (200<(p.Name.length:Int)) then k14 4 else some 0;bif v5 then k true else match qde p.Name with|some r7 =>k (!(r7==p.Name))|none =>none;bif p.Name==([]) then k10 true else match qcg p.Name with|some r4 =>k10 (!r4)|none =>none;bif decide (p.Until<0) then k12 true else k12 (decide (109572<p.Until));bif v1 then k15 true else k15 (decide (4<p.Branch));bif v then k16 true else k16 (decide (p.Branch<1));bif decide (p.Kind<1) then k17 true else k17 (decide (9<p.Kind))
def b5q:(Int×(List Patron)×Int×Int×Unit)→Option ((Int×(List Patron)×Int×Int×Unit)⊕((Unit)⊕(Int×Unit))):=fun (last,v,v1,v2,_)=>
 bif decide (v2<v1) then match n5 v v2 with|some x =>let k6 (v3:Bool):Option ((Int×(List Patron)×Int×Int×Unit)⊕((Unit)⊕(Int×Unit))):=let k (v4:Int):Option ((Int×(List Patron)×Int×Int×Unit)⊕((Unit)⊕(Int×Unit))):=some (.inr (.inr (v4,())));bif v3 then k 2 else bif decide (x.ID≤last) then k 7 else match qc9 x with|some r5 =>bif !(r5==0) then some (.inr (.inr (r5,()))) else some (.inl (x.ID,v,v1,wr .i64 (v2+1),()))|none =>none;bif decide (x.ID<1) then k6 true else k6 (decide (9999<x.ID))|none =>none else some (.inr (.inl (())))
def qa9 (l:List Patron):Option Int:=
 bif decide (32<(l.length:Int)) then some 13 else match c9 b5q (0,l,(l.length:Int),0,()) with|some (.inl (_)) =>some 0|some (.inr (v,_)) =>some v|none =>none
def qdy (n:Int):Option Bool:=
 let k (v:Bool):Option Bool:=some v;bif decide (1≤n) then k (decide (n≤9999)) else k false
def qdw (n:Int):Option Bool:=
 let k (v:Bool):Option Bool:=some v;bif decide (0≤n) then k (decide (n≤109572)) else k false
def b23:((List Loan)×(List Loan)×Int×Int×Unit)→Option (((List Loan)×(List Loan)×Int×Int×Unit)⊕((Unit)⊕(Int×Unit))):=fun (l,v,v1,v2,_)=>
 bif decide (v2<v1) then match n5 v v2 with|some x =>let k25 (v4:Bool):Option (((List Loan)×(List Loan)×Int×Int×Unit)⊕((Unit)⊕(Int×Unit))):=let k24 (v23:Int):Option (((List Loan)×(List Loan)×Int×Int×Unit)⊕((Unit)⊕(Int×Unit))):=some (.inr (.inr (v23,())));bif v4 then k24 7 else match qdy x.Item with|some r5 =>(let k22 (v8:Bool):Option (((List Loan)×(List Loan)×Int×Int×Unit)⊕((Unit)⊕(Int×Unit))):=let k21 (v11:Bool):Option (((List Loan)×(List Loan)×Int×Int×Unit)⊕((Unit)⊕(Int×Unit))):=let k20 (v14:Bool):Option (((List Loan)×(List Loan)×Int×Int×Unit)⊕((Unit)⊕(Int×Unit))):=let k19 (v15:Bool):Option (((List Loan)×(List Loan)×Int×Int×Unit)⊕((Unit)⊕(Int×Unit))):=let k18 (v16:Bool):Option (((List Loan)×(List Loan)×Int×Int×Unit)⊕((Unit)⊕(Int×Unit))):=let k (v17:Bool):Option (((List Loan)×(List Loan)×Int×Int×Unit)⊕((Unit)⊕(Int×Unit))):=bif v17 then k24 2 else some (.inl (l,v,v1,wr .i64 (v2+1),()));bif v16 then k true else k (decide (10<x.Renewals));bif v15 then k18 true else k18 (decide (x.Renewals<0));bif v14 then k19 true else k19 (decide (x.Due<x.Out));bif v11 then k20 true else match qdw x.Due with|some r13 =>k20 (!r13)|none =>none;bif v8 then k21 true else match qdw x.Out with|some r10 =>k21 (!r10)|none =>none;bif !r5 then k22 true else match qdy x.Patron with|some r7 =>k22 (!r7)|none =>none)|none =>none;bif decide (0<v2) then match n5 l (wr .i64 (v2-1)) with|some x3 =>k25 (decide (x.Item≤x3.Item))|none =>none else k25 false|none =>none else some (.inr (.inl (())))
def qbb (l:List Loan):Option Int:=
 bif decide (64<(l.length:Int)) then some 13 else match c9 b23 (l,l,(l.length:Int),0,()) with|some (.inl (_)) =>some 0|some (.inr (v,_)) =>some v|none =>none
def qdt (n:Int):Option Bool:=
 match qbo n 0 109572 with|some r1 =>some r1|none =>none
def qd9 (h:Hold):Option Int:=
 match qbo h.ID 1 99999 with|some r1 =>(let k41 (v:Bool):Option Int:=let k40 (v6:Bool):Option Int:=let k39 (v9:Bool):Option Int:=let k38 (v37:Int):Option Int:=some v37;bif v9 then k38 2 else match qbo h.Pickup 1 4 with|some r11 =>(let k36 (v14:Bool):Option Int:=let k35 (v17:Bool):Option Int:=let k34 (v20:Bool):Option Int:=let k33 (v23:Bool):Option Int:=let k32 (v26:Bool):Option Int:=bif v26 then k38 2 else match qbo h.State 1 3 with|some r28 =>bif !r28 then k38 1 else let k (v29:Bool):Option Int:=bif v29 then k38 12 else some 0;bif !((decide (0<h.Got))==(!(h.State==1))) then k true else k (!((decide (0<h.Until))==(h.State==3)))|none =>none;bif v23 then k32 true else match qbo h.Rank 0 9 with|some r25 =>k32 (!r25)|none =>none;bif v20 then k33 true else match qdt h.Asleep with|some r22 =>k33 (!r22)|none =>none;bif v17 then k34 true else match qdt h.Until with|some r19 =>k34 (!r19)|none =>none;bif v14 then k35 true else match qbo h.Got 0 9999 with|some r16 =>k35 (!r16)|none =>none;bif !r11 then k36 true else match qdt h.Placed with|some r13 =>k36 (!r13)|none =>none)|none =>none;bif v6 then k39 true else match qbo h.Item 0 9999 with|some r8 =>k39 (!r8)|none =>none;bif v then k40 true else match qbo h.Record 1 9999 with|some r5 =>k40 (!r5)|none =>none;bif !r1 then k41 true else match qbo h.Patron 1 9999 with|some r3 =>k41 (!r3)|none =>none)|none =>none
def qcr (a:Hold) (b:Hold):Option Bool:=
 let k (v:Bool):Option Bool:=some v;bif a.Patron==b.Patron then k (a.Record==b.Record) else k false
def c2f {γ0:Type} (p:γ0→Hold→Hold→Option Bool):((List Hold)×γ0×Int×Int×Int×Int×Int×Unit)→Option (((List Hold)×γ0×Int×Int×Int×Int×Int×Unit)⊕(((List Hold)×γ0×Int×Int×Unit)⊕(Bool×Unit))):=fun (l,g,i,v,v2,v3,v4,_)=>
 bif decide (v4<v3) then match n5 l v4 with|some x =>(match n5 l i with|some x5 =>(match p g x x5 with|some r =>bif r then some (.inr (.inr (true,()))) else some (.inl (l,g,i,v,v2,v3,wr .i64 (v4+1),()))|none =>none)|none =>none)|none =>none else some (.inr (.inl (l,g,v,v2,())))
def c5l {γ0:Type} (p:γ0→Hold→Hold→Option Bool):((List Hold)×γ0×Int×Int×Unit)→Option (((List Hold)×γ0×Int×Int×Unit)⊕((Unit)⊕(Bool×Unit))):=fun (l,g,v,v1,_)=>
 bif decide (v1<v) then match c9 (c2f p) (l,g,v1,v,v1,v1,0,()) with|some (.inl (l6,g7,v8,v9,_)) =>some (.inl (l6,g7,v8,wr .i64 (v9+1),()))|some (.inr (v10,_)) =>some (.inr (.inr (v10,())))|none =>none else some (.inr (.inl (())))
def qd {γ0:Type} (p:γ0→Hold→Hold→Option Bool) (l:List Hold) (g:γ0):Option Bool:=
 match c9 (c5l p) (l,g,(l.length:Int),0,()) with|some (.inl (_)) =>some false|some (.inr (v,_)) =>some v|none =>none
def qcq (a:Hold) (b:Hold):Option Bool:=
 let k (v:Bool):Option Bool:=some v;bif a.Got==b.Got then k (decide (0<a.Got)) else k false
def c5s:((List Hold)×(List Hold)×Int×Int×Unit)→Option (((List Hold)×(List Hold)×Int×Int×Unit)⊕(((List Hold)×Unit)⊕(Int×Unit))):=fun (l,v,v1,v2,_)=>
 bif decide (v2<v1) then match n5 v v2 with|some x =>let k (v4:Bool):Option (((List Hold)×(List Hold)×Int×Int×Unit)⊕(((List Hold)×Unit)⊕(Int×Unit))):=bif v4 then some (.inr (.inr (7,()))) else match qd9 x with|some r5 =>bif !(r5==0) then some (.inr (.inr (r5,()))) else some (.inl (l,v,v1,wr .i64 (v2+1),()))|none =>none;bif decide (0<v2) then match n5 l (wr .i64 (v2-1)) with|some x3 =>k (decide (x.ID≤x3.ID))|none =>none else k false|none =>none else some (.inr (.inl (l,())))
def qm (l:List Hold):Option Int:=
 bif decide (64<(l.length:Int)) then some 13 else match c9 c5s (l,l,(l.length:Int),0,()) with|some (.inl (l6,_)) =>(match qd (fun g x0 x1=>qcr x0 x1) l6 ((),()) with|some r7 =>(bif r7 then some 7 else match qd (fun g x0 x1=>qcq x0 x1) l6 ((),()) with|some r9 =>bif r9 then some 7 else some 0|none =>none)|none =>none)|some (.inr (v,_)) =>some v|none =>none
def qbl (n:Int) (least:Int) (most:Int):Option Bool:=
 let k (v:Bool):Option Bool:=some v;bif decide (least≤n) then k (decide (n≤most)) else k false
def qd3 (r:Rule):Option Bool:=
 match qbl r.Patron 0 9 with|some r2 =>let k48 (v:Bool):Option Bool:=let k47 (v7:Bool):Option Bool:=let k46 (v10:Bool):Option Bool:=let k45 (v13:Bool):Option Bool:=let k44 (v16:Bool):Option Bool:=let k43 (v19:Bool):Option Bool:=let k42 (v22:Bool):Option Bool:=let k41 (v25:Bool):Option Bool:=let k40 (v28:Bool):Option Bool:=let k39 (v31:Bool):Option Bool:=let k38 (v34:Bool):Option Bool:=let k (v37:Bool):Option Bool:=some v37;bif v34 then match qbl r.Rank 0 9 with|some r36 =>k r36|none =>none else k false;bif v31 then match qbl r.Fixed 0 109572 with|some r33 =>k38 r33|none =>none else k38 false;bif v28 then match qbl r.Recall 1 60 with|some r30 =>k39 r30|none =>none else k39 false;bif v25 then match qbl r.Shelf 1 60 with|some r27 =>k40 r27|none =>none else k40 false;bif v22 then match qbl r.Loans 0 99 with|some r24 =>k41 r24|none =>none else k41 false;bif v19 then match qbl r.MaxFine 0 100000000 with|some r21 =>k42 r21|none =>none else k42 false;bif v16 then match qbl r.Grace 0 30 with|some r18 =>k43 r18|none =>none else k43 false;bif v13 then match qbl r.Fine 0 1000 with|some r15 =>k44 r15|none =>none else k44 false;bif v10 then match qbl r.Renewals 0 10 with|some r12 =>k45 r12|none =>none else k45 false;bif v7 then match qbl r.Days 0 365 with|some r9 =>k46 r9|none =>none else k46 false;bif v then match qbl r.Branch 0 4 with|some r6 =>k47 r6|none =>none else k47 false;bif r2 then match qbl r.Item 0 9 with|some r4 =>k48 r4|none =>none else k48 false|none =>none
def qbw (o:Rule) (v:Rule):Option Bool:=
 let k3 (v1:Bool):Option Bool:=let k (v2:Bool):Option Bool:=some v2;bif v1 then k (o.Branch==v.Branch) else k false;bif o.Patron==v.Patron then k3 (o.Item==v.Item) else k3 false
def b52 {γ0:Type} (p:γ0→Rule→Option Bool):((List Rule)×γ0×Int×Int×Unit)→Option (((List Rule)×γ0×Int×Int×Unit)⊕((Unit)⊕(Int×Unit))):=fun (s,g,v,v1,_)=>
 bif decide (v1<v) then match n5 s v1 with|some x =>(match p g x with|some r =>bif r then some (.inr (.inr (v1,()))) else some (.inl (s,g,v,wr .i64 (v1+1),()))|none =>none)|none =>none else some (.inr (.inl (())))
def qar {γ0:Type} (p:γ0→Rule→Option Bool) (s:List Rule) (g:γ0):Option Int:=
 match c9 (b52 p) (s,g,(s.length:Int),0,()) with|some (.inl (_)) =>some (-1)|some (.inr (v,_)) =>some v|none =>none
def qdz {γ0:Type} (p:γ0→Rule→Option Bool) (s:List Rule) (g:γ0):Option Bool:=
 match qar p s g with|some r1 =>some (decide (0≤r1))|none =>none
def d28:((List Rule)×(List Rule)×Int×Int×Unit)→Option (((List Rule)×(List Rule)×Int×Int×Unit)⊕((Unit)⊕(Int×Unit))):=fun (l,v,v1,v2,_)=>
 bif decide (v2<v1) then match n5 v v2 with|some x =>(match qd3 x with|some r3 =>bif !r3 then some (.inr (.inr (2,()))) else bif decide (0≤(0:Int))&&(decide ((0:Int)≤v2)&&decide (v2≤(l.length:Int))) then match qdz (fun g x0=>qbw x0 g.2.1) ((l.take v2.toNat).drop (0:Int).toNat) ((),(x,())) with|some r5 =>bif r5 then some (.inr (.inr (7,()))) else some (.inl (l,v,v1,wr .i64 (v2+1),()))|none =>none else none|none =>none)|none =>none else some (.inr (.inl (())))
def qs (l:List Rule):Option Int:=
 bif decide (32<(l.length:Int)) then some 13 else match c9 d28 (l,l,(l.length:Int),0,()) with|some (.inl (_)) =>some 0|some (.inr (v,_)) =>some v|none =>none
def c2p:((V4 Calendar)×Int×Circ×Unit)→Option (((V4 Calendar)×Int×Circ×Unit)⊕((Circ×Unit)⊕(Bool×Unit))):=fun (v,v13,c,_)=>
 bif decide (v13<4) then let k (v14:Int) (v15:List Int):Option (((V4 Calendar)×Int×Circ×Unit)⊕((Circ×Unit)⊕(Bool×Unit))):=match qr (⟨v14,v15⟩:Calendar) with|some r16 =>bif !(r16==0) then some (.inr (.inr (false,()))) else some (.inl (v,wr .i64 (v13+1),c,()))|none =>none;bif v13==0 then k v.x0.Week v.x0.Closed else bif v13==1 then k v.x1.Week v.x1.Closed else bif v13==2 then k v.x2.Week v.x2.Closed else bif v13==3 then k v.x3.Week v.x3.Closed else none else some (.inr (.inl (c,())))
def b6f:((List Hold)×Int×Int×Circ×Unit)→Option (((List Hold)×Int×Int×Circ×Unit)⊕((Circ×Unit)⊕(Bool×Unit))):=fun (v,v23,v24,c,_)=>
 bif decide (v24<v23) then match n5 v v24 with|some x =>bif decide (c.NextHold≤x.ID) then some (.inr (.inr (false,()))) else some (.inl (v,v23,wr .i64 (v24+1),c,()))|none =>none else some (.inr (.inl (c,())))
def b6g:((List Charge)×Int×Int×Circ×Unit)→Option (((List Charge)×Int×Int×Circ×Unit)⊕((Unit)⊕(Bool×Unit))):=fun (v,v26,v27,c,_)=>
 bif decide (v27<v26) then match n5 v v27 with|some x =>bif decide (c.NextCharge≤x.ID) then some (.inr (.inr (false,()))) else some (.inl (v,v26,wr .i64 (v27+1),c,()))|none =>none else some (.inr (.inl (())))
def qo (c:Circ):Option Bool:=
 match qa9 c.Patrons with|some r1 =>(let k34 (v:Bool):Option Bool:=let k33 (v6:Bool):Option Bool:=let k32 (v9:Bool):Option Bool:=let k31 (v12:Bool):Option Bool:=bif v12 then some false else match c9 c2p (c.Cals,0,c,()) with|some (.inl (c17,_)) =>(match qbp c17.NextHold 1 100000 with|some r19 =>(let k (v22:Bool):Option Bool:=bif v22 then some false else match c9 b6f (c17.Holds,(c17.Holds.length:Int),0,c17,()) with|some (.inl (c25,_)) =>(match c9 b6g (c25.Charges,(c25.Charges.length:Int),0,c25,()) with|some (.inl (_)) =>some true|some (.inr (v28,_)) =>some v28|none =>none)|some (.inr (v29,_)) =>some v29|none =>none;bif !r19 then k true else match qbp c17.NextCharge 1 100000 with|some r21 =>k (!r21)|none =>none)|none =>none)|some (.inr (v30,_)) =>some v30|none =>none;bif v9 then k31 true else match qs c.Rules with|some r11 =>k31 (!(r11==0))|none =>none;bif v6 then k32 true else match qay c.Charges with|some r8 =>k32 (!(r8==0))|none =>none;bif v then k33 true else match qm c.Holds with|some r5 =>k33 (!(r5==0))|none =>none;bif !(r1==0) then k34 true else match qbb c.Loans with|some r3 =>k34 (!(r3==0))|none =>none)|none =>none
def qbs (vid:Int) (v:Circ):Option Bool:=
 match qds v.Patrons vid with|some (r1,r2) =>some r2|none =>none
def c5m:((List Loan)×Int×Int×Circ×Unit)→Option (((List Loan)×Int×Int×Circ×Unit)⊕((Circ×Unit)⊕(Bool×Unit))):=fun (v,v1,v2,c,_)=>
 bif decide (v2<v1) then match n5 v v2 with|some x =>(match qbs x.Patron c with|some r3 =>(let k (v6:Bool):Option (((List Loan)×Int×Int×Circ×Unit)⊕((Circ×Unit)⊕(Bool×Unit))):=bif v6 then some (.inr (.inr (false,()))) else some (.inl (v,v1,wr .i64 (v2+1),c,()));bif !r3 then k true else match qaz c x.Item with|some r5 =>k (decide (r5<0))|none =>none)|none =>none)|none =>none else some (.inr (.inl (c,())))
def d2y:((List Hold)×Int×Int×Circ×Unit)→Option (((List Hold)×Int×Int×Circ×Unit)⊕((Circ×Unit)⊕(Bool×Unit))):=fun (v,v8,v9,c,_)=>
 bif decide (v9<v8) then match n5 v v9 with|some x =>(match qbs x.Patron c with|some r10 =>bif !r10 then some (.inr (.inr (false,()))) else some (.inl (v,v8,wr .i64 (v9+1),c,()))|none =>none)|none =>none else some (.inr (.inl (c,())))
def b59:((List Charge)×Int×Int×Circ×Unit)→Option (((List Charge)×Int×Int×Circ×Unit)⊕((Unit)⊕(Bool×Unit))):=fun (v,v12,v13,c,_)=>
 bif decide (v13<v12) then match n5 v v13 with|some x =>(match qbs x.Patron c with|some r14 =>bif !r14 then some (.inr (.inr (false,()))) else some (.inl (v,v12,wr .i64 (v13+1),c,()))|none =>none)|none =>none else some (.inr (.inl (())))
def qe (c:Circ):Option Bool:=
 match c9 c5m (c.Loans,(c.Loans.length:Int),0,c,()) with|some (.inl (c7,_)) =>(match c9 d2y (c7.Holds,(c7.Holds.length:Int),0,c7,()) with|some (.inl (c11,_)) =>(match c9 b59 (c11.Charges,(c11.Charges.length:Int),0,c11,()) with|some (.inl (_)) =>some true|some (.inr (v,_)) =>some v|none =>none)|some (.inr (v15,_)) =>some v15|none =>none)|some (.inr (v16,_)) =>some v16|none =>none
def qeb (l:List Loan) (item:Int):Option (Loan×Bool):=
 match qa0 item with|some r1 =>(match qcm (fun g x0=>qbv x0 g.2.1) l ((),(r1.1,())) with|some (r3,r4) =>some (r3,decide (0≤r4))|none =>none)|none =>none
def b57:((List Item)×Int×Int×Circ×Unit)→Option (((List Item)×Int×Int×Circ×Unit)⊕((Unit)⊕(Bool×Unit))):=fun (v,v1,v2,c,_)=>
 bif decide (v2<v1) then match n5 v v2 with|some x =>(match qeb c.Loans x.ID with|some (r3,r4) =>let k10 (v5:Bool):Option (((List Item)×Int×Int×Circ×Unit)⊕((Unit)⊕(Bool×Unit))):=let k9 (v6:Bool):Option (((List Item)×Int×Int×Circ×Unit)⊕((Unit)⊕(Bool×Unit))):=let k (v8:Bool):Option (((List Item)×Int×Int×Circ×Unit)⊕((Unit)⊕(Bool×Unit))):=bif v8 then some (.inr (.inr (false,()))) else some (.inl (v,v1,wr .i64 (v2+1),c,()));bif !(r4==v6) then k true else bif r4 then k (!(r3.Patron==x.Custody.Who)) else k false;bif v5 then k9 true else k9 (x.Custody.State==10);bif x.Custody.State==4 then k10 true else k10 (x.Custody.State==9)|none =>none)|none =>none else some (.inr (.inl (())))
def qbf (c:Circ):Option Bool:=
 match c9 b57 (c.Items,(c.Items.length:Int),0,c,()) with|some (.inl (_)) =>some true|some (.inr (v,_)) =>some v|none =>none
def c5z:((List Hold)×Int×Int×Circ×Unit)→Option (((List Hold)×Int×Int×Circ×Unit)⊕((Circ×Unit)⊕(Bool×Unit))):=fun (v,v1,v2,c,_)=>
 bif decide (v2<v1) then match n5 v v2 with|some x =>(bif x.State==1 then some (.inl (v,v1,wr .i64 (v2+1),c,())) else match qaz c x.Got with|some r3 =>(let k9 (v5:Bool):Option (((List Hold)×Int×Int×Circ×Unit)⊕((Circ×Unit)⊕(Bool×Unit))):=bif v5 then some (.inr (.inr (false,()))) else match n5 c.Items r3 with|some x6 =>let k (want:Int) (want7:Int) (want8:Int):Option (((List Hold)×Int×Int×Circ×Unit)⊕((Circ×Unit)⊕(Bool×Unit))):=bif !(s9 x6.Custody (⟨want,want7,x.Patron,want8⟩:Custody)) then some (.inr (.inr (false,()))) else some (.inl (v,v1,wr .i64 (v2+1),c,()));bif x.State==2 then k 6 x6.Custody.Branch x.Pickup else k 5 x.Pickup 0|none =>none;bif decide (r3<0) then k9 true else match n5 c.Items r3 with|some x4 =>k9 (!(x4.Record==x.Record))|none =>none)|none =>none)|none =>none else some (.inr (.inl (c,())))
def b6l:((List Item)×Int×Int×Circ×Unit)→Option (((List Item)×Int×Int×Circ×Unit)⊕((Unit)⊕(Bool×Unit))):=fun (v,v11,v12,c,_)=>
 bif decide (v12<v11) then match n5 v v12 with|some x =>(match qap c x.ID with|some (r13,r14) =>let k (v16:Bool):Option (((List Item)×Int×Int×Circ×Unit)⊕((Unit)⊕(Bool×Unit))):=bif v16 then some (.inr (.inr (false,()))) else some (.inl (v,v11,wr .i64 (v12+1),c,()));bif x.Custody.State==5 then bif !r14 then k true else k (!(r13.State==3)) else k false|none =>none)|none =>none else some (.inr (.inl (())))
def qy (c:Circ):Option Bool:=
 match c9 c5z (c.Holds,(c.Holds.length:Int),0,c,()) with|some (.inl (c10,_)) =>(match c9 b6l (c10.Items,(c10.Items.length:Int),0,c10,()) with|some (.inl (_)) =>some true|some (.inr (v,_)) =>some v|none =>none)|some (.inr (v17,_)) =>some v17|none =>none
def qea (c:Circ):Option Bool:=
 match qbp c.Today 0 109572 with|some r1 =>let k19 (v:Bool):Option Bool:=let k18 (v6:Bool):Option Bool:=let k17 (v9:Bool):Option Bool:=let k16 (v12:Bool):Option Bool:=let k (v15:Bool):Option Bool:=some v15;bif v12 then match qy c with|some r14 =>k r14|none =>none else k false;bif v9 then match qbf c with|some r11 =>k16 r11|none =>none else k16 false;bif v6 then match qe c with|some r8 =>k17 r8|none =>none else k17 false;bif v then match qo c with|some r5 =>k18 r5|none =>none else k18 false;bif r1 then match qp c with|some r3 =>k19 r3|none =>none else k19 false|none =>none
def b27:((List Int)×(List Int)×(List Int)×Int×Bool×Bool×Int×Circ×Unit)→Option (((List Int)×(List Int)×(List Int)×Int×Bool×Bool×Int×Circ×Unit)⊕(((List Int)×(List Int)×(List Int)×Int×Bool×Bool×Circ×Unit))):=fun (l,before,after,i,was,scanned,k,x,_)=>
 bif decide (k<(before.length:Int)) then let k15 (v:Bool):Option (((List Int)×(List Int)×(List Int)×Int×Bool×Bool×Int×Circ×Unit)⊕(((List Int)×(List Int)×(List Int)×Int×Bool×Bool×Circ×Unit))):=some (.inl (l,before,after,i,v,scanned,wr .i64 (k+1),x,()));bif was then k15 true else match n5 before k with|some x13 =>(match n5 after i with|some x14 =>k15 (x13==x14)|none =>none)|none =>none else some (.inr ((l,before,after,i,was,scanned,x,())))
def b28:((List Int)×(List Int)×(List Int)×Int×Bool×Bool×Int×Circ×Unit)→Option (((List Int)×(List Int)×(List Int)×Int×Bool×Bool×Int×Circ×Unit)⊕(((List Int)×(List Int)×(List Int)×Int×Bool×Bool×Circ×Unit))):=fun (l,before,after,i,was,scanned,k,x,_)=>
 bif decide (k<(l.length:Int)) then let k23 (v:Bool):Option (((List Int)×(List Int)×(List Int)×Int×Bool×Bool×Int×Circ×Unit)⊕(((List Int)×(List Int)×(List Int)×Int×Bool×Bool×Circ×Unit))):=some (.inl (l,before,after,i,was,v,wr .i64 (k+1),x,()));bif scanned then k23 true else match n5 l k with|some x21 =>(match n5 after i with|some x22 =>k23 (x21==x22)|none =>none)|none =>none else some (.inr ((l,before,after,i,was,scanned,x,())))
def c5q:((List Int)×(List Int)×(List Int)×Int×Circ×Unit)→Option (((List Int)×(List Int)×(List Int)×Int×Circ×Unit)⊕((Circ×Unit)⊕(Bool×Unit))):=fun (l,before,after,i,x,_)=>
 bif decide (i<(after.length:Int)) then match c9 b27 (l,before,after,i,false,false,0,x,()) with|some ((l16,before17,after18,i19,was,scanned,x20,_)) =>(match c9 b28 (l16,before17,after18,i19,was,scanned,0,x20,()) with|some ((l24,before25,after26,i27,was28,scanned29,x30,_)) =>let k (v:Bool):Option (((List Int)×(List Int)×(List Int)×Int×Circ×Unit)⊕((Circ×Unit)⊕(Bool×Unit))):=bif v then some (.inr (.inr (false,()))) else some (.inl (l24,before25,after26,wr .i64 (i27+1),x30,()));bif was28 then k (!scanned29) else k false|none =>none)|none =>none else some (.inr (.inl (x,())))
def qi (c:Circ) (branch:Int) (l:List Int):Option Bool:=
 match qdg c l with|some r1 =>(bif !r1 then match qb0 with|some r3 =>some r3|none =>none else match qa7 c branch l with|some (r5,r6) =>(bif !(r6==0) then match qb0 with|some r8 =>some r8|none =>none else match qag c branch with|some r10 =>(match qag r5 branch with|some r12 =>(match c9 c5q (l,r10,r12,0,r5,()) with|some (.inl (x,_)) =>(match qb0 with|some r32 =>let k (v:Bool):Option Bool:=some v;bif r32 then match qea x with|some r34 =>k r34|none =>none else k false|none =>none)|some (.inr (v35,_)) =>some v35|none =>none)|none =>none)|none =>none)|none =>none)|none =>none
def qdj (s:List Patron):Option (List Patron):=
 bif decide (([]:List Patron).length+s.length≤LIM) then some (([])++s) else none
end
section
set_option maxRecDepth 100000
def a9i:(Int×Int×Circ×Circ×Move×Custody×(List Item)×Unit)→Option ((Int×Int×Circ×Circ×Move×Custody×(List Item)×Unit)⊕((Circ×Circ×Move×(List Item)×Unit))):=fun (i,k,c,v,m,u,l,_)=>
 bif decide (k<(c.Items.length:Int)) then match n5 c.Items k with|some x =>let k6 (x5:Item):Option ((Int×Int×Circ×Circ×Move×Custody×(List Item)×Unit)⊕((Circ×Circ×Move×(List Item)×Unit))):=bif decide (l.length+([x5]:List Item).length≤LIM) then some (.inl (i,wr .i64 (k+1),c,v,m,u,l++([x5]:List Item),())) else none;bif k==i then k6 (⟨x.ID,x.Record,x.Branch,x.Kind,x.Price,x.Call,u⟩:Item) else k6 x|none =>none else some (.inr ((c,v,m,l,())))
def qfb (c:Circ) (item:Int) (kind:Int) (branch:Int) (who:Int):Option (Circ×Int):=
 match qq c item with|some r1 =>(match n5 c.Items r1 with|some x =>(match qb5 x.Custody (⟨c.Today,item,kind,branch,who⟩:Move) with|some (r3,r4) =>(bif !(r4==0) then some (ZN,r4) else bif decide (2000≤(c.Moves.length:Int)) then some (ZN,13) else match c9 a9i (r1,0,c,ZN,(⟨c.Today,item,kind,branch,who⟩:Move),r3,([]:List Item),()) with|some ((c7,v,m,l,_)) =>bif decide (c7.Moves.length≤LIM) then bif decide (c7.Moves.length+([m]:List Move).length≤LIM) then some ({c7 with Items:=l,Moves:=c7.Moves++([m]:List Move)},0) else none else none|none =>none)|none =>none)|none =>none)|none =>none
def c2o:((List Charge)×Int×Charge×(List Charge)×Unit)→Option (((List Charge)×Int×Charge×(List Charge)×Unit)⊕((Charge×(List Charge)×Unit))):=fun (l,i,c,l1,_)=>
 bif decide (i<(l.length:Int)) then match n5 l i with|some x =>bif decide (l1.length+([x]:List Charge).length≤LIM) then some (.inl (l,wr .i64 (i+1),c,l1++([x]:List Charge),())) else none|none =>none else some (.inr ((c,l1,())))
def qfz (l:List Charge) (c:Charge):Option ((List Charge)×Int):=
 match c9 c2o (l,0,c,([]:List Charge),()) with|some ((c2,l3,_)) =>bif decide (l3.length+([c2]:List Charge).length≤LIM) then match qaq (l3++([c2]:List Charge)) with|some r4 =>bif !(r4==0) then some ([],r4) else some (l3++([c2]:List Charge),0)|none =>none else none|none =>none
def qe0 (c:Circ) (patron:Int) (item:Int) (kind:Int) (amount:Int):Option (Circ×Int):=
 bif decide (99999<c.NextCharge) then some (ZN,13) else match qfz c.Charges (⟨c.NextCharge,patron,item,c.Today,kind,amount,0⟩:Charge) with|some (r1,r2) =>bif !(r2==0) then some (ZN,r2) else some ({c with Charges:=r1,NextCharge:=wr .i64 (c.NextCharge+1)},0)|none =>none
def c2i:((List Hold)×Int×Hold×(List Hold)×Unit)→Option (((List Hold)×Int×Hold×(List Hold)×Unit)⊕(((List Hold)×Unit))):=fun (l,i,h,l1,_)=>
 bif decide (i<(l.length:Int)) then match n5 l i with|some x =>(let k (l3:List Hold):Option (((List Hold)×Int×Hold×(List Hold)×Unit)⊕(((List Hold)×Unit))):=some (.inl (l,wr .i64 (i+1),h,l3,()));bif x.ID==h.ID then bif decide (l1.length+([h]:List Hold).length≤LIM) then k (l1++([h]:List Hold)) else none else match n5 l i with|some x2 =>bif decide (l1.length+([x2]:List Hold).length≤LIM) then k (l1++([x2]:List Hold)) else none|none =>none)|none =>none else some (.inr ((l1,())))
def qfo (l:List Hold) (h:Hold):Option (List Hold):=
 match c9 c2i (l,0,h,([]:List Hold),()) with|some ((l4,_)) =>some l4|none =>none
def c2k:((List Hold)×Int×Int×Unit)→Option (((List Hold)×Int×Int×Unit)⊕((Unit)⊕((List Hold)×Int×Unit))):=fun (l,item,i,_)=>
 bif decide (i<(l.length:Int)) then let k (v:Bool):Option (((List Hold)×Int×Int×Unit)⊕((Unit)⊕((List Hold)×Int×Unit))):=bif v then match n5 l i with|some x1 =>(match qfo l (⟨x1.ID,x1.Patron,x1.Record,x1.Item,x1.Pickup,x1.Placed,1,0,0,x1.Asleep,x1.Rank⟩:Hold) with|some r2 =>some (.inr (.inr (r2,0,())))|none =>none)|none =>none else some (.inl (l,item,wr .i64 (i+1),()));bif !(item==0) then match n5 l i with|some x =>k (x.Got==item)|none =>none else k false else some (.inr (.inl (())))
def qfq (l:List Hold) (item:Int):Option ((List Hold)×Int):=
 match c9 c2k (l,item,0,()) with|some (.inl (_)) =>some ([],9)|some (.inr (v,v3,_)) =>some (v,v3)|none =>none
def b6a:((List Hold)×Int×Int×Int×Int×(List Int)×Unit)→Option (((List Hold)×Int×Int×Int×Int×(List Int)×Unit)⊕(((List Hold)×Int×Int×Int×(List Int)×Unit))):=fun (l,record,day,rank,i,l2,_)=>
 bif decide (i<(l.length:Int)) then match n5 l i with|some x =>let k6 (v:Bool):Option (((List Hold)×Int×Int×Int×Int×(List Int)×Unit)⊕(((List Hold)×Int×Int×Int×(List Int)×Unit))):=let k5 (v3:Bool):Option (((List Hold)×Int×Int×Int×Int×(List Int)×Unit)⊕(((List Hold)×Int×Int×Int×(List Int)×Unit))):=let k (v4:Bool):Option (((List Hold)×Int×Int×Int×Int×(List Int)×Unit)⊕(((List Hold)×Int×Int×Int×(List Int)×Unit))):=bif v4 then bif decide (l2.length+([x.ID]:List Int).length≤LIM) then some (.inl (l,record,day,rank,wr .i64 (i+1),l2++([x.ID]:List Int),())) else none else some (.inl (l,record,day,rank,wr .i64 (i+1),l2,()));bif v3 then k (x.Rank==rank) else k false;bif v then k5 (decide (x.Asleep≤day)) else k5 false;bif x.State==1 then k6 (x.Record==record) else k6 false|none =>none else some (.inr ((l,record,day,rank,l2,())))
def c90:((List Hold)×Int×Int×Int×(List Int)×Unit)→Option (((List Hold)×Int×Int×Int×(List Int)×Unit)⊕(((List Int)×Unit))):=fun (l,record,day,rank,l1,_)=>
 bif decide (0≤rank) then match c9 b6a (l,record,day,rank,0,l1,()) with|some ((l7,record8,day9,rank10,l11,_)) =>some (.inl (l7,record8,day9,wr .i64 (rank10-1),l11,()))|none =>none else some (.inr ((l1,())))
def qfc (l:List Hold) (record:Int) (day:Int):Option (List Int):=
 match c9 c90 (l,record,day,9,([]:List Int),()) with|some ((l12,_)) =>some l12|none =>none
def c2n:((List Hold)×Int×Int×Hold×Unit)→Option (((List Hold)×Int×Int×Hold×Unit)⊕((Hold×Unit)⊕(Bool×Hold×Unit))):=fun (l,vid,i,v,_)=>
 bif decide (i<(l.length:Int)) then match n5 l i with|some x =>bif x.ID==vid then match n5 l i with|some x1 =>some (.inr (.inr (true,x1,())))|none =>none else some (.inl (l,vid,wr .i64 (i+1),v,()))|none =>none else some (.inr (.inl (v,())))
def qfy (l:List Hold) (vid:Int):Option (Hold×Bool):=
 match c9 c2n (l,vid,0,(⟨0,0,0,0,0,0,0,0,0,0,0⟩:Hold),()) with|some (.inl (v,_)) =>some ((⟨0,0,0,0,0,0,0,0,0,0,0⟩:Hold),false)|some (.inr (v2,v3,_)) =>some (v3,v2)|none =>none
def c2j:((List Hold)×Int×Bool×(List Int)×Int×Int×Item×Unit)→Option (((List Hold)×Int×Bool×(List Int)×Int×Int×Item×Unit)⊕((Int×Unit)⊕(Int×Unit))):=fun (l,branch,vlocal,q,first,i,x,_)=>
 bif decide (i<(q.length:Int)) then match n5 q i with|some x2 =>(match qfy l x2 with|some (r3,r4) =>let k8 (v:Bool):Option (((List Hold)×Int×Bool×(List Int)×Int×Int×Item×Unit)⊕((Int×Unit)⊕(Int×Unit))):=bif v then some (.inl (l,branch,vlocal,q,first,wr .i64 (i+1),x,())) else let k7 (v5:Bool):Option (((List Hold)×Int×Bool×(List Int)×Int×Int×Item×Unit)⊕((Int×Unit)⊕(Int×Unit))):=bif v5 then some (.inr (.inr (r3.ID,()))) else let k (first6:Int):Option (((List Hold)×Int×Bool×(List Int)×Int×Int×Item×Unit)⊕((Int×Unit)⊕(Int×Unit))):=some (.inl (l,branch,vlocal,q,first6,wr .i64 (i+1),x,()));bif first==0 then k r3.ID else k first;bif vlocal then k7 (r3.Pickup==branch) else k7 false;bif !(r3.Item==0) then k8 (!(r3.Item==x.ID)) else k8 false|none =>none)|none =>none else some (.inr (.inl (first,())))
def qfp (l:List Hold) (x:Item) (branch:Int) (day:Int) (vlocal:Bool):Option Int:=
 match qfc l x.Record day with|some r1 =>(match c9 c2j (l,branch,vlocal,r1,0,0,x,()) with|some (.inl (first,_)) =>some first|some (.inr (v,_)) =>some v|none =>none)|none =>none
def qfi (c:Circ) (item:Int):Option Int:=
 match qq c item with|some r1 =>(match n5 c.Items r1 with|some x =>(match qfp c.Holds x x.Custody.Branch c.Today c.Local with|some r3 =>some r3|none =>none)|none =>none)|none =>none
def qft (r:Rule) (patron:Int) (item:Int) (branch:Int):Option Bool:=
 let k6 (v:Bool):Option Bool:=let k5 (v2:Bool):Option Bool:=let k (v4:Bool):Option Bool:=some v4;bif v2 then bif r.Branch==0 then k true else k (r.Branch==branch) else k false;bif v then bif r.Item==0 then k5 true else k5 (r.Item==item) else k5 false;bif r.Patron==0 then k6 true else k6 (r.Patron==patron)
def qe6 (r:Rule):Option Int:=
 let k4 (n:Int):Option Int:=let k3 (n1:Int):Option Int:=let k (n2:Int):Option Int:=some n2;bif !(r.Branch==0) then k (wr .i64 (n1+1)) else k n1;bif !(r.Item==0) then k3 (wr .i64 (n+2)) else k3 n;bif !(r.Patron==0) then k4 4 else k4 0
def b6b:((List Rule)×Int×Int×Int×Int×Int×Unit)→Option (((List Rule)×Int×Int×Int×Int×Int×Unit)⊕((Int×Unit))):=fun (l,patron,item,branch,best,i,_)=>
 bif decide (i<(l.length:Int)) then match n5 l i with|some x =>(match qft x patron item branch with|some r1 =>let k10 (v8:Bool):Option (((List Rule)×Int×Int×Int×Int×Int×Unit)⊕((Int×Unit))):=let k (best9:Int):Option (((List Rule)×Int×Int×Int×Int×Int×Unit)⊕((Int×Unit))):=some (.inl (l,patron,item,branch,best9,wr .i64 (i+1),()));bif v8 then k i else k best;bif r1 then bif decide (best<0) then k10 true else match n5 l i with|some x2 =>(match qe6 x2 with|some r4 =>(match n5 l best with|some x5 =>(match qe6 x5 with|some r7 =>k10 (decide (r7<r4))|none =>none)|none =>none)|none =>none)|none =>none else k10 false|none =>none)|none =>none else some (.inr ((best,())))
def qfe (l:List Rule) (patron:Int) (item:Int) (branch:Int):Option Int:=
 match c9 b6b (l,patron,item,branch,(-1),0,()) with|some ((best,_)) =>some best|none =>none
def qfu (l:List Rule) (patron:Int) (item:Int) (branch:Int):Option (Rule×Bool):=
 match qfe l patron item branch with|some r1 =>(bif decide (r1<0) then some ((⟨0,0,0,0,0,0,0,0,0,0,0,0,0⟩:Rule),false) else match n5 l r1 with|some x =>some (x,true)|none =>none)|none =>none
def qfh (c:Circ) (patron:Int) (x:Item):Option (Rule×Bool):=
 match qbt c.Patrons patron with|some (r1,r2) =>(bif !r2 then some ((⟨0,0,0,0,0,0,0,0,0,0,0,0,0⟩:Rule),false) else match qfu c.Rules r1.Kind x.Kind x.Branch with|some (r4,r5) =>some (r4,r5)|none =>none)|none =>none
def qfx (c:Circ) (branch:Int):Option Calendar:=
 let k (v:Int) (v1:List Int):Option Calendar:=some (⟨v,v1⟩:Calendar);bif (wr .i64 (branch-1))==0 then k c.Cals.x0.Week c.Cals.x0.Closed else bif (wr .i64 (branch-1))==1 then k c.Cals.x1.Week c.Cals.x1.Closed else bif (wr .i64 (branch-1))==2 then k c.Cals.x2.Week c.Cals.x2.Closed else bif (wr .i64 (branch-1))==3 then k c.Cals.x3.Week c.Cals.x3.Closed else none
def qf0 (day:Int):Option Bool:=
 let k (v:Bool):Option Bool:=some v;bif decide (0≤day) then k (decide (day≤109572)) else k false
def qe2 (day:Int):Option Int:=
 match qf0 day with|some r1 =>bif !r1 then some (-1) else some (day.tmod 7)|none =>none
def c2l:(Int×Int×Int×Int×Calendar×Unit)→Option ((Int×Int×Int×Int×Calendar×Unit)⊕((Int×Int×Calendar×Unit))):=fun (day,bit,w,i,c,_)=>
 bif decide (i<w) then some (.inl (day,wr .i64 (bit.tdiv 2),w,wr .i64 (i+1),c,())) else some (.inr ((day,bit,c,())))
def a9j:(Int×Int×Calendar×Unit)→Option ((Int×Int×Calendar×Unit)⊕((Unit)⊕(Bool×Unit))):=fun (day,i,c,_)=>
 bif decide (i<(c.Closed.length:Int)) then match n5 c.Closed i with|some x =>bif x==day then some (.inr (.inr (false,()))) else some (.inl (day,wr .i64 (i+1),c,()))|none =>none else some (.inr (.inl (())))
def qfv (c:Calendar) (day:Int):Option Bool:=
 let k (v:Bool):Option Bool:=bif v then some false else match qe2 day with|some r1 =>(match c9 c2l (day,c.Week,r1,0,c,()) with|some ((day2,bit,c3,_)) =>(bif (bit.tmod 2)==1 then some false else match c9 a9j (day2,0,c3,()) with|some (.inl (_)) =>some true|some (.inr (v4,_)) =>some v4|none =>none)|none =>none)|none =>none;bif decide (day<0) then k true else k (decide (109572<day))
def c2m:(Int×Calendar×Unit)→Option ((Int×Calendar×Unit)⊕((Unit)⊕(Int×Int×Unit))):=fun (d,c,_)=>
 bif decide (d≤109572) then match qfv c d with|some r1 =>bif r1 then some (.inr (.inr (d,0,()))) else some (.inl (wr .i64 (d+1),c,()))|none =>none else some (.inr (.inl (())))
def qfw (c:Calendar) (day:Int):Option (Int×Int):=
 match c9 c2m ((if day<0 then 0 else day),c,()) with|some (.inl (_)) =>some (0,2)|some (.inr (v,v2,_)) =>some (v,v2)|none =>none
def b6c:(Int×Int×Int×Calendar×Unit)→Option ((Int×Int×Int×Calendar×Unit)⊕((Int×Unit)⊕(Int×Int×Unit))):=fun (n,d,i,c,_)=>
 bif decide (i<n) then match qfw c (wr .i64 (d+1)) with|some (r4,r5) =>bif !(r5==0) then some (.inr (.inr (0,r5,()))) else some (.inl (n,r4,wr .i64 (i+1),c,()))|none =>none else some (.inr (.inl (d,())))
def qff (c:Calendar) (day:Int) (n:Int):Option (Int×Int):=
 let k8 (v:Bool):Option (Int×Int):=bif v then some (0,1) else let k (v1:Bool):Option (Int×Int):=bif v1 then some (0,2) else bif n==0 then match qfw c day with|some (r2,r3) =>some (r2,r3)|none =>none else match c9 b6c (n,day,0,c,()) with|some (.inl (d,_)) =>some (d,0)|some (.inr (v6,v7,_)) =>some (v6,v7)|none =>none;bif decide (day<0) then k true else k (decide (109572<day));bif decide (n<0) then k8 true else k8 (decide (1000<n))
def c2h:((List Hold)×Int×Int×Int×Int×Int×Hold×Unit)→Option (((List Hold)×Int×Int×Int×Int×Int×Hold×Unit)⊕(((List Hold)×Int×Int×Int×Hold×Unit)⊕((List Hold)×Int×Unit))):=fun (l,number,item,state,vuntil,i,h,_)=>
 bif decide (i<(l.length:Int)) then match n5 l i with|some x =>let k (v:Bool):Option (((List Hold)×Int×Int×Int×Int×Int×Hold×Unit)⊕(((List Hold)×Int×Int×Int×Hold×Unit)⊕((List Hold)×Int×Unit))):=bif v then some (.inr (.inr ([],7,()))) else some (.inl (l,number,item,state,vuntil,wr .i64 (i+1),h,()));bif !(x.ID==number) then match n5 l i with|some x16 =>k (x16.Got==item)|none =>none else k false|none =>none else some (.inr (.inl (l,item,state,vuntil,h,())))
def qfd (l:List Hold) (number:Int) (item:Int) (state:Int) (vuntil:Int):Option ((List Hold)×Int):=
 match qfy l number with|some (r1,r2) =>(bif !r2 then some ([],9) else match qdh item with|some r4 =>let k28 (v5:Bool):Option ((List Hold)×Int):=let k27 (v10:Bool):Option ((List Hold)×Int):=let k26 (v12:Bool):Option ((List Hold)×Int):=bif v12 then some ([],1) else let k25 (v15:Bool):Option ((List Hold)×Int):=bif v15 then some ([],12) else match c9 c2h (l,number,item,state,vuntil,0,r1,()) with|some (.inl (l17,item18,state19,vuntil20,h,_)) =>(match qfo l17 (⟨h.ID,h.Patron,h.Record,h.Item,h.Pickup,h.Placed,state19,item18,vuntil20,h.Asleep,h.Rank⟩:Hold) with|some r22 =>some (r22,0)|none =>none)|some (.inr (v23,v24,_)) =>some (v23,v24)|none =>none;bif !(r1.State==1) then let k (v13:Bool):Option ((List Hold)×Int):=bif v13 then k25 true else k25 (!(state==3));bif !(r1.State==2) then k true else k (!(r1.Got==item)) else k25 false;bif v10 then k26 true else bif state==2 then k26 (!(vuntil==0)) else k26 false;bif v5 then k27 true else bif state==3 then bif decide (vuntil<1) then k27 true else match qdx vuntil with|some r7 =>k27 (!r7)|none =>none else k27 false;bif !r4 then k28 true else bif !(state==2) then k28 (!(state==3)) else k28 false|none =>none)|none =>none
def qfa (c:Circ) (item:Int) (h:Hold):Option (Circ×Int):=
 match qq c item with|some r1 =>(match n5 c.Items r1 with|some x =>(match qfh c h.Patron x with|some (r3,r4) =>let k (days:Int):Option (Circ×Int):=match qfb c item 5 x.Custody.Branch h.Patron with|some (r6,r7) =>(bif !(r7==0) then some (ZN,r7) else match qfx r6 x.Custody.Branch with|some r9 =>(match qff r9 r6.Today days with|some (r11,r12) =>(bif !(r12==0) then some (ZN,r12) else match qfd r6.Holds h.ID item 3 r11 with|some (r14,r15) =>bif !(r15==0) then some (ZN,r15) else some ({r6 with Holds:=r14},0)|none =>none)|none =>none)|none =>none)|none =>none;bif r4 then k r3.Shelf else k 7|none =>none)|none =>none)|none =>none
def qfk (c:Circ) (item:Int):Option (Circ×Int):=
 match qq c item with|some r1 =>(match n5 c.Items r1 with|some x =>(match qfi c item with|some r3 =>(let k (v:Int) (v10:Circ):Option (Circ×Int):=some (v10,v);bif r3==0 then bif !(x.Branch==x.Custody.Branch) then match qfb c item 6 x.Branch 0 with|some (r5,r6) =>k r6 r5|none =>none else bif x.Custody.State==3 then k 0 c else match qfb c item 2 x.Custody.Branch 0 with|some (r8,r9) =>k r9 r8|none =>none else match qfy c.Holds r3 with|some (r12,r13) =>(bif r12.Pickup==x.Custody.Branch then match qfa c item r12 with|some (r15,r16) =>some (r15,r16)|none =>none else match qfb c item 6 r12.Pickup r12.Patron with|some (r18,r19) =>(bif !(r19==0) then some (ZN,r19) else match qfd r18.Holds r3 item 2 0 with|some (r21,r22) =>bif !(r22==0) then some (ZN,r22) else some ({r18 with Holds:=r21},0)|none =>none)|none =>none)|none =>none)|none =>none)|none =>none)|none =>none
def a4q:(Int×Int×Circ×Circ×Unit)→Option ((Int×Int×Circ×Circ×Unit)⊕((Circ×Circ×Unit)⊕(Int×Circ×Unit))):=fun (record,i,c,v,_)=>
 bif decide (i<(c.Items.length:Int)) then match n5 c.Items i with|some x =>let k7 (v1:Bool):Option ((Int×Int×Circ×Circ×Unit)⊕((Circ×Circ×Unit)⊕(Int×Circ×Unit))):=let k (v3:Bool):Option ((Int×Int×Circ×Circ×Unit)⊕((Circ×Circ×Unit)⊕(Int×Circ×Unit))):=bif v3 then some (.inl (record,wr .i64 (i+1),c,v,())) else match qfk c x.ID with|some (r5,r6) =>bif !(r6==0) then some (.inr (.inr (r6,ZN,()))) else some (.inl (record,wr .i64 (i+1),r5,v,()))|none =>none;bif v1 then k true else match qfi c x.ID with|some r2 =>k (r2==0)|none =>none;bif !(x.Record==record) then k7 true else k7 (!(x.Custody.State==3))|none =>none else some (.inr (.inl (c,v,())))
def qfj (c:Circ) (record:Int):Option (Circ×Int):=
 match c9 a4q (record,0,c,ZN,()) with|some (.inl (c8,v,_)) =>some (c8,0)|some (.inr (v9,v10,_)) =>some (v10,v9)|none =>none
def qfm (c:Circ) (item:Int):Option (Circ×Int):=
 match qq c item with|some r1 =>(bif decide (r1<0) then some (ZN,9) else match n5 c.Items r1 with|some x =>let k22 (v:Bool):Option (Circ×Int):=let k (v8:Int) (v9:Circ):Option (Circ×Int):=some (v9,v8);bif v then match qfb c item 12 x.Custody.Branch 0 with|some (r3,r4) =>(bif !(r4==0) then some (ZN,r4) else bif x.Price==0 then k 0 r3 else match qe0 r3 x.Custody.Who item 2 x.Price with|some (r6,r7) =>k r7 r6|none =>none)|none =>none else match qfb c item 13 x.Custody.Branch 0 with|some (r11,r12) =>(bif !(r12==0) then some (ZN,r12) else match qai r11 item with|some (r14,r15) =>(bif !r15 then some (r11,0) else match qfq r11.Holds item with|some (r17,r18) =>(bif !(r18==0) then some (ZN,r18) else match qfj {r11 with Holds:=r17} x.Record with|some (r20,r21) =>some (r20,r21)|none =>none)|none =>none)|none =>none)|none =>none;bif x.Custody.State==4 then k22 true else k22 (x.Custody.State==9)|none =>none)|none =>none
def qe1 (c:Circ) (item:Int) (branch:Int):Option (Circ×Int):=
 match qq c item with|some r1 =>(bif decide (r1<0) then some (ZN,9) else match qfb c item 1 branch 0 with|some (r3,r4) =>(bif !(r4==0) then some (ZN,r4) else match qfk r3 item with|some (r6,r7) =>some (r6,r7)|none =>none)|none =>none)|none =>none
def qfr (l:List Loan) (item:Int):Option ((List Loan)×Loan×Int):=
 match qaf l item with|some r1 =>bif decide (r1<0) then some ([],(⟨0,0,0,0,0,false⟩:Loan),9) else bif decide (0≤(0:Int))&&(decide ((0:Int)≤r1)&&decide (r1≤(l.length:Int))) then bif decide (([]:List Loan).length+((l.take r1.toNat).drop (0:Int).toNat).length≤LIM) then bif decide (0≤(wr .i64 (r1+1):Int))&&(decide ((wr .i64 (r1+1):Int)≤(l.length:Int))&&decide ((l.length:Int)≤(l.length:Int))) then bif decide ((([])++((l.take r1.toNat).drop (0:Int).toNat)).length+((l.take (l.length:Int).toNat).drop (wr .i64 (r1+1):Int).toNat).length≤LIM) then match n5 l r1 with|some x =>some ((([])++((l.take r1.toNat).drop (0:Int).toNat))++((l.take (l.length:Int).toNat).drop (wr .i64 (r1+1):Int).toNat),x,0)|none =>none else none else none else none else none|none =>none
def b6d:(Int×Int×Int×Calendar×Unit)→Option ((Int×Int×Int×Calendar×Unit)⊕((Int×Unit))):=fun (vto,n,d,c,_)=>
 bif decide (d≤(if 109572<vto then 109572 else vto)) then match qfv c d with|some r1 =>let k (n2:Int):Option ((Int×Int×Int×Calendar×Unit)⊕((Int×Unit))):=some (.inl (vto,n2,wr .i64 (d+1),c,()));bif r1 then k (wr .i64 (n+1)) else k n|none =>none else some (.inr ((n,())))
def qfg (c:Calendar) (vfrom:Int) (vto:Int):Option Int:=
 match c9 b6d (vto,0,(if vfrom<0 then 0 else vfrom),c,()) with|some ((n,_)) =>some n|none =>none
def qfs (r:Rule) (c:Calendar) (due:Int) (back:Int):Option Int:=
 match qt c with|some r2 =>(let k10 (v:Bool):Option Int:=let k (v7:Bool):Option Int:=bif v7 then some 0 else match qfg c (wr .i64 (due+1)) back with|some r9 =>bif decide (r9≤r.Grace) then some 0 else some (if r.MaxFine<wr .i64 (r9*r.Fine) then r.MaxFine else wr .i64 (r9*r.Fine))|none =>none;bif v then k true else match qec back with|some r6 =>k (!r6)|none =>none;bif !(r2==0) then k10 true else match qec due with|some r4 =>k10 (!r4)|none =>none)|none =>none
def c2g:((List Charge)×Int×Int×Int×Int×Int×(List Charge)×Unit)→Option (((List Charge)×Int×Int×Int×Int×Int×(List Charge)×Unit)⊕((Int×(List Charge)×Unit))):=fun (l,patron,item,kind,paid,i,l1,_)=>
 bif decide (i<(l.length:Int)) then match n5 l i with|some x =>let k4 (v:Bool):Option (((List Charge)×Int×Int×Int×Int×Int×(List Charge)×Unit)⊕((Int×(List Charge)×Unit))):=let k (v3:Bool):Option (((List Charge)×Int×Int×Int×Int×Int×(List Charge)×Unit)⊕((Int×(List Charge)×Unit))):=bif v3 then some (.inl (l,patron,item,kind,wr .i64 (paid+x.Paid),wr .i64 (i+1),l1,())) else bif decide (l1.length+([x]:List Charge).length≤LIM) then some (.inl (l,patron,item,kind,paid,wr .i64 (i+1),l1++([x]:List Charge),())) else none;bif v then bif kind==0 then k true else k (x.Kind==kind) else k false;bif x.Patron==patron then k4 (x.Item==item) else k4 false|none =>none else some (.inr ((paid,l1,())))
def qe5 (l:List Charge) (patron:Int) (item:Int) (kind:Int):Option ((List Charge)×Int):=
 match c9 c2g (l,patron,item,kind,0,0,([]:List Charge),()) with|some ((paid,l5,_)) =>some (l5,paid)|none =>none
def qex (c:Circ) (item:Int) (branch:Int):Option (Circ×Int):=
 match qfb c item 4 branch 0 with|some (r1,r2) =>(bif !(r2==0) then some (ZN,r2) else match qfr r1.Loans item with|some (r4,r5,r6) =>(bif !(r6==0) then some (ZN,r6) else match qq {r1 with Loans:=r4} item with|some r8 =>(match n5 r1.Items r8 with|some x =>(match qfh {r1 with Loans:=r4} r5.Patron x with|some (r10,r11) =>let k23 (fine:Int):Option (Circ×Int):=let k (c19:Circ):Option (Circ×Int):=match qe5 c19.Charges r5.Patron item 2 with|some (r21,r22) =>some ({c19 with Charges:=r21},0)|none =>none;bif decide (0<fine) then match qe0 {r1 with Loans:=r4} r5.Patron item 1 fine with|some (r17,r18) =>bif !(r18==0) then some (ZN,r18) else k r17|none =>none else k {r1 with Loans:=r4};bif r11 then match qfx {r1 with Loans:=r4} branch with|some r13 =>(match qfs r10 r13 r5.Due r1.Today with|some r15 =>k23 r15|none =>none)|none =>none else k23 0|none =>none)|none =>none)|none =>none)|none =>none)|none =>none
def qfn (c:Circ) (item:Int) (branch:Int):Option (Circ×Int×Int):=
 match qq c item with|some r1 =>(bif decide (r1<0) then some (ZN,0,9) else match n5 c.Items r1 with|some x =>(match qdo x.Custody with|some r3 =>let k38 (e21:Int) (c22:Circ):Option (Circ×Int×Int):=bif !(e21==0) then some (ZN,0,e21) else match qai c22 item with|some (r24,r25) =>(let k37 (e32:Int) (c33:Circ):Option (Circ×Int×Int):=bif !(e32==0) then some (ZN,0,e32) else match qai c33 item with|some (r35,r36) =>some (c33,r35.ID,0)|none =>none;bif r25 then match qfa c22 item r24 with|some (r27,r28) =>k37 r28 r27|none =>none else match qfk c22 item with|some (r30,r31) =>k37 r31 r30|none =>none)|none =>none;bif r3 then let k (v:Bool):Option (Circ×Int×Int):=bif v then some (ZN,0,1) else match qex c item branch with|some (r5,r6) =>k38 r6 r5|none =>none;bif decide (branch<1) then k true else k (decide (4<branch)) else bif x.Custody.State==8 then match qfb c item 4 branch 0 with|some (r8,r9) =>k38 r9 r8|none =>none else bif x.Custody.State==11 then match qfb c item 14 branch 0 with|some (r11,r12) =>k38 r12 r11|none =>none else bif x.Custody.State==6 then match qfb c item 7 branch 0 with|some (r14,r15) =>k38 r15 r14|none =>none else k38 12 c|none =>none)|none =>none)|none =>none
end
section
set_option maxRecDepth 100000
open Go
theorem b9q:j8 u0:=j8.iso (j8.cons (f8.int _) (j8.cons (f8.int _) (j8.cons (f8.int _) (j8.cons (f8.int _) j8.nil)))) (fun _=>rfl)
theorem b9s:j8 a3c:=j8.iso (j8.cons (f8.int _) (j8.cons (f8.int _) (j8.cons (f8.int _) (j8.cons (f8.int _) (j8.cons (f8.int _) (j8.cons f8.str (j8.cons (f8.int _) (j8.cons (f8.int _) (j8.cons (f8.int _) (j8.cons (f8.int _) j8.nil)))))))))) (fun _=>rfl)
theorem b1j:j8 a4k:=j8.iso (j8.cons (f8.int _) (j8.cons (f8.int _) (j8.cons (f8.int _) (j8.cons (f8.int _) (j8.cons f8.bool (j8.cons f8.str j8.nil)))))) (fun _=>rfl)
theorem b9t:j8 a6a:=j8.iso (j8.cons (f8.int _) (j8.cons (f8.int _) (j8.cons (f8.int _) (j8.cons (f8.int _) (j8.cons (f8.int _) (j8.cons f8.bool j8.nil)))))) (fun _=>rfl)
theorem b9r:j8 a2d:=j8.iso (j8.cons (f8.int _) (j8.cons (f8.int _) (j8.cons (f8.int _) (j8.cons (f8.int _) (j8.cons (f8.int _) (j8.cons (f8.int _) (j8.cons (f8.int _) (j8.cons (f8.int _) (j8.cons (f8.int _) (j8.cons (f8.int _) (j8.cons (f8.int _) j8.nil))))))))))) (fun _=>rfl)
theorem b1i:j8 a4j:=j8.iso (j8.cons (f8.int _) (j8.cons (f8.int _) (j8.cons (f8.int _) (j8.cons (f8.int _) (j8.cons (f8.int _) (j8.cons (f8.int _) (j8.cons (f8.int _) j8.nil))))))) (fun _=>rfl)
theorem b9x:j8 a3v:=j8.iso (j8.cons (f8.int _) (j8.cons (f8.int _) (j8.cons (f8.int _) (j8.cons (f8.int _) (j8.cons (f8.int _) (j8.cons (f8.int _) (j8.cons (f8.int _) (j8.cons (f8.int _) (j8.cons (f8.int _) (j8.cons (f8.int _) (j8.cons (f8.int _) (j8.cons (f8.int _) (j8.cons (f8.int _) j8.nil))))))))))))) (fun _=>rfl)
theorem b7a:j8 s8:=j8.iso (j8.cons (f8.int _) (j8.cons (f8.lst _) j8.nil)) (fun _=>rfl)
theorem b9w:j8 a82:=j8.iso (j8.cons (f8.int _) (j8.cons (f8.int _) (j8.cons (f8.int _) (j8.cons (f8.int _) (j8.cons (f8.int _) j8.nil))))) (fun _=>rfl)
theorem d5i:j8 j7:=j8.iso (j8.cons (f8.int _) (j8.cons (f8.lst _) (j8.cons (f8.lst _) (j8.cons (f8.lst _) (j8.cons (f8.lst _) (j8.cons (f8.lst _) (j8.cons (f8.lst _) (j8.cons (f8.int _) (j8.cons (f8.lst _) (j8.cons (f8.int _) (j8.cons (f8.lst _) (j8.cons (f8.int _) (j8.cons (f8.lst _) (j8.cons (f8.int _) (j8.cons (f8.lst _) (j8.cons (f8.lst _) (j8.cons (f8.int _) (j8.cons (f8.int _) (j8.cons f8.bool j8.nil))))))))))))))))))) (fun _=>rfl)
theorem b9u:j8 c34:=j8.iso (j8.cons (f8.int _) (j8.cons (f8.int _) j8.nil)) (fun _=>rfl)
theorem a9r:j8 a83:=j8.iso (j8.cons (f8.int _) (j8.cons (f8.int _) (j8.cons f8.str (j8.cons (f8.int _) j8.nil)))) (fun _=>rfl)
theorem b32:j8 n8:=j8.iso (j8.cons (f8.int _) (j8.cons (f8.lst _) (j8.cons (f8.lst _) (j8.cons (f8.lst _) (j8.cons (f8.lst _) (j8.cons (f8.lst _) (j8.cons (f8.lst _) (j8.cons (f8.int _) (j8.cons (f8.lst _) (j8.cons (f8.int _) (j8.cons (f8.lst _) (j8.cons (f8.int _) (j8.cons (f8.lst _) (j8.cons (f8.int _) (j8.cons (f8.lst _) (j8.cons (f8.lst _) (j8.cons (f8.int _) (j8.cons (f8.int _) (j8.cons f8.bool (j8.cons (f8.int _) j8.nil)))))))))))))))))))) (fun _=>rfl)
theorem b9v:j8 c35:=j8.iso (j8.cons (f8.int _) (j8.cons f8.str j8.nil)) (fun _=>rfl)
theorem a3o:j8 a2e:=j8.iso (j8.cons (f8.int _) (j8.cons (f8.int _) j8.nil)) (fun _=>rfl)
theorem a99:j8 a45:=j8.iso (j8.cons (f8.int _) (j8.cons (f8.lst _) (j8.cons (f8.int _) (j8.cons (f8.lst _) (j8.cons (f8.int _) (j8.cons (f8.lst _) (j8.cons (f8.int _) (j8.cons (f8.lst _) j8.nil)))))))) (fun _=>rfl)
theorem b9y:j8 a0x:=j8.iso (j8.cons f8.bool (j8.cons f8.bool (j8.cons f8.bool (j8.cons f8.bool (j8.cons f8.bool (j8.cons f8.bool (j8.cons f8.bool j8.nil))))))) (fun _=>rfl)
instance:CCC u0:=⟨b9q⟩
instance:CCC a3c:=⟨b9s⟩
instance:CCC a4k:=⟨b1j⟩
instance:CCC a6a:=⟨b9t⟩
instance:CCC a2d:=⟨b9r⟩
instance:CCC a4j:=⟨b1i⟩
instance:CCC a3v:=⟨b9x⟩
instance:CCC s8:=⟨b7a⟩
instance:CCC a82:=⟨b9w⟩
instance:CCC j7:=⟨d5i⟩
instance:CCC c34:=⟨b9u⟩
instance:CCC a83:=⟨a9r⟩
instance:CCC n8:=⟨b32⟩
instance:CCC c35:=⟨b9v⟩
instance:CCC a2e:=⟨a3o⟩
instance:CCC a45:=⟨a99⟩
instance:CCC a0x:=⟨b9y⟩
end
section
set_option maxRecDepth 100000
abbrev x0a:=Zc (Cod.cptr (CC.one Zi)) Zn
abbrev x0b:=OC.r [2] [] [] (Zs 2 Zb Zz)
abbrev x0c:=OC.xs 0 [] [] [] Zz (.r [4] [] [] (Zs 4 Zi Zz))
abbrev x0d:=OC.r [2] [] [] (Zs 2 Zi Zz)
abbrev x0e:=Zl .kHold
abbrev x0f:=Zx 1 j7 Zz
abbrev x0g:=Zl .ki64
abbrev x0h:=Zc Zi Zn
abbrev x0i:=OC.xs 0 [1] [1] [] (Zp 1 1 x0f) x0b
abbrev x0j:=Cod.fnc 293 (Zn) (Zn)
abbrev x0k:=Zs 7 Zi (Zs 8 Zi Zz)
abbrev x0l:=OC.xs 0 [] [] [] Zz x0d
abbrev x0m:=Cod.cptr (CC.one Zi)
abbrev x0n:=OC.xs 0 [6,9] [6,9] [] (Zp 6 6 (Zp 9 9 (Zx 6 u0 (Zx 9 u0 Zz)))) (.r [7,8] [6] [6] (Zp 6 6 (Zs 7 Zi (Zs 8 Zi (Zx 6 u0 Zz)))))
abbrev x0o:=Zc Zi x0h
abbrev x0p:=Zs 8 Zi (FC.own 99999 Kd.kHold false Zz)
abbrev x0q:=Zl .kLoan
abbrev x0r:=Zl .kCharge
abbrev x0s:=Zx 3 j7 (FC.fixb 9 [.nil,.arr 44,.nil,.nil,.nil] (FC.map 23 Kd.kMapI (FC.own 44 Kd.ki64 false Zz)))
abbrev x0t:=OC.xs 2 [1] [1] [] (Zp 1 1 x0f) x0b
abbrev x0u:=OC.r [4] [] [] (Zs 4 Zb Zz)
abbrev x0v:=Zl .kItem
abbrev x0w:=Zl .kPatron
abbrev x0x:=Zs 2 x0g (Zp 7 7 (Zs 9 x0g (Zs 10 x0g (Zs 11 Zi (Zs 12 Zb (Zs 13 Zb (Zx 7 j7 Zz)))))))
abbrev x0y:=Cod.agg j7
abbrev x0z:=Zl .kRule
abbrev x00:=Zp 1 1 (Zs 3 Zi x0f)
abbrev x01:=Zs 3 Zi Zz
abbrev x02:=Cod.agg a2d
abbrev x03:=Cod.agg a3c
abbrev x04:=Zs 1 Zi (Zs 2 x0j (Zs 6 Zi (Zs 7 Zi (FC.own 99999 Kd.kHold false Zz))))
abbrev x05:=Zs 0 x0e (Zs 1 (Cod.fnc 168 (Zn) (Zn)) (Zs 8 Zi (Zs 9 Zi Zz)))
abbrev x06:=Zs 0 x0e (Zs 1 (Cod.fnc 169 (Zn) (Zn)) (Zs 8 Zi (Zs 9 Zi Zz)))
abbrev x07:=OC.xs 4 [] [] [] Zz x0b
abbrev x08:=OC.xs 2 [] [] [] Zz x0b
abbrev x09:=Zs 5 Zi (Zs 8 Zi (Zs 9 Zi (Zs 12 Zi (Zs 13 Zi Zz))))
abbrev x1a:=Zc Zb Zn
abbrev x1b:=Zs 5 Zi Zz
abbrev x1c:=Cod.agg u0
abbrev x1d:=Zc x0m x0a
abbrev x1e:=Zs 10 Zi (Zs 11 Zi Zz)
abbrev x1f:=Zs 1 Zi (Zs 2 x0j (Zs 6 Zi (Zs 7 Zi x0p)))
abbrev x1g:=Cod.agg a3v
abbrev x1h:=OC.xs 0 [] [] [] Zz x0u
abbrev x1i:=Zl .kMove
abbrev a97:ZC (Circ×Unit):=Zc x0y Zn
abbrev p9:ZD (Bool):=Zb
abbrev h0m {R:Type}:Sm R:=m9 a97 p9 (fun a=>qa a.1)
def f4s {R:Type}:Nat→Sm R:=c0
abbrev d70:=a0m [] [] [1,3] [1] [] x00 d2r x0i
abbrev d71:=a0m [] [] [1,4] [1] [] (Zp 1 1 (Zs 4 Zi x0f)) d2s x0t
abbrev c79:=a0m [] [] [1,5] [1] [] (Zp 1 1 (Zs 5 Zi x0f)) a9z x07
def b0o {R:Type}:Lp Kd El R:=lp 14 c79.sem (lp 9 d71.sem (lp 4 d70.sem l0))
abbrev e9z:ZC ((List UInt8)×Int×Unit):=Zc Cod.str x0h
abbrev e0t:ZD (Int×Int):=(Cod.tup2 x0o)
abbrev c6j {R:Type}:Sm R:=m9 e9z e0t (fun a=>qbk a.1 a.2.1)
abbrev c6w:ZC ((List UInt8)×Unit):=Zc Cod.str Zn
abbrev c6e {R:Type}:Sm R:=m9 c6w p9 (fun a=>qaa a.1)
def e46 {R:Type}:Nat→Sm R:=cl 179 c6j c0
abbrev c8a:=a0m [] [] [0,3] [] [] (Zs 0 Cod.str x01) b5r (.xs 0 [] [] [] Zz x0b)
def c1b {R:Type}:Lp Kd El R:=lp 2 c8a.sem l0
abbrev a0n:ZD (Int):=Zi
abbrev f3y {R:Type}:Sm R:=m9 e9z a0n (fun a=>qf a.1 a.2.1)
abbrev a4g:ZC (Int×Unit):=Zc Zi Zn
abbrev f3v {R:Type}:Sm R:=m9 a4g p9 (fun a=>q9 a.1)
abbrev e0s:ZD ((List UInt8)):=Cod.str
abbrev e1h {R:Type}:Sm R:=m9 c6w e0s (fun a=>qal a.1)
def e5g {R:Type}:Nat→Sm R:=cl 179 c6j (cl 180 f3y (cl 181 f3v c0))
abbrev c8k:=a0m [] [] [0,3,4,5] [] [] (Zs 0 Cod.str (Zs 3 Cod.str (Zs 4 Zb x1b))) b5y (.x 0 [3] [] [] (Zs 3 Cod.str Zz))
def c1l {R:Type}:Lp Kd El R:=lp 4 c8k.sem l0
abbrev d35:ZC ((List Patron)×Unit):=Zc x0w Zn
abbrev e1g {R:Type}:Sm R:=m9 d35 a0n (fun a=>qak a.1)
def e5f {R:Type}:Nat→Sm R:=cl 107 c6e (cl 108 e1h c0)
abbrev c8j:=a0m [] [] [0,3] [] [] (Zs 0 x0w x01) b2w x0l
def c1k {R:Type}:Lp Kd El R:=lp 4 c8j.sem l0
abbrev d34:ZC ((List Loan)×Unit):=Zc x0q Zn
abbrev e1f {R:Type}:Sm R:=m9 d34 a0n (fun a=>qaj a.1)
def e5e {R:Type}:Nat→Sm R:=c0
abbrev c8i:=a0m [] [] [0,3] [] [] (Zs 0 x0q x01) b2v x0l
def c1j {R:Type}:Lp Kd El R:=lp 4 c8i.sem l0
abbrev g3u {R:Type}:Sm R:=m9 a4g p9 (fun a=>qdh a.1)
abbrev g34 {R:Type}:Sm R:=m9 a4g p9 (fun a=>qdx a.1)
abbrev e91:ZC (Hold×Unit):=Zc x02 Zn
abbrev e2l {R:Type}:Sm R:=m9 e91 a0n (fun a=>qct a.1)
abbrev f4g:ZC ((List Hold)×Unit):=Zc x0e Zn
abbrev f32 {R:Type}:Sm R:=m9 f4g a0n (fun a=>qj a.1)
def f4z {R:Type}:Nat→Sm R:=cl 109 e2l c0
abbrev d8c:=a0m [] [] [0,3] [] [] (Zs 0 x0e x01) c5r (.xs 0 [0] [] [] (Zs 0 x0e Zz) x0d)
abbrev c84:=a0m [] [] [0,5,6] [] [] (Zs 0 x0e (Zs 5 Zi (Zs 6 Zi Zz))) b29 (.xs 4 [0,5] [] [] (Zs 0 x0e x1b) x0d)
abbrev c83:=a0m [] [] [0,5] [] [] (Zs 0 x0e x1b) b6e (.xs 2 [] [] [] Zz x0d)
def b0r {R:Type}:Lp Kd El R:=lp 12 c83.sem (lp 15 c84.sem (lp 4 d8c.sem l0))
abbrev e3a {R:Type}:Sm R:=m9 a4g p9 (fun a=>qec a.1)
abbrev e9p:ZC ((List Charge)×Unit):=Zc x0r Zn
abbrev e1j {R:Type}:Sm R:=m9 e9p a0n (fun a=>qaq a.1)
def e5k {R:Type}:Nat→Sm R:=cl 110 e3a c0
abbrev c8o:=a0m [] [] [0,3] [] [] (Zs 0 x0r x01) b2x x0l
def c1p {R:Type}:Lp Kd El R:=lp 4 c8o.sem l0
abbrev b83:ZC (Int×Int×Int×Unit):=Zc Zi x0o
abbrev g2d {R:Type}:Sm R:=m9 b83 p9 (fun a=>qa4 a.1 a.2.1 a.2.2.1)
abbrev d4d:ZC (Rule×Unit):=Zc x1g Zn
abbrev e2e {R:Type}:Sm R:=m9 d4d p9 (fun a=>qcd a.1)
abbrev g56:ZC ((List Rule)×Unit):=Zc x0z Zn
abbrev f31 {R:Type}:Sm R:=m9 g56 a0n (fun a=>qh a.1)
def f4x {R:Type}:Nat→Sm R:=cl 111 e2e c0
abbrev d8a:=a0m [] [] [0,3,4] [] [] (Zs 0 x0z (Zs 3 Zi (Zs 4 Zi Zz))) c5p (.xs 2 [0,3] [] [] (Zs 0 x0z x01) x0d)
abbrev d79:=a0m [] [] [0,3] [] [] (Zs 0 x0z x01) d22 x0l
def b77 {R:Type}:Lp Kd El R:=lp 4 d79.sem (lp 9 d8a.sem l0)
abbrev f4h:ZC (Calendar×Unit):=Zc (Cod.agg s8) Zn
abbrev f39 {R:Type}:Sm R:=m9 f4h a0n (fun a=>qt a.1)
def f5b {R:Type}:Nat→Sm R:=c0
abbrev d8p:=a0m [] [] [1,3] [1] [] (Zp 1 1 (Zs 3 Zi (Zx 1 s8 Zz))) c5v (.xs 0 [1] [1] [] (Zp 1 1 (Zx 1 s8 Zz)) x0d)
abbrev c89:=a0m [] [] [1,4] [1] [] (Zp 1 1 (Zs 4 Zi (Zx 1 s8 Zz))) b3b (.xs 2 [] [] [] Zz x0d)
def b79 {R:Type}:Lp Kd El R:=lp 11 c89.sem (lp 6 d8p.sem l0)
abbrev c6x:ZC ((List Patron)×Int×Unit):=Zc x0w x0h
abbrev g2k {R:Type}:Sm R:=m9 c6x a0n (fun a=>qam a.1 a.2.1)
def e5h {R:Type}:Nat→Sm R:=c0
abbrev c8l:=a0m [] [] [0,1,5] [] [] (Zs 0 x0w (Zs 1 Zi x1b)) b5z x0c
def c1m {R:Type}:Lp Kd El R:=lp 2 c8l.sem l0
abbrev f3h:ZD (Patron×Bool):=(Cod.tup2 (Zc (Cod.agg a4k) x1a))
abbrev b8n {R:Type}:Sm R:=m9 c6x f3h (fun a=>qbt a.1 a.2.1)
abbrev f3n:ZD (Custody):=x1c
abbrev e2m {R:Type}:Sm R:=m9 a4g f3n (fun a=>qcu a.1)
abbrev g4b {R:Type}:Sm R:=m9 a4g p9 (fun a=>qej a.1)
abbrev d4g:ZC (Custody×Unit):=Zc x1c Zn
abbrev g3j {R:Type}:Sm R:=m9 d4g p9 (fun a=>qcv a.1)
abbrev g54:ZC (Move×Unit):=Zc (Cod.agg a82) Zn
abbrev g3z {R:Type}:Sm R:=m9 g54 p9 (fun a=>qdr a.1)
abbrev c94:ZD ((List Int)):=x0g
abbrev e1n {R:Type}:Sm R:=m9 a4g c94 (fun a=>qb4 a.1)
abbrev b84:ZC (Int×Int×Unit):=Zc Zi x0h
abbrev g2h {R:Type}:Sm R:=m9 b84 p9 (fun a=>qad a.1 a.2.1)
def e48 {R:Type}:Nat→Sm R:=cl 271 e1n c0
abbrev c8c:=a0m [] [] [0,5,6] [] [] (Zs 0 Zi (Zs 5 x0g (Zs 6 Zi Zz))) b5t x1h
def c1d {R:Type}:Lp Kd El R:=lp 3 c8c.sem l0
abbrev c6z:ZC (Custody×Move×Unit):=Zc x1c (Zc (Cod.agg a82) Zn)
abbrev g3b {R:Type}:Sm R:=m9 c6z p9 (fun a=>qci a.1 a.2.1)
abbrev g4e {R:Type}:Sm R:=m9 a4g a0n (fun a=>qem a.1)
abbrev c95:ZD (Custody×Int):=(Cod.tup2 (Zc x1c x0h))
abbrev e1o {R:Type}:Sm R:=m9 c6z c95 (fun a=>qb5 a.1 a.2.1)
abbrev e9o:ZC (Int×(List Move)×Int×Unit):=Zc Zi (Zc x1i x0h)
abbrev f3c:ZD (Custody×Int×Int):=(Cod.tup3 (Zc x1c x0o))
abbrev e1c {R:Type}:Sm R:=m9 e9o f3c (fun a=>qac a.1 a.2.1 a.2.2.1)
def e47 {R:Type}:Nat→Sm R:=cl 151 e1o (cl 185 e2m c0)
abbrev c8b:=a0m [] [] [1,2,6,9,10] [6,9] [] (Zs 1 x1i (Zs 2 Zi (Zp 6 6 (Zp 9 9 (Zs 10 Zi (Zx 6 u0 (Zx 9 u0 Zz))))))) b5s x0n
def c1c {R:Type}:Lp Kd El R:=lp 5 c8b.sem l0
abbrev b87:ZC (Circ×Int×Unit):=Zc x0y x0h
abbrev d0a {R:Type}:Sm R:=m9 b87 a0n (fun a=>qq a.1 a.2.1)
def f47 {R:Type}:Nat→Sm R:=c0
abbrev d8m:=a0m [] [] [1,2,5] [2] [] (Zs 1 Zi (Zp 2 2 (Zs 5 Zi (Zx 2 j7 Zz)))) d27 x0c
def c9q {R:Type}:Lp Kd El R:=lp 2 d8m.sem l0
abbrev f4b {R:Type}:Sm R:=m9 a97 p9 (fun a=>qw a.1)
def f5d {R:Type}:Nat→Sm R:=cl 86 d0a (cl 107 c6e (cl 113 e1c c0))
abbrev d8r:=a0m [] [] [1,3] [1] [] x00 c5x x0i
abbrev c9b:=a0m [] [] [1,8] [1] [] (Zp 1 1 (Zs 8 Zi x0f)) b3c x08
def b8b {R:Type}:Lp Kd El R:=lp 15 c9b.sem (lp 4 d8r.sem l0)
abbrev e23 {R:Type}:Sm R:=m9 d4g p9 (fun a=>qdo a.1)
abbrev b86:ZC ((List Loan)×Int×Unit):=Zc x0q x0h
abbrev g2j {R:Type}:Sm R:=m9 b86 a0n (fun a=>qaf a.1 a.2.1)
def e5a {R:Type}:Nat→Sm R:=c0
abbrev c8e:=a0m [] [] [0,1,5] [] [] (Zs 0 x0q (Zs 1 Zi x1b)) b5v x0c
def c1f {R:Type}:Lp Kd El R:=lp 2 c8e.sem l0
abbrev f3o:ZD (Loan×Bool):=(Cod.tup2 (Zc (Cod.agg a6a) x1a))
abbrev e2o {R:Type}:Sm R:=m9 b86 f3o (fun a=>qcy a.1 a.2.1)
abbrev f4a {R:Type}:Sm R:=m9 a97 p9 (fun a=>qv a.1)
def f5c {R:Type}:Nat→Sm R:=cl 60 b8n (cl 86 d0a (cl 114 e23 (cl 115 e2o c0)))
abbrev d8q:=a0m [] [] [1,3] [1] [] x00 c5w x0i
abbrev c9a:=a0m [] [] [1,8] [1] [] (Zp 1 1 (Zs 8 Zi x0f)) b6j x08
def b8a {R:Type}:Lp Kd El R:=lp 10 c9a.sem (lp 2 d8q.sem l0)
abbrev e0r:ZD (Hold×Bool):=(Cod.tup2 (Zc x02 x1a))
abbrev e1e {R:Type}:Sm R:=m9 b87 e0r (fun a=>qai a.1 a.2.1)
def e5d {R:Type}:Nat→Sm R:=c0
abbrev c8h:=a0m [] [] [1,2,4,6] [2,4] [] (Zs 1 Zi (Zp 2 2 (Zp 4 4 (Zs 6 Zi (Zx 2 j7 (Zx 4 a2d Zz)))))) b5x (.xs 0 [4] [4] [] (Zp 4 4 (Zx 4 a2d Zz)) (.r [5] [4] [4] (Zp 4 4 (Zs 5 Zb (Zx 4 a2d Zz)))))
def c1i {R:Type}:Lp Kd El R:=lp 2 c8h.sem l0
abbrev f4c {R:Type}:Sm R:=m9 a97 p9 (fun a=>qx a.1)
def f5e {R:Type}:Nat→Sm R:=cl 60 b8n (cl 86 d0a (cl 89 e1e c0))
abbrev d8s:=a0m [] [] [1,3] [1] [] x00 c5y x0i
abbrev c9c:=a0m [] [] [1,9] [1] [] (Zp 1 1 (Zs 9 Zi x0f)) b6k x08
def b8c {R:Type}:Lp Kd El R:=lp 18 c9c.sem (lp 2 d8s.sem l0)
abbrev h0l {R:Type}:Sm R:=m9 a97 p9 (fun a=>q8 a.1)
def f4r {R:Type}:Nat→Sm R:=cl 54 e1g (cl 55 e1f (cl 56 f32 (cl 57 e1j (cl 58 f31 (cl 59 f39 (cl 60 b8n (cl 61 f4b (cl 62 f4a (cl 63 f4c c0)))))))))
abbrev d7z:=a0m [] [] [1,3] [1] [] x00 c2b x0i
abbrev c71:=a0m [] [] [1,4] [1] [] (Zp 1 1 (Zs 4 Zi x0f)) b2u x0t
def b75 {R:Type}:Lp Kd El R:=lp 11 c71.sem (lp 6 d7z.sem l0)
abbrev b85:ZC ((List Int)×Unit):=Zc x0g Zn
abbrev g2i {R:Type}:Sm R:=m9 b85 a0n (fun a=>qae a.1)
def e49 {R:Type}:Nat→Sm R:=c0
abbrev c8d:=a0m [] [] [0,3] [] [] (Zs 0 x0g x01) b5u x0l
def c1e {R:Type}:Lp Kd El R:=lp 4 c8d.sem l0
abbrev g50:ZC (Circ×(List Int)×Unit):=Zc x0y (Zc x0g Zn)
abbrev e2x {R:Type}:Sm R:=m9 g50 p9 (fun a=>qdg a.1 a.2.1)
abbrev e9v:ZC (Unit):=Zn
abbrev c93:ZD (Bool):=p9
def f1v (a:Unit):Option (Bool):=qb0
abbrev g2s {R:Type}:Sm R:=m9 e9v c93 f1v
abbrev c6k {R:Type}:Sm R:=m9 a4g p9 (fun a=>qca a.1)
abbrev c6l {R:Type}:Sm R:=m9 b85 c94 (fun a=>qep a.1)
abbrev d39:ZC ((List Int)×Unit):=b85
abbrev f3g:ZD (List Int):=x0g
def f1y (a:(List Int)×Unit):Option (List Int):=qbe a.1
abbrev e1s {R:Type}:Sm R:=m9 d39 f3g f1y
abbrev d38:ZC ((List Int)×Unit):=b85
abbrev f3f:ZD ((List Int)):=c94
def f1x (a:(List Int)×Unit):Option ((List Int)):=qbd a.1
abbrev c6i {R:Type}:Sm R:=m9 d38 f3f f1x
abbrev g97:ZD ((List Int)×List MapI):=(Cod.tup2 (Zc x0g (Zc (Zl .kMapI) Zn)))
abbrev e1k {R:Type}:Sm R:=m9 b85 g97 (fun a=>qau a.1)
def e5o {R:Type}:Nat→Sm R:=cl 34 e1s (cl 35 c6i (cl 70 c6l c0))
abbrev c8s:=a0m [] [] [0,4,9,10,11] [] [8] (Zs 0 x0g (FC.arr 4 8 (Zs 9 x0g (Zs 10 Zi (Zs 11 Zi (FC.map 8 Kd.kMapI Zz)))))) b55 (.x 0 [0,4] [] [8] (Zs 0 x0g (FC.arr 4 8 (FC.map 8 Kd.kMapI Zz))))
def c1t {R:Type}:Lp Kd El R:=lp 3 c8s.sem l0
abbrev g5j:ZC (Item×Int×Unit):=Zc x03 x0h
abbrev b8o {R:Type}:Sm R:=m9 g5j p9 (fun a=>qbu a.1 a.2.1)
abbrev c6f {R:Type}:Sm R:=m9 b87 c94 (fun a=>qag a.1 a.2.1)
def e5b {R:Type}:Nat→Sm R:=cl 33 b8o c0
abbrev c8f:=a0m [(5,5,Kd.ki64)] [] [1,5,9,10,11] [] [5] (Zs 1 Zi (FC.arr 5 5 (Zs 9 x0v (Zs 10 Zi (Zs 11 Zi (FC.own 5 Kd.ki64 false Zz)))))) b5w (.x 0 [5] [] [5] (FC.arr 5 5 (FC.own 5 Kd.ki64 false Zz)))
def c1g {R:Type}:Lp Kd El R:=lp 3 c8f.sem l0
abbrev e9w:ZC (Item×Int×Unit):=Zc x03 x0a
abbrev e1m {R:Type}:Sm R:=m9 e9w p9 (fun a=>qb1 a.1 a.2.1)
abbrev h1j:ZC ((List Item)×((Unit)×(Int×Unit))×Unit):=Zc x0v (Zc (Cod.fnc 72 (Zn) x0a) Zn)
abbrev h0q {R:Type}:Sm R:=m9 h1j a0n (fun a=>qk (fun g x0=>qb1 x0 g.2.1) a.1 a.2.1)
def f40 {R:Type}:Nat→Sm R:=cl 72 e1m c0
abbrev d8d:=a0m [] [] [0,1,7,8] [] [] (Zs 0 x0v (Zs 1 (Cod.fnc 72 (Zn) x0a) x0k)) (b3a (fun g x0=>qb1 x0 g.2.1)) x0c
def c9o {R:Type}:Lp Kd El R:=lp 2 d8d.sem l0
abbrev g98:ZD (Item×Bool):=(Cod.tup2 (Zc x03 x1a))
abbrev c6g {R:Type}:Sm R:=m9 b87 g98 (fun a=>qav a.1 a.2.1)
abbrev f4f:ZC (Circ×Int×(List Int)×Unit):=Zc x0y (Zc Zi (Zc x0g Zn))
abbrev h2k:ZD ((List Problem)):=(Zl .kProblem)
abbrev f3w {R:Type}:Sm R:=m9 f4f h2k (fun a=>qb a.1 a.2.1 a.2.2.1)
def d5h {R:Type}:Nat→Sm R:=cl 21 c6f (cl 30 e1k (cl 31 c6k (cl 32 c6g (cl 33 b8o (cl 34 e1s (cl 35 c6i c0))))))
abbrev d72:=a0m [(309001,44,Kd.ki64)] [] [1,3,7,8,9,30,31,32] [3,9] [23,44] (Zs 1 Zi (Zp 3 3 (Zs 7 x0g (FC.arr 8 23 (Zp 9 9 (Zs 30 x0g (Zs 31 Zi (Zs 32 Zi x0s)))))))) c5k (.x 0 [1,3,7,8,9] [3,9] [23,44] (Zs 1 Zi (Zp 3 3 (Zs 7 x0g (FC.arr 8 23 (Zp 9 9 x0s))))))
abbrev c8w:=a0m [(309001,44,Kd.ki64),(309003,66,Kd.ki64),(309004,92,Kd.ki64),(309002,82,Kd.ki64)] [] [1,3,8,9,47,48,49] [3,9] [23,44,66,82,92] (Zs 1 Zi (Zp 3 3 (FC.arr 8 23 (Zp 9 9 (Zs 47 x0g (Zs 48 Zi (Zs 49 Zi (Zx 3 j7 (FC.fixb 9 [.nil,.arr 44,.arr 82,.arr 66,.arr 92] (FC.map 23 Kd.kMapI (FC.own 44 Kd.ki64 false (FC.own 66 Kd.ki64 false (FC.own 82 Kd.ki64 false (FC.own 92 Kd.ki64 false Zz)))))))))))))) a90 (.x 2 [9] [9] [44,66,82,92] (Zp 9 9 (FC.fixb 9 [.nil,.arr 44,.arr 82,.arr 66,.arr 92] (FC.own 44 Kd.ki64 false (FC.own 66 Kd.ki64 false (FC.own 82 Kd.ki64 false (FC.own 92 Kd.ki64 false Zz)))))))
abbrev a6x:=a0m [(16,16,Kd.kProblem)] [] [16,17,95,96,103,104,105] [] [16,44,66,82,92,103] (FC.arr 16 16 (FC.fix 17 (.int .i64 0) (FC.fixa 95 [.nil,.arr 44,.arr 82,.arr 66,.arr 92] (FC.fix 96 (.int .i64 0) (FC.arr 103 103 (Zs 104 Zi (Zs 105 Zi (FC.own 16 Kd.kProblem false (FC.own 44 Kd.ki64 false (FC.own 66 Kd.ki64 false (FC.own 82 Kd.ki64 false (FC.own 92 Kd.ki64 false (FC.own 103 Kd.ki64 false Zz))))))))))))) qeu (.x 7 [16,95,96] [] [16,44,66,82,92] (FC.arr 16 16 (FC.fixa 95 [.nil,.arr 44,.arr 82,.arr 66,.arr 92] (FC.fix 96 (.int .i64 0) (FC.own 16 Kd.kProblem false (FC.own 44 Kd.ki64 false (FC.own 66 Kd.ki64 false (FC.own 82 Kd.ki64 false (FC.own 92 Kd.ki64 false Zz)))))))))
abbrev a6y:=a0m [] [400095] [16,17,95,96,103,104,105] [] [16,66,82,92,103] (FC.arr 16 16 (FC.fix 17 (.int .i64 1) (FC.fixa 95 [.nil,.und,.arr 82,.arr 66,.arr 92] (FC.fix 96 (.int .i64 1) (FC.arr 103 103 (Zs 104 Zi (Zs 105 Zi (FC.own 16 Kd.kProblem false (FC.own 66 Kd.ki64 false (FC.own 82 Kd.ki64 false (FC.own 92 Kd.ki64 false (FC.own 103 Kd.ki64 false Zz)))))))))))) qet (.x 7 [16,95,96] [] [16,66,82,92] (FC.arr 16 16 (FC.fixa 95 [.nil,.und,.arr 82,.arr 66,.arr 92] (FC.fix 96 (.int .i64 1) (FC.own 16 Kd.kProblem false (FC.own 66 Kd.ki64 false (FC.own 82 Kd.ki64 false (FC.own 92 Kd.ki64 false Zz))))))))
abbrev a6z:=a0m [] [400095] [16,17,95,96,103,104,105] [] [16,66,92,103] (FC.arr 16 16 (FC.fix 17 (.int .i64 2) (FC.fixa 95 [.nil,.und,.und,.arr 66,.arr 92] (FC.fix 96 (.int .i64 2) (FC.arr 103 103 (Zs 104 Zi (Zs 105 Zi (FC.own 16 Kd.kProblem false (FC.own 66 Kd.ki64 false (FC.own 92 Kd.ki64 false (FC.own 103 Kd.ki64 false Zz))))))))))) qes (.x 7 [16,95,96] [] [16,66,92] (FC.arr 16 16 (FC.fixa 95 [.nil,.und,.und,.arr 66,.arr 92] (FC.fix 96 (.int .i64 2) (FC.own 16 Kd.kProblem false (FC.own 66 Kd.ki64 false (FC.own 92 Kd.ki64 false Zz)))))))
abbrev a60:=a0m [] [400095] [16,17,95,96,103,104,105] [] [16,92,103] (FC.arr 16 16 (FC.fix 17 (.int .i64 3) (FC.fixa 95 [.nil,.und,.und,.und,.arr 92] (FC.fix 96 (.int .i64 3) (FC.arr 103 103 (Zs 104 Zi (Zs 105 Zi (FC.own 16 Kd.kProblem false (FC.own 92 Kd.ki64 false (FC.own 103 Kd.ki64 false Zz)))))))))) qer (.x 7 [16,95,96] [] [16,92] (FC.arr 16 16 (FC.fixa 95 [.nil,.und,.und,.und,.arr 92] (FC.fix 96 (.int .i64 3) (FC.own 16 Kd.kProblem false (FC.own 92 Kd.ki64 false Zz))))))
abbrev a61:=a0m [] [400095] [16,17,95,96,103,104,105] [] [16,103] (FC.arr 16 16 (FC.fix 17 (.int .i64 4) (FC.fixa 95 [.nil,.und,.und,.und,.und] (FC.fix 96 (.int .i64 4) (FC.arr 103 103 (Zs 104 Zi (Zs 105 Zi (FC.own 16 Kd.kProblem false (FC.own 103 Kd.ki64 false Zz))))))))) qeq (.x 7 [16,95,96] [] [16] (FC.arr 16 16 (FC.fixa 95 [.nil,.und,.und,.und,.und] (FC.fix 96 (.int .i64 4) (FC.own 16 Kd.kProblem false Zz)))))
abbrev g99:ZC (Circ_desk):=n8
abbrev g2v {R:Type}:Sm R:=f3u a97 g99 (fun a=>qb6 a.1)
abbrev e2w {R:Type}:Sm R:=m9 e9w p9 (fun a=>qdd a.1 a.2.1)
abbrev e4e:ZC ((List Item)×((Unit)×(Int×Unit))×Unit):=Zc x0v (Zc (Cod.fnc 160 (Zn) x0a) Zn)
abbrev e3b {R:Type}:Sm R:=m9 e4e a0n (fun a=>qk (fun g x0=>qdd x0 g.2.1) a.1 a.2.1)
def d07 {R:Type}:Nat→Sm R:=cl 160 e2w c0
abbrev b5g:=a0m [] [] [0,1,7,8] [] [] (Zs 0 x0v (Zs 1 (Cod.fnc 160 (Zn) x0a) x0k)) (b3a (fun g x0=>qdd x0 g.2.1)) x0c
def b2l {R:Type}:Lp Kd El R:=lp 2 b5g.sem l0
abbrev b8m {R:Type}:Sm R:=m9 b87 a0n (fun a=>qaz a.1 a.2.1)
abbrev d4m:ZC (Unit×Int×Unit):=Zc (Cod.ptrc 100000) x0h
abbrev b4j:ZD (Unit):=Cod.unit
abbrev h0u {R:Type}:Sm R:=b4n d4m (BC.one n8) b4j (fun a b=>qu a.2.1 b)
abbrev g3h {R:Type}:Sm R:=b4n d4m (BC.one n8) a0n (fun a b=>qco a.2.1 b)
abbrev g5a:ZC (Unit×Unit):=Zc (Cod.ptrc 100000) Zn
abbrev b6n:ZD (Circ×Int):=(Cod.tup2 (Zc x0y x0h))
abbrev g2g {R:Type}:Sm R:=b4n g5a (BC.one n8) b6n (fun a b=>qab b)
abbrev e1t {R:Type}:Sm R:=m9 b83 p9 (fun a=>qbh a.1 a.2.1 a.2.2.1)
abbrev g4a {R:Type}:Sm R:=m9 d4g p9 (fun a=>qei a.1)
abbrev g38 {R:Type}:Sm R:=m9 b84 p9 (fun a=>qeg a.1 a.2.1)
abbrev g5d:ZC (Custody×Bool×Unit):=Zc x1c x1a
abbrev g2t {R:Type}:Sm R:=m9 g5d c95 (fun a=>qb2 a.1 a.2.1)
abbrev g4c {R:Type}:Sm R:=m9 c6z c95 (fun a=>qek a.1 a.2.1)
abbrev e17 {R:Type}:Sm R:=m9 c6z c95 (fun a=>qc8 a.1 a.2.1)
abbrev g5o:ZC ((List Item)×Unit):=Zc x0v Zn
abbrev f3j:ZD ((List Item)):=x0v
abbrev e14 {R:Type}:Sm R:=m9 g5o f3j (fun a=>qc5 a.1)
abbrev g52:ZC ((List Move)×Unit):=Zc x1i Zn
abbrev h0d:ZD ((List Move)):=x1i
abbrev e2z {R:Type}:Sm R:=m9 g52 h0d (fun a=>qdk a.1)
abbrev e9y:ZC (Unit×Int×Int×Int×Int×Unit):=Zc (Cod.ptrc 100000) (Zc Zi (Zc Zi x0o))
abbrev g20 {R:Type}:Sm R:=b4n e9y (BC.one n8) b4j (fun a b=>qbi a.2.1 a.2.2.1 a.2.2.2.1 a.2.2.2.2.1 b)
abbrev d4a:ZC (Unit×Int×Int×Unit):=Zc (Cod.ptrc 100000) x0o
abbrev g26 {R:Type}:Sm R:=b4n d4a (BC.one n8) b4j (fun a b=>qbx a.2.1 a.2.2.1 b)
abbrev g3q {R:Type}:Sm R:=m9 a4g p9 (fun a=>qd7 a.1)
abbrev g3t {R:Type}:Sm R:=m9 a4g p9 (fun a=>qdf a.1)
abbrev g5h:ZC (Charge×Unit):=Zc (Cod.agg a4j) Zn
abbrev e1w {R:Type}:Sm R:=m9 g5h a0n (fun a=>qbr a.1)
abbrev e1l {R:Type}:Sm R:=m9 e9p a0n (fun a=>qay a.1)
def e5r {R:Type}:Nat→Sm R:=cl 170 e1w c0
abbrev c8v:=a0m [] [] [0,9,10,11] [] [] (Zs 0 x0r (Zs 9 x0r x1e)) b2z x0l
def c1w {R:Type}:Lp Kd El R:=lp 4 c8v.sem l0
abbrev g5v:ZC ((List Charge)×Charge×Unit):=Zc x0r (Zc (Cod.agg a4j) Zn)
abbrev f3l:ZD ((List Charge)×Int):=(Cod.tup2 (Zc x0r x0h))
abbrev g3c {R:Type}:Sm R:=m9 g5v f3l (fun a=>qcj a.1 a.2.1)
abbrev g3w {R:Type}:Sm R:=b4n e9y (BC.one n8) b4j (fun a b=>qdm a.2.1 a.2.2.1 a.2.2.2.1 a.2.2.2.2.1 b)
abbrev d4b:ZC (Hold×Int×Unit):=Zc x02 x0a
abbrev e10 {R:Type}:Sm R:=m9 d4b p9 (fun a=>qby a.1 a.2.1)
abbrev h1h:ZC ((List Hold)×((Unit)×(Int×Unit))×Unit):=Zc x0e (Zc (Cod.fnc 146 (Zn) x0a) Zn)
abbrev h0n {R:Type}:Sm R:=m9 h1h a0n (fun a=>qc (fun g x0=>qby x0 g.2.1) a.1 a.2.1)
def f4t {R:Type}:Nat→Sm R:=cl 146 e10 c0
abbrev d73:=a0m [] [] [0,1,7,8] [] [] (Zs 0 x0e (Zs 1 (Cod.fnc 146 (Zn) x0a) x0k)) (b8i (fun g x0=>qby x0 g.2.1)) x0c
def c9m {R:Type}:Lp Kd El R:=lp 2 d73.sem l0
abbrev e1i {R:Type}:Sm R:=m9 b87 e0r (fun a=>qap a.1 a.2.1)
abbrev e2v {R:Type}:Sm R:=m9 d4b p9 (fun a=>qdc a.1 a.2.1)
abbrev e4c:ZC ((List Hold)×((Unit)×(Int×Unit))×Unit):=Zc x0e (Zc (Cod.fnc 147 (Zn) x0a) Zn)
abbrev e19 {R:Type}:Sm R:=m9 e4c a0n (fun a=>qc (fun g x0=>qdc x0 g.2.1) a.1 a.2.1)
def d03 {R:Type}:Nat→Sm R:=cl 147 e2v c0
abbrev b5b:=a0m [] [] [0,1,7,8] [] [] (Zs 0 x0e (Zs 1 (Cod.fnc 147 (Zn) x0a) x0k)) (b8i (fun g x0=>qdc x0 g.2.1)) x0c
def b2i {R:Type}:Lp Kd El R:=lp 2 b5b.sem l0
abbrev e0u:ZD ((List Hold)):=x0e
abbrev g3e {R:Type}:Sm R:=m9 f4g e0u (fun a=>qcl a.1)
abbrev g5y:ZC ((List Hold)×Int×Hold×Unit):=Zc x0e (Zc Zi (Zc x02 Zn))
abbrev g3l {R:Type}:Sm R:=m9 g5y e0u (fun a=>qcz a.1 a.2.1 a.2.2.1)
abbrev d37:ZC ((List Hold)×Int×Unit):=Zc x0e x0h
abbrev f3e:ZD ((List Hold)×Int):=(Cod.tup2 (Zc x0e x0h))
abbrev g2x {R:Type}:Sm R:=m9 d37 f3e (fun a=>qbc a.1 a.2.1)
abbrev g5e:ZC (Unit×(List Hold)×Int×Unit):=Zc (Cod.ptrc 100000) (Zc x0e x0h)
abbrev g2u {R:Type}:Sm R:=b4n g5e (BC.one n8) b4j (fun a b=>qb3 a.2.1 a.2.2.1 b)
abbrev d36:ZC (Hold×Hold×Unit):=Zc x02 (Zc x02 Zn)
abbrev c6h {R:Type}:Sm R:=m9 d36 a0n (fun a=>qba a.1 a.2.1)
abbrev h1l:ZC ((List Hold)×Int×Int×((Unit)×(Unit))×Unit):=Zc x0e (Zc Zi (Zc Zi (Zc x0j Zn)))
abbrev e8z:ZD (List Hold):=x0e
abbrev f36 {R:Type}:Sm R:=m9 h1l e8z (fun a=>qn (fun g x0 x1=>qba x0 x1) a.1 a.2.1 a.2.2.1 a.2.2.2.1)
def f43 {R:Type}:Nat→Sm R:=cl 293 c6h c0
abbrev d8j:=a0m [] [] [0,1,2,3,8,9] [] [99999] (FC.arr 0 99999 (Zs 1 Zi (Zs 2 Zi (Zs 3 x0j (Zs 8 Zi (Zs 9 Zi (FC.own 99999 Kd.kHold false Zz))))))) (d26 (fun g x0 x1=>qba x0 x1)) (.x 2 [0,1,2,3,8] [] [99999] (FC.arr 0 99999 (Zs 1 Zi (Zs 2 Zi (Zs 3 x0j x0p)))))
abbrev d8i:=a0m [] [] [0,1,2,3,8] [] [99999] (FC.arr 0 99999 (Zs 1 Zi (Zs 2 Zi (Zs 3 x0j x0p)))) (d25 (fun g x0 x1=>qba x0 x1)) (.x 0 [] [] [99999] (FC.own 99999 Kd.kHold false Zz))
def b78 {R:Type}:Lp Kd El R:=lp 1 d8i.sem (lp 4 d8j.sem l0)
abbrev e9x:ZC ((List Hold)×Int×Int×Int×((Unit)×(Unit))×Unit):=Zc x0e (Zc Zi (Zc Zi (Zc Zi (Zc x0j Zn))))
abbrev f3d:ZD (List Hold):=e8z
def f1w (a:(List Hold)×Int×Int×Int×((Unit)×(Unit))×Unit):Option (List Hold):=qb7 (fun g x0 x1=>qba x0 x1) a.1 a.2.1 a.2.2.1 a.2.2.2.1 a.2.2.2.2.1
abbrev g2w {R:Type}:Sm R:=m9 e9x f3d f1w
abbrev h1k:ZC ((List Hold)×Int×((Unit)×(Unit))×Unit):=Zc x0e (Zc Zi (Zc x0j Zn))
abbrev h0r {R:Type}:Sm R:=m9 h1k e8z (fun a=>ql (fun g x0 x1=>qba x0 x1) a.1 a.2.1 a.2.2.1)
def f41 {R:Type}:Nat→Sm R:=cl 293 c6h (cl 324 f36 (cl 325 g2w c0))
abbrev d8e:=a0m [] [] [0,1,2,6,7,8] [] [99999] (FC.arr 0 99999 x1f) (e8x (fun g x0 x1=>qba x0 x1)) (.x 0 [0,1,2,6,7] [] [99999] (FC.arr 0 99999 x04))
abbrev d8g:=a0m [] [] [0,1,2,6,7,8] [] [99999] (FC.arr 0 99999 x1f) (g91 (fun g x0 x1=>qba x0 x1)) (.x 4 [0,1,2,6,7] [] [99999] (FC.arr 0 99999 x04))
abbrev d8f:=a0m [] [] [0,1,2,6] [] [99999] (FC.arr 0 99999 (Zs 1 Zi (Zs 2 x0j (Zs 6 Zi (FC.own 99999 Kd.kHold false Zz))))) (e8y (fun g x0 x1=>qba x0 x1)) (.x 2 [] [] [99999] (FC.own 99999 Kd.kHold false Zz))
def b0s {R:Type}:Lp Kd El R:=lp 7 d8f.sem (lp 9 d8g.sem (lp 2 d8e.sem l0))
abbrev g5n:ZC ((List Hold)×((Unit)×(Unit))×Unit):=Zc x0e (Zc x0j Zn)
abbrev e12 {R:Type}:Sm R:=m9 g5n e8z (fun a=>qc1 (fun g x0 x1=>qba x0 x1) a.1 a.2.1)
abbrev h1i:ZC ((List Hold)×Int×Int×Unit):=Zc x0e x0o
abbrev f3z {R:Type}:Sm R:=m9 h1i e0u (fun a=>qg a.1 a.2.1 a.2.2.1)
def f4w {R:Type}:Nat→Sm R:=cl 292 e12 c0
abbrev d78:=a0m [(7,7,Kd.kHold)] [] [1,2,7,10,11,12] [] [7] (Zs 1 Zi (Zs 2 Zi (FC.arr 7 7 (Zs 10 x0e (Zs 11 Zi (Zs 12 Zi (FC.own 7 Kd.kHold false Zz))))))) d21 (.x 0 [7] [] [7] (FC.arr 7 7 (FC.own 7 Kd.kHold false Zz)))
def c9n {R:Type}:Lp Kd El R:=lp 3 d78.sem l0
abbrev g49:ZC ((List Hold)×Item×Int×Int×Bool×Unit):=Zc x0e (Zc x03 (Zc Zi (Zc Zi x1a)))
abbrev g2f {R:Type}:Sm R:=m9 g49 a0n (fun a=>qa6 a.1 a.2.1 a.2.2.1 a.2.2.2.1 a.2.2.2.2.1)
def e42 {R:Type}:Nat→Sm R:=cl 266 f3z c0
abbrev c75:=a0m [] [] [2,4,6,11,18,19,20] [6] [] (Zs 2 Zi (Zs 4 Zb (Zp 6 6 (Zs 11 Zi (Zs 18 x0e (Zs 19 Zi (Zs 20 Zi (Zx 6 a3c Zz)))))))) b5n (.xs 0 [11] [] [] (Zs 11 Zi Zz) (.r [10] [] [] (Zs 10 Zi Zz)))
def c07 {R:Type}:Lp Kd El R:=lp 3 c75.sem l0
abbrev g5u:ZC (Circ×Item×Unit):=Zc x0y (Zc x03 Zn)
abbrev e2h {R:Type}:Sm R:=m9 g5u a0n (fun a=>qch a.1 a.2.1)
abbrev e2u {R:Type}:Sm R:=m9 d4b p9 (fun a=>qdb a.1 a.2.1)
abbrev e4d:ZC ((List Hold)×((Unit)×(Int×Unit))×Unit):=Zc x0e (Zc (Cod.fnc 287 (Zn) x0a) Zn)
abbrev e2a {R:Type}:Sm R:=m9 e4d a0n (fun a=>qc (fun g x0=>qdb x0 g.2.1) a.1 a.2.1)
def d04 {R:Type}:Nat→Sm R:=cl 287 e2u c0
abbrev b5c:=a0m [] [] [0,1,7,8] [] [] (Zs 0 x0e (Zs 1 (Cod.fnc 287 (Zn) x0a) x0k)) (b8i (fun g x0=>qdb x0 g.2.1)) x0c
def b2j {R:Type}:Lp Kd El R:=lp 2 b5c.sem l0
abbrev g25 {R:Type}:Sm R:=m9 d37 a0n (fun a=>qbq a.1 a.2.1)
abbrev g4g {R:Type}:Sm R:=m9 d37 e0r (fun a=>qeo a.1 a.2.1)
abbrev g5s:ZC (Patron×Int×Unit):=Zc (Cod.agg a4k) x0a
abbrev e2c {R:Type}:Sm R:=m9 g5s p9 (fun a=>qcb a.1 a.2.1)
abbrev g47:ZC ((List Patron)×((Unit)×(Int×Unit))×Unit):=Zc x0w (Zc (Cod.fnc 244 (Zn) x0a) Zn)
abbrev g2c {R:Type}:Sm R:=m9 g47 a0n (fun a=>qa1 (fun g x0=>qcb x0 g.2.1) a.1 a.2.1)
def e4z {R:Type}:Nat→Sm R:=cl 244 e2c c0
abbrev c72:=a0m [] [] [0,1,7,8] [] [] (Zs 0 x0w (Zs 1 (Cod.fnc 244 (Zn) x0a) x0k)) (b5m (fun g x0=>qcb x0 g.2.1)) x0c
def c04 {R:Type}:Lp Kd El R:=lp 2 c72.sem l0
abbrev g23 {R:Type}:Sm R:=m9 c6x a0n (fun a=>qbm a.1 a.2.1)
abbrev g30 {R:Type}:Sm R:=m9 c6x f3h (fun a=>qds a.1 a.2.1)
abbrev g3y {R:Type}:Sm R:=m9 b84 p9 (fun a=>qdp a.1 a.2.1)
abbrev g5g:ZC (Rule×Int×Int×Int×Unit):=Zc x1g (Zc Zi x0o)
abbrev e1u {R:Type}:Sm R:=m9 g5g p9 (fun a=>qbn a.1 a.2.1 a.2.2.1 a.2.2.2.1)
abbrev e07 {R:Type}:Sm R:=m9 d4d a0n (fun a=>qa2 a.1)
def e40 {R:Type}:Nat→Sm R:=c0
abbrev c73:=a0m [] [] [3,12,13,14] [] [12] (Zs 3 Zi (FC.arr 12 12 (Zs 13 Zi (Zs 14 Zi (FC.own 12 Kd.ki64 false Zz))))) a9y (.x 0 [3] [] [] x01)
def c05 {R:Type}:Lp Kd El R:=lp 3 c73.sem l0
abbrev e9u:ZC ((List Rule)×Int×Int×Int×Unit):=Zc x0z (Zc Zi x0o)
abbrev g2r {R:Type}:Sm R:=m9 e9u a0n (fun a=>qax a.1 a.2.1 a.2.2.1 a.2.2.2.1)
def e5q {R:Type}:Nat→Sm R:=cl 306 e1u (cl 307 e07 c0)
abbrev c8u:=a0m [] [] [0,1,2,3,9,12,13,14] [] [] (Zs 0 x0z (Zs 1 Zi (Zs 2 Zi (Zs 3 Zi (Zs 9 Zi (Zs 12 x0z (Zs 13 Zi (Zs 14 Zi Zz)))))))) b2y (.x 0 [9] [] [] (Zs 9 Zi Zz))
def c1v {R:Type}:Lp Kd El R:=lp 3 c8u.sem l0
abbrev f3s:ZD (Rule×Bool):=(Cod.tup2 (Zc x1g x1a))
abbrev g3r {R:Type}:Sm R:=m9 e9u f3s (fun a=>qda a.1 a.2.1 a.2.2.1 a.2.2.2.1)
abbrev g5x:ZC (Circ×Int×Item×Unit):=Zc x0y (Zc Zi (Zc x03 Zn))
abbrev g3k {R:Type}:Sm R:=m9 g5x f3s (fun a=>qcw a.1 a.2.1 a.2.2.1)
abbrev e1v {R:Type}:Sm R:=m9 b83 p9 (fun a=>qbp a.1 a.2.1 a.2.2.1)
abbrev h0a:ZD (Calendar):=(Cod.agg s8)
abbrev g27 {R:Type}:Sm R:=m9 b87 h0a (fun a=>qc0 a.1 a.2.1)
abbrev e2d {R:Type}:Sm R:=m9 a4g p9 (fun a=>qcc a.1)
abbrev g3o {R:Type}:Sm R:=m9 a4g p9 (fun a=>qd5 a.1)
abbrev e2s {R:Type}:Sm R:=m9 b84 p9 (fun a=>qd8 a.1 a.2.1)
abbrev e22 {R:Type}:Sm R:=m9 a4g p9 (fun a=>qdl a.1)
abbrev g5b:ZC ((List Int)×Int×Unit):=Zc x0g x0h
abbrev g95:ZD (Int×Bool):=(Cod.tup2 (Zc Zi x1a))
abbrev g2l {R:Type}:Sm R:=m9 g5b g95 (fun a=>qan a.1 a.2.1)
def e5i {R:Type}:Nat→Sm R:=cl 140 e2s (cl 322 e22 c0)
abbrev c8m:=a0m [] [] [0,1,6,7,8] [] [] (Zs 0 x0g (Zs 1 Zi (Zs 6 Zi x0k))) b50 (.x 0 [0,1,6,7] [] [] (Zs 0 x0g (Zs 1 Zi (Zs 6 Zi (Zs 7 Zi Zz)))))
def c1n {R:Type}:Lp Kd El R:=lp 3 c8m.sem l0
abbrev g94:ZD ((V7 Bool)):=(Cod.agg a0x)
abbrev e1d {R:Type}:Sm R:=m9 f4h g94 (fun a=>qah a.1)
def e5c {R:Type}:Nat→Sm R:=c0
abbrev c8g:=a0m [] [] [1,2,3,5] [1,2,3] [] (Zp 1 1 (Zp 2 2 (Zp 3 3 (Zs 5 Zi (Zx 1 s8 (Zx 2 a0x (Zx 3 a0x Zz))))))) d9u (.x 0 [2,3] [2,3] [] (Zp 2 2 (Zp 3 3 (Zx 2 a0x (Zx 3 a0x Zz)))))
def c1h {R:Type}:Lp Kd El R:=lp 3 c8g.sem l0
abbrev g4d {R:Type}:Sm R:=m9 a4g p9 (fun a=>qel a.1)
abbrev e2g {R:Type}:Sm R:=m9 a4g a0n (fun a=>qcf a.1)
abbrev e90:ZC (Calendar×Int×Unit):=Zc (Cod.agg s8) x0h
abbrev e2i {R:Type}:Sm R:=m9 e90 p9 (fun a=>qcp a.1 a.2.1)
abbrev e08 {R:Type}:Sm R:=m9 e90 e0t (fun a=>qa3 a.1 a.2.1)
def e41 {R:Type}:Nat→Sm R:=cl 290 e2i c0
abbrev c74:=a0m [] [] [2,6] [2] [] (Zp 2 2 (Zs 6 Zi (Zx 2 s8 Zz))) c2c (.xs 0 [] [] [] Zz (.r [4,5] [] [] (Zs 4 Zi x1b)))
def c06 {R:Type}:Lp Kd El R:=lp 2 c74.sem l0
abbrev e9t:ZC (Calendar×Int×Int×Unit):=Zc (Cod.agg s8) x0o
abbrev g2q {R:Type}:Sm R:=m9 e9t e0t (fun a=>qaw a.1 a.2.1 a.2.2.1)
def e5p {R:Type}:Nat→Sm R:=cl 175 e2d (cl 260 e08 c0)
abbrev c8t:=a0m [] [] [3,8,28,29] [3] [] (Zp 3 3 (Zs 8 Zi (Zs 28 Zi (Zs 29 Zi (Zx 3 s8 Zz))))) b56 (.xs 0 [8] [] [] (Zs 8 Zi Zz) (.r [6,7] [] [] (Zs 6 Zi (Zs 7 Zi Zz))))
def c1u {R:Type}:Lp Kd El R:=lp 9 c8t.sem l0
abbrev g39 {R:Type}:Sm R:=b4n d4a (BC.one n8) a0n (fun a b=>qeh a.2.1 a.2.2.1 b)
abbrev g24 {R:Type}:Sm R:=m9 b83 p9 (fun a=>qbo a.1 a.2.1 a.2.2.1)
abbrev g5m:ZC (Hold×Int×Int×Unit):=Zc x02 x1d
abbrev e11 {R:Type}:Sm R:=m9 g5m p9 (fun a=>qbz a.1 a.2.1 a.2.2.1)
abbrev c6y:ZC ((List Hold)×((Unit)×(Int×Int×Unit))×Unit):=Zc x0e (Zc (Cod.fnc 255 (Zn) x1d) Zn)
abbrev e2b {R:Type}:Sm R:=m9 c6y a0n (fun a=>qc (fun g x0=>qbz x0 g.2.1 g.2.2.1) a.1 a.2.1)
def d05 {R:Type}:Nat→Sm R:=cl 255 e11 c0
abbrev b5d:=a0m [] [] [0,1,7,8] [] [] (Zs 0 x0e (Zs 1 (Cod.fnc 255 (Zn) x1d) x0k)) (b8i (fun g x0=>qbz x0 g.2.1 g.2.2.1)) x0c
def b2k {R:Type}:Lp Kd El R:=lp 2 b5d.sem l0
abbrev g35 {R:Type}:Sm R:=m9 c6y p9 (fun a=>qed (fun g x0=>qbz x0 g.2.1 g.2.2.1) a.1 a.2.1)
abbrev g48:ZC ((List Hold)×Int×Int×Int×Int×Unit):=Zc x0e (Zc Zi (Zc Zi x0o))
abbrev g2e {R:Type}:Sm R:=m9 g48 f3e (fun a=>qa5 a.1 a.2.1 a.2.2.1 a.2.2.2.1 a.2.2.2.2.1)
abbrev g5w:ZC (Unit×Int×Hold×Unit):=Zc (Cod.ptrc 100000) (Zc Zi (Zc x02 Zn))
abbrev g3g {R:Type}:Sm R:=b4n g5w (BC.one n8) b4j (fun a b=>qcn a.2.1 a.2.2.1 b)
abbrev e1p {R:Type}:Sm R:=b4n d4m (BC.one n8) b4j (fun a b=>qb8 a.2.1 b)
abbrev g2z {R:Type}:Sm R:=b4n d4m (BC.one n8) b4j (fun a b=>qbg a.2.1 b)
def e5u {R:Type}:Nat→Sm R:=cl 124 e1p (cl 149 e2h c0)
abbrev c8z:=a0m [] [] [0,1,11,12] [100000] [] (Zp 0 100000 (Zs 1 Zi (Zs 11 Zi (Zs 12 Zi (Zx 100000 n8 Zz))))) a34 (.xs 0 [] [100000] [] (Zx 100000 n8 Zz) (.r [] [] [100000] (Zx 100000 n8 Zz)))
def c1z {R:Type}:Lp Kd El R:=lp 1 c8z.sem l0
abbrev e2n {R:Type}:Sm R:=m9 b87 b6n (fun a=>qcx a.1 a.2.1)
abbrev d4f:ZC (Circ×Int×Int×Unit):=Zc x0y x0o
abbrev g3i {R:Type}:Sm R:=m9 d4f b6n (fun a=>qcs a.1 a.2.1 a.2.2.1)
abbrev f3m:ZD (Circ×Int×Int):=(Cod.tup3 (Zc x0y x0o))
abbrev g3d {R:Type}:Sm R:=b4n d4m (BC.one n8) f3m (fun a b=>qck a.2.1 b)
abbrev g93:ZD ((Int×Unit)):=(Cod.clo 246 x0a)
abbrev g2b {R:Type}:Sm R:=m9 a4g g93 (fun a=>qa0 a.1)
abbrev g5k:ZC (Loan×Int×Unit):=Zc (Cod.agg a6a) x0a
abbrev e1y {R:Type}:Sm R:=m9 g5k p9 (fun a=>qbv a.1 a.2.1)
abbrev e9r:ZC ((List Loan)×((Unit)×(Int×Unit))×Unit):=Zc x0q (Zc (Cod.fnc 246 (Zn) x0a) Zn)
abbrev g2o {R:Type}:Sm R:=m9 e9r a0n (fun a=>qas (fun g x0=>qbv x0 g.2.1) a.1 a.2.1)
def e5m {R:Type}:Nat→Sm R:=cl 246 e1y c0
abbrev c8q:=a0m [] [] [0,1,7,8] [] [] (Zs 0 x0q (Zs 1 (Cod.fnc 246 (Zn) x0a) x0k)) (b53 (fun g x0=>qbv x0 g.2.1)) x0c
def c1r {R:Type}:Lp Kd El R:=lp 2 c8q.sem l0
abbrev h0b:ZD (Loan×Int):=(Cod.tup2 (Zc (Cod.agg a6a) x0h))
abbrev g3f {R:Type}:Sm R:=m9 e9r h0b (fun a=>qcm (fun g x0=>qbv x0 g.2.1) a.1 a.2.1)
abbrev c96:ZD ((List Loan)):=x0q
abbrev e13 {R:Type}:Sm R:=m9 d34 c96 (fun a=>qc4 a.1)
abbrev d4c:ZC ((List Loan)×Int×Int×Unit):=Zc x0q x0o
abbrev f3i:ZD ((List Loan)):=c96
def f1z (a:(List Loan)×Int×Int×Unit):Option ((List Loan)):=qc2 a.1 a.2.1 a.2.2.1
abbrev g28 {R:Type}:Sm R:=m9 d4c f3i f1z
abbrev g37 {R:Type}:Sm R:=m9 b86 c96 (fun a=>qef a.1 a.2.1)
abbrev h0e:ZD ((List Loan)×Loan×Int):=(Cod.tup3 (Zc x0q (Zc (Cod.agg a6a) x0h)))
abbrev g32 {R:Type}:Sm R:=m9 b86 h0e (fun a=>qdu a.1 a.2.1)
abbrev g53:ZC (Unit×(List Loan)×Int×Unit):=Zc (Cod.ptrc 100000) (Zc x0q x0h)
abbrev g3x {R:Type}:Sm R:=b4n g53 (BC.one n8) b4j (fun a b=>qdn a.2.1 a.2.2.1 b)
abbrev e1q {R:Type}:Sm R:=m9 a4g p9 (fun a=>qb9 a.1)
abbrev e9s:ZC ((List Int)×((Unit)×(Unit))×Unit):=Zc x0g (Zc (Cod.fnc 174 (Zn) (Zn)) Zn)
abbrev g2p {R:Type}:Sm R:=m9 e9s a0n (fun a=>qat (fun g x0=>qb9 x0) a.1 a.2.1)
def e5n {R:Type}:Nat→Sm R:=cl 174 e1q c0
abbrev c8r:=a0m [] [] [0,1,7,8] [] [] (Zs 0 x0g (Zs 1 (Cod.fnc 174 (Zn) (Zn)) x0k)) (b54 (fun g x0=>qb9 x0)) x0c
def c1s {R:Type}:Lp Kd El R:=lp 2 c8r.sem l0
abbrev e2p {R:Type}:Sm R:=m9 e9s p9 (fun a=>qd0 (fun g x0=>qb9 x0) a.1 a.2.1)
abbrev f37 {R:Type}:Sm R:=m9 f4h a0n (fun a=>qr a.1)
def f48 {R:Type}:Nat→Sm R:=cl 64 e2p c0
abbrev d8n:=a0m [] [] [1,24,25,26] [1] [] (Zp 1 1 (Zs 24 x0g (Zs 25 Zi (Zs 26 Zi (Zx 1 s8 Zz))))) c5u (.xs 1 [] [] [] Zz x0d)
def c9r {R:Type}:Lp Kd El R:=lp 8 d8n.sem l0
abbrev e24 {R:Type}:Sm R:=m9 b84 a0n (fun a=>qdq a.1 a.2.1)
abbrev h0w {R:Type}:Sm R:=m9 e9t a0n (fun a=>qz a.1 a.2.1 a.2.2.1)
def f5g {R:Type}:Nat→Sm R:=cl 309 e1d (cl 310 e2g (cl 314 e24 c0))
abbrev d8u:=a0m [] [] [1,2,3,7,8,22,23] [3,7] [] (Zs 1 Zi (Zs 2 Zi (Zp 3 3 (Zp 7 7 (Zs 8 Zi (Zs 22 (Cod.agg a0x) (Zs 23 Zi (Zx 3 s8 (Zx 7 a0x Zz))))))))) c50 (.x 0 [1,2,3,7,8] [3,7] [] (Zs 1 Zi (Zs 2 Zi (Zp 3 3 (Zp 7 7 (Zs 8 Zi (Zx 3 s8 (Zx 7 a0x Zz))))))))
abbrev c9e:=a0m [] [] [1,2,7,8,40,41,42] [7] [] (Zs 1 Zi (Zs 2 Zi (Zp 7 7 (Zs 8 Zi (Zs 40 x0g (Zs 41 Zi (Zs 42 Zi (Zx 7 a0x Zz)))))))) b6m (.x 2 [8] [] [] (Zs 8 Zi Zz))
def b8e {R:Type}:Lp Kd El R:=lp 13 c9e.sem (lp 7 d8u.sem l0)
abbrev g55:ZC (Rule×Calendar×Int×Int×Unit):=Zc x1g (Zc (Cod.agg s8) x0o)
abbrev g33 {R:Type}:Sm R:=m9 g55 a0n (fun a=>qdv a.1 a.2.1 a.2.2.1 a.2.2.2.1)
abbrev g5t:ZC (Charge×Int×Int×Int×Unit):=Zc (Cod.agg a4j) (Zc x0m x1d)
abbrev e2f {R:Type}:Sm R:=m9 g5t p9 (fun a=>qce a.1 a.2.1 a.2.2.1 a.2.2.2.1)
abbrev g5c:ZC ((List Charge)×((Unit)×(Int×Int×Int×Unit))×Unit):=Zc x0r (Zc (Cod.fnc 297 (Zn) (Zc x0m x1d)) Zn)
abbrev g96:ZD ((List Charge)×Int×Int):=(Cod.tup3 (Zc x0r x0o))
abbrev g2m {R:Type}:Sm R:=m9 g5c g96 (fun a=>qao (fun g x0=>qce x0 g.2.1 g.2.2.1 g.2.2.2.1) a.1 a.2.1)
def e5j {R:Type}:Nat→Sm R:=cl 297 e2f c0
abbrev c8n:=a0m [(4,4,Kd.kCharge)] [] [1,4,5,6,9,10,11] [] [4] (Zs 1 (Cod.fnc 297 (Zn) (Zc x0m x1d)) (FC.arr 4 4 (Zs 5 Zi (Zs 6 Zi (Zs 9 x0r (Zs 10 Zi (Zs 11 Zi (FC.own 4 Kd.kCharge false Zz)))))))) (b51 (fun g x0=>qce x0 g.2.1 g.2.2.1 g.2.2.2.1)) (.x 0 [4,5,6] [] [4] (FC.arr 4 4 (Zs 5 Zi (Zs 6 Zi (FC.own 4 Kd.kCharge false Zz)))))
def c1o {R:Type}:Lp Kd El R:=lp 2 c8n.sem l0
abbrev g5f:ZC ((List Charge)×Int×Int×Int×Unit):=Zc x0r (Zc Zi x0o)
abbrev g21 {R:Type}:Sm R:=m9 g5f f3l (fun a=>qbj a.1 a.2.1 a.2.2.1 a.2.2.2.1)
abbrev g36 {R:Type}:Sm R:=b4n d4a (BC.one n8) b4j (fun a b=>qee a.2.1 a.2.2.1 b)
abbrev g4f {R:Type}:Sm R:=m9 d4f f3m (fun a=>qen a.1 a.2.1 a.2.2.1)
abbrev g29 {R:Type}:Sm R:=m9 d4f b6n (fun a=>qc3 a.1 a.2.1 a.2.2.1)
abbrev g5p:ZC (Circ×Item×Int×Unit):=Zc x0y (Zc x03 x0h)
abbrev e15 {R:Type}:Sm R:=m9 g5p b6n (fun a=>qc6 a.1 a.2.1 a.2.2.1)
abbrev e09 {R:Type}:Sm R:=m9 f4f b6n (fun a=>qa7 a.1 a.2.1 a.2.2.1)
def e43 {R:Type}:Nat→Sm R:=cl 12 f3w (cl 31 c6k (cl 32 c6g (cl 33 b8o (cl 41 e2n (cl 42 e15 c0)))))
abbrev c76:=a0m [] [] [1,3,6,21,22,23] [3,6] [] (Zs 1 Zi (Zp 3 3 (Zp 6 6 (Zs 21 (Zl .kProblem) (Zs 22 Zi (Zs 23 Zi (Zx 3 j7 (Zx 6 j7 Zz)))))))) b5o (.xs 0 [3,6] [3,6] [] (Zp 3 3 (Zp 6 6 (Zx 3 j7 (Zx 6 j7 Zz)))) (.r [7] [6] [6] (Zp 6 6 (Zs 7 Zi (Zx 6 j7 Zz)))))
def c08 {R:Type}:Lp Kd El R:=lp 4 c76.sem l0
abbrev d4e:ZC ((List UInt8)×Unit):=c6w
abbrev f3k:ZD (Bool):=p9
def f10 (a:(List UInt8)×Unit):Option (Bool):=qcg a.1
abbrev g3a {R:Type}:Sm R:=m9 d4e f3k f10
abbrev g5q:ZC (Item×Unit):=Zc x03 Zn
abbrev e16 {R:Type}:Sm R:=m9 g5q p9 (fun a=>qc7 a.1)
abbrev e2r {R:Type}:Sm R:=m9 a4g f3n (fun a=>qd4 a.1)
abbrev e1a {R:Type}:Sm R:=m9 e9o f3c (fun a=>qa8 a.1 a.2.1 a.2.2.1)
def e44 {R:Type}:Nat→Sm R:=cl 119 e2r (cl 161 e1t (cl 162 e17 c0))
abbrev c77:=a0m [] [] [2,6,9,20,21,22] [6,9] [] (Zs 2 Zi (Zp 6 6 (Zp 9 9 (Zs 20 x1i (Zs 21 Zi (Zs 22 Zi (Zx 6 u0 (Zx 9 u0 Zz)))))))) b5p x0n
def c09 {R:Type}:Lp Kd El R:=lp 5 c77.sem l0
abbrev h0t {R:Type}:Sm R:=m9 a97 p9 (fun a=>qp a.1)
def f45 {R:Type}:Nat→Sm R:=cl 95 e16 (cl 96 b8m (cl 97 e1a c0))
abbrev d8l:=a0m [] [] [1,23,24,25] [1] [] (Zp 1 1 (Zs 23 x0v (Zs 24 Zi (Zs 25 Zi x0f)))) c5t x0i
abbrev c87:=a0m [] [] [1,51,52,53] [1] [] (Zp 1 1 (Zs 51 x1i (Zs 52 Zi (Zs 53 Zi x0f)))) b6h x0t
abbrev c88:=a0m [] [] [1,64,65,66] [1] [] (Zp 1 1 (Zs 64 x0v (Zs 65 Zi (Zs 66 Zi x0f)))) b6i x07
def b0u {R:Type}:Lp Kd El R:=lp 16 c88.sem (lp 10 c87.sem (lp 4 d8l.sem l0))
abbrev d4k:ZC ((List UInt8)×Unit):=c6w
abbrev f3t:ZD ((List UInt8)):=e0s
def f15 (a:(List UInt8)×Unit):Option ((List UInt8)):=qde a.1
abbrev g3s {R:Type}:Sm R:=m9 d4k f3t f15
abbrev g5r:ZC (Patron×Unit):=Zc (Cod.agg a4k) Zn
abbrev e18 {R:Type}:Sm R:=m9 g5r a0n (fun a=>qc9 a.1)
abbrev e1b {R:Type}:Sm R:=m9 d35 a0n (fun a=>qa9 a.1)
def e45 {R:Type}:Nat→Sm R:=cl 163 e18 c0
abbrev c78:=a0m [] [] [3,10,11,12] [] [] (Zs 3 Zi (Zs 10 x0w (Zs 11 Zi (Zs 12 Zi Zz)))) b5q x0l
def c1a {R:Type}:Lp Kd El R:=lp 5 c78.sem l0
abbrev e26 {R:Type}:Sm R:=m9 a4g p9 (fun a=>qdy a.1)
abbrev e25 {R:Type}:Sm R:=m9 a4g p9 (fun a=>qdw a.1)
abbrev e1r {R:Type}:Sm R:=m9 d34 a0n (fun a=>qbb a.1)
def e5s {R:Type}:Nat→Sm R:=cl 164 e26 (cl 165 e25 c0)
abbrev c8x:=a0m [] [] [0,8,9,10] [] [] (Zs 0 x0q (Zs 8 x0q (Zs 9 Zi (Zs 10 Zi Zz)))) b23 x0l
def c1x {R:Type}:Lp Kd El R:=lp 4 c8x.sem l0
abbrev g31 {R:Type}:Sm R:=m9 a4g p9 (fun a=>qdt a.1)
abbrev e2t {R:Type}:Sm R:=m9 e91 a0n (fun a=>qd9 a.1)
abbrev e2k {R:Type}:Sm R:=m9 d36 p9 (fun a=>qcr a.1 a.2.1)
abbrev g5z:ZC ((List Hold)×((Unit)×(Unit))×Unit):=Zc x0e (Zc (Cod.fnc 168 (Zn) (Zn)) Zn)
abbrev f3x {R:Type}:Sm R:=m9 g5z p9 (fun a=>qd (fun g x0 x1=>qcr x0 x1) a.1 a.2.1)
def f4u {R:Type}:Nat→Sm R:=cl 168 e2k c0
abbrev d75:=a0m [] [] [0,1,5,8,9,12,13] [] [] (Zs 0 x0e (Zs 1 (Cod.fnc 168 (Zn) (Zn)) x09)) (c2f (fun g x0 x1=>qcr x0 x1)) (.xs 2 [0,1,8,9] [] [] x05 x0u)
abbrev d74:=a0m [] [] [0,1,8,9] [] [] x05 (c5l (fun g x0 x1=>qcr x0 x1)) x1h
def b76 {R:Type}:Lp Kd El R:=lp 2 d74.sem (lp 5 d75.sem l0)
abbrev e2j {R:Type}:Sm R:=m9 d36 p9 (fun a=>qcq a.1 a.2.1)
abbrev c60:ZC ((List Hold)×((Unit)×(Unit))×Unit):=Zc x0e (Zc (Cod.fnc 169 (Zn) (Zn)) Zn)
abbrev c28 {R:Type}:Sm R:=m9 c60 p9 (fun a=>qd (fun g x0 x1=>qcq x0 x1) a.1 a.2.1)
def d06 {R:Type}:Nat→Sm R:=cl 169 e2j c0
abbrev b5f:=a0m [] [] [0,1,5,8,9,12,13] [] [] (Zs 0 x0e (Zs 1 (Cod.fnc 169 (Zn) (Zn)) x09)) (c2f (fun g x0 x1=>qcq x0 x1)) (.xs 2 [0,1,8,9] [] [] x06 x0u)
abbrev b5e:=a0m [] [] [0,1,8,9] [] [] x06 (c5l (fun g x0 x1=>qcq x0 x1)) x1h
def a7q {R:Type}:Lp Kd El R:=lp 2 b5e.sem (lp 5 b5f.sem l0)
abbrev f33 {R:Type}:Sm R:=m9 f4g a0n (fun a=>qm a.1)
def f42 {R:Type}:Nat→Sm R:=cl 166 e2t (cl 167 (si g5z f3x (si c60 c28 s0)) c0)
abbrev d8h:=a0m [] [] [0,9,10,11] [] [] (Zs 0 x0e (Zs 9 x0e x1e)) c5s (.xs 0 [0] [] [] (Zs 0 x0e Zz) x0d)
def c9p {R:Type}:Lp Kd El R:=lp 4 d8h.sem l0
abbrev g22 {R:Type}:Sm R:=m9 b83 p9 (fun a=>qbl a.1 a.2.1 a.2.2.1)
abbrev e2q {R:Type}:Sm R:=m9 d4d p9 (fun a=>qd3 a.1)
abbrev g5l:ZC (Rule×Rule×Unit):=Zc x1g (Zc (Cod.cptr a3v) Zn)
abbrev e1z {R:Type}:Sm R:=m9 g5l p9 (fun a=>qbw a.1 a.2.1)
abbrev e9q:ZC ((List Rule)×((Unit)×(Rule×Unit))×Unit):=Zc x0z (Zc (Cod.fnc 172 (Zn) (Zc (Cod.cptr a3v) Zn)) Zn)
abbrev g2n {R:Type}:Sm R:=m9 e9q a0n (fun a=>qar (fun g x0=>qbw x0 g.2.1) a.1 a.2.1)
def e5l {R:Type}:Nat→Sm R:=cl 172 e1z c0
abbrev c8p:=a0m [] [] [0,1,7,8] [] [] (Zs 0 x0z (Zs 1 (Cod.fnc 172 (Zn) (Zc (Cod.cptr a3v) Zn)) x0k)) (b52 (fun g x0=>qbw x0 g.2.1)) x0c
def c1q {R:Type}:Lp Kd El R:=lp 2 c8p.sem l0
abbrev e27 {R:Type}:Sm R:=m9 e9q p9 (fun a=>qdz (fun g x0=>qbw x0 g.2.1) a.1 a.2.1)
abbrev f38 {R:Type}:Sm R:=m9 g56 a0n (fun a=>qs a.1)
def f5a {R:Type}:Nat→Sm R:=cl 171 e2q (cl 173 e27 c0)
abbrev d8o:=a0m [] [] [0,9,10,11] [] [] (Zs 0 x0z (Zs 9 x0z x1e)) d28 x0l
def c9s {R:Type}:Lp Kd El R:=lp 4 d8o.sem l0
abbrev h0s {R:Type}:Sm R:=m9 a97 p9 (fun a=>qo a.1)
def f44 {R:Type}:Nat→Sm R:=cl 48 e1v (cl 98 e1b (cl 99 e1r (cl 100 f33 (cl 101 e1l (cl 102 f38 (cl 103 f37 c0))))))
abbrev d8k:=a0m [] [] [1,38,39] [1] [] (Zp 1 1 (Zs 38 (Cod.agg a45) (Zs 39 Zi x0f))) c2p x0i
abbrev c85:=a0m [] [] [1,57,58,59] [1] [] (Zp 1 1 (Zs 57 x0e (Zs 58 Zi (Zs 59 Zi x0f)))) b6f x0t
abbrev c86:=a0m [] [] [1,70,71,72] [1] [] (Zp 1 1 (Zs 70 x0r (Zs 71 Zi (Zs 72 Zi x0f)))) b6g x07
def b0t {R:Type}:Lp Kd El R:=lp 18 c86.sem (lp 12 c85.sem (lp 4 d8k.sem l0))
abbrev g5i:ZC (Int×Circ×Unit):=Zc Zi (Zc (Cod.cptr j7) Zn)
abbrev e1x {R:Type}:Sm R:=m9 g5i p9 (fun a=>qbs a.1 a.2.1)
abbrev h0o {R:Type}:Sm R:=m9 a97 p9 (fun a=>qe a.1)
def f4v {R:Type}:Nat→Sm R:=cl 96 b8m (cl 104 e1x c0)
abbrev d76:=a0m [] [] [1,3,12,13,14] [1] [] (Zp 1 1 (FC.clo 3 104 [] [1] (Zs 12 x0q (Zs 13 Zi (Zs 14 Zi x0f))))) c5m (.xs 0 [1,3] [1] [] (Zp 1 1 (FC.clo 3 104 [] [1] x0f)) x0b)
abbrev d77:=a0m [] [] [1,3,32,33,34] [1] [] (Zp 1 1 (FC.clo 3 104 [] [1] (Zs 32 x0e (Zs 33 Zi (Zs 34 Zi x0f))))) d2y (.xs 2 [1,3] [1] [] (Zp 1 1 (FC.clo 3 104 [] [1] x0f)) x0b)
abbrev c80:=a0m [] [] [3,45,46,47] [1] [] (FC.clo 3 104 [] [1] (Zs 45 x0r (Zs 46 Zi (Zs 47 Zi x0f)))) b59 x07
def b0p {R:Type}:Lp Kd El R:=lp 15 c80.sem (lp 9 d77.sem (lp 3 d76.sem l0))
abbrev e29 {R:Type}:Sm R:=m9 b86 f3o (fun a=>qeb a.1 a.2.1)
abbrev g2y {R:Type}:Sm R:=m9 a97 p9 (fun a=>qbf a.1)
def e5t {R:Type}:Nat→Sm R:=cl 106 e29 c0
abbrev c8y:=a0m [] [] [1,9,10,11] [1] [] (Zp 1 1 (Zs 9 x0v (Zs 10 Zi (Zs 11 Zi x0f)))) b57 (.xs 0 [] [] [] Zz x0b)
def c1y {R:Type}:Lp Kd El R:=lp 2 c8y.sem l0
abbrev h0v {R:Type}:Sm R:=m9 a97 p9 (fun a=>qy a.1)
def f5f {R:Type}:Nat→Sm R:=cl 81 e1i (cl 96 b8m c0)
abbrev d8t:=a0m [] [] [1,13,14,15] [1] [] (Zp 1 1 (Zs 13 x0e (Zs 14 Zi (Zs 15 Zi x0f)))) c5z x0i
abbrev c9d:=a0m [] [] [1,65,66,67] [1] [] (Zp 1 1 (Zs 65 x0v (Zs 66 Zi (Zs 67 Zi x0f)))) b6l x08
def b8d {R:Type}:Lp Kd El R:=lp 16 c9d.sem (lp 2 d8t.sem l0)
abbrev e28 {R:Type}:Sm R:=m9 a97 p9 (fun a=>qea a.1)
abbrev g57:ZC (Circ×Int×(List Int)×Unit):=f4f
abbrev h2l:ZD (Bool):=p9
def g72 (a:Circ×Int×(List Int)×Unit):Option (Bool):=qi a.1 a.2.1 a.2.2.1
abbrev h0p {R:Type}:Sm R:=m9 g57 h2l g72
def f4y {R:Type}:Nat→Sm R:=cl 9 g2s (cl 10 e2x (cl 16 e09 (cl 21 c6f (cl 22 e28 c0))))
abbrev c81:=a0m [] [] [2,7,9,10,11,12,13,14] [7] [] (Zs 2 x0g (Zp 7 7 (Zs 9 x0g (Zs 10 x0g (Zs 11 Zi (Zs 12 Zb (Zs 13 Zb (Zs 14 Zi (Zx 7 j7 Zz))))))))) b27 (.x 2 [2,7,9,10,11,12,13] [7] [] x0x)
abbrev c82:=a0m [] [] [2,7,9,10,11,12,13,15] [7] [] (Zs 2 x0g (Zp 7 7 (Zs 9 x0g (Zs 10 x0g (Zs 11 Zi (Zs 12 Zb (Zs 13 Zb (Zs 15 Zi (Zx 7 j7 Zz))))))))) b28 (.x 4 [2,7,9,10,11,12,13] [7] [] x0x)
abbrev d8b:=a0m [] [] [2,7,9,10,11] [7] [] (Zs 2 x0g (Zp 7 7 (Zs 9 x0g (Zs 10 x0g (Zs 11 Zi (Zx 7 j7 Zz)))))) c5q (.xs 0 [7] [7] [] (Zp 7 7 (Zx 7 j7 Zz)) (.r [6] [] [] (Zs 6 Zb Zz)))
def b0q {R:Type}:Lp Kd El R:=lp 8 d8b.sem (lp 16 c82.sem (lp 12 c81.sem l0))
abbrev d4j:ZC (Int×Unit):=a4g
abbrev f3r:ZD ((List UInt8)):=e0s
def f14 (a:Int×Unit):Option ((List UInt8)):=qd6 a.1
abbrev g3p {R:Type}:Sm R:=m9 d4j f3r f14
abbrev d4i:ZC ((List Item)×Int×(List Item)×Unit):=Zc x0v (Zc Zi (Zc x0v Zn))
abbrev f3q:ZD ((List Item)):=f3j
def f13 (a:(List Item)×Int×(List Item)×Unit):Option ((List Item)):=qd2 a.1 a.2.1 a.2.2.1
abbrev g3n {R:Type}:Sm R:=m9 d4i f3q f13
abbrev d4h:ZC ((List Loan)×Int×(List Loan)×Unit):=Zc x0q (Zc Zi (Zc x0q Zn))
abbrev f3p:ZD ((List Loan)):=c96
def f11 (a:(List Loan)×Int×(List Loan)×Unit):Option ((List Loan)):=qd1 a.1 a.2.1 a.2.2.1
abbrev g3m {R:Type}:Sm R:=m9 d4h f3p f11
abbrev d4l:ZC ((List Patron)×Int×(List Patron)×Unit):=Zc x0w (Zc Zi (Zc x0w Zn))
abbrev e0v:ZD ((List Patron)):=x0w
def f17 (a:(List Patron)×Int×(List Patron)×Unit):Option ((List Patron)):=qdi a.1 a.2.1 a.2.2.1
abbrev g3v {R:Type}:Sm R:=m9 d4l e0v f17
abbrev g51:ZC ((List Patron)×Unit):=d35
abbrev h0c:ZD ((List Patron)):=e0v
def g71 (a:(List Patron)×Unit):Option ((List Patron)):=qdj a.1
abbrev e2y {R:Type}:Sm R:=m9 g51 h0c g71
end
section
set_option maxRecDepth 100000
open Go
theorem g6k:∀k,j8 (ccK k)
 |.kItem=>b9s
 |.kPatron=>b1j
 |.kLoan=>b9t
 |.kHold=>b9r
 |.kCharge=>b1i
 |.kRule=>b9x
 |.ki64=>j8.one (f8.int _)
 |.kMove=>b9w
 |.kMapI=>b9u
 |.kProblem=>a9r
 |.kstr=>j8.one f8.str
 |.kMapS=>b9v
 |.kbool=>j8.one f8.bool
 |.ku64=>j8.one (f8.int _)
 |.ku8=>j8.one (f8.int _)
 |.kUtf8_acceptRange=>a3o
 |.ku16=>j8.one (f8.int _)
theorem h3j:SgOk sg:=g4h (cc:=ccK) (fun _=>rfl) (fun _=>rfl) g6k (by intro k x;cases k<;>rfl) (by intro k x;cases k<;>rfl) (by intro k;cases k<;>decide)
theorem eok:∀t,g7f t=true→EqOk Tryz.prog t:=c7r kr (c7r kr (f9h))
theorem mok:∀t M,g8n t=some M→e3z Tryz.prog sg t M:=c9u (e8q (kt:=3) (et:=9) kr kr kr (fun _ _=>rfl) (fun _ _=>rfl) (fun _=>rfl)) (c9u (e8p (kt:=3) (et:=3) kr kr kr (fun _ _=>rfl) (fun _ _=>rfl) (fun _=>rfl)) (g1e))
theorem good:GoodP Tryz.prog sg:=⟨h3h kr kr,h3j,eok,mok⟩
end
end Go.Proofs.YteaknldbhmocpaaGreatDoor
namespace Go.Proofs.YteaknldbhmocpaaGreatDoor.Ev
open Go
section
variable {P:Program} {w:World}
theorem a0p {dT sT ty elem:TypeId} {i0:TypeInfo} {g o dLen dCap sLen sCap z:Nat} {a:Addr} {L cs:List Value} {t:TypeId} (hu:P.underlying dT=some (.slice elem)) (hi:P.info? elem=some i0) (hz:i0.size=z)
 (hg:w.heap[g]?=some (.cells L.toArray t (0,0))) (hn:cs.length=Nat.min sLen dLen*z) (hsrc:∀j v,cs[j]?=some v→w.cell? (a.add j)=some v) (hfit:o+cs.length≤L.length) (h1:∀v∈cs,v.oneCell'=true) :
 (Builtin.copy_ #[dT,sT] ty #[.slice (some ⟨g,o,none⟩) dLen dCap,.slice (some a) sLen sCap]).run P w=.ok (goInt (Nat.min sLen dLen)) (w.setRow g (Go.splice L o cs).toArray):=by
 have hl:=run_firstCells_some (P:=P) w z (Nat.min sLen dLen) a sLen sCap cs hn hsrc;have hst:=run_storeCells_at P g o t cs 0 L.toArray w hg (by simpa using hfit) h1;simp only[ybe]at hst;subst hz;simp[Builtin.copy_,run_underlying hu,Builtin.lenOf,sizeOf,typeInfo,hi,hl,hst,Go.splice]
theorem b3x {ops:Array Oper} {rest:List Oper} {o:Oper} {a:Act} {Q:Exit→Act→World→Prop} (hgd:o.guard=none) (d s:Operand) (t t':TypeId)
 (ho:o.op=.call {callee:=.builtin .copy,args:=#[d,s],argTypes:=#[t,t']}) (v u:Value) (hd:a.eval d=v) (hs:a.eval s=u) {v':Value} {w':World}
 (hr:(Builtin.copy_ #[t,t'] o.type #[v,u]).run P w=.ok v' w') (h:wpList P ops Q rest (a.put o.dst v') w'):wpList P ops Q (o::rest) a w:=
 wpList_plain hgd fun _ hK=>by
  unfold Oper.wp execOp;simp only[ho,resolve,invoke,builtin,Sem.run_bind,Sem.run_pure,Result.andThen_ok,List.map_toArray,ybq,yb2,hd,hs,hr];exact hK _ _ h
theorem a3f {ops:Array Oper} {o:Oper} {a:Act} {K:Act→World→Prop} {Q:Exit→Act→World→Prop} {E:Prop}
 (hg:o.guard=none) (d x:Operand) (dT sT:TypeId) (hop:o.op=Op.call {callee:=Callee.builtin Builtin.copy,args:=#[d,x],argTypes:=#[dT,sT]})
 (v u:Value) (hd:a.eval d=v) (hx:a.eval x=u) {v':Value} {w':World} (hr:(Builtin.copy_ #[dT,sT] o.type #[v,u]).run P w=.ok v' w') (hK:K (a.put o.dst v') w') :
 if Region.wanted o (yielded ops a.tmps)=true then Oper.wp P o a w K Q else E:=by
 have hw:Region.wanted o (yielded ops a.tmps)=true:=by simp[Region.wanted,hg]
 rw[yaK hw];unfold Oper.wp;simp[execOp,hop,resolve,invoke,builtin,hd,hx,hr,Result.andThen];exact hK
theorem d3n {ops:Array Oper} {o:Oper} {a:Act} {K:Act→World→Prop} {Q:Exit→Act→World→Prop} {E:Prop}
 (hg:o.guard=none) (d x:Operand) (dT sT:TypeId) (hop:o.op=Op.call {callee:=Callee.builtin Builtin.append,args:=#[d,x],argTypes:=#[dT,sT]})
 (v u:Value) (hd:a.eval d=v) (hx:a.eval x=u) {v':Value} {w':World} (hr:(Builtin.append_ #[dT,sT] o.type #[v,u]).run P w=.ok v' w') (hK:K (a.put o.dst v') w') :
 if Region.wanted o (yielded ops a.tmps)=true then Oper.wp P o a w K Q else E:=by
 have hw:Region.wanted o (yielded ops a.tmps)=true:=by simp[Region.wanted,hg]
 rw[yaK hw];unfold Oper.wp;simp[execOp,hop,resolve,invoke,builtin,hd,hx,hr,Result.andThen];exact hK
theorem a0q {ops:Array Oper} {rest:List Oper} {o:Oper} {a:Act} {Q:Exit→Act→World→Prop} (hgd:o.guard=none) (s x:Operand) (t tn:TypeId)
 (ho:o.op=.call {callee:=.builtin .append,args:=#[s,x],argTypes:=#[t,tn]}) (vs vx:Value) (hs:a.eval s=vs) (hx:a.eval x=vx)
 {v':Value} {w':World} (hr:(Builtin.append_ #[t,tn] o.type #[vs,vx]).run P w=.ok v' w') (h:wpList P ops Q rest (a.put o.dst v') w'):wpList P ops Q (o::rest) a w:=
 Lib.wpList_append_run w hgd s x t tn ho vs vx hs hx v' w' hr h
theorem c6c {t e ty:TypeId} {i0:TypeInfo} {z0:Value} {b o n c:Nat} {L:List Value} {tt:TypeId} (ht:P.underlying t=some (.slice e)) (hi:P.info? e=some i0) (hz:i0.zero=some z0)
 (hn:0<n) (hb:w.heap[b]?=some (.cells L.toArray tt (0,0))) (hfit:o+n*z0.cells.size≤L.length) (h1:∀v∈z0.cells,v.oneCell'=true) :
 (Builtin.clear_ #[t] ty #[.slice (some ⟨b,o,none⟩) n c]).run P w=.ok (.tuple #[]) (w.setRow b (Go.splice L o (Builtin.zeroCells z0.cells n).toList).toArray):=by
 have hl:(Builtin.zeroCells z0.cells n).toList.length=n*z0.cells.size:=by rw[ya6,Go.size_zeroCells]
 have hst:=run_storeCells_at P b o tt (Builtin.zeroCells z0.cells n).toList 0 L.toArray w hb (by rw[hl];simpa using hfit) (fun v hv=>by
  simp only[Builtin.zeroCells,Array.toList_map,ybb,Array.toList_range,ybW]at hv;obtain ⟨q,hq,rfl⟩:=hv;have hp:0<z0.cells.size:=Nat.pos_of_ne_zero (fun h=>by rw[h]at hq;omega);rw[getElem!_pos z0.cells _ (Nat.mod_lt _ hp)];exact h1 _ (Array.getElem_mem _))
 simp only[ybe]at hst;obtain ⟨m,rfl⟩:∃m,n=m+1:=⟨n-1,by omega⟩
 simp only[ybl]at hst;simp[Builtin.clear_,run_underlying ht,sizeOf,typeInfo,zeroValue,hi,hz,hst,Go.splice]
theorem a3y {tS tR e:TypeId} {i0:TypeInfo} (ht:P.underlying tS=some (.slice e)) (hi:P.info? e=some i0) {a b:Addr} {la ca lb cb:Nat} (hne:a.block≠b.block)
 {va vb:Array Value} {ta tb:TypeId} {fa:Nat×Nat} (ha:w.heap[a.block]?=some (.cells va ta fa)) (ha0:0<va.size) (hb:w.heap[b.block]?=some (.cells vb tb (0,0))) (hb0:0<vb.size) :
 (Extern.SlicesOverlaps.overlaps #[tS,tS] #[tR] #[.slice (some a) la ca,.slice (some b) lb cb]).run P w=.ok (.bool false) w:=by
 have hnb:(a.block != b.block)=true:=by simpa using hne
 have hnb':(a.block==b.block)=false:=by simpa using hne
 have hsa:w.shape? a.block=some (ta,va.size):=by simp[World.shape?,ha]
 have hsb:w.shape? b.block=some (tb,vb.size):=by simp[World.shape?,hb]
 have hfb:w.frozen? b=false:=by simp[World.frozen?,hb]
 have hfb':w.frozen? {block:=b.block,off:=vb.size}=false:=by simp[World.frozen?,hb]
 change Sem.run P (α:=Value) (do
  let some t:=(#[tS,tS]:Array TypeId)[0]?|stuck "slices.overlaps: no parameter types"
  let .slice elem ←underlying t|stuck "slices.overlaps: slice type expected"
  let size ←sizeOf elem
  match (some a:Option Addr),(some b:Option Addr) with
  |some a,some b=>
   if la=0∨lb=0∨size=0 then pure (Value.bool false)
   else if a.block != b.block&&(←frozen a)&&(←frozen b) then unsupported .addressObserved
   else do
    if a.block != b.block then do
     noView a;noView b
     if ←mayBeOne a b then return Value.bool ((←choose (.extern "sameAddr.stringBytes" 2))==1)
    pure (Value.bool (a.block==b.block&&a.off<b.off+lb*size&&b.off<a.off+la*size))
  |_,_=>pure (Value.bool false)) w=_
 have hz:(Go.sizeOf e).run P w=.ok i0.size w:=by simp[sizeOf,typeInfo,hi]
 by_cases h0:la=0∨lb=0∨i0.size=0
 ·simp[run_underlying ht,hz,h0]
 ·obtain ⟨ka,hka⟩:∃k,va.size=k+1:=⟨va.size-1,by omega⟩
  obtain ⟨kb,hkb⟩:∃k,vb.size=k+1:=⟨vb.size-1,by omega⟩
  rw[hka]at hsa;rw[hkb]at hsb hfb';by_cases hfa:w.frozen? a=true
  ·simp[run_underlying ht,hz,h0,hnb,hnb',frozen,noView,viewAt,mayBeOne,stringish,shape,Sem.run,hsa,hsb,hfa,hfb,hfb']
  ·have hfa:w.frozen? a=false:=by simpa using hfa
   by_cases hfe:w.frozen? {block:=a.block,off:=ka+1}=true
   ·simp[run_underlying ht,hz,h0,hnb,hnb',frozen,noView,viewAt,mayBeOne,stringish,shape,Sem.run,hsa,hsb,hfa,hfb,hfb',hfe]
   ·have hfe:w.frozen? {block:=a.block,off:=ka+1}=false:=by simpa using hfe
    simp[run_underlying ht,hz,h0,hnb,hnb',frozen,noView,viewAt,mayBeOne,stringish,shape,Sem.run,hsa,hsb,hfa,hfb,hfb',hfe]
end
end Go.Proofs.YteaknldbhmocpaaGreatDoor.Ev
