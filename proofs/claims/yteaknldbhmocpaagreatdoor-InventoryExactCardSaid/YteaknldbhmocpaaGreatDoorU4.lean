/- InventoryExact: a part of the proof of the given statement, which is proved without conditions. -/
import Derived.Test.YteaknldbhmocpaaGreatDoorU3
import Derived.Sort.Defs
import Derived.Lib.Small
import Derived.Lib.BitFns
import Derived.Lib.DecodeN
import Derived.Lib.SlicesCompact
import Derived.KernelRfl
import Derived.Test.YteaknldbhmocpaaGreatDoorProg
import Derived.Shelf.RegionOpenPlain
import Derived.WalkKit
import Derived.Lib.Walk
import Derived.Lib.AppendZerosOnto
import Derived.Lib.AppendZeros
import Derived.Laws.Externs
import Derived.Laws.CopyOwn
import Derived.Deep.RegionLaw
import Derived.Lib.TrimUEq
import Derived.Lib.ValidU
import Derived.Lib.FieldsP
import Derived.Lib.Join
import Derived.Shelf.Strings.OnBuilder
import Derived.Shelf.Strings.FieldsFuncAny
import Derived.Shelf.Unicode.ValidAny
import Derived.Ground.NamesProg
import Derived.Ground.Names2Prog
set_option linter.all false
namespace Go.Proofs.YteaknldbhmocpaaGreatDoor.Ev
open Go
def a7l {α:Type} (s:List α) (i:Int) (v:List α):Option (List α):=
 match v with
 | [y]=>bif decide (0≤i)&&decide (i≤(s.length:Int))&&decide (s.length+1≤1073741824) then some (s.take i.toNat++y::s.drop i.toNat) else none
 |_=>none
def b52 {α:Type} (s:List α) (i j:Int):Option (List α):=
 bif decide (0≤i)&&decide (i≤j)&&decide (j≤(s.length:Int))&&decide (s.length≤1073741824) then some (s.take i.toNat++s.drop j.toNat) else none
def dcd:List UInt8→Nat×Nat
 | []=>(0,0)
 |a::r=>
  if 32≤a.toNat∧a.toNat<127 then (a.toNat,1)
  else if 194≤a.toNat∧a.toNat<224 then
   (match r with
   |b::_=>if (128≤b.toNat∧b.toNat<192)∧160≤(a.toNat-192)*64+b.toNat-128 then ((a.toNat-192)*64+b.toNat-128,2) else (0,0)
   | []=>(0,0))
  else if 224≤a.toNat∧a.toNat<240 then
   (match r with
   |b::c::_=>
    if ((128≤b.toNat∧b.toNat<192)∧(128≤c.toNat∧c.toNat<192))∧2048≤(a.toNat-224)*4096+(b.toNat-128)*64+c.toNat-128∧
     ((a.toNat-224)*4096+(b.toNat-128)*64+c.toNat-128<55296∨57343<(a.toNat-224)*4096+(b.toNat-128)*64+c.toNat-128) then
     ((a.toNat-224)*4096+(b.toNat-128)*64+c.toNat-128,3) else (0,0)
   |_=>(0,0))
  else (0,0)
def c2u:Nat→List UInt8→Bool
 |0,_=>true
 |n+1,l=>if l=[] then true else if (dcd l).2=0 then false else c2u n (l.drop (dcd l).2)
def vld (s:List UInt8):Bool:=c2u s.length s
def wid (l:List UInt8):Nat:=if (dcd l).2<1 then 1 else (dcd l).2
def blk (c:Nat):Bool:=c==32||c==160
def b13:Nat→List UInt8→List UInt8→Bool→List UInt8
 |0,_,out,_=>out
 |n+1,l,out,gap=>if l=[] then out else
  if blk (dcd l).1 then b13 n (l.drop (wid l)) out true
  else b13 n (l.drop (wid l)) ((if gap&&!(out==[]) then out++[32] else out)++l.take (wid l)) false
def cln (s:List UInt8):List UInt8:=b13 s.length s [] false
end Go.Proofs.YteaknldbhmocpaaGreatDoor.Ev
namespace Go.Proofs.YteaknldbhmocpaaGreatDoor
open Ev
open Go (IntKind)
section
set_option maxRecDepth 100000
structure V4 (α:Type) where
 x0:α
 x1:α
 x2:α
 x3:α
structure V7 (α:Type) where
 x0:α
 x1:α
 x2:α
 x3:α
 x4:α
 x5:α
 x6:α
structure Custody where
 State:Int
 Branch:Int
 Who:Int
 To:Int
structure Item where
 ID:Int
 Record:Int
 Branch:Int
 Kind:Int
 Price:Int
 Call:List UInt8
 Custody:Custody
structure Patron where
 ID:Int
 Kind:Int
 Branch:Int
 Until:Int
 Stopped:Bool
 Name:List UInt8
structure Loan where
 Item:Int
 Patron:Int
 Out:Int
 Due:Int
 Renewals:Int
 Recalled:Bool
structure Hold where
 ID:Int
 Patron:Int
 Record:Int
 Item:Int
 Pickup:Int
 Placed:Int
 State:Int
 Got:Int
 Until:Int
 Asleep:Int
 Rank:Int
structure Charge where
 ID:Int
 Patron:Int
 Item:Int
 Day:Int
 Kind:Int
 Amount:Int
 Paid:Int
structure Rule where
 Patron:Int
 Item:Int
 Branch:Int
 Days:Int
 Renewals:Int
 Fine:Int
 Grace:Int
 MaxFine:Int
 Loans:Int
 Shelf:Int
 Recall:Int
 Fixed:Int
 Rank:Int
structure Calendar where
 Week:Int
 Closed:List Int
structure Move where
 Day:Int
 Item:Int
 Kind:Int
 Branch:Int
 Who:Int
structure Circ where
 Today:Int
 Items:List Item
 Patrons:List Patron
 Loans:List Loan
 Holds:List Hold
 Charges:List Charge
 Rules:List Rule
 Cals:V4 Calendar
 Moves:List Move
 NextHold:Int
 NextCharge:Int
 Local:Bool
structure MapI where
 key:Int
 val:Int
structure Problem where
 Kind:Int
 Index:Int
 Tag:List UInt8
 Code:Int
structure Circ_desk where
 c:Circ
 err:Int
structure MapS where
 key:Int
 val:List UInt8
structure Utf8_acceptRange where
 lo:Int
 hi:Int
inductive Kd where
 |kItem
 |kPatron
 |kLoan
 |kHold
 |kCharge
 |kRule
 |ki64
 |kMove
 |kMapI
 |kProblem
 |kstr
 |kMapS
 |kbool
 |ku64
 |ku8
 |kUtf8_acceptRange
 |ku16
abbrev El:Kd→Type
 |.kItem=>Item
 |.kPatron=>Patron
 |.kLoan=>Loan
 |.kHold=>Hold
 |.kCharge=>Charge
 |.kRule=>Rule
 |.ki64=>Int
 |.kMove=>Move
 |.kMapI=>MapI
 |.kProblem=>Problem
 |.kstr=>List UInt8
 |.kMapS=>MapS
 |.kbool=>Bool
 |.ku64=>Int
 |.ku8=>Int
 |.kUtf8_acceptRange=>Utf8_acceptRange
 |.ku16=>Int
abbrev DD:=D Kd El
abbrev Sm (R:Type):=a0r Kd El R
abbrev t8 {α β:Type} (ta:List (Nat×Nat×Kd)) (se ss bs az:List Nat) (fc:FC Kd El α) [FCC fc] (step:α→Option (α⊕β)) (oc:OC Kd El β):LD Kd El α β:=⟨ta,se,ss,bs,az,fc,step,oc⟩
instance:KdEq Kd where
 dec:=fun a b=>match a,b with
  |.kItem,.kItem=>some ⟨rfl⟩
  |.kPatron,.kPatron=>some ⟨rfl⟩
  |.kLoan,.kLoan=>some ⟨rfl⟩
  |.kHold,.kHold=>some ⟨rfl⟩
  |.kCharge,.kCharge=>some ⟨rfl⟩
  |.kRule,.kRule=>some ⟨rfl⟩
  |.ki64,.ki64=>some ⟨rfl⟩
  |.kMove,.kMove=>some ⟨rfl⟩
  |.kMapI,.kMapI=>some ⟨rfl⟩
  |.kProblem,.kProblem=>some ⟨rfl⟩
  |.kstr,.kstr=>some ⟨rfl⟩
  |.kMapS,.kMapS=>some ⟨rfl⟩
  |.kbool,.kbool=>some ⟨rfl⟩
  |.ku64,.ku64=>some ⟨rfl⟩
  |.ku8,.ku8=>some ⟨rfl⟩
  |.kUtf8_acceptRange,.kUtf8_acceptRange=>some ⟨rfl⟩
  |.ku16,.ku16=>some ⟨rfl⟩
  |_,_=>none
abbrev wr (k:IntKind) (n:Int):Int:=IntKind.wrap k n
def b54 (x:Custody):List DD:=[.int .i64 x.State,.int .i64 x.Branch,.int .i64 x.Who,.int .i64 x.To]
def o3:CC Kd El Custody:=(CC.cons (Cod.int .i64) (CC.cons (Cod.int .i64) (CC.cons (Cod.int .i64) (CC.cons (Cod.int .i64) CC.nil)))).iso b54 (fun p=>⟨p.1,p.2.1,p.2.2.1,p.2.2.2.1⟩)
def d1u (x:Item):List DD:=[.int .i64 x.ID,.int .i64 x.Record,.int .i64 x.Branch,.int .i64 x.Kind,.int .i64 x.Price,.str x.Call,.int .i64 x.Custody.State,.int .i64 x.Custody.Branch,.int .i64 x.Custody.Who,.int .i64 x.Custody.To]
def a06:CC Kd El Item:=(CC.cons (Cod.int .i64) (CC.cons (Cod.int .i64) (CC.cons (Cod.int .i64) (CC.cons (Cod.int .i64) (CC.cons (Cod.int .i64) (CC.cons Cod.str (CC.cons (Cod.int .i64) (CC.cons (Cod.int .i64) (CC.cons (Cod.int .i64) (CC.cons (Cod.int .i64) CC.nil)))))))))).iso d1u (fun p=>⟨p.1,p.2.1,p.2.2.1,p.2.2.2.1,p.2.2.2.2.1,p.2.2.2.2.2.1,⟨p.2.2.2.2.2.2.1,p.2.2.2.2.2.2.2.1,p.2.2.2.2.2.2.2.2.1,p.2.2.2.2.2.2.2.2.2.1⟩⟩)
def c04 (x:Patron):List DD:=[.int .i64 x.ID,.int .i64 x.Kind,.int .i64 x.Branch,.int .i64 x.Until,.bool x.Stopped,.str x.Name]
def a2d:CC Kd El Patron:=(CC.cons (Cod.int .i64) (CC.cons (Cod.int .i64) (CC.cons (Cod.int .i64) (CC.cons (Cod.int .i64) (CC.cons Cod.bool (CC.cons Cod.str CC.nil)))))).iso c04 (fun p=>⟨p.1,p.2.1,p.2.2.1,p.2.2.2.1,p.2.2.2.2.1,p.2.2.2.2.2.1⟩)
def d1v (x:Loan):List DD:=[.int .i64 x.Item,.int .i64 x.Patron,.int .i64 x.Out,.int .i64 x.Due,.int .i64 x.Renewals,.bool x.Recalled]
def a3i:CC Kd El Loan:=(CC.cons (Cod.int .i64) (CC.cons (Cod.int .i64) (CC.cons (Cod.int .i64) (CC.cons (Cod.int .i64) (CC.cons (Cod.int .i64) (CC.cons Cod.bool CC.nil)))))).iso d1v (fun p=>⟨p.1,p.2.1,p.2.2.1,p.2.2.2.1,p.2.2.2.2.1,p.2.2.2.2.2.1⟩)
def d1t (x:Hold):List DD:=[.int .i64 x.ID,.int .i64 x.Patron,.int .i64 x.Record,.int .i64 x.Item,.int .i64 x.Pickup,.int .i64 x.Placed,.int .i64 x.State,.int .i64 x.Got,.int .i64 x.Until,.int .i64 x.Asleep,.int .i64 x.Rank]
def y3:CC Kd El Hold:=(CC.cons (Cod.int .i64) (CC.cons (Cod.int .i64) (CC.cons (Cod.int .i64) (CC.cons (Cod.int .i64) (CC.cons (Cod.int .i64) (CC.cons (Cod.int .i64) (CC.cons (Cod.int .i64) (CC.cons (Cod.int .i64) (CC.cons (Cod.int .i64) (CC.cons (Cod.int .i64) (CC.cons (Cod.int .i64) CC.nil))))))))))).iso d1t (fun p=>⟨p.1,p.2.1,p.2.2.1,p.2.2.2.1,p.2.2.2.2.1,p.2.2.2.2.2.1,p.2.2.2.2.2.2.1,p.2.2.2.2.2.2.2.1,p.2.2.2.2.2.2.2.2.1,p.2.2.2.2.2.2.2.2.2.1,p.2.2.2.2.2.2.2.2.2.2.1⟩)
def c03 (x:Charge):List DD:=[.int .i64 x.ID,.int .i64 x.Patron,.int .i64 x.Item,.int .i64 x.Day,.int .i64 x.Kind,.int .i64 x.Amount,.int .i64 x.Paid]
def a1m:CC Kd El Charge:=(CC.cons (Cod.int .i64) (CC.cons (Cod.int .i64) (CC.cons (Cod.int .i64) (CC.cons (Cod.int .i64) (CC.cons (Cod.int .i64) (CC.cons (Cod.int .i64) (CC.cons (Cod.int .i64) CC.nil))))))).iso c03 (fun p=>⟨p.1,p.2.1,p.2.2.1,p.2.2.2.1,p.2.2.2.2.1,p.2.2.2.2.2.1,p.2.2.2.2.2.2.1⟩)
def d1z (x:Rule):List DD:=[.int .i64 x.Patron,.int .i64 x.Item,.int .i64 x.Branch,.int .i64 x.Days,.int .i64 x.Renewals,.int .i64 x.Fine,.int .i64 x.Grace,.int .i64 x.MaxFine,.int .i64 x.Loans,.int .i64 x.Shelf,.int .i64 x.Recall,.int .i64 x.Fixed,.int .i64 x.Rank]
def a3j:CC Kd El Rule:=(CC.cons (Cod.int .i64) (CC.cons (Cod.int .i64) (CC.cons (Cod.int .i64) (CC.cons (Cod.int .i64) (CC.cons (Cod.int .i64) (CC.cons (Cod.int .i64) (CC.cons (Cod.int .i64) (CC.cons (Cod.int .i64) (CC.cons (Cod.int .i64) (CC.cons (Cod.int .i64) (CC.cons (Cod.int .i64) (CC.cons (Cod.int .i64) (CC.cons (Cod.int .i64) CC.nil))))))))))))).iso d1z (fun p=>⟨p.1,p.2.1,p.2.2.1,p.2.2.2.1,p.2.2.2.2.1,p.2.2.2.2.2.1,p.2.2.2.2.2.2.1,p.2.2.2.2.2.2.2.1,p.2.2.2.2.2.2.2.2.1,p.2.2.2.2.2.2.2.2.2.1,p.2.2.2.2.2.2.2.2.2.2.1,p.2.2.2.2.2.2.2.2.2.2.2.1,p.2.2.2.2.2.2.2.2.2.2.2.2.1⟩)
def b3b (x:Calendar):List DD:=[.int .i64 x.Week,.lst .ki64 x.Closed]
def j8:CC Kd El Calendar:=(CC.cons (Cod.int .i64) (CC.cons (Cod.lst Kd.ki64) CC.nil)).iso b3b (fun p=>⟨p.1,p.2.1⟩)
def d1y (x:Move):List DD:=[.int .i64 x.Day,.int .i64 x.Item,.int .i64 x.Kind,.int .i64 x.Branch,.int .i64 x.Who]
def a5g:CC Kd El Move:=(CC.cons (Cod.int .i64) (CC.cons (Cod.int .i64) (CC.cons (Cod.int .i64) (CC.cons (Cod.int .i64) (CC.cons (Cod.int .i64) CC.nil))))).iso d1y (fun p=>⟨p.1,p.2.1,p.2.2.1,p.2.2.2.1,p.2.2.2.2.1⟩)
def d1s (x:Circ):List DD:=[.int .i64 x.Today,.lst .kItem x.Items,.lst .kPatron x.Patrons,.lst .kLoan x.Loans,.lst .kHold x.Holds,.lst .kCharge x.Charges,.lst .kRule x.Rules,.int .i64 x.Cals.x0.Week,.lst .ki64 x.Cals.x0.Closed,.int .i64 x.Cals.x1.Week,.lst .ki64 x.Cals.x1.Closed,.int .i64 x.Cals.x2.Week,.lst .ki64 x.Cals.x2.Closed,.int .i64 x.Cals.x3.Week,.lst .ki64 x.Cals.x3.Closed,.lst .kMove x.Moves,.int .i64 x.NextHold,.int .i64 x.NextCharge,.bool x.Local]
def d8:CC Kd El Circ:=(CC.cons (Cod.int .i64) (CC.cons (Cod.lst Kd.kItem) (CC.cons (Cod.lst Kd.kPatron) (CC.cons (Cod.lst Kd.kLoan) (CC.cons (Cod.lst Kd.kHold) (CC.cons (Cod.lst Kd.kCharge) (CC.cons (Cod.lst Kd.kRule) (CC.cons (Cod.int .i64) (CC.cons (Cod.lst Kd.ki64) (CC.cons (Cod.int .i64) (CC.cons (Cod.lst Kd.ki64) (CC.cons (Cod.int .i64) (CC.cons (Cod.lst Kd.ki64) (CC.cons (Cod.int .i64) (CC.cons (Cod.lst Kd.ki64) (CC.cons (Cod.lst Kd.kMove) (CC.cons (Cod.int .i64) (CC.cons (Cod.int .i64) (CC.cons Cod.bool CC.nil))))))))))))))))))).iso d1s (fun p=>⟨p.1,p.2.1,p.2.2.1,p.2.2.2.1,p.2.2.2.2.1,p.2.2.2.2.2.1,p.2.2.2.2.2.2.1,⟨⟨p.2.2.2.2.2.2.2.1,p.2.2.2.2.2.2.2.2.1⟩,⟨p.2.2.2.2.2.2.2.2.2.1,p.2.2.2.2.2.2.2.2.2.2.1⟩,⟨p.2.2.2.2.2.2.2.2.2.2.2.1,p.2.2.2.2.2.2.2.2.2.2.2.2.1⟩,⟨p.2.2.2.2.2.2.2.2.2.2.2.2.2.1,p.2.2.2.2.2.2.2.2.2.2.2.2.2.2.1⟩⟩,p.2.2.2.2.2.2.2.2.2.2.2.2.2.2.2.1,p.2.2.2.2.2.2.2.2.2.2.2.2.2.2.2.2.1,p.2.2.2.2.2.2.2.2.2.2.2.2.2.2.2.2.2.1,p.2.2.2.2.2.2.2.2.2.2.2.2.2.2.2.2.2.2.1⟩)
def d1w (x:MapI):List DD:=[.int .i64 x.key,.int .i64 x.val]
def b5l:CC Kd El MapI:=(CC.cons (Cod.int .i64) (CC.cons (Cod.int .i64) CC.nil)).iso d1w (fun p=>⟨p.1,p.2.1⟩)
def b55 (x:Problem):List DD:=[.int .i64 x.Kind,.int .i64 x.Index,.str x.Tag,.int .u8 x.Code]
def a5h:CC Kd El Problem:=(CC.cons (Cod.int .i64) (CC.cons (Cod.int .i64) (CC.cons Cod.str (CC.cons (Cod.int .u8) CC.nil)))).iso b55 (fun p=>⟨p.1,p.2.1,p.2.2.1,p.2.2.2.1⟩)
def b0p (x:Circ_desk):List DD:=[.int .i64 x.c.Today,.lst .kItem x.c.Items,.lst .kPatron x.c.Patrons,.lst .kLoan x.c.Loans,.lst .kHold x.c.Holds,.lst .kCharge x.c.Charges,.lst .kRule x.c.Rules,.int .i64 x.c.Cals.x0.Week,.lst .ki64 x.c.Cals.x0.Closed,.int .i64 x.c.Cals.x1.Week,.lst .ki64 x.c.Cals.x1.Closed,.int .i64 x.c.Cals.x2.Week,.lst .ki64 x.c.Cals.x2.Closed,.int .i64 x.c.Cals.x3.Week,.lst .ki64 x.c.Cals.x3.Closed,.lst .kMove x.c.Moves,.int .i64 x.c.NextHold,.int .i64 x.c.NextCharge,.bool x.c.Local,.int .i64 x.err]
def g9:CC Kd El Circ_desk:=(CC.cons (Cod.int .i64) (CC.cons (Cod.lst Kd.kItem) (CC.cons (Cod.lst Kd.kPatron) (CC.cons (Cod.lst Kd.kLoan) (CC.cons (Cod.lst Kd.kHold) (CC.cons (Cod.lst Kd.kCharge) (CC.cons (Cod.lst Kd.kRule) (CC.cons (Cod.int .i64) (CC.cons (Cod.lst Kd.ki64) (CC.cons (Cod.int .i64) (CC.cons (Cod.lst Kd.ki64) (CC.cons (Cod.int .i64) (CC.cons (Cod.lst Kd.ki64) (CC.cons (Cod.int .i64) (CC.cons (Cod.lst Kd.ki64) (CC.cons (Cod.lst Kd.kMove) (CC.cons (Cod.int .i64) (CC.cons (Cod.int .i64) (CC.cons Cod.bool (CC.cons (Cod.int .i64) CC.nil)))))))))))))))))))).iso b0p (fun p=>⟨⟨p.1,p.2.1,p.2.2.1,p.2.2.2.1,p.2.2.2.2.1,p.2.2.2.2.2.1,p.2.2.2.2.2.2.1,⟨⟨p.2.2.2.2.2.2.2.1,p.2.2.2.2.2.2.2.2.1⟩,⟨p.2.2.2.2.2.2.2.2.2.1,p.2.2.2.2.2.2.2.2.2.2.1⟩,⟨p.2.2.2.2.2.2.2.2.2.2.2.1,p.2.2.2.2.2.2.2.2.2.2.2.2.1⟩,⟨p.2.2.2.2.2.2.2.2.2.2.2.2.2.1,p.2.2.2.2.2.2.2.2.2.2.2.2.2.2.1⟩⟩,p.2.2.2.2.2.2.2.2.2.2.2.2.2.2.2.1,p.2.2.2.2.2.2.2.2.2.2.2.2.2.2.2.2.1,p.2.2.2.2.2.2.2.2.2.2.2.2.2.2.2.2.2.1,p.2.2.2.2.2.2.2.2.2.2.2.2.2.2.2.2.2.2.1⟩,p.2.2.2.2.2.2.2.2.2.2.2.2.2.2.2.2.2.2.2.1⟩)
def d1x (x:MapS):List DD:=[.int .i64 x.key,.str x.val]
def b5m:CC Kd El MapS:=(CC.cons (Cod.int .i64) (CC.cons Cod.str CC.nil)).iso d1x (fun p=>⟨p.1,p.2.1⟩)
def a4c (x:Utf8_acceptRange):List DD:=[.int .u8 x.lo,.int .u8 x.hi]
def y4:CC Kd El Utf8_acceptRange:=(CC.cons (Cod.int .u8) (CC.cons (Cod.int .u8) CC.nil)).iso a4c (fun p=>⟨p.1,p.2.1⟩)
def b56 (x:V7 Bool):List DD:=[.bool x.x0,.bool x.x1,.bool x.x2,.bool x.x3,.bool x.x4,.bool x.x5,.bool x.x6]
def s5:CC Kd El (V7 Bool):=(CC.cons Cod.bool (CC.cons Cod.bool (CC.cons Cod.bool (CC.cons Cod.bool (CC.cons Cod.bool (CC.cons Cod.bool (CC.cons Cod.bool CC.nil))))))).iso b56 (fun p=>⟨p.1,p.2.1,p.2.2.1,p.2.2.2.1,p.2.2.2.2.1,p.2.2.2.2.2.1,p.2.2.2.2.2.2.1⟩)
def ccK:(k:Kd)→CC Kd El (El k)
 |.kItem=>a06
 |.kPatron=>a2d
 |.kLoan=>a3i
 |.kHold=>y3
 |.kCharge=>a1m
 |.kRule=>a3j
 |.ki64=>CC.one (Cod.int .i64)
 |.kMove=>a5g
 |.kMapI=>b5l
 |.kProblem=>a5h
 |.kstr=>CC.one Cod.str
 |.kMapS=>b5m
 |.kbool=>CC.one Cod.bool
 |.ku64=>CC.one (Cod.int .u64)
 |.ku8=>CC.one (Cod.int .u8)
 |.kUtf8_acceptRange=>y4
 |.ku16=>CC.one (Cod.int .u16)
def f4j:Kd→Nat
 |.kItem=>10
 |.kPatron=>6
 |.kLoan=>6
 |.kHold=>11
 |.kCharge=>7
 |.kRule=>13
 |.ki64=>1
 |.kMove=>5
 |.kMapI=>2
 |.kProblem=>4
 |.kstr=>1
 |.kMapS=>2
 |.kbool=>1
 |.ku64=>1
 |.ku8=>1
 |.kUtf8_acceptRange=>2
 |.ku16=>1
def f4i (t:Nat):Option Kd:=bif Nat.beq t 321 then some .kMapS else bif Nat.beq t 319 then some .kMapI else bif Nat.beq t 312 then some .ku8 else bif Nat.beq t 311 then some .ku8 else bif Nat.beq t 261 then some .ku16 else bif Nat.beq t 259 then some .kUtf8_acceptRange else bif Nat.beq t 208 then some .ku64 else bif Nat.beq t 166 then some .ku64 else bif Nat.beq t 155 then some .ki64 else bif Nat.beq t 110 then some .ku64 else bif Nat.beq t 87 then some .kMove else bif Nat.beq t 85 then some .kRule else bif Nat.beq t 83 then some .kCharge else bif Nat.beq t 81 then some .kHold else bif Nat.beq t 79 then some .kLoan else bif Nat.beq t 77 then some .kPatron else bif Nat.beq t 61 then some .kItem else bif Nat.beq t 57 then some .kProblem else bif Nat.beq t 42 then some .ki64 else bif Nat.beq t 12 then some .ku64 else bif Nat.beq t 11 then some .kstr else bif Nat.beq t 10 then some .kstr else bif Nat.beq t 9 then some .kstr else bif Nat.beq t 6 then some .ku8 else bif Nat.beq t 5 then some .ku8 else bif Nat.beq t 4 then some .kbool else bif Nat.beq t 3 then some .ki64 else bif Nat.beq t 2 then some .ki64 else none
def d7:List Int:=(List.range 20).map fun i=>((10 ^ i:Nat):Int)
def j9:List Int:=(List.range 256).map fun c=>(Go.Lib.firstT c:Int)
def f8:List Utf8_acceptRange:=(List.range 16).map fun i=>⟨(Go.Lib.accLo i:Int),(Go.Lib.accHi i:Int)⟩
def u3:List Int:=[0,32770,41316,42344,6160,8268,8320,8704,16,4112,32784,49152,0]
def b8n (t:Nat):Option ((k:Kd)×List (El k)):=bif Nat.beq t 3 then some ⟨.ku16,u3⟩ else bif Nat.beq t 2 then some ⟨.kUtf8_acceptRange,f8⟩ else bif Nat.beq t 1 then some ⟨.ku8,j9⟩ else bif Nat.beq t 0 then some ⟨.ku64,d7⟩ else none
def f4l (f:Nat):Md:=bif Nat.beq f 256 then .fresh else bif Nat.beq f 134 then .inpl else bif Nat.beq f 73 then .inpl else bif Nat.beq f 19 then .fresh else bif Nat.beq f 325 then .inpl else bif Nat.beq f 324 then .inpl else bif Nat.beq f 313 then .cons else bif Nat.beq f 312 then .inpl else bif Nat.beq f 292 then .inpl else bif Nat.beq f 253 then .mut else bif Nat.beq f 250 then .fresh else bif Nat.beq f 249 then .cons else bif Nat.beq f 212 then .mut else bif Nat.beq f 210 then .fresh else bif Nat.beq f 202 then .fresh else bif Nat.beq f 201 then .cons else bif Nat.beq f 192 then .mut else bif Nat.beq f 190 then .fresh else bif Nat.beq f 130 then .mut else bif Nat.beq f 127 then .mut else bif Nat.beq f 125 then .mut else bif Nat.beq f 124 then .mut else bif Nat.beq f 123 then .mut else bif Nat.beq f 122 then .fresh else bif Nat.beq f 121 then .cons else bif Nat.beq f 84 then .mut else bif Nat.beq f 82 then .mut else bif Nat.beq f 80 then .mut else bif Nat.beq f 79 then .mut else bif Nat.beq f 78 then .mut else bif Nat.beq f 77 then .mut else bif Nat.beq f 76 then .newb else bif Nat.beq f 70 then .fresh else bif Nat.beq f 35 then .cons else bif Nat.beq f 34 then .inpl else bif Nat.beq f 30 then .nmap else .data
def e9g (t:Nat):Bool:=Nat.beq t 87||(Nat.beq t 85||(Nat.beq t 83||(Nat.beq t 81||(Nat.beq t 79||(Nat.beq t 77||(Nat.beq t 61||(Nat.beq t 59||(Nat.beq t 57||(false)))))))))
def e3y:MpK Kd El:=f3c .kMapI MapI.key MapI.val (fun k v=>⟨k,v⟩)
def e3z:MpK Kd El:=f3d .kMapS MapS.key MapS.val (fun k v=>⟨k,v⟩)
def f0d (t:Nat):Option (MpK Kd El):=bif Nat.beq t 88 then some e3z else bif Nat.beq t 62 then some e3y else none
def f4g (f:Nat):Option Kd:=bif Nat.beq f 324 then some .kHold else bif Nat.beq f 313 then some .kLoan else bif Nat.beq f 312 then some .kHold else bif Nat.beq f 292 then some .kHold else bif Nat.beq f 249 then some .kPatron else bif Nat.beq f 201 then some .kLoan else bif Nat.beq f 134 then some .ki64 else bif Nat.beq f 121 then some .kItem else bif Nat.beq f 73 then some .ki64 else bif Nat.beq f 35 then some .ki64 else bif Nat.beq f 34 then some .ki64 else none
def f29 (n:Nat):Bool:=Nat.beq n 0
def sg:Sg Kd El:=⟨fun k=>(ccK k).enc,fun k=>(ccK k).dec,f4j,f4i,b8n,f4l,e9g,f0d,f4g,f29⟩
def p6 (x y:Custody):Bool:=(x.State==y.State&&(x.Branch==y.Branch&&(x.Who==y.Who&&(x.To==y.To&&true))))
def b0s (x y:Item):Bool:=(x.ID==y.ID&&(x.Record==y.Record&&(x.Branch==y.Branch&&(x.Kind==y.Kind&&(x.Price==y.Price&&(x.Call==y.Call&&(p6 x.Custody y.Custody&&true)))))))
def a5m (x y:Patron):Bool:=(x.ID==y.ID&&(x.Kind==y.Kind&&(x.Branch==y.Branch&&(x.Until==y.Until&&(x.Stopped==y.Stopped&&(x.Name==y.Name&&true))))))
def b0u (x y:Loan):Bool:=(x.Item==y.Item&&(x.Patron==y.Patron&&(x.Out==y.Out&&(x.Due==y.Due&&(x.Renewals==y.Renewals&&(x.Recalled==y.Recalled&&true))))))
def b0q (x y:Hold):Bool:=(x.ID==y.ID&&(x.Patron==y.Patron&&(x.Record==y.Record&&(x.Item==y.Item&&(x.Pickup==y.Pickup&&(x.Placed==y.Placed&&(x.State==y.State&&(x.Got==y.Got&&(x.Until==y.Until&&(x.Asleep==y.Asleep&&(x.Rank==y.Rank&&true)))))))))))
def a5l (x y:Charge):Bool:=(x.ID==y.ID&&(x.Patron==y.Patron&&(x.Item==y.Item&&(x.Day==y.Day&&(x.Kind==y.Kind&&(x.Amount==y.Amount&&(x.Paid==y.Paid&&true)))))))
def b0y (x y:Rule):Bool:=(x.Patron==y.Patron&&(x.Item==y.Item&&(x.Branch==y.Branch&&(x.Days==y.Days&&(x.Renewals==y.Renewals&&(x.Fine==y.Fine&&(x.Grace==y.Grace&&(x.MaxFine==y.MaxFine&&(x.Loans==y.Loans&&(x.Shelf==y.Shelf&&(x.Recall==y.Recall&&(x.Fixed==y.Fixed&&(x.Rank==y.Rank&&true)))))))))))))
def b0w (x y:Move):Bool:=(x.Day==y.Day&&(x.Item==y.Item&&(x.Kind==y.Kind&&(x.Branch==y.Branch&&(x.Who==y.Who&&true)))))
abbrev ZC:=CC Kd El
abbrev ZF:=FC Kd El
abbrev ZD:=Cod Kd El
abbrev Zi:ZD Int:=Cod.int .i64
abbrev Zb:ZD Bool:=Cod.bool
abbrev Zl (k:Kd):ZD (List (El k)):=Cod.lst k
abbrev Zn:ZC Unit:=CC.nil
abbrev Zz:ZF Unit:=FC.nil
section
variable {α β:Type}
abbrev Zc:ZD α→ZC β→ZC (α×β):=CC.cons
abbrev Zs:Nat→ZD α→ZF β→ZF (α×β):=FC.slot
abbrev Zp:Nat→Nat→ZF β→ZF β:=FC.ptr
abbrev Zx:Nat→ZC α→ZF β→ZF (α×β):=FC.box
end
abbrev ZN:Circ:=⟨0,[],[],[],[],[],[],⟨⟨0,[]⟩,⟨0,[]⟩,⟨0,[]⟩,⟨0,[]⟩⟩,[],0,0,false⟩
end
section
def qdd (s:List Item) (i:Int) (v:List Item):Option (List Item):=a7l s i v
def qcw (s:List Patron) (i:Int) (v:List Patron):Option (List Patron):=a7l s i v
def qdc (s:List Loan) (i:Int) (v:List Loan):Option (List Loan):=a7l s i v
def qci (s:List Loan) (i j:Int):Option (List Loan):=b52 s i j
def qa0 (s:List Int):Option (List Int):=bif decide (s.length≤LIM) then some (s.mergeSort fun x y=>decide (x≤y)) else none
def qax (s:List Int):Option (List Int):=bif decide (s.length≤LIM) then some (Go.Lib.compact s) else none
def qbr {γ0:Type} (p:γ0→Hold→Hold→Option Int) (s:List Hold) (a m b:Int) (g:γ0):Option (List Hold):=none
@[inline] def e64:Nat→Nat→List UInt8→List UInt8|0,_,a=>a|f+1,u,a=>bif decide (u<10) then UInt8.ofNat (48+u)::a else e64 f (u / 10) (UInt8.ofNat (48+u % 10)::a)
def qdf (n:Int):Option (List UInt8):=bif decide (-9223372036854775808≤n)&&decide (n≤9223372036854775807) then some (bif decide (n<0) then 45::e64 20 n.natAbs [] else e64 20 n.natAbs []) else none
def qdj (s:List UInt8):Option Bool:=bif decide (s.length≤LIM) then some (vld s) else none
def qdk (s:List UInt8):Option (List UInt8):=bif decide (s.length≤LIM)&&vld s then some (cln s) else none
end
section
set_option maxRecDepth 100000
def qbz:Option Bool:=some true
def c12:(Int×Circ×Unit)→Option ((Int×Circ×Unit)⊕((Circ×Unit)⊕(Bool×Unit))):=fun (i,c,_)=>
 bif decide (i<(c.Items.length:Int)) then match j5 c.Items i with|some x =>bif decide (300<(x.Call.length:Int)) then some (.inr (.inr (false,()))) else some (.inl (wr .i64 (i+1),c,()))|none =>none else some (.inr (.inl (c,())))
def c14:(Int×Circ×Unit)→Option ((Int×Circ×Unit)⊕((Circ×Unit)⊕(Bool×Unit))):=fun (i,c,_)=>
 bif decide (i<(c.Patrons.length:Int)) then match j5 c.Patrons i with|some x =>bif decide (300<(x.Name.length:Int)) then some (.inr (.inr (false,()))) else some (.inl (wr .i64 (i+1),c,()))|none =>none else some (.inr (.inl (c,())))
def a6b:(Int×Circ×Unit)→Option ((Int×Circ×Unit)⊕((Unit)⊕(Bool×Unit))):=fun (i,c,_)=>
 bif decide (i<4) then let k (v:Int) (v8:List Int):Option ((Int×Circ×Unit)⊕((Unit)⊕(Bool×Unit))):=bif decide (20<(v8.length:Int)) then some (.inr (.inr (false,()))) else some (.inl (wr .i64 (i+1),c,()));bif i==0 then k c.Cals.x0.Week c.Cals.x0.Closed else bif i==1 then k c.Cals.x1.Week c.Cals.x1.Closed else bif i==2 then k c.Cals.x2.Week c.Cals.x2.Closed else bif i==3 then k c.Cals.x3.Week c.Cals.x3.Closed else none else some (.inr (.inl (())))
def qb (c:Circ):Option Bool:=
 let k16 (v:Bool):Option Bool:=let k15 (v1:Bool):Option Bool:=let k14 (v2:Bool):Option Bool:=let k13 (v3:Bool):Option Bool:=let k12 (v4:Bool):Option Bool:=let k (v5:Bool):Option Bool:=bif v5 then some false else match c9 c12 (0,c,()) with|some (.inl (c6,_)) =>(match c9 c14 (0,c6,()) with|some (.inl (c7,_)) =>(match c9 a6b (0,c7,()) with|some (.inl (_)) =>some true|some (.inr (v9,_)) =>some v9|none =>none)|some (.inr (v10,_)) =>some v10|none =>none)|some (.inr (v11,_)) =>some v11|none =>none;bif v4 then k true else k (decide (200<(c.Moves.length:Int)));bif v3 then k12 true else k12 (decide (10<(c.Rules.length:Int)));bif v2 then k13 true else k13 (decide (30<(c.Charges.length:Int)));bif v1 then k14 true else k14 (decide (12<(c.Loans.length:Int)));bif v then k15 true else k15 (decide (12<(c.Holds.length:Int)));bif decide (10<(c.Items.length:Int)) then k16 true else k16 (decide (8<(c.Patrons.length:Int)))
def qa9 (s:List UInt8) (i:Int):Option (Int×Int):=
 match j5 s i with|some b =>let k35 (v:Bool):Option (Int×Int):=bif v then some (wr .i64 (b.toNat:Int),1) else let k34 (v1:Bool):Option (Int×Int):=let k33 (v2:Bool):Option (Int×Int):=let k32 (v4:Bool):Option (Int×Int):=let k31 (v6:Bool):Option (Int×Int):=let k (v8:Int) (v9:Int):Option (Int×Int):=some (v8,v9);bif v6 then match j5 s (wr .i64 (i+1)) with|some b7 =>bif decide (160≤wr .i64 ((wr .i64 ((wr .i64 ((wr .i64 ((wr .i64 (b.toNat:Int))-192))*64))+(wr .i64 (b7.toNat:Int))))-128)) then k (wr .i64 ((wr .i64 ((wr .i64 ((wr .i64 ((wr .i64 (b.toNat:Int))-192))*64))+(wr .i64 (b7.toNat:Int))))-128)) 2 else k 0 0|none =>none else let k30 (v10:Bool):Option (Int×Int):=let k29 (v11:Bool):Option (Int×Int):=let k28 (v13:Bool):Option (Int×Int):=let k27 (v15:Bool):Option (Int×Int):=let k26 (v17:Bool):Option (Int×Int):=let k25 (v19:Bool):Option (Int×Int):=bif v19 then match j5 s (wr .i64 (i+1)) with|some b20 =>(match j5 s (wr .i64 (i+2)) with|some b21 =>let k24 (v23:Bool):Option (Int×Int):=bif v23 then some (wr .i64 ((wr .i64 ((wr .i64 ((wr .i64 ((wr .i64 ((wr .i64 (b.toNat:Int))-224))*4096))+(wr .i64 ((wr .i64 ((wr .i64 (b20.toNat:Int))-128))*64))))+(wr .i64 (b21.toNat:Int))))-128),3) else some (0,0);bif decide (2048≤wr .i64 ((wr .i64 ((wr .i64 ((wr .i64 ((wr .i64 ((wr .i64 (b.toNat:Int))-224))*4096))+(wr .i64 ((wr .i64 ((wr .i64 (b20.toNat:Int))-128))*64))))+(wr .i64 (b21.toNat:Int))))-128)) then bif decide (wr .i64 ((wr .i64 ((wr .i64 ((wr .i64 ((wr .i64 ((wr .i64 (b.toNat:Int))-224))*4096))+(wr .i64 ((wr .i64 ((wr .i64 (b20.toNat:Int))-128))*64))))+(wr .i64 (b21.toNat:Int))))-128)<55296) then k24 true else k24 (decide (57343<wr .i64 ((wr .i64 ((wr .i64 ((wr .i64 ((wr .i64 ((wr .i64 (b.toNat:Int))-224))*4096))+(wr .i64 ((wr .i64 ((wr .i64 (b20.toNat:Int))-128))*64))))+(wr .i64 (b21.toNat:Int))))-128))) else k24 false|none =>none)|none =>none else some (0,0);bif v17 then match j5 s (wr .i64 (i+2)) with|some b18 =>k25 (decide ((b18.toNat:Int)<192))|none =>none else k25 false;bif v15 then match j5 s (wr .i64 (i+2)) with|some b16 =>k26 (decide (128≤(b16.toNat:Int)))|none =>none else k26 false;bif v13 then match j5 s (wr .i64 (i+1)) with|some b14 =>k27 (decide ((b14.toNat:Int)<192))|none =>none else k27 false;bif v11 then match j5 s (wr .i64 (i+1)) with|some b12 =>k28 (decide (128≤(b12.toNat:Int)))|none =>none else k28 false;bif v10 then k29 (decide (wr .i64 (i+2)<(s.length:Int))) else k29 false;bif decide (224≤wr .i64 (b.toNat:Int)) then k30 (decide (wr .i64 (b.toNat:Int)<240)) else k30 false;bif v4 then match j5 s (wr .i64 (i+1)) with|some b5 =>k31 (decide ((b5.toNat:Int)<192))|none =>none else k31 false;bif v2 then match j5 s (wr .i64 (i+1)) with|some b3 =>k32 (decide (128≤(b3.toNat:Int)))|none =>none else k32 false;bif v1 then k33 (decide (wr .i64 (i+1)<(s.length:Int))) else k33 false;bif decide (194≤wr .i64 (b.toNat:Int)) then k34 (decide (wr .i64 (b.toNat:Int)<224)) else k34 false;bif decide (32≤wr .i64 (b.toNat:Int)) then k35 (decide (wr .i64 (b.toNat:Int)<127)) else k35 false|none =>none
def c2e:((List UInt8)×Int×Unit)→Option (((List UInt8)×Int×Unit)⊕((Unit)⊕(Bool×Unit))):=fun (s,i,_)=>
 bif decide (i<(s.length:Int)) then match qa9 s i with|some (r1,r2) =>bif r2==0 then some (.inr (.inr (false,()))) else some (.inl (s,wr .i64 (i+r2),()))|none =>none else some (.inr (.inl (())))
def qv (s:List UInt8):Option Bool:=
 match c9 c2e (s,0,()) with|some (.inl (_)) =>some true|some (.inr (v,_)) =>some v|none =>none
def qe (s:List UInt8) (i:Int):Option Int:=
 match qa9 s i with|some (r1,r2) =>some (if r2<1 then 1 else r2)|none =>none
def qab (c:Int):Option Bool:=
 let k (v:Bool):Option Bool:=some v;bif c==32 then k true else k (c==160)
def a9w:((List UInt8)×(List UInt8)×Bool×Int×Unit)→Option (((List UInt8)×(List UInt8)×Bool×Int×Unit)⊕(((List UInt8)×Unit))):=fun (s,vout,gap,i,_)=>
 bif decide (i<(s.length:Int)) then match qa9 s i with|some (r1,r2) =>(match qe s i with|some r4 =>(match qab r1 with|some r6 =>let k11 (vout9:List UInt8) (gap10:Bool):Option (((List UInt8)×(List UInt8)×Bool×Int×Unit)⊕(((List UInt8)×Unit))):=some (.inl (s,vout9,gap10,wr .i64 (i+r4),()));bif r6 then k11 vout true else let k8 (v:Bool):Option (((List UInt8)×(List UInt8)×Bool×Int×Unit)⊕(((List UInt8)×Unit))):=let k (vout7:List UInt8):Option (((List UInt8)×(List UInt8)×Bool×Int×Unit)⊕(((List UInt8)×Unit))):=bif decide (0≤(i:Int))&&(decide ((i:Int)≤wr .i64 (i+r4))&&decide (wr .i64 (i+r4)≤(s.length:Int))) then bif decide (vout7.length+((s.take (wr .i64 (i+r4)).toNat).drop (i:Int).toNat).length≤LIM) then k11 (vout7++((s.take (wr .i64 (i+r4)).toNat).drop (i:Int).toNat)) false else none else none;bif v then bif decide (vout.length+([32]).length≤LIM) then k (vout++([32])) else none else k vout;bif gap then k8 (!(vout==([]))) else k8 false|none =>none)|none =>none)|none =>none else some (.inr ((vout,())))
def qac (s:List UInt8):Option (List UInt8):=
 match c9 a9w (s,[],false,0,()) with|some ((vout,_)) =>some vout|none =>none
def a7z:((List Patron)×Int×Unit)→Option (((List Patron)×Int×Unit)⊕((Unit)⊕(Int×Unit))):=fun (l,i,_)=>
 bif decide (i<(l.length:Int)) then match j5 l i with|some x =>let k18 (v:Bool):Option (((List Patron)×Int×Unit)⊕((Unit)⊕(Int×Unit))):=bif v then some (.inr (.inr (2,()))) else let k17 (v2:Bool):Option (((List Patron)×Int×Unit)⊕((Unit)⊕(Int×Unit))):=bif v2 then some (.inr (.inr (7,()))) else let k16 (v3:Bool):Option (((List Patron)×Int×Unit)⊕((Unit)⊕(Int×Unit))):=let k15 (v4:Bool):Option (((List Patron)×Int×Unit)⊕((Unit)⊕(Int×Unit))):=let k14 (v5:Bool):Option (((List Patron)×Int×Unit)⊕((Unit)⊕(Int×Unit))):=bif v5 then some (.inr (.inr (1,()))) else let k13 (v6:Bool):Option (((List Patron)×Int×Unit)⊕((Unit)⊕(Int×Unit))):=bif v6 then some (.inr (.inr (2,()))) else let k12 (v8:Bool):Option (((List Patron)×Int×Unit)⊕((Unit)⊕(Int×Unit))):=let k (v11:Bool):Option (((List Patron)×Int×Unit)⊕((Unit)⊕(Int×Unit))):=bif v11 then some (.inr (.inr (3,()))) else bif decide (200<(x.Name.length:Int)) then some (.inr (.inr (4,()))) else some (.inl (l,wr .i64 (i+1),()));bif v8 then k true else match qac x.Name with|some r10 =>k (!(r10==x.Name))|none =>none;bif x.Name==([]) then k12 true else match qv x.Name with|some r7 =>k12 (!r7)|none =>none;bif decide (x.Until<0) then k13 true else k13 (decide (109572<x.Until));bif v4 then k14 true else k14 (decide (4<x.Branch));bif v3 then k15 true else k15 (decide (x.Branch<1));bif decide (x.Kind<1) then k16 true else k16 (decide (9<x.Kind));bif decide (0<i) then match j5 l (wr .i64 (i-1)) with|some x1 =>k17 (decide (x.ID≤x1.ID))|none =>none else k17 false;bif decide (x.ID<1) then k18 true else k18 (decide (9999<x.ID))|none =>none else some (.inr (.inl (())))
def qai (l:List Patron):Option Int:=
 bif decide (32<(l.length:Int)) then some 13 else match c9 a7z (l,0,()) with|some (.inl (_)) =>some 0|some (.inr (v,_)) =>some v|none =>none
def a7x:((List Loan)×Int×Unit)→Option (((List Loan)×Int×Unit)⊕((Unit)⊕(Int×Unit))):=fun (l,i,_)=>
 bif decide (i<(l.length:Int)) then match j5 l i with|some x =>let k21 (v:Bool):Option (((List Loan)×Int×Unit)⊕((Unit)⊕(Int×Unit))):=bif v then some (.inr (.inr (7,()))) else let k20 (v2:Bool):Option (((List Loan)×Int×Unit)⊕((Unit)⊕(Int×Unit))):=let k19 (v3:Bool):Option (((List Loan)×Int×Unit)⊕((Unit)⊕(Int×Unit))):=let k18 (v4:Bool):Option (((List Loan)×Int×Unit)⊕((Unit)⊕(Int×Unit))):=let k17 (v5:Bool):Option (((List Loan)×Int×Unit)⊕((Unit)⊕(Int×Unit))):=let k16 (v6:Bool):Option (((List Loan)×Int×Unit)⊕((Unit)⊕(Int×Unit))):=let k15 (v7:Bool):Option (((List Loan)×Int×Unit)⊕((Unit)⊕(Int×Unit))):=let k14 (v8:Bool):Option (((List Loan)×Int×Unit)⊕((Unit)⊕(Int×Unit))):=let k13 (v9:Bool):Option (((List Loan)×Int×Unit)⊕((Unit)⊕(Int×Unit))):=let k12 (v10:Bool):Option (((List Loan)×Int×Unit)⊕((Unit)⊕(Int×Unit))):=let k (v11:Bool):Option (((List Loan)×Int×Unit)⊕((Unit)⊕(Int×Unit))):=bif v11 then some (.inr (.inr (2,()))) else some (.inl (l,wr .i64 (i+1),()));bif v10 then k true else k (decide (10<x.Renewals));bif v9 then k12 true else k12 (decide (x.Renewals<0));bif v8 then k13 true else k13 (decide (x.Due<x.Out));bif v7 then k14 true else k14 (decide (109572<x.Due));bif v6 then k15 true else k15 (decide (x.Due<0));bif v5 then k16 true else k16 (decide (109572<x.Out));bif v4 then k17 true else k17 (decide (x.Out<0));bif v3 then k18 true else k18 (decide (9999<x.Patron));bif v2 then k19 true else k19 (decide (x.Patron<1));bif decide (x.Item<1) then k20 true else k20 (decide (9999<x.Item));bif decide (0<i) then match j5 l (wr .i64 (i-1)) with|some x1 =>k21 (decide (x.Item≤x1.Item))|none =>none else k21 false|none =>none else some (.inr (.inl (())))
def qag (l:List Loan):Option Int:=
 bif decide (64<(l.length:Int)) then some 13 else match c9 a7x (l,0,()) with|some (.inl (_)) =>some 0|some (.inr (v,_)) =>some v|none =>none
def qcv (n:Int):Option Bool:=
 let k (v:Bool):Option Bool:=some v;bif decide (1≤n) then k (decide (n≤9999)) else k false
def qc9 (n:Int):Option Bool:=
 let k (v:Bool):Option Bool:=some v;bif decide (0≤n) then k (decide (n≤109572)) else k false
def qcs (h:Hold):Option Int:=
 let k41 (v:Bool):Option Int:=let k40 (v2:Bool):Option Int:=let k39 (v5:Bool):Option Int:=let k38 (v9:Bool):Option Int:=let k37 (v10:Bool):Option Int:=let k36 (v11:Bool):Option Int:=let k35 (v14:Bool):Option Int:=let k34 (v18:Bool):Option Int:=let k33 (v21:Bool):Option Int:=let k32 (v24:Bool):Option Int:=let k31 (v25:Bool):Option Int:=let k30 (v26:Bool):Option Int:=bif v26 then some 2 else let k29 (v27:Bool):Option Int:=bif v27 then some 1 else let k (v28:Bool):Option Int:=bif v28 then some 12 else some 0;bif !((decide (0<h.Got))==(!(h.State==1))) then k true else k (!((decide (0<h.Until))==(h.State==3)));bif decide (h.State<1) then k29 true else k29 (decide (3<h.State));bif v25 then k30 true else k30 (decide (9<h.Rank));bif v24 then k31 true else k31 (decide (h.Rank<0));bif v21 then k32 true else match qc9 h.Asleep with|some r23 =>k32 (!r23)|none =>none;bif v18 then k33 true else match qc9 h.Until with|some r20 =>k33 (!r20)|none =>none;bif v14 then k34 true else bif !(h.Got==0) then match qcv h.Got with|some r16 =>k34 (!r16)|none =>none else k34 false;bif v11 then k35 true else match qc9 h.Placed with|some r13 =>k35 (!r13)|none =>none;bif v10 then k36 true else k36 (decide (4<h.Pickup));bif v9 then k37 true else k37 (decide (h.Pickup<1));bif v5 then k38 true else bif !(h.Item==0) then match qcv h.Item with|some r7 =>k38 (!r7)|none =>none else k38 false;bif v2 then k39 true else match qcv h.Record with|some r4 =>k39 (!r4)|none =>none;bif v then k40 true else match qcv h.Patron with|some r1 =>k40 (!r1)|none =>none;bif decide (h.ID<1) then k41 true else k41 (decide (99999<h.ID))
def b6x:((List Hold)×Int×Unit)→Option (((List Hold)×Int×Unit)⊕(((List Hold)×Unit)⊕(Int×Unit))):=fun (l,i,_)=>
 bif decide (i<(l.length:Int)) then let k (v:Bool):Option (((List Hold)×Int×Unit)⊕(((List Hold)×Unit)⊕(Int×Unit))):=bif v then some (.inr (.inr (7,()))) else match j5 l i with|some x2 =>(match qcs x2 with|some r3 =>bif !(r3==0) then some (.inr (.inr (r3,()))) else some (.inl (l,wr .i64 (i+1),()))|none =>none)|none =>none;bif decide (0<i) then match j5 l i with|some x =>(match j5 l (wr .i64 (i-1)) with|some x1 =>k (decide (x.ID≤x1.ID))|none =>none)|none =>none else k false else some (.inr (.inl (l,())))
def a8c:((List Hold)×Int×Int×Unit)→Option (((List Hold)×Int×Int×Unit)⊕(((List Hold)×Int×Unit)⊕(Int×Unit))):=fun (l,i,k,_)=>
 bif decide (k<i) then match j5 l i with|some x =>(match j5 l k with|some x5 =>let k14 (v:Bool):Option (((List Hold)×Int×Int×Unit)⊕(((List Hold)×Int×Unit)⊕(Int×Unit))):=let k13 (v12:Bool):Option (((List Hold)×Int×Int×Unit)⊕(((List Hold)×Int×Unit)⊕(Int×Unit))):=bif v12 then some (.inr (.inr (7,()))) else some (.inl (l,i,wr .i64 (k+1),()));bif v then k13 true else match j5 l i with|some x8 =>bif decide (0<x8.Got) then match j5 l i with|some x9 =>(match j5 l k with|some x10 =>k13 (x9.Got==x10.Got)|none =>none)|none =>none else k13 false|none =>none;bif x.Patron==x5.Patron then match j5 l i with|some x6 =>(match j5 l k with|some x7 =>k14 (x6.Record==x7.Record)|none =>none)|none =>none else k14 false|none =>none)|none =>none else some (.inr (.inl (l,i,())))
def a91:((List Hold)×Int×Unit)→Option (((List Hold)×Int×Unit)⊕((Unit)⊕(Int×Unit))):=fun (l,i,_)=>
 bif decide (i<(l.length:Int)) then match c9 a8c (l,i,0,()) with|some (.inl (l15,i16,_)) =>some (.inl (l15,wr .i64 (i16+1),()))|some (.inr (v,_)) =>some (.inr (.inr (v,())))|none =>none else some (.inr (.inl (())))
def qg (l:List Hold):Option Int:=
 bif decide (64<(l.length:Int)) then some 13 else match c9 b6x (l,0,()) with|some (.inl (l4,_)) =>(match c9 a91 (l4,0,()) with|some (.inl (_)) =>some 0|some (.inr (v,_)) =>some v|none =>none)|some (.inr (v17,_)) =>some v17|none =>none
def qdl (n:Int):Option Bool:=
 let k (v:Bool):Option Bool:=some v;bif decide (0≤n) then k (decide (n≤109572)) else k false
def a7y:((List Charge)×Int×Unit)→Option (((List Charge)×Int×Unit)⊕((Unit)⊕(Int×Unit))):=fun (l,i,_)=>
 bif decide (i<(l.length:Int)) then match j5 l i with|some x =>let k22 (v:Bool):Option (((List Charge)×Int×Unit)⊕((Unit)⊕(Int×Unit))):=bif v then some (.inr (.inr (7,()))) else let k21 (v2:Bool):Option (((List Charge)×Int×Unit)⊕((Unit)⊕(Int×Unit))):=let k20 (v3:Bool):Option (((List Charge)×Int×Unit)⊕((Unit)⊕(Int×Unit))):=let k19 (v4:Bool):Option (((List Charge)×Int×Unit)⊕((Unit)⊕(Int×Unit))):=let k18 (v5:Bool):Option (((List Charge)×Int×Unit)⊕((Unit)⊕(Int×Unit))):=let k17 (v6:Bool):Option (((List Charge)×Int×Unit)⊕((Unit)⊕(Int×Unit))):=let k16 (v8:Bool):Option (((List Charge)×Int×Unit)⊕((Unit)⊕(Int×Unit))):=bif v8 then some (.inr (.inr (2,()))) else let k15 (v9:Bool):Option (((List Charge)×Int×Unit)⊕((Unit)⊕(Int×Unit))):=bif v9 then some (.inr (.inr (1,()))) else let k14 (v10:Bool):Option (((List Charge)×Int×Unit)⊕((Unit)⊕(Int×Unit))):=let k13 (v11:Bool):Option (((List Charge)×Int×Unit)⊕((Unit)⊕(Int×Unit))):=let k (v12:Bool):Option (((List Charge)×Int×Unit)⊕((Unit)⊕(Int×Unit))):=bif v12 then some (.inr (.inr (2,()))) else some (.inl (l,wr .i64 (i+1),()));bif v11 then k true else k (decide (x.Amount≤x.Paid));bif v10 then k13 true else k13 (decide (x.Paid<0));bif decide (x.Amount<1) then k14 true else k14 (decide (100000000<x.Amount));bif decide (x.Kind<1) then k15 true else k15 (decide (3<x.Kind));bif v6 then k16 true else match qdl x.Day with|some r7 =>k16 (!r7)|none =>none;bif v5 then k17 true else k17 (decide (9999<x.Item));bif v4 then k18 true else k18 (decide (x.Item<1));bif v3 then k19 true else k19 (decide (9999<x.Patron));bif v2 then k20 true else k20 (decide (x.Patron<1));bif decide (x.ID<1) then k21 true else k21 (decide (99999<x.ID));bif decide (0<i) then match j5 l (wr .i64 (i-1)) with|some x1 =>k22 (decide (x.ID≤x1.ID))|none =>none else k22 false|none =>none else some (.inr (.inl (())))
def qah (l:List Charge):Option Int:=
 bif decide (128<(l.length:Int)) then some 13 else match c9 a7y (l,0,()) with|some (.inl (_)) =>some 0|some (.inr (v,_)) =>some v|none =>none
def qav (n:Int) (low:Int) (high:Int):Option Bool:=
 let k (v:Bool):Option Bool:=some v;bif decide (low≤n) then k (decide (n≤high)) else k false
def qb9 (r:Rule):Option Bool:=
 match qav r.Patron 0 9 with|some r2 =>let k48 (v:Bool):Option Bool:=let k47 (v7:Bool):Option Bool:=match qav r.Days 0 365 with|some r9 =>let k46 (v12:Bool):Option Bool:=let k45 (v15:Bool):Option Bool:=match qav r.Fine 0 1000 with|some r17 =>let k44 (v20:Bool):Option Bool:=let k43 (v23:Bool):Option Bool:=let k42 (v24:Bool):Option Bool:=let k41 (v25:Bool):Option Bool:=let k40 (v28:Bool):Option Bool:=let k39 (v31:Bool):Option Bool:=let k38 (v34:Bool):Option Bool:=let k (v37:Bool):Option Bool:=some v37;bif v34 then match qav r.Rank 0 9 with|some r36 =>k r36|none =>none else k false;bif v31 then match qav r.Fixed 0 109572 with|some r33 =>k38 r33|none =>none else k38 false;bif v28 then match qav r.Recall 1 60 with|some r30 =>k39 r30|none =>none else k39 false;bif v25 then match qav r.Shelf 1 60 with|some r27 =>k40 r27|none =>none else k40 false;bif v24 then k41 v23 else k41 false;bif v7 then k42 v15 else k42 false;bif v20 then match qav r.MaxFine 0 100000000 with|some r22 =>k43 r22|none =>none else k43 false;bif r17 then match qav r.Grace 0 30 with|some r19 =>k44 r19|none =>none else k44 false|none =>none;bif v12 then match qav r.Loans 0 99 with|some r14 =>k45 r14|none =>none else k45 false;bif r9 then match qav r.Renewals 0 10 with|some r11 =>k46 r11|none =>none else k46 false|none =>none;bif v then match qav r.Branch 0 4 with|some r6 =>k47 r6|none =>none else k47 false;bif r2 then match qav r.Item 0 9 with|some r4 =>k48 r4|none =>none else k48 false|none =>none
def b6y:((List Rule)×Int×Int×Unit)→Option (((List Rule)×Int×Int×Unit)⊕(((List Rule)×Int×Unit)⊕(Int×Unit))):=fun (l,i,k,_)=>
 bif decide (k<i) then match j5 l k with|some x =>(match j5 l i with|some x2 =>let k9 (v:Bool):Option (((List Rule)×Int×Int×Unit)⊕(((List Rule)×Int×Unit)⊕(Int×Unit))):=let k8 (v7:Bool):Option (((List Rule)×Int×Int×Unit)⊕(((List Rule)×Int×Unit)⊕(Int×Unit))):=bif v7 then some (.inr (.inr (7,()))) else some (.inl (l,i,wr .i64 (k+1),()));bif v then match j5 l k with|some x5 =>(match j5 l i with|some x6 =>k8 (x5.Branch==x6.Branch)|none =>none)|none =>none else k8 false;bif x.Patron==x2.Patron then match j5 l k with|some x3 =>(match j5 l i with|some x4 =>k9 (x3.Item==x4.Item)|none =>none)|none =>none else k9 false|none =>none)|none =>none else some (.inr (.inl (l,i,())))
def c18:((List Rule)×Int×Unit)→Option (((List Rule)×Int×Unit)⊕((Unit)⊕(Int×Unit))):=fun (l,i,_)=>
 bif decide (i<(l.length:Int)) then match j5 l i with|some x =>(match qb9 x with|some r1 =>(bif !r1 then some (.inr (.inr (2,()))) else match c9 b6y (l,i,0,()) with|some (.inl (l10,i11,_)) =>some (.inl (l10,wr .i64 (i11+1),()))|some (.inr (v,_)) =>some (.inr (.inr (v,())))|none =>none)|none =>none)|none =>none else some (.inr (.inl (())))
def qh (l:List Rule):Option Int:=
 bif decide (32<(l.length:Int)) then some 13 else match c9 c18 (l,0,()) with|some (.inl (_)) =>some 0|some (.inr (v,_)) =>some v|none =>none
def b64:(Int×Calendar×Unit)→Option ((Int×Calendar×Unit)⊕((Calendar×Unit)⊕(Int×Unit))):=fun (i,c,_)=>
 bif decide (i<(c.Closed.length:Int)) then match j5 c.Closed i with|some x =>(let k (v:Bool):Option ((Int×Calendar×Unit)⊕((Calendar×Unit)⊕(Int×Unit))):=bif v then some (.inr (.inr (2,()))) else some (.inl (wr .i64 (i+1),c,()));bif decide (x<0) then k true else match j5 c.Closed i with|some x1 =>k (decide (109572<x1))|none =>none)|none =>none else some (.inr (.inl (c,())))
def a8d:(Int×Calendar×Unit)→Option ((Int×Calendar×Unit)⊕((Unit)⊕(Int×Unit))):=fun (i,c,_)=>
 bif decide (i<(c.Closed.length:Int)) then match j5 c.Closed i with|some x =>(match j5 c.Closed (wr .i64 (i-1)) with|some x3 =>bif decide (x≤x3) then some (.inr (.inr (7,()))) else some (.inl (wr .i64 (i+1),c,()))|none =>none)|none =>none else some (.inr (.inl (())))
def qn (c:Calendar):Option Int:=
 let k (v:Bool):Option Int:=bif v then some 1 else bif decide (64<(c.Closed.length:Int)) then some 13 else match c9 b64 (0,c,()) with|some (.inl (c2,_)) =>(match c9 a8d (1,c2,()) with|some (.inl (_)) =>some 0|some (.inr (v4,_)) =>some v4|none =>none)|some (.inr (v5,_)) =>some v5|none =>none;bif decide (c.Week<0) then k true else k (decide (126<c.Week))
def a9y:((List Patron)×Int×Int×Unit)→Option (((List Patron)×Int×Int×Unit)⊕((Unit)⊕(Int×Unit))):=fun (l,vid,i,_)=>
 bif decide (i<(l.length:Int)) then match j5 l i with|some x =>bif x.ID==vid then some (.inr (.inr (i,()))) else some (.inl (l,vid,wr .i64 (i+1),()))|none =>none else some (.inr (.inl (())))
def qae (l:List Patron) (vid:Int):Option Int:=
 match c9 a9y (l,vid,0,()) with|some (.inl (_)) =>some (-1)|some (.inr (v,_)) =>some v|none =>none
def qbf (l:List Patron) (vid:Int):Option (Patron×Bool):=
 match qae l vid with|some r1 =>(bif decide (r1<0) then some ((⟨0,0,0,0,false,[]⟩:Patron),false) else match j5 l r1 with|some x =>some (x,true)|none =>none)|none =>none
def qct (branch:Int):Option Custody:=
 some (⟨1,branch,0,0⟩:Custody)
def qdt (state:Int):Option Bool:=
 let k6 (v:Bool):Option Bool:=let k5 (v1:Bool):Option Bool:=let k4 (v2:Bool):Option Bool:=let k (v3:Bool):Option Bool:=some v3;bif v2 then k true else k (state==10);bif v1 then k4 true else k4 (state==9);bif v then k5 true else k5 (state==8);bif state==4 then k6 true else k6 (state==5)
def qcc (c:Custody):Option Bool:=
 let k17 (v:Bool):Option Bool:=let k16 (v1:Bool):Option Bool:=let k15 (v2:Bool):Option Bool:=bif v2 then some false else let k10 (v9:Bool):Option Bool:=some v9;bif c.State==6 then let k8 (v3:Bool):Option Bool:=let k7 (v4:Bool):Option Bool:=let k (v5:Bool):Option Bool:=bif v5 then k10 (!(c.To==c.Branch)) else k10 false;bif v4 then k (decide (c.To≤4)) else k false;bif v3 then k7 (decide (1≤c.To)) else k7 false;bif decide (0≤c.Who) then k8 (decide (c.Who≤9999)) else k8 false else bif !(c.To==0) then some false else match qdt c.State with|some r11 =>let k14 (v13:Bool):Option Bool:=some v13;bif r11 then bif decide (1≤c.Who) then k14 (decide (c.Who≤9999)) else k14 false else some (c.Who==0)|none =>none;bif v1 then k15 true else k15 (decide (4<c.Branch));bif v then k16 true else k16 (decide (c.Branch<1));bif decide (c.State<1) then k17 true else k17 (decide (12<c.State))
def qc6 (m:Move):Option Bool:=
 let k16 (v:Bool):Option Bool:=let k15 (v1:Bool):Option Bool:=let k14 (v2:Bool):Option Bool:=let k13 (v3:Bool):Option Bool:=let k12 (v4:Bool):Option Bool:=let k11 (v5:Bool):Option Bool:=let k10 (v6:Bool):Option Bool:=let k9 (v7:Bool):Option Bool:=let k (v8:Bool):Option Bool:=some v8;bif v7 then k (decide (m.Who≤9999)) else k false;bif v6 then k9 (decide (0≤m.Who)) else k9 false;bif v5 then k10 (decide (m.Branch≤4)) else k10 false;bif v4 then k11 (decide (1≤m.Branch)) else k11 false;bif v3 then k12 (decide (m.Kind≤15)) else k12 false;bif v2 then k13 (decide (1≤m.Kind)) else k13 false;bif v1 then k14 (decide (m.Item≤9999)) else k14 false;bif v then k15 (decide (1≤m.Item)) else k15 false;bif decide (0≤m.Day) then k16 (decide (m.Day≤109572)) else k16 false
def qbo (kind:Int):Option (List Int):=
 bif kind==1 then some ([1]) else bif kind==2 then some ([2,5]) else bif kind==3 then some ([3,5]) else bif kind==4 then some ([4,8,9,10]) else let k (v:Bool):Option (List Int):=bif v then some ([2,3]) else bif kind==6 then some ([2,3,5]) else bif kind==7 then some ([6]) else bif kind==9 then some ([7]) else bif kind==10 then some ([3]) else bif kind==11 then some ([4]) else bif kind==12 then some ([4,9]) else bif kind==13 then some ([2,3,5,6,7]) else bif kind==14 then some ([11]) else bif kind==15 then some ([1,2,3,11,10]) else some ([]);bif kind==5 then k (kind==5) else k (kind==8)
def c2g:(Int×(List Int)×Int×Unit)→Option ((Int×(List Int)×Int×Unit)⊕((Unit)⊕(Bool×Unit))):=fun (state,l,i,_)=>
 bif decide (i<(l.length:Int)) then match j5 l i with|some x =>bif x==state then some (.inr (.inr (true,()))) else some (.inl (state,l,wr .i64 (i+1),()))|none =>none else some (.inr (.inl (())))
def qz (state:Int) (kind:Int):Option Bool:=
 match qbo kind with|some r1 =>(match c9 c2g (state,r1,0,()) with|some (.inl (_)) =>some false|some (.inr (v,_)) =>some v|none =>none)|none =>none
def qb1 (c:Custody) (m:Move):Option Bool:=
 let k14 (v2:Bool):Option Bool:=let k11 (v10:Bool):Option Bool:=some v10;bif v2 then k11 (m.Who==0) else bif m.Kind==7 then bif m.Who==0 then k11 (m.Branch==c.To) else k11 false else bif m.Kind==6 then k11 (!(m.Branch==c.Branch)) else let k (v5:Bool):Option Bool:=bif v5 then bif m.Branch==c.Branch then k11 (decide (1≤m.Who)) else k11 false else let k13 (v12:Bool):Option Bool:=some v12;bif m.Branch==c.Branch then k13 (m.Who==0) else k13 false;bif m.Kind==3 then k (m.Kind==3) else bif m.Kind==5 then k (m.Kind==5) else k (m.Kind==10);bif m.Kind==1 then k14 (m.Kind==1) else bif m.Kind==4 then k14 (m.Kind==4) else bif m.Kind==9 then k14 (m.Kind==9) else k14 (m.Kind==14)
def qdy (kind:Int):Option Int:=
 let k13 (v3:Bool):Option Int:=let k (v12:Int):Option Int:=some v12;bif v3 then k 2 else bif kind==2 then k 3 else bif kind==3 then k 4 else bif kind==5 then k 5 else bif kind==6 then k 6 else bif kind==8 then k 7 else bif kind==10 then k 8 else bif kind==11 then k 9 else bif kind==12 then k 10 else bif kind==13 then k 11 else some 12;bif kind==1 then k13 (kind==1) else bif kind==4 then k13 (kind==4) else bif kind==7 then k13 (kind==7) else bif kind==9 then k13 (kind==9) else k13 (kind==14)
def qbp (c:Custody) (m:Move):Option (Custody×Int):=
 match qcc c with|some r1 =>(let k26 (v:Bool):Option (Custody×Int):=bif v then some ((⟨0,0,0,0⟩:Custody),1) else match qz c.State m.Kind with|some r5 =>bif !r5 then some ((⟨0,0,0,0⟩:Custody),12) else let k25 (v6:Bool):Option (Custody×Int):=let k24 (v7:Bool):Option (Custody×Int):=bif v7 then some ((⟨0,0,0,0⟩:Custody),16) else match qb1 c m with|some r9 =>(bif !r9 then some ((⟨0,0,0,0⟩:Custody),1) else match qdy m.Kind with|some r11 =>let k23 (vout20:Int) (vout21:Int) (vout22:Int):Option (Custody×Int):=some ((⟨r11,vout20,vout21,vout22⟩:Custody),0);bif r11==2 then k23 m.Branch 0 0 else let k19 (v13:Bool):Option (Custody×Int):=bif v13 then k23 c.Branch m.Who 0 else bif r11==6 then k23 c.Branch m.Who m.Branch else let k (v14:Bool):Option (Custody×Int):=bif v14 then k23 c.Branch c.Who 0 else k23 c.Branch 0 0;bif r11==9 then k (r11==9) else k (r11==10);bif r11==4 then k19 (r11==4) else bif r11==5 then k19 (r11==5) else k19 (r11==8)|none =>none)|none =>none;bif v6 then k24 (!(m.Who==c.Who)) else k24 false;bif m.Kind==3 then k25 (c.State==5) else k25 false|none =>none;bif !r1 then k26 true else match qc6 m with|some r3 =>k26 (!r3)|none =>none)|none =>none
def a9v:((List Move)×Int×Int×Custody×Custody×Unit)→Option (((List Move)×Int×Int×Custody×Custody×Unit)⊕((Custody×Custody×Unit)⊕(Int×Int×Custody×Unit))):=fun (l,item,i,v,c,_)=>
 bif decide (i<(l.length:Int)) then match j5 l i with|some x =>(bif !(x.Item==item) then some (.inl (l,item,wr .i64 (i+1),v,c,())) else match j5 l i with|some x2 =>(match qbp c x2 with|some (r3,r4) =>bif !(r4==0) then some (.inr (.inr (i,r4,(⟨0,0,0,0⟩:Custody),()))) else some (.inl (l,item,wr .i64 (i+1),v,r3,()))|none =>none)|none =>none)|none =>none else some (.inr (.inl (v,c,())))
def qaa (branch:Int) (l:List Move) (item:Int):Option (Custody×Int×Int):=
 let k (v:Bool):Option (Custody×Int×Int):=bif v then some ((⟨0,0,0,0⟩:Custody),(-1),1) else match qct branch with|some r1 =>(match c9 a9v (l,item,0,(⟨0,0,0,0⟩:Custody),r1,()) with|some (.inl (v5,c,_)) =>some (c,(-1),0)|some (.inr (v6,v7,v8,_)) =>some (v8,v6,v7)|none =>none)|none =>none;bif decide (branch<1) then k true else k (decide (4<branch))
def c2a:(Int×Int×Circ×Unit)→Option ((Int×Int×Circ×Unit)⊕((Unit)⊕(Int×Unit))):=fun (item,i,c,_)=>
 bif decide (i<(c.Items.length:Int)) then match j5 c.Items i with|some x =>bif x.ID==item then some (.inr (.inr (i,()))) else some (.inl (item,wr .i64 (i+1),c,()))|none =>none else some (.inr (.inl (())))
def ql (c:Circ) (item:Int):Option Int:=
 match c9 c2a (item,0,c,()) with|some (.inl (_)) =>some (-1)|some (.inr (v,_)) =>some v|none =>none
def b66:(Int×Circ×Unit)→Option ((Int×Circ×Unit)⊕((Circ×Unit)⊕(Bool×Unit))):=fun (i,c,_)=>
 bif decide (i<(c.Items.length:Int)) then match j5 c.Items i with|some x =>let k29 (v:Bool):Option ((Int×Circ×Unit)⊕((Circ×Unit)⊕(Bool×Unit))):=let k28 (v3:Bool):Option ((Int×Circ×Unit)⊕((Circ×Unit)⊕(Bool×Unit))):=let k27 (v4:Bool):Option ((Int×Circ×Unit)⊕((Circ×Unit)⊕(Bool×Unit))):=let k26 (v5:Bool):Option ((Int×Circ×Unit)⊕((Circ×Unit)⊕(Bool×Unit))):=let k25 (v6:Bool):Option ((Int×Circ×Unit)⊕((Circ×Unit)⊕(Bool×Unit))):=let k24 (v7:Bool):Option ((Int×Circ×Unit)⊕((Circ×Unit)⊕(Bool×Unit))):=bif v7 then some (.inr (.inr (false,()))) else let k23 (v8:Bool):Option ((Int×Circ×Unit)⊕((Circ×Unit)⊕(Bool×Unit))):=let k22 (v9:Bool):Option ((Int×Circ×Unit)⊕((Circ×Unit)⊕(Bool×Unit))):=let k21 (v10:Bool):Option ((Int×Circ×Unit)⊕((Circ×Unit)⊕(Bool×Unit))):=let k20 (v11:Bool):Option ((Int×Circ×Unit)⊕((Circ×Unit)⊕(Bool×Unit))):=let k19 (v13:Bool):Option ((Int×Circ×Unit)⊕((Circ×Unit)⊕(Bool×Unit))):=bif v13 then some (.inr (.inr (false,()))) else match qaa x.Branch c.Moves x.ID with|some (r15,r16,r17) =>let k (v18:Bool):Option ((Int×Circ×Unit)⊕((Circ×Unit)⊕(Bool×Unit))):=bif v18 then some (.inr (.inr (false,()))) else some (.inl (wr .i64 (i+1),c,()));bif !(r17==0) then k true else k (!(p6 r15 x.Custody))|none =>none;bif v11 then k19 true else match qv x.Call with|some r12 =>k19 (!r12)|none =>none;bif v10 then k20 true else k20 (decide (200<(x.Call.length:Int)));bif v9 then k21 true else k21 (decide (100000000<x.Price));bif v8 then k22 true else k22 (decide (x.Price<0));bif decide (x.Kind<1) then k23 true else k23 (decide (9<x.Kind));bif v6 then k24 true else k24 (decide (4<x.Branch));bif v5 then k25 true else k25 (decide (x.Branch<1));bif v4 then k26 true else k26 (decide (9999<x.Record));bif v3 then k27 true else k27 (decide (x.Record<1));bif v then k28 true else bif decide (0<i) then match j5 c.Items (wr .i64 (i-1)) with|some x1 =>k28 (decide (x.ID≤x1.ID))|none =>none else k28 false;bif decide (x.ID<1) then k29 true else k29 (decide (9999<x.ID))|none =>none else some (.inr (.inl (c,())))
def a8e:(Int×Circ×Unit)→Option ((Int×Circ×Unit)⊕((Unit)⊕(Bool×Unit))):=fun (i,c,_)=>
 bif decide (i<(c.Moves.length:Int)) then match j5 c.Moves i with|some x =>(match ql c x.Item with|some r31 =>bif decide (r31<0) then some (.inr (.inr (false,()))) else some (.inl (wr .i64 (i+1),c,()))|none =>none)|none =>none else some (.inr (.inl (())))
def qr (c:Circ):Option Bool:=
 let k (v:Bool):Option Bool:=bif v then some false else match c9 b66 (0,c,()) with|some (.inl (c30,_)) =>(match c9 a8e (0,c30,()) with|some (.inl (_)) =>some true|some (.inr (v32,_)) =>some v32|none =>none)|some (.inr (v33,_)) =>some v33|none =>none;bif decide (64<(c.Items.length:Int)) then k true else k (decide (2000<(c.Moves.length:Int)))
def qc3 (u:Custody):Option Bool:=
 let k2 (v:Bool):Option Bool:=let k (v1:Bool):Option Bool:=some v1;bif v then k true else k (u.State==10);bif u.State==4 then k2 true else k2 (u.State==9)
def a9x:((List Loan)×Int×Int×Unit)→Option (((List Loan)×Int×Int×Unit)⊕((Unit)⊕(Int×Unit))):=fun (l,item,i,_)=>
 bif decide (i<(l.length:Int)) then match j5 l i with|some x =>bif x.Item==item then some (.inr (.inr (i,()))) else some (.inl (l,item,wr .i64 (i+1),()))|none =>none else some (.inr (.inl (())))
def qad (l:List Loan) (item:Int):Option Int:=
 match c9 a9x (l,item,0,()) with|some (.inl (_)) =>some (-1)|some (.inr (v,_)) =>some v|none =>none
def qcu (l:List Loan) (item:Int):Option (Loan×Bool):=
 match qad l item with|some r1 =>(bif decide (r1<0) then some ((⟨0,0,0,0,0,false⟩:Loan),false) else match j5 l r1 with|some x =>some (x,true)|none =>none)|none =>none
def b65:(Int×Circ×Unit)→Option ((Int×Circ×Unit)⊕((Circ×Unit)⊕(Bool×Unit))):=fun (i,c,_)=>
 bif decide (i<(c.Loans.length:Int)) then match j5 c.Loans i with|some x =>(match ql c x.Item with|some r1 =>(match qbf c.Patrons x.Patron with|some (r3,r4) =>let k12 (v:Bool):Option ((Int×Circ×Unit)⊕((Circ×Unit)⊕(Bool×Unit))):=let k11 (v8:Bool):Option ((Int×Circ×Unit)⊕((Circ×Unit)⊕(Bool×Unit))):=let k (v10:Bool):Option ((Int×Circ×Unit)⊕((Circ×Unit)⊕(Bool×Unit))):=bif v10 then some (.inr (.inr (false,()))) else some (.inl (wr .i64 (i+1),c,()));bif v8 then k true else match j5 c.Items r1 with|some x9 =>k (!(x9.Custody.Who==x.Patron))|none =>none;bif v then k11 true else match j5 c.Items r1 with|some x5 =>(match qc3 x5.Custody with|some r7 =>k11 (!r7)|none =>none)|none =>none;bif decide (r1<0) then k12 true else k12 (!r4)|none =>none)|none =>none)|none =>none else some (.inr (.inl (c,())))
def a92:(Int×Circ×Unit)→Option ((Int×Circ×Unit)⊕((Unit)⊕(Bool×Unit))):=fun (i,c,_)=>
 bif decide (i<(c.Items.length:Int)) then match j5 c.Items i with|some x =>(match qcu c.Loans x.ID with|some (r14,r15) =>(match j5 c.Items i with|some x16 =>(match qc3 x16.Custody with|some r18 =>bif !(r15==r18) then some (.inr (.inr (false,()))) else some (.inl (wr .i64 (i+1),c,()))|none =>none)|none =>none)|none =>none)|none =>none else some (.inr (.inl (())))
def qq (c:Circ):Option Bool:=
 match c9 b65 (0,c,()) with|some (.inl (c13,_)) =>(match c9 a92 (0,c13,()) with|some (.inl (_)) =>some true|some (.inr (v,_)) =>some v|none =>none)|some (.inr (v19,_)) =>some v19|none =>none
def c1w:(Int×Int×Circ×Hold×Unit)→Option ((Int×Int×Circ×Hold×Unit)⊕((Hold×Unit)⊕(Bool×Hold×Unit))):=fun (item,i,c,v,_)=>
 bif decide (i<(c.Holds.length:Int)) then match j5 c.Holds i with|some x =>bif x.Got==item then match j5 c.Holds i with|some x1 =>some (.inr (.inr (true,x1,())))|none =>none else some (.inl (item,wr .i64 (i+1),c,v,()))|none =>none else some (.inr (.inl (v,())))
def q9 (c:Circ) (item:Int):Option (Hold×Bool):=
 match c9 c1w (item,0,c,(⟨0,0,0,0,0,0,0,0,0,0,0⟩:Hold),()) with|some (.inl (v,_)) =>some ((⟨0,0,0,0,0,0,0,0,0,0,0⟩:Hold),false)|some (.inr (v2,v3,_)) =>some (v3,v2)|none =>none
def b67:(Int×Circ×Unit)→Option ((Int×Circ×Unit)⊕((Circ×Unit)⊕(Bool×Unit))):=fun (i,c,_)=>
 bif decide (i<(c.Holds.length:Int)) then match j5 c.Holds i with|some x =>(match qbf c.Patrons x.Patron with|some (r1,r2) =>let k18 (v:Bool):Option ((Int×Circ×Unit)⊕((Circ×Unit)⊕(Bool×Unit))):=bif v then some (.inr (.inr (false,()))) else bif x.State==1 then some (.inl (wr .i64 (i+1),c,())) else match ql c x.Got with|some r4 =>(let k17 (v6:Bool):Option ((Int×Circ×Unit)⊕((Circ×Unit)⊕(Bool×Unit))):=bif v6 then some (.inr (.inr (false,()))) else match j5 c.Items r4 with|some x7 =>let k16 (v10:Bool):Option ((Int×Circ×Unit)⊕((Circ×Unit)⊕(Bool×Unit))):=bif v10 then some (.inr (.inr (false,()))) else let k15 (v14:Bool):Option ((Int×Circ×Unit)⊕((Circ×Unit)⊕(Bool×Unit))):=bif v14 then some (.inr (.inr (false,()))) else some (.inl (wr .i64 (i+1),c,()));bif x.State==2 then let k13 (v11:Bool):Option ((Int×Circ×Unit)⊕((Circ×Unit)⊕(Bool×Unit))):=bif v11 then k15 true else k15 (!(x7.Custody.Who==x.Patron));bif !(x7.Custody.State==6) then k13 true else k13 (!(x7.Custody.To==x.Pickup)) else k15 false;bif x.State==3 then let k (v8:Bool):Option ((Int×Circ×Unit)⊕((Circ×Unit)⊕(Bool×Unit))):=bif v8 then k16 true else k16 (!(x7.Custody.Who==x.Patron));bif !(x7.Custody.State==5) then k true else k (!(x7.Custody.Branch==x.Pickup)) else k16 false|none =>none;bif decide (r4<0) then k17 true else match j5 c.Items r4 with|some x5 =>k17 (!(x5.Record==x.Record))|none =>none)|none =>none;bif !r2 then k18 true else k18 (decide (c.NextHold≤x.ID))|none =>none)|none =>none else some (.inr (.inl (c,())))
def a93:(Int×Circ×Unit)→Option ((Int×Circ×Unit)⊕((Unit)⊕(Bool×Unit))):=fun (i,c,_)=>
 bif decide (i<(c.Items.length:Int)) then match j5 c.Items i with|some x =>(bif !(x.Custody.State==5) then some (.inl (wr .i64 (i+1),c,())) else match j5 c.Items i with|some x20 =>(match q9 c x20.ID with|some (r21,r22) =>let k (v:Bool):Option ((Int×Circ×Unit)⊕((Unit)⊕(Bool×Unit))):=bif v then some (.inr (.inr (false,()))) else some (.inl (wr .i64 (i+1),c,()));bif !r22 then k true else k (!(r21.State==3))|none =>none)|none =>none)|none =>none else some (.inr (.inl (())))
def qs (c:Circ):Option Bool:=
 match c9 b67 (0,c,()) with|some (.inl (c19,_)) =>(match c9 a93 (0,c19,()) with|some (.inl (_)) =>some true|some (.inr (v,_)) =>some v|none =>none)|some (.inr (v23,_)) =>some v23|none =>none
def b4s:(Int×Circ×Unit)→Option ((Int×Circ×Unit)⊕((Circ×Unit)⊕(Bool×Unit))):=fun (i,c,_)=>
 bif decide (i<4) then let k (v:Int) (v18:List Int):Option ((Int×Circ×Unit)⊕((Circ×Unit)⊕(Bool×Unit))):=match qn (⟨v,v18⟩:Calendar) with|some r19 =>bif !(r19==0) then some (.inr (.inr (false,()))) else some (.inl (wr .i64 (i+1),c,()))|none =>none;bif i==0 then k c.Cals.x0.Week c.Cals.x0.Closed else bif i==1 then k c.Cals.x1.Week c.Cals.x1.Closed else bif i==2 then k c.Cals.x2.Week c.Cals.x2.Closed else bif i==3 then k c.Cals.x3.Week c.Cals.x3.Closed else none else some (.inr (.inl (c,())))
def a8f:(Int×Circ×Unit)→Option ((Int×Circ×Unit)⊕((Circ×Unit)⊕(Bool×Unit))):=fun (i,c,_)=>
 bif decide (i<(c.Charges.length:Int)) then match j5 c.Charges i with|some x =>(match qbf c.Patrons x.Patron with|some (r21,r22) =>(let k (v:Bool):Option ((Int×Circ×Unit)⊕((Circ×Unit)⊕(Bool×Unit))):=bif v then some (.inr (.inr (false,()))) else some (.inl (wr .i64 (i+1),c,()));bif !r22 then k true else match j5 c.Charges i with|some x23 =>k (decide (c.NextCharge≤x23.ID))|none =>none)|none =>none)|none =>none else some (.inr (.inl (c,())))
def qu (c:Circ):Option Bool:=
 let k44 (v:Bool):Option Bool:=let k43 (v1:Bool):Option Bool:=let k42 (v2:Bool):Option Bool:=let k41 (v3:Bool):Option Bool:=let k40 (v4:Bool):Option Bool:=bif v4 then some false else match qai c.Patrons with|some r5 =>(let k39 (v8:Bool):Option Bool:=let k38 (v11:Bool):Option Bool:=let k37 (v14:Bool):Option Bool:=let k36 (v17:Bool):Option Bool:=bif v17 then some false else match c9 b4s (0,c,()) with|some (.inl (c20,_)) =>(match c9 a8f (0,c20,()) with|some (.inl (c24,_)) =>(match qr c24 with|some r26 =>let k33 (v29:Bool):Option Bool:=let k (v32:Bool):Option Bool:=some v32;bif v29 then match qs c24 with|some r31 =>k r31|none =>none else k false;bif r26 then match qq c24 with|some r28 =>k33 r28|none =>none else k33 false|none =>none)|some (.inr (v34,_)) =>some v34|none =>none)|some (.inr (v35,_)) =>some v35|none =>none;bif v14 then k36 true else match qh c.Rules with|some r16 =>k36 (!(r16==0))|none =>none;bif v11 then k37 true else match qah c.Charges with|some r13 =>k37 (!(r13==0))|none =>none;bif v8 then k38 true else match qg c.Holds with|some r10 =>k38 (!(r10==0))|none =>none;bif !(r5==0) then k39 true else match qag c.Loans with|some r7 =>k39 (!(r7==0))|none =>none)|none =>none;bif v3 then k40 true else k40 (decide (100000<c.NextCharge));bif v2 then k41 true else k41 (decide (c.NextCharge<1));bif v1 then k42 true else k42 (decide (100000<c.NextHold));bif v then k43 true else k43 (decide (c.NextHold<1));bif decide (c.Today<0) then k44 true else k44 (decide (109572<c.Today))
def qbg (x:Item) (branch:Int):Option Bool:=
 let k3 (v2:Bool):Option Bool:=some v2;bif x.Custody.Branch==branch then let k (v:Bool):Option Bool:=bif v then k3 true else k3 (x.Custody.State==5);bif x.Custody.State==2 then k true else k (x.Custody.State==3) else k3 false
def c2f:(Int×(List Item)×Int×Int×(List Int)×Unit)→Option ((Int×(List Item)×Int×Int×(List Int)×Unit)⊕(((List Int)×Unit))):=fun (branch,v,v1,v2,l,_)=>
 bif decide (v2<v1) then match j5 v v2 with|some x =>(match qbg x branch with|some r3 =>bif r3 then bif decide (l.length+([x.ID]:List Int).length≤LIM) then some (.inl (branch,v,v1,wr .i64 (v2+1),l++([x.ID]:List Int),())) else none else some (.inl (branch,v,v1,wr .i64 (v2+1),l,()))|none =>none)|none =>none else some (.inr ((l,())))
def qy (c:Circ) (branch:Int):Option (List Int):=
 match c9 c2f (branch,c.Items,(c.Items.length:Int),0,([]:List Int),()) with|some ((l,_)) =>some l|none =>none
def qbu (branch:Int):Option Bool:=
 let k (v:Bool):Option Bool:=some v;bif decide (1≤branch) then k (decide (branch≤4)) else k false
def qb6 (s:List Int):Option (List Int):=
 bif decide (([]:List Int).length+s.length≤LIM) then some (([])++s) else none
def a9z:((List Int)×(List Int)×Int×Int×(List MapI)×Unit)→Option (((List Int)×(List Int)×Int×Int×(List MapI)×Unit)⊕(((List Int)×(List MapI)×Unit))):=fun (l,v,v1,v2,l3,_)=>
 bif decide (v2<v1) then match j5 v v2 with|some x =>some (.inl (l,v,v1,wr .i64 (v2+1),b5b MapI.key x (⟨x,wr .i64 ((a2a MapI.key MapI.val l3 x)+1)⟩:MapI) l3,()))|none =>none else some (.inr ((l,l3,())))
def qal (l:List Int):Option ((List Int)×List MapI):=
 match c9 a9z (l,l,(l.length:Int),0,([]:List MapI),()) with|some ((l4,l5,_)) =>(match qb6 l4 with|some l6 =>(match qa0 l6 with|some l8 =>(match qax l8 with|some l10 =>some (l10,l5)|none =>none)|none =>none)|none =>none)|none =>none
def qbl (x:Item) (v:Int):Option Bool:=
 some (x.ID==v)
def b6z {γ0:Type} (p:γ0→Item→Option Bool):((List Item)×γ0×Int×Int×Unit)→Option (((List Item)×γ0×Int×Int×Unit)⊕((Unit)⊕(Int×Unit))):=fun (s,g,v,v1,_)=>
 bif decide (v1<v) then match j5 s v1 with|some x =>(match p g x with|some r =>bif r then some (.inr (.inr (v1,()))) else some (.inl (s,g,v,wr .i64 (v1+1),()))|none =>none)|none =>none else some (.inr (.inl (())))
def qi {γ0:Type} (p:γ0→Item→Option Bool) (s:List Item) (g:γ0):Option Int:=
 match c9 (b6z p) (s,g,(s.length:Int),0,()) with|some (.inl (_)) =>some (-1)|some (.inr (v,_)) =>some v|none =>none
def qam (c:Circ) (vid:Int):Option (Item×Bool):=
 match qi (fun g x0=>qbl x0 g.2.1) c.Items ((),(vid,())) with|some r1 =>(bif decide (r1<0) then some ((⟨0,0,0,0,0,[],⟨0,0,0,0⟩⟩:Item),false) else match j5 c.Items r1 with|some x =>some (x,true)|none =>none)|none =>none
def b6o:(Int×(List Int)×(List Int)×Int×Int×Circ×(List MapI)×(List Int)×Unit)→Option ((Int×(List Int)×(List Int)×Int×Int×Circ×(List MapI)×(List Int)×Unit)⊕((Int×(List Int)×Circ×(List MapI)×(List Int)×Unit))):=fun (branch,ids,v,v6,v7,c,l,l8,_)=>
 bif decide (v7<v6) then match j5 v v7 with|some x =>bif (a2a MapI.key MapI.val l x)==0 then bif decide (l8.length+([x]:List Int).length≤LIM) then some (.inl (branch,ids,v,v6,wr .i64 (v7+1),c,l,l8++([x]:List Int),())) else none else some (.inl (branch,ids,v,v6,wr .i64 (v7+1),c,l,l8,()))|none =>none else some (.inr ((branch,ids,c,l,l8,())))
def a6a:(Int×(List Int)×Int×Int×Circ×(List MapI)×(List Int)×(List Int)×(List Int)×(List Int)×Unit)→Option ((Int×(List Int)×Int×Int×Circ×(List MapI)×(List Int)×(List Int)×(List Int)×(List Int)×Unit)⊕(((List Int)×(List Int)×(List Int)×(List Int)×Unit))):=fun (branch,v,v13,v14,c,l,l15,l16,l17,l18,_)=>
 bif decide (v14<v13) then match j5 v v14 with|some x =>(match qam c x with|some (r19,r20) =>(bif !r20 then bif decide (l16.length+([x]:List Int).length≤LIM) then bif decide (1<a2a MapI.key MapI.val l x) then bif decide (l18.length+([x]:List Int).length≤LIM) then some (.inl (branch,v,v13,wr .i64 (v14+1),c,l,l15,l16++([x]:List Int),l17,l18++([x]:List Int),())) else none else some (.inl (branch,v,v13,wr .i64 (v14+1),c,l,l15,l16++([x]:List Int),l17,l18,())) else none else match qbu branch with|some r22 =>(let k (v25:Bool):Option ((Int×(List Int)×Int×Int×Circ×(List MapI)×(List Int)×(List Int)×(List Int)×(List Int)×Unit)⊕(((List Int)×(List Int)×(List Int)×(List Int)×Unit))):=bif v25 then bif decide (l17.length+([x]:List Int).length≤LIM) then bif decide (1<a2a MapI.key MapI.val l x) then bif decide (l18.length+([x]:List Int).length≤LIM) then some (.inl (branch,v,v13,wr .i64 (v14+1),c,l,l15,l16,l17++([x]:List Int),l18++([x]:List Int),())) else none else some (.inl (branch,v,v13,wr .i64 (v14+1),c,l,l15,l16,l17++([x]:List Int),l18,())) else none else bif decide (1<a2a MapI.key MapI.val l x) then bif decide (l18.length+([x]:List Int).length≤LIM) then some (.inl (branch,v,v13,wr .i64 (v14+1),c,l,l15,l16,l17,l18++([x]:List Int),())) else none else some (.inl (branch,v,v13,wr .i64 (v14+1),c,l,l15,l16,l17,l18,()));bif !r22 then k true else match qbg r19 branch with|some r24 =>k (!r24)|none =>none)|none =>none)|none =>none)|none =>none else some (.inr ((l15,l16,l17,l18,())))
def qd5:(Int×Int×(List Problem)×(List Int)×(List Int)×(List Int)×(List Int)×(List Int)×Unit)→Option ((Int×Int×(List Problem)×(List Int)×(List Int)×(List Int)×(List Int)×(List Int)×Unit)⊕(((List Problem)×(List Int)×(List Int)×(List Int)×(List Int)×Unit))):=fun (v,v33,l,l34,l35,l36,l37,l38,_)=>
 bif decide (v33<v) then match j5 l38 v33 with|some _ =>(match l38[v33.toNat]? with|some x =>bif decide (l.length+([(⟨0,x,[],0⟩:Problem)]:List Problem).length≤LIM) then some (.inl (v,wr .i64 (v33+1),l++([(⟨0,x,[],0⟩:Problem)]:List Problem),l34,l35,l36,l37,l38,())) else none|none =>none)|none =>none else some (.inr ((l,l34,l35,l36,l37,())))
def qd4:(Int×Int×(List Problem)×(List Int)×(List Int)×(List Int)×(List Int)×Unit)→Option ((Int×Int×(List Problem)×(List Int)×(List Int)×(List Int)×(List Int)×Unit)⊕(((List Problem)×(List Int)×(List Int)×(List Int)×Unit))):=fun (v,v48,l,l49,l50,l51,l52,_)=>
 bif decide (v48<v) then match j5 l52 v48 with|some _ =>(match l52[v48.toNat]? with|some x =>bif decide (l.length+([(⟨1,x,[],0⟩:Problem)]:List Problem).length≤LIM) then some (.inl (v,wr .i64 (v48+1),l++([(⟨1,x,[],0⟩:Problem)]:List Problem),l49,l50,l51,l52,())) else none|none =>none)|none =>none else some (.inr ((l,l49,l50,l51,())))
def qd3:(Int×Int×(List Problem)×(List Int)×(List Int)×(List Int)×Unit)→Option ((Int×Int×(List Problem)×(List Int)×(List Int)×(List Int)×Unit)⊕(((List Problem)×(List Int)×(List Int)×Unit))):=fun (v,v61,l,l62,l63,l64,_)=>
 bif decide (v61<v) then match j5 l64 v61 with|some _ =>(match l64[v61.toNat]? with|some x =>bif decide (l.length+([(⟨2,x,[],0⟩:Problem)]:List Problem).length≤LIM) then some (.inl (v,wr .i64 (v61+1),l++([(⟨2,x,[],0⟩:Problem)]:List Problem),l62,l63,l64,())) else none|none =>none)|none =>none else some (.inr ((l,l62,l63,())))
def qd2:(Int×Int×(List Problem)×(List Int)×(List Int)×Unit)→Option ((Int×Int×(List Problem)×(List Int)×(List Int)×Unit)⊕(((List Problem)×(List Int)×Unit))):=fun (v,v72,l,l73,l74,_)=>
 bif decide (v72<v) then match j5 l74 v72 with|some _ =>(match l74[v72.toNat]? with|some x =>bif decide (l.length+([(⟨3,x,[],0⟩:Problem)]:List Problem).length≤LIM) then some (.inl (v,wr .i64 (v72+1),l++([(⟨3,x,[],0⟩:Problem)]:List Problem),l73,l74,())) else none|none =>none)|none =>none else some (.inr ((l,l73,())))
def qd1:(Int×Int×(List Problem)×(List Int)×Unit)→Option ((Int×Int×(List Problem)×(List Int)×Unit)⊕(((List Problem)×Unit))):=fun (v,v81,l,l82,_)=>
 bif decide (v81<v) then match j5 l82 v81 with|some _ =>(match l82[v81.toNat]? with|some x =>bif decide (l.length+([(⟨4,x,[],0⟩:Problem)]:List Problem).length≤LIM) then some (.inl (v,wr .i64 (v81+1),l++([(⟨4,x,[],0⟩:Problem)]:List Problem),l82,())) else none|none =>none)|none =>none else some (.inr ((l,())))
def qa (c:Circ) (branch:Int) (l:List Int):Option (List Problem):=
 match qal l with|some (r1,m) =>(match qbu branch with|some r3 =>(bif r3 then match qy c branch with|some r5 =>(match c9 b6o (branch,r1,r5,(r5.length:Int),0,c,m,([]:List Int),()) with|some ((branch9,ids,c10,l11,l12,_)) =>(match c9 a6a (branch9,ids,(ids.length:Int),0,c10,l11,l12,([]:List Int),([]:List Int),([]:List Int),()) with|some ((l26,l27,l28,l29,_)) =>(match qa0 ([]:List Int) with|some _ =>(match qax ([]:List Int) with|some l32 =>(match c9 qd5 ((l32.length:Int),0,([]:List Problem),l26,l27,l28,l29,l32,()) with|some ((l39,l40,l41,l42,l43,_)) =>(match qa0 l40 with|some l45 =>(match qax l45 with|some l47 =>(match c9 qd4 ((l47.length:Int),0,l39,l41,l42,l43,l47,()) with|some ((l53,l54,l55,l56,_)) =>(match qa0 l55 with|some l58 =>(match qax l58 with|some l60 =>(match c9 qd3 ((l60.length:Int),0,l53,l54,l56,l60,()) with|some ((l65,l66,l67,_)) =>(match qa0 l66 with|some l69 =>(match qax l69 with|some l71 =>(match c9 qd2 ((l71.length:Int),0,l65,l67,l71,()) with|some ((l75,l76,_)) =>(match qa0 l76 with|some l78 =>(match qax l78 with|some l80 =>(match c9 qd1 ((l80.length:Int),0,l75,l80,()) with|some ((l83,_)) =>some l83|none =>none)|none =>none)|none =>none)|none =>none)|none =>none)|none =>none)|none =>none)|none =>none)|none =>none)|none =>none)|none =>none)|none =>none)|none =>none)|none =>none)|none =>none)|none =>none)|none =>none)|none =>none else match c9 a6a (branch,r1,(r1.length:Int),0,c,m,([]:List Int),([]:List Int),([]:List Int),([]:List Int),()) with|some ((l84,l85,l86,l87,_)) =>(match qa0 ([]:List Int) with|some _ =>(match qax ([]:List Int) with|some l90 =>(match c9 qd5 ((l90.length:Int),0,([]:List Problem),l84,l85,l86,l87,l90,()) with|some ((l91,l92,l93,l94,l95,_)) =>(match qa0 l92 with|some l97 =>(match qax l97 with|some l99 =>(match c9 qd4 ((l99.length:Int),0,l91,l93,l94,l95,l99,()) with|some ((l100,l101,l102,l103,_)) =>(match qa0 l102 with|some l105 =>(match qax l105 with|some l107 =>(match c9 qd3 ((l107.length:Int),0,l100,l101,l103,l107,()) with|some ((l108,l109,l110,_)) =>(match qa0 l109 with|some l112 =>(match qax l112 with|some l114 =>(match c9 qd2 ((l114.length:Int),0,l108,l110,l114,()) with|some ((l115,l116,_)) =>(match qa0 l116 with|some l118 =>(match qax l118 with|some l120 =>(match c9 qd1 ((l120.length:Int),0,l115,l120,()) with|some ((l121,_)) =>some l121|none =>none)|none =>none)|none =>none)|none =>none)|none =>none)|none =>none)|none =>none)|none =>none)|none =>none)|none =>none)|none =>none)|none =>none)|none =>none)|none =>none)|none =>none)|none =>none)|none =>none)|none =>none
def qbq (c:Circ):Option Circ_desk:=
 some (⟨c,0⟩:Circ_desk)
def qcq (x:Item) (v:Int):Option Bool:=
 some (x.ID==v)
def qbe (c:Circ) (item:Int):Option Int:=
 match qi (fun g x0=>qcq x0 g.2.1) c.Items ((),(item,())) with|some r1 =>some r1|none =>none
def qo (e:Int) (d:Circ_desk):Option (Unit×Circ_desk):=
 let k (v:Int):Option (Unit×Circ_desk):=some ((),(⟨d.c,v⟩:Circ_desk));bif d.err==0 then k e else k d.err
def qb8 (vid:Int) (d:Circ_desk):Option (Int×Circ_desk):=
 match qbe d.c vid with|some r1 =>let k (v3:Circ_desk):Option (Int×Circ_desk):=some (r1,v3);bif decide (r1<0) then match qo 9 d with|some (_,v) =>k v|none =>none else k d|none =>none
def qw (d:Circ_desk):Option ((Circ×Int)×Circ_desk):=
 bif !(d.err==0) then some ((ZN,d.err),d) else some ((d.c,0),d)
def qa8 (n:Int) (least:Int) (most:Int):Option Bool:=
 let k (v:Bool):Option Bool:=some v;bif decide (least≤n) then k (decide (n≤most)) else k false
def qdr (c:Custody):Option Bool:=
 match qa8 c.State 1 12 with|some r1 =>(let k23 (v:Bool):Option Bool:=bif v then some false else let k22 (v7:Bool):Option Bool:=let k19 (v18:Bool):Option Bool:=some v18;bif v7 then match qa8 c.Who 1 9999 with|some r9 =>bif r9 then k19 (c.To==0) else k19 false|none =>none else bif c.State==6 then match qa8 c.Who 0 9999 with|some r12 =>let k (v15:Bool):Option Bool:=bif v15 then k19 (!(c.To==c.Branch)) else k19 false;bif r12 then match qa8 c.To 1 4 with|some r14 =>k r14|none =>none else k false|none =>none else let k21 (v20:Bool):Option Bool:=some v20;bif c.Who==0 then k21 (c.To==0) else k21 false;bif c.State==4 then k22 (c.State==4) else bif c.State==5 then k22 (c.State==5) else bif c.State==8 then k22 (c.State==8) else bif c.State==9 then k22 (c.State==9) else k22 (c.State==10);bif !r1 then k23 true else match qa8 c.Branch 1 4 with|some r3 =>k23 (!r3)|none =>none)|none =>none
def qdp (state:Int) (kind:Int):Option Bool:=
 match qa8 state 1 12 with|some r1 =>let k5 (v:Bool):Option Bool:=let k (v4:Bool):Option Bool:=some v4;bif v then match j5 u3 state with|some x =>bif decide (kind<0) then none else k ((wr .u16 (BitVec.ofInt 16 (x.fdiv (2 ^ (min kind.toNat 16))) &&& BitVec.ofInt 16 1).toNat)==1)|none =>none else k false;bif r1 then match qa8 kind 1 15 with|some r3 =>k5 r3|none =>none else k5 false|none =>none
def qbm (c:Custody) (ok:Bool):Option (Custody×Int):=
 bif !ok then some ((⟨0,0,0,0⟩:Custody),1) else some (c,0)
def qdu (c:Custody) (m:Move):Option (Custody×Int):=
 match qbm (⟨6,c.Branch,m.Who,m.Branch⟩:Custody) (!(m.Branch==c.Branch)) with|some (r1,r2) =>some (r1,r2)|none =>none
def qds (c:Custody) (m:Move):Option (Custody×Int):=
 match qdr c with|some r1 =>(let k95 (v:Bool):Option (Custody×Int):=let k94 (v6:Bool):Option (Custody×Int):=let k93 (v9:Bool):Option (Custody×Int):=let k92 (v12:Bool):Option (Custody×Int):=let k91 (v15:Bool):Option (Custody×Int):=bif v15 then some ((⟨0,0,0,0⟩:Custody),1) else match qdp c.State m.Kind with|some r17 =>bif !r17 then some ((⟨0,0,0,0⟩:Custody),12) else let k90 (v18:Bool):Option (Custody×Int):=let k89 (v19:Bool):Option (Custody×Int):=bif v19 then some ((⟨0,0,0,0⟩:Custody),16) else let k88 (v22:Bool):Option (Custody×Int):=let k84 (state79:Int) (ok80:Bool):Option (Custody×Int):=match qbm (⟨state79,m.Branch,m.Who,0⟩:Custody) ok80 with|some (r82,r83) =>some (r82,r83)|none =>none;let k87 (v85:Int) (v86:Custody):Option (Custody×Int):=some (v86,v85);bif v22 then k84 2 (m.Who==0) else bif m.Kind==7 then bif m.Who==0 then k84 2 (m.Branch==c.To) else k84 2 false else bif m.Kind==6 then match qdu c m with|some (r25,r26) =>k87 r26 r25|none =>none else bif m.Kind==3 then bif m.Branch==c.Branch then k84 4 (!(m.Who==0)) else k84 4 false else bif m.Kind==5 then bif m.Branch==c.Branch then k84 5 (!(m.Who==0)) else k84 5 false else bif m.Kind==10 then bif m.Branch==c.Branch then k84 8 (!(m.Who==0)) else k84 8 false else bif m.Kind==2 then bif m.Branch==c.Branch then k84 3 (m.Who==0) else k84 3 false else bif m.Kind==8 then bif m.Branch==c.Branch then k84 7 (m.Who==0) else k84 7 false else bif m.Kind==11 then let k (v32:Bool):Option (Custody×Int):=match qbm (⟨9,c.Branch,c.Who,0⟩:Custody) v32 with|some (r34,r35) =>k87 r35 r34|none =>none;bif m.Branch==c.Branch then k (m.Who==0) else k false else bif m.Kind==12 then let k40 (v36:Bool):Option (Custody×Int):=match qbm (⟨10,c.Branch,c.Who,0⟩:Custody) v36 with|some (r38,r39) =>k87 r39 r38|none =>none;bif m.Branch==c.Branch then k40 (m.Who==0) else k40 false else bif m.Kind==13 then bif m.Branch==c.Branch then k84 11 (m.Who==0) else k84 11 false else bif m.Kind==15 then bif m.Branch==c.Branch then k84 12 (m.Who==0) else k84 12 false else k84 0 false;bif m.Kind==1 then k88 (m.Kind==1) else bif m.Kind==4 then k88 (m.Kind==4) else bif m.Kind==9 then k88 (m.Kind==9) else k88 (m.Kind==14);bif v18 then k89 (!(m.Who==c.Who)) else k89 false;bif m.Kind==3 then k90 (c.State==5) else k90 false|none =>none;bif v12 then k91 true else match qa8 m.Who 0 9999 with|some r14 =>k91 (!r14)|none =>none;bif v9 then k92 true else match qa8 m.Branch 1 4 with|some r11 =>k92 (!r11)|none =>none;bif v6 then k93 true else match qa8 m.Kind 1 15 with|some r8 =>k93 (!r8)|none =>none;bif v then k94 true else match qa8 m.Item 1 9999 with|some r5 =>k94 (!r5)|none =>none;bif !r1 then k95 true else match qa8 m.Day 0 109572 with|some r3 =>k95 (!r3)|none =>none)|none =>none
def qcl (s:List Item):Option (List Item):=
 bif decide (([]:List Item).length+s.length≤LIM) then some (([])++s) else none
def qcy (s:List Move):Option (List Move):=
 bif decide (([]:List Move).length+s.length≤LIM) then some (([])++s) else none
def qa3 (i:Int) (kind:Int) (branch:Int) (who:Int) (d:Circ_desk):Option (Unit×Circ_desk):=
 bif !(d.err==0) then some ((),d) else match j5 d.c.Items i with|some x =>(match j5 d.c.Items i with|some x1 =>(match qds x1.Custody (⟨d.c.Today,x.ID,kind,branch,who⟩:Move) with|some (r2,r3) =>let k10 (v:Bool):Option (Unit×Circ_desk):=let k (e:Int):Option (Unit×Circ_desk):=bif !(e==0) then match qo e d with|some (_,v5) =>some ((),v5)|none =>none else match qcl d.c.Items with|some l =>(match j5 l i with|some _ =>(match l[i.toNat]? with|some x7 =>(match qcy d.c.Moves with|some l9 =>bif decide (l9.length+([(⟨d.c.Today,x.ID,kind,branch,who⟩:Move)]:List Move).length≤LIM) then some ((),(⟨⟨d.c.Today,l.set i.toNat (⟨x7.ID,x7.Record,x7.Branch,x7.Kind,x7.Price,x7.Call,r2⟩:Item),d.c.Patrons,d.c.Loans,d.c.Holds,d.c.Charges,d.c.Rules,d.c.Cals,l9++([(⟨d.c.Today,x.ID,kind,branch,who⟩:Move)]:List Move),d.c.NextHold,d.c.NextCharge,d.c.Local⟩,d.err⟩:Circ_desk)) else none|none =>none)|none =>none)|none =>none)|none =>none;bif v then k 13 else k r3;bif r3==0 then k10 (decide (2000≤(d.c.Moves.length:Int))) else k10 false|none =>none)|none =>none)|none =>none
def qbh (i:Int) (kind:Int) (d:Circ_desk):Option (Unit×Circ_desk):=
 let k (v1:Circ_desk):Option (Unit×Circ_desk):=some ((),v1);bif d.err==0 then match j5 d.c.Items i with|some x =>(match qa3 i kind x.Custody.Branch 0 d with|some (_,v) =>k v|none =>none)|none =>none else k d
def qdg (n:Int):Option Bool:=
 let k (v:Bool):Option Bool:=some v;bif decide (1≤n) then k (decide (n≤9999)) else k false
def qcr (n:Int):Option Bool:=
 let k (v:Bool):Option Bool:=some v;bif decide (0≤n) then k (decide (n≤109572)) else k false
def qbd (x:Charge):Option Int:=
 let k22 (v:Bool):Option Int:=let k21 (v2:Bool):Option Int:=let k20 (v5:Bool):Option Int:=let k19 (v8:Bool):Option Int:=let k18 (v17:Int):Option Int:=some v17;bif v8 then k18 2 else let k16 (v9:Bool):Option Int:=bif v9 then k18 1 else let k14 (v10:Bool):Option Int:=let k13 (v11:Bool):Option Int:=let k (v12:Bool):Option Int:=bif v12 then k18 2 else some 0;bif v11 then k true else k (decide (x.Amount≤x.Paid));bif v10 then k13 true else k13 (decide (x.Paid<0));bif decide (x.Amount<1) then k14 true else k14 (decide (100000000<x.Amount));bif decide (x.Kind<1) then k16 true else k16 (decide (3<x.Kind));bif v5 then k19 true else match qcr x.Day with|some r7 =>k19 (!r7)|none =>none;bif v2 then k20 true else match qdg x.Item with|some r4 =>k20 (!r4)|none =>none;bif v then k21 true else match qdg x.Patron with|some r1 =>k21 (!r1)|none =>none;bif decide (x.ID<1) then k22 true else k22 (decide (99999<x.ID))
def d6y:((List Charge)×(List Charge)×Int×Int×Unit)→Option (((List Charge)×(List Charge)×Int×Int×Unit)⊕((Unit)⊕(Int×Unit))):=fun (l,v,v1,v2,_)=>
 bif decide (v2<v1) then match j5 v v2 with|some x =>let k (v4:Bool):Option (((List Charge)×(List Charge)×Int×Int×Unit)⊕((Unit)⊕(Int×Unit))):=bif v4 then some (.inr (.inr (7,()))) else match qbd x with|some r5 =>bif !(r5==0) then some (.inr (.inr (r5,()))) else some (.inl (l,v,v1,wr .i64 (v2+1),()))|none =>none;bif decide (0<v2) then match j5 l (wr .i64 (v2-1)) with|some x3 =>k (decide (x.ID≤x3.ID))|none =>none else k false|none =>none else some (.inr (.inl (())))
def qa4 (l:List Charge):Option Int:=
 bif decide (128<(l.length:Int)) then some 13 else match c9 d6y (l,l,(l.length:Int),0,()) with|some (.inl (_)) =>some 0|some (.inr (v,_)) =>some v|none =>none
def qb2 (l:List Charge) (c:Charge):Option ((List Charge)×Int):=
 bif decide (l.length≤LIM) then bif decide (l.length+([c]:List Charge).length≤LIM) then match qa4 (l++([c]:List Charge)) with|some r1 =>bif !(r1==0) then some ([],r1) else some (l++([c]:List Charge),0)|none =>none else none else none
def qc0 (vid:Int) (item:Int) (kind:Int) (amount:Int) (d:Circ_desk):Option (Unit×Circ_desk):=
 bif !(d.err==0) then some ((),d) else bif decide (99999<d.c.NextCharge) then match qo 13 d with|some (_,v) =>some ((),v)|none =>none else match qb2 d.c.Charges (⟨d.c.NextCharge,vid,item,d.c.Today,kind,amount,0⟩:Charge) with|some (r2,r3) =>bif !(r3==0) then match qo r3 d with|some (_,v5) =>some ((),v5)|none =>none else some ((),(⟨⟨d.c.Today,d.c.Items,d.c.Patrons,d.c.Loans,d.c.Holds,r2,d.c.Rules,d.c.Cals,d.c.Moves,d.c.NextHold,wr .i64 (d.c.NextCharge+1),d.c.Local⟩,d.err⟩:Circ_desk))|none =>none
def qbi (h:Hold) (v:Int):Option Bool:=
 some (h.Got==v)
def c7y {γ0:Type} (p:γ0→Hold→Option Bool):((List Hold)×γ0×Int×Int×Unit)→Option (((List Hold)×γ0×Int×Int×Unit)⊕((Unit)⊕(Int×Unit))):=fun (s,g,v,v1,_)=>
 bif decide (v1<v) then match j5 s v1 with|some x =>(match p g x with|some r =>bif r then some (.inr (.inr (v1,()))) else some (.inl (s,g,v,wr .i64 (v1+1),()))|none =>none)|none =>none else some (.inr (.inl (())))
def qc {γ0:Type} (p:γ0→Hold→Option Bool) (s:List Hold) (g:γ0):Option Int:=
 match c9 (c7y p) (s,g,(s.length:Int),0,()) with|some (.inl (_)) =>some (-1)|some (.inr (v,_)) =>some v|none =>none
def qau (c:Circ) (item:Int):Option (Hold×Bool):=
 match qc (fun g x0=>qbi x0 g.2.1) c.Holds ((),(item,())) with|some r1 =>(bif decide (r1<0) then some ((⟨0,0,0,0,0,0,0,0,0,0,0⟩:Hold),false) else match j5 c.Holds r1 with|some x =>some (x,true)|none =>none)|none =>none
def qcp (h:Hold) (v:Int):Option Bool:=
 some (h.Got==v)
def qb5 (s:List Hold):Option (List Hold):=
 bif decide (([]:List Hold).length+s.length≤LIM) then some (([])++s) else none
def qcf (l:List Hold) (i:Int) (h:Hold):Option (List Hold):=
 match qb5 l with|some l1 =>(match j5 l1 i with|some _ =>(match l1[i.toNat]? with|some x =>some (l1.set i.toNat h)|none =>none)|none =>none)|none =>none
def qaw (l:List Hold) (item:Int):Option ((List Hold)×Int):=
 match qc (fun g x0=>qcp x0 g.2.1) l ((),(item,())) with|some r1 =>let k (v:Bool):Option ((List Hold)×Int):=bif v then some ([],9) else match j5 l r1 with|some x =>(match qcf l r1 (⟨x.ID,x.Patron,x.Record,x.Item,x.Pickup,x.Placed,1,0,0,x.Asleep,x.Rank⟩:Hold) with|some r3 =>some (r3,0)|none =>none)|none =>none;bif decide (r1<0) then k true else k (item==0)|none =>none
def qbn (l:List Hold) (e:Int) (d:Circ_desk):Option (Unit×Circ_desk):=
 let k3 (v1:Circ_desk):Option (Unit×Circ_desk):=let k (v2:List Hold):Option (Unit×Circ_desk):=some ((),(⟨⟨v1.c.Today,v1.c.Items,v1.c.Patrons,v1.c.Loans,v2,v1.c.Charges,v1.c.Rules,v1.c.Cals,v1.c.Moves,v1.c.NextHold,v1.c.NextCharge,v1.c.Local⟩,v1.err⟩:Circ_desk));bif v1.err==0 then k l else k v1.c.Holds;bif !(e==0) then match qo e d with|some (_,v) =>k3 v|none =>none else k3 d
def qa6 (a:Hold) (b:Hold):Option Int:=
 some (wr .i64 (b.Rank-a.Rank))
def f05 {γ0:Type} (p:γ0→Hold→Hold→Option Int):(Int×Int×γ0×Int×Int×(List Hold)×Unit)→Option ((Int×Int×γ0×Int×Int×(List Hold)×Unit)⊕((Int×Int×γ0×Int×(List Hold)×Unit))):=fun (a,b,g,i,j,l,_)=>
 let k (v:Bool):Option ((Int×Int×γ0×Int×Int×(List Hold)×Unit)⊕((Int×Int×γ0×Int×(List Hold)×Unit))):=bif v then match j5 l (wr .i64 (j-1)) with|some _ =>(match l[(wr .i64 (j-1)).toNat]? with|some x2 =>(match j5 l j with|some _ =>(match l[j.toNat]? with|some x3 =>(match j5 l j with|some _ =>(match l[j.toNat]? with|some x4 =>(match j5 (l.set j.toNat x2) (wr .i64 (j-1)) with|some _ =>(match (l.set j.toNat x2)[(wr .i64 (j-1)).toNat]? with|some x5 =>some (.inl (a,b,g,i,wr .i64 (j-1),(l.set j.toNat x2).set (wr .i64 (j-1)).toNat x3,()))|none =>none)|none =>none)|none =>none)|none =>none)|none =>none)|none =>none)|none =>none)|none =>none else some (.inr ((a,b,g,i,l,())));bif decide (a<j) then match j5 l j with|some _ =>(match l[j.toNat]? with|some x =>(match j5 l (wr .i64 (j-1)) with|some _ =>(match l[(wr .i64 (j-1)).toNat]? with|some x1 =>(match p g x x1 with|some r =>k (decide (r<0))|none =>none)|none =>none)|none =>none)|none =>none)|none =>none else k false
def f04 {γ0:Type} (p:γ0→Hold→Hold→Option Int):(Int×Int×γ0×Int×(List Hold)×Unit)→Option ((Int×Int×γ0×Int×(List Hold)×Unit)⊕(((List Hold)×Unit))):=fun (a,b,g,i,l,_)=>
 bif decide (i<b) then match c9 (f05 p) (a,b,g,i,i,l,()) with|some ((a6,b7,g8,i9,l10,_)) =>some (.inl (a6,b7,g8,wr .i64 (i9+1),l10,()))|none =>none else some (.inr ((l,())))
def qk {γ0:Type} (p:γ0→Hold→Hold→Option Int) (data:List Hold) (a:Int) (b:Int) (g:γ0):Option (List Hold):=
 match c9 (f04 p) (a,b,g,wr .i64 (a+1),data,()) with|some ((l,_)) =>some l|none =>none
def f01 {γ0:Type} (p:γ0→Hold→Hold→Option Int):(Int×γ0×Int×Int×Int×(List Hold)×Unit)→Option ((Int×γ0×Int×Int×Int×(List Hold)×Unit)⊕((Int×γ0×Int×Int×(List Hold)×Unit))):=fun (n,g,blockSize,a,b,l,_)=>
 bif decide (b≤n) then match qk p l a b g with|some l1 =>some (.inl (n,g,blockSize,b,wr .i64 (b+blockSize),l1,()))|none =>none else some (.inr ((n,g,blockSize,a,l,())))
def f03 {γ0:Type} (p:γ0→Hold→Hold→Option Int):(Int×γ0×Int×Int×Int×(List Hold)×Unit)→Option ((Int×γ0×Int×Int×Int×(List Hold)×Unit)⊕((Int×γ0×Int×Int×(List Hold)×Unit))):=fun (n,g,blockSize,a,b,l,_)=>
 bif decide (b≤n) then match qbr p l a (wr .i64 (a+blockSize)) b g with|some l5 =>some (.inl (n,g,blockSize,b,wr .i64 (b+(wr .i64 (2*blockSize))),l5,()))|none =>none else some (.inr ((n,g,blockSize,a,l,())))
def f02 {γ0:Type} (p:γ0→Hold→Hold→Option Int):(Int×γ0×Int×(List Hold)×Unit)→Option ((Int×γ0×Int×(List Hold)×Unit)⊕(((List Hold)×Unit))):=fun (n,g,blockSize,l,_)=>
 bif decide (blockSize<n) then match c9 (f03 p) (n,g,blockSize,0,wr .i64 (2*blockSize),l,()) with|some ((n6,g7,blockSize8,a,l9,_)) =>let k (l11:List Hold):Option ((Int×γ0×Int×(List Hold)×Unit)⊕(((List Hold)×Unit))):=some (.inl (n6,g7,wr .i64 (blockSize8*2),l11,()));bif decide (wr .i64 (a+blockSize8)<n6) then match qbr p l9 a (wr .i64 (a+blockSize8)) n6 g7 with|some l10 =>k l10|none =>none else k l9|none =>none else some (.inr ((l,())))
def qj {γ0:Type} (p:γ0→Hold→Hold→Option Int) (data:List Hold) (n:Int) (g:γ0):Option (List Hold):=
 match c9 (f01 p) (n,g,20,0,20,data,()) with|some ((n2,g3,blockSize,a,l,_)) =>(match qk p l a n2 g3 with|some l4 =>(match c9 (f02 p) (n2,g3,blockSize,l4,()) with|some ((l12,_)) =>some l12|none =>none)|none =>none)|none =>none
def qch {γ0:Type} (p:γ0→Hold→Hold→Option Int) (x:List Hold) (g:γ0):Option (List Hold):=
 match qj p x (x.length:Int) g with|some l =>some l|none =>none
def f00:(Int×Int×(List Hold)×Int×Int×(List Hold)×Unit)→Option ((Int×Int×(List Hold)×Int×Int×(List Hold)×Unit)⊕(((List Hold)×Unit))):=fun (record,day,v,v1,v2,l,_)=>
 bif decide (v2<v1) then match j5 v v2 with|some x =>let k5 (v3:Bool):Option ((Int×Int×(List Hold)×Int×Int×(List Hold)×Unit)⊕(((List Hold)×Unit))):=let k (v4:Bool):Option ((Int×Int×(List Hold)×Int×Int×(List Hold)×Unit)⊕(((List Hold)×Unit))):=bif v4 then bif decide (l.length+([x]:List Hold).length≤LIM) then some (.inl (record,day,v,v1,wr .i64 (v2+1),l++([x]:List Hold),())) else none else some (.inl (record,day,v,v1,wr .i64 (v2+1),l,()));bif v3 then k (decide (x.Asleep≤day)) else k false;bif x.Record==record then k5 (x.State==1) else k5 false|none =>none else some (.inr ((l,())))
def qf (l:List Hold) (record:Int) (day:Int):Option (List Hold):=
 match c9 f00 (record,day,l,(l.length:Int),0,([]:List Hold),()) with|some ((l6,_)) =>(match qch (fun g x0 x1=>qa6 x0 x1) l6 ((),()) with|some l7 =>some l7|none =>none)|none =>none
def d67:(Int×Bool×Int×(List Hold)×Int×Int×Item×Unit)→Option ((Int×Bool×Int×(List Hold)×Int×Int×Item×Unit)⊕((Int×Unit)⊕(Int×Unit))):=fun (branch,vlocal,first,v,v2,v3,x,_)=>
 bif decide (v3<v2) then match j5 v v3 with|some x4 =>let k9 (v5:Bool):Option ((Int×Bool×Int×(List Hold)×Int×Int×Item×Unit)⊕((Int×Unit)⊕(Int×Unit))):=bif v5 then some (.inl (branch,vlocal,first,v,v2,wr .i64 (v3+1),x,())) else let k8 (v6:Bool):Option ((Int×Bool×Int×(List Hold)×Int×Int×Item×Unit)⊕((Int×Unit)⊕(Int×Unit))):=bif v6 then some (.inr (.inr (x4.ID,()))) else let k (first7:Int):Option ((Int×Bool×Int×(List Hold)×Int×Int×Item×Unit)⊕((Int×Unit)⊕(Int×Unit))):=some (.inl (branch,vlocal,first7,v,v2,wr .i64 (v3+1),x,()));bif first==0 then k x4.ID else k first;bif !vlocal then k8 true else k8 (x4.Pickup==branch);bif !(x4.Item==0) then k9 (!(x4.Item==x.ID)) else k9 false|none =>none else some (.inr (.inl (first,())))
def qat (l:List Hold) (x:Item) (branch:Int) (day:Int) (vlocal:Bool):Option Int:=
 match qf l x.Record day with|some r1 =>(match c9 d67 (branch,vlocal,0,r1,(r1.length:Int),0,x,()) with|some (.inl (first,_)) =>some first|some (.inr (v,_)) =>some v|none =>none)|none =>none
def qb0 (c:Circ) (x:Item):Option Int:=
 match qat c.Holds x x.Custody.Branch c.Today c.Local with|some r1 =>some r1|none =>none
def qco (h:Hold) (v:Int):Option Bool:=
 some (h.ID==v)
def qbc (l:List Hold) (vid:Int):Option Int:=
 match qc (fun g x0=>qco x0 g.2.1) l ((),(vid,())) with|some r1 =>some r1|none =>none
def qd0 (l:List Hold) (vid:Int):Option (Hold×Bool):=
 match qbc l vid with|some r1 =>bif decide (0≤r1) then match j5 l r1 with|some x =>some (x,true)|none =>none else some ((⟨0,0,0,0,0,0,0,0,0,0,0⟩:Hold),false)|none =>none
def qbv (p:Patron) (v:Int):Option Bool:=
 some (p.ID==v)
def d64 {γ0:Type} (p:γ0→Patron→Option Bool):((List Patron)×γ0×Int×Int×Unit)→Option (((List Patron)×γ0×Int×Int×Unit)⊕((Unit)⊕(Int×Unit))):=fun (s,g,v,v1,_)=>
 bif decide (v1<v) then match j5 s v1 with|some x =>(match p g x with|some r =>bif r then some (.inr (.inr (v1,()))) else some (.inl (s,g,v,wr .i64 (v1+1),()))|none =>none)|none =>none else some (.inr (.inl (())))
def qap {γ0:Type} (p:γ0→Patron→Option Bool) (s:List Patron) (g:γ0):Option Int:=
 match c9 (d64 p) (s,g,(s.length:Int),0,()) with|some (.inl (_)) =>some (-1)|some (.inr (v,_)) =>some v|none =>none
def qba (l:List Patron) (vid:Int):Option Int:=
 match qap (fun g x0=>qbv x0 g.2.1) l ((),(vid,())) with|some r1 =>some r1|none =>none
def qdw (l:List Patron) (vid:Int):Option (Patron×Bool):=
 match qba l vid with|some r1 =>(bif decide (r1<0) then some ((⟨0,0,0,0,false,[]⟩:Patron),false) else match j5 l r1 with|some x =>some (x,true)|none =>none)|none =>none
def qc4 (key:Int) (n:Int):Option Bool:=
 let k (v:Bool):Option Bool:=some v;bif key==0 then k true else k (key==n)
def qbb (r:Rule) (patron:Int) (item:Int) (branch:Int):Option Bool:=
 match qc4 r.Patron patron with|some r2 =>let k8 (v:Bool):Option Bool:=let k (v7:Bool):Option Bool:=some v7;bif v then match qc4 r.Branch branch with|some r6 =>k r6|none =>none else k false;bif r2 then match qc4 r.Item item with|some r4 =>k8 r4|none =>none else k8 false|none =>none
def d65:(Int×Int×Int×(List Int)×Unit)→Option ((Int×Int×Int×(List Int)×Unit)⊕((Int×Unit))):=fun (n,v,v1,l,_)=>
 bif decide (v1<v) then match j5 l v1 with|some _ =>(match l[v1.toNat]? with|some x =>let k (n2:Int):Option ((Int×Int×Int×(List Int)×Unit)⊕((Int×Unit))):=some (.inl (n2,v,wr .i64 (v1+1),l,()));bif !(x==0) then k (wr .i64 ((wr .i64 (n*2))+1)) else k (wr .i64 (n*2))|none =>none)|none =>none else some (.inr ((n,())))
def qaq (r:Rule):Option Int:=
 match c9 d65 (0,(([r.Patron,r.Item,r.Branch]).length:Int),0,[r.Patron,r.Item,r.Branch],()) with|some ((n,_)) =>some n|none =>none
def d63:((List Rule)×Int×Int×Int×Int×(List Rule)×Int×Int×Unit)→Option (((List Rule)×Int×Int×Int×Int×(List Rule)×Int×Int×Unit)⊕((Int×Unit))):=fun (l,patron,item,branch,vat,v,v1,v2,_)=>
 bif decide (v2<v1) then match j5 v v2 with|some x =>(match qbb x patron item branch with|some r3 =>let k12 (v10:Bool):Option (((List Rule)×Int×Int×Int×Int×(List Rule)×Int×Int×Unit)⊕((Int×Unit))):=let k (vat11:Int):Option (((List Rule)×Int×Int×Int×Int×(List Rule)×Int×Int×Unit)⊕((Int×Unit))):=some (.inl (l,patron,item,branch,vat11,v,v1,wr .i64 (v2+1),()));bif v10 then k v2 else k vat;bif r3 then bif decide (vat<0) then k12 true else match qaq x with|some r5 =>(match j5 l vat with|some x6 =>(match qaq x6 with|some r8 =>k12 (decide (r8<r5))|none =>none)|none =>none)|none =>none else k12 false|none =>none)|none =>none else some (.inr ((vat,())))
def qao (l:List Rule) (patron:Int) (item:Int) (branch:Int):Option Int:=
 match c9 d63 (l,patron,item,branch,(-1),l,(l.length:Int),0,()) with|some ((vat,_)) =>some vat|none =>none
def qcn (l:List Rule) (patron:Int) (item:Int) (branch:Int):Option (Rule×Bool):=
 match qao l patron item branch with|some r1 =>(bif decide (r1<0) then some ((⟨0,0,0,0,0,0,0,0,0,0,0,0,0⟩:Rule),false) else match j5 l r1 with|some x =>some (x,true)|none =>none)|none =>none
def qcd (c:Circ) (vid:Int) (x:Item):Option (Rule×Bool):=
 match qdw c.Patrons vid with|some (r1,r2) =>(bif !r2 then some ((⟨0,0,0,0,0,0,0,0,0,0,0,0,0⟩:Rule),false) else match qcn c.Rules r1.Kind x.Kind x.Branch with|some (r4,r5) =>some (r4,r5)|none =>none)|none =>none
def qdv (n:Int) (low:Int) (high:Int):Option Bool:=
 let k (v:Bool):Option Bool:=some v;bif decide (low≤n) then k (decide (n≤high)) else k false
def qcg (c:Circ) (branch:Int):Option Calendar:=
 match qdv branch 1 4 with|some r1 =>bif !r1 then some (⟨0,[]⟩:Calendar) else let k (v:Int) (v2:List Int):Option Calendar:=some (⟨v,v2⟩:Calendar);bif (wr .i64 (branch-1))==0 then k c.Cals.x0.Week c.Cals.x0.Closed else bif (wr .i64 (branch-1))==1 then k c.Cals.x1.Week c.Cals.x1.Closed else bif (wr .i64 (branch-1))==2 then k c.Cals.x2.Week c.Cals.x2.Closed else bif (wr .i64 (branch-1))==3 then k c.Cals.x3.Week c.Cals.x3.Closed else none|none =>none
def qbw (d:Int):Option Bool:=
 let k (v:Bool):Option Bool:=some v;bif decide (0≤d) then k (decide (d≤109572)) else k false
def qde (x:Int):Option Bool:=
 some (!(x==x))
def qdh (x:Int) (y:Int):Option Bool:=
 match qde x with|some r1 =>let k5 (v:Bool):Option Bool:=let k (v4:Bool):Option Bool:=some v4;bif v then k true else k (decide (x<y));bif r1 then match qde y with|some r3 =>k5 (!r3)|none =>none else k5 false|none =>none
def qcz (x:Int):Option Bool:=
 some (!(x==x))
def f09:((List Int)×Int×Int×Int×Int×Unit)→Option (((List Int)×Int×Int×Int×Int×Unit)⊕(((List Int)×Int×Int×Int×Unit))):=fun (x,target,n,i,j,_)=>
 bif decide (i<j) then match j5 x (wr .i64 ((wr .u64 (wr .i64 (i+j))).fdiv (2 ^ 1))) with|some x1 =>(match qdh x1 target with|some r2 =>let k (i3:Int) (j4:Int):Option (((List Int)×Int×Int×Int×Int×Unit)⊕(((List Int)×Int×Int×Int×Unit))):=some (.inl (x,target,n,i3,j4,()));bif r2 then k (wr .i64 ((wr .i64 ((wr .u64 (wr .i64 (i+j))).fdiv (2 ^ 1)))+1)) j else k i (wr .i64 ((wr .u64 (wr .i64 (i+j))).fdiv (2 ^ 1)))|none =>none)|none =>none else some (.inr ((x,target,n,i,())))
def qx (x:List Int) (target:Int):Option (Int×Bool):=
 match c9 f09 (x,target,(x.length:Int),0,(x.length:Int),()) with|some ((x5,target6,n,i,_)) =>let k (v13:Bool):Option (Int×Bool):=some (i,v13);bif decide (i<n) then match j5 x5 i with|some x7 =>(bif x7==target6 then k true else match j5 x5 i with|some x8 =>(match qcz x8 with|some r9 =>bif r9 then match qcz target6 with|some r11 =>k r11|none =>none else k false|none =>none)|none =>none)|none =>none else k false|none =>none
def f0g:(Int×Calendar×(V7 Bool)×(V7 Bool)×Unit)→Option ((Int×Calendar×(V7 Bool)×(V7 Bool)×Unit)⊕(((V7 Bool)×(V7 Bool)×Unit))):=fun (v,c,v1,vopen,_)=>
 bif decide (v<7) then bif decide (v<0) then none else bif v==0 then some (.inl (wr .i64 (v+1),c,v1,(⟨(wr .i64 (BitVec.ofInt 64 (c.Week.fdiv (2 ^ (min v.toNat 64))) &&& BitVec.ofInt 64 1).toNat)==0,vopen.x1,vopen.x2,vopen.x3,vopen.x4,vopen.x5,vopen.x6⟩:V7 Bool),())) else bif v==1 then some (.inl (wr .i64 (v+1),c,v1,(⟨vopen.x0,(wr .i64 (BitVec.ofInt 64 (c.Week.fdiv (2 ^ (min v.toNat 64))) &&& BitVec.ofInt 64 1).toNat)==0,vopen.x2,vopen.x3,vopen.x4,vopen.x5,vopen.x6⟩:V7 Bool),())) else bif v==2 then some (.inl (wr .i64 (v+1),c,v1,(⟨vopen.x0,vopen.x1,(wr .i64 (BitVec.ofInt 64 (c.Week.fdiv (2 ^ (min v.toNat 64))) &&& BitVec.ofInt 64 1).toNat)==0,vopen.x3,vopen.x4,vopen.x5,vopen.x6⟩:V7 Bool),())) else bif v==3 then some (.inl (wr .i64 (v+1),c,v1,(⟨vopen.x0,vopen.x1,vopen.x2,(wr .i64 (BitVec.ofInt 64 (c.Week.fdiv (2 ^ (min v.toNat 64))) &&& BitVec.ofInt 64 1).toNat)==0,vopen.x4,vopen.x5,vopen.x6⟩:V7 Bool),())) else bif v==4 then some (.inl (wr .i64 (v+1),c,v1,(⟨vopen.x0,vopen.x1,vopen.x2,vopen.x3,(wr .i64 (BitVec.ofInt 64 (c.Week.fdiv (2 ^ (min v.toNat 64))) &&& BitVec.ofInt 64 1).toNat)==0,vopen.x5,vopen.x6⟩:V7 Bool),())) else bif v==5 then some (.inl (wr .i64 (v+1),c,v1,(⟨vopen.x0,vopen.x1,vopen.x2,vopen.x3,vopen.x4,(wr .i64 (BitVec.ofInt 64 (c.Week.fdiv (2 ^ (min v.toNat 64))) &&& BitVec.ofInt 64 1).toNat)==0,vopen.x6⟩:V7 Bool),())) else bif v==6 then some (.inl (wr .i64 (v+1),c,v1,(⟨vopen.x0,vopen.x1,vopen.x2,vopen.x3,vopen.x4,vopen.x5,(wr .i64 (BitVec.ofInt 64 (c.Week.fdiv (2 ^ (min v.toNat 64))) &&& BitVec.ofInt 64 1).toNat)==0⟩:V7 Bool),())) else none else some (.inr ((v1,vopen,())))
def q8 (c:Calendar):Option (V7 Bool):=
 match c9 f0g (0,c,(⟨false,false,false,false,false,false,false⟩:V7 Bool),(⟨false,false,false,false,false,false,false⟩:V7 Bool),()) with|some ((v,vopen,_)) =>some vopen|none =>none
def qdx (day:Int):Option Bool:=
 let k (v:Bool):Option Bool:=some v;bif decide (0≤day) then k (decide (day≤109572)) else k false
def qby (day:Int):Option Int:=
 match qdx day with|some r1 =>bif !r1 then some (-1) else some (day.tmod 7)|none =>none
def qca (c:Calendar) (day:Int):Option Bool:=
 match qbw day with|some r1 =>(bif !r1 then some false else match qx c.Closed day with|some (r3,r4) =>let k (v9:Bool):Option Bool:=some v9;bif !r4 then match q8 c with|some r6 =>(match qby day with|some r8 =>bif r8==0 then k r6.x0 else bif r8==1 then k r6.x1 else bif r8==2 then k r6.x2 else bif r8==3 then k r6.x3 else bif r8==4 then k r6.x4 else bif r8==5 then k r6.x5 else bif r8==6 then k r6.x6 else none|none =>none)|none =>none else k false|none =>none)|none =>none
def d66:(Int×Calendar×Unit)→Option ((Int×Calendar×Unit)⊕((Unit)⊕(Int×Int×Unit))):=fun (d,c,_)=>
 bif decide (d≤109572) then match qca c d with|some r1 =>bif r1 then some (.inr (.inr (d,0,()))) else some (.inl (wr .i64 (d+1),c,()))|none =>none else some (.inr (.inl (())))
def qar (c:Calendar) (day:Int):Option (Int×Int):=
 match c9 d66 ((if day<0 then 0 else day),c,()) with|some (.inl (_)) =>some (0,2)|some (.inr (v,v2,_)) =>some (v,v2)|none =>none
def d62:(Int×Int×Int×Calendar×Unit)→Option ((Int×Int×Int×Calendar×Unit)⊕((Int×Unit)⊕(Int×Int×Unit))):=fun (d,v,v5,c,_)=>
 bif decide (v5<v) then match qar c (wr .i64 (d+1)) with|some (r6,r7) =>bif !(r7==0) then some (.inr (.inr (0,r7,()))) else some (.inl (r6,v,wr .i64 (v5+1),c,()))|none =>none else some (.inr (.inl (d,())))
def qan (c:Calendar) (day:Int) (n:Int):Option (Int×Int):=
 let k (v:Bool):Option (Int×Int):=bif v then some (0,1) else match qbw day with|some r1 =>(bif !r1 then some (0,2) else bif n==0 then match qar c day with|some (r3,r4) =>some (r3,r4)|none =>none else match c9 d62 (day,n,0,c,()) with|some (.inl (d,_)) =>some (d,0)|some (.inr (v8,v9,_)) =>some (v8,v9)|none =>none)|none =>none;bif decide (n<0) then k true else k (decide (1000<n))
def qdq (branch:Int) (n:Int) (d:Circ_desk):Option (Int×Circ_desk):=
 match qcg d.c branch with|some r1 =>(match qan r1 d.c.Today n with|some (r3,r4) =>let k (v6:Circ_desk):Option (Int×Circ_desk):=some (r3,v6);bif !(r4==0) then match qo r4 d with|some (_,v) =>k v|none =>none else k d|none =>none)|none =>none
def qdi (n:Int) (low:Int) (high:Int):Option Bool:=
 let k (v:Bool):Option Bool:=some v;bif decide (low≤n) then k (decide (n≤high)) else k false
def qbj (o:Hold) (v:Int) (v1:Int):Option Bool:=
 let k (v2:Bool):Option Bool:=some v2;bif o.Got==v then k (!(o.ID==v1)) else k false
def qdm {γ0:Type} (p:γ0→Hold→Option Bool) (s:List Hold) (g:γ0):Option Bool:=
 match qc p s g with|some r1 =>some (decide (0≤r1))|none =>none
def qas (l:List Hold) (vid:Int) (item:Int) (state:Int) (vuntil:Int):Option ((List Hold)×Int):=
 match qbc l vid with|some r1 =>bif decide (r1<0) then some ([],9) else let k18 (v:Bool):Option ((List Hold)×Int):=match qdi item 1 9999 with|some r5 =>let k17 (v8:Bool):Option ((List Hold)×Int):=bif v8 then some ([],1) else match j5 l r1 with|some x =>let k16 (v11:Bool):Option ((List Hold)×Int):=bif v11 then some ([],12) else match qdm (fun g x0=>qbj x0 g.2.1 g.2.2.1) l ((),(item,vid,())) with|some r13 =>(bif r13 then some ([],7) else match qcf l r1 (⟨x.ID,x.Patron,x.Record,x.Item,x.Pickup,x.Placed,state,item,vuntil,x.Asleep,x.Rank⟩:Hold) with|some r15 =>some (r15,0)|none =>none)|none =>none;bif !(x.State==1) then let k (v9:Bool):Option ((List Hold)×Int):=bif v9 then k16 true else k16 (!(state==3));bif !(x.State==2) then k true else k (!(x.Got==item)) else k16 false|none =>none;bif !r5 then k17 true else bif !v then bif !(state==2) then k17 true else k17 (!(vuntil==0)) else k17 false|none =>none;bif state==3 then match qdi vuntil 1 109572 with|some r3 =>k18 r3|none =>none else k18 false|none =>none
def qb7 (i:Int) (h:Hold) (d:Circ_desk):Option (Unit×Circ_desk):=
 bif !(d.err==0) then some ((),d) else match j5 d.c.Items i with|some x =>(match qcd d.c h.Patron x with|some (r1,r2) =>let k13 (days:Int):Option (Unit×Circ_desk):=match qa3 i 5 x.Custody.Branch h.Patron d with|some (_,v) =>(match qdq x.Custody.Branch days v with|some (r5,v6) =>let k (v12:Circ_desk):Option (Unit×Circ_desk):=some ((),v12);bif v6.err==0 then match qas v6.c.Holds h.ID x.ID 3 r5 with|some (r8,r9) =>(match qbn r8 r9 v6 with|some (_,v11) =>k v11|none =>none)|none =>none else k v6|none =>none)|none =>none;bif r2 then k13 r1.Shelf else k13 7|none =>none)|none =>none
def qbs (i:Int) (d:Circ_desk):Option (Unit×Circ_desk):=
 bif !(d.err==0) then some ((),d) else match j5 d.c.Items i with|some x =>(match qb0 d.c x with|some r1 =>(match qd0 d.c.Holds r1 with|some (r3,r4) =>let k25 (v:Bool):Option (Unit×Circ_desk):=let k24 (v23:Circ_desk):Option (Unit×Circ_desk):=some ((),v23);bif v then match qa3 i 6 x.Branch 0 d with|some (_,v6) =>k24 v6|none =>none else let k (v7:Bool):Option (Unit×Circ_desk):=bif v7 then match qbh i 2 d with|some (_,v9) =>k24 v9|none =>none else bif !r4 then k24 d else bif r3.Pickup==x.Custody.Branch then match qb7 i r3 d with|some (_,v11) =>k24 v11|none =>none else match qa3 i 6 r3.Pickup r3.Patron d with|some (_,v13) =>bif v13.err==0 then match qas v13.c.Holds r1 x.ID 2 0 with|some (r15,r16) =>(match qbn r15 r16 v13 with|some (_,v18) =>k24 v18|none =>none)|none =>none else k24 v13|none =>none;bif !r4 then k (!(x.Custody.State==3)) else k false;bif !r4 then k25 (!(x.Branch==x.Custody.Branch)) else k25 false|none =>none)|none =>none)|none =>none
def d6x:(Int×Int×Int×Circ_desk×Unit)→Option ((Int×Int×Int×Circ_desk×Unit)⊕((Circ_desk×Unit)⊕(Circ_desk×Unit))):=fun (record,v,v1,d,_)=>
 bif decide (v1<v) then bif !(d.err==0) then some (.inr (.inr (d,()))) else match j5 d.c.Items v1 with|some x =>let k9 (v2:Bool):Option ((Int×Int×Int×Circ_desk×Unit)⊕((Circ_desk×Unit)⊕(Circ_desk×Unit))):=let k8 (v4:Bool):Option ((Int×Int×Int×Circ_desk×Unit)⊕((Circ_desk×Unit)⊕(Circ_desk×Unit))):=let k (v7:Circ_desk):Option ((Int×Int×Int×Circ_desk×Unit)⊕((Circ_desk×Unit)⊕(Circ_desk×Unit))):=some (.inl (record,v,wr .i64 (v1+1),v7,()));bif v4 then match qbs v1 d with|some (_,v6) =>k v6|none =>none else k d;bif v2 then match qb0 d.c x with|some r3 =>k8 (!(r3==0))|none =>none else k8 false;bif x.Record==record then k9 (x.Custody.State==3) else k9 false|none =>none else some (.inr (.inl (d,())))
def qa1 (record:Int) (d:Circ_desk):Option (Unit×Circ_desk):=
 match c9 d6x (record,(d.c.Items.length:Int),0,d,()) with|some (.inl (d10,_)) =>some ((),d10)|some (.inr (d11,_)) =>some ((),d11)|none =>none
def qce (c:Circ) (item:Int):Option (Circ×Int):=
 match qbq c with|some d =>(match qb8 item d with|some (r2,v) =>(bif decide (r2<0) then match qw v with|some ((r4,r5),v6) =>some (r4,r5)|none =>none else match j5 c.Items r2 with|some x =>let k35 (v7:Bool):Option (Circ×Int):=bif v7 then match qbh r2 12 v with|some (_,v9) =>let k (v12:Circ_desk):Option (Circ×Int):=match qw v12 with|some ((r14,r15),v16) =>some (r14,r15)|none =>none;bif !(x.Price==0) then match qc0 x.Custody.Who item 2 x.Price v9 with|some (_,v11) =>k v11|none =>none else k v9|none =>none else match qbh r2 13 v with|some (_,v18) =>(match qau c item with|some (r20,r21) =>let k34 (v29:Circ_desk):Option (Circ×Int):=match qw v29 with|some ((r31,r32),v33) =>some (r31,r32)|none =>none;bif r21 then match qaw c.Holds item with|some (r23,r24) =>(match qbn r23 r24 v18 with|some (_,v26) =>(match qa1 x.Record v26 with|some (_,v28) =>k34 v28|none =>none)|none =>none)|none =>none else k34 v18|none =>none)|none =>none;bif x.Custody.State==4 then k35 true else k35 (x.Custody.State==9)|none =>none)|none =>none)|none =>none
def qcb (c:Circ) (item:Int) (branch:Int):Option (Circ×Int):=
 match qbq c with|some d =>(match qb8 item d with|some (r2,v) =>let k (v7:Circ_desk):Option (Circ×Int):=match qw v7 with|some ((r9,r10),v11) =>some (r9,r10)|none =>none;bif decide (0≤r2) then match qa3 r2 1 branch 0 v with|some (_,v4) =>(match qbs r2 v4 with|some (_,v6) =>k v6|none =>none)|none =>none else k v|none =>none)|none =>none
def qb4 (n:Int) (d:Circ_desk):Option ((Circ×Int×Int)×Circ_desk):=
 bif !(d.err==0) then some ((ZN,0,d.err),d) else some ((d.c,n,0),d)
def qa5 (item:Int):Option (Int×Unit):=
 some (item,())
def qbk (n:Loan) (v:Int):Option Bool:=
 some (n.Item==v)
def d60 {γ0:Type} (p:γ0→Loan→Option Bool):((List Loan)×γ0×Int×Int×Unit)→Option (((List Loan)×γ0×Int×Int×Unit)⊕((Unit)⊕(Int×Unit))):=fun (s,g,v,v1,_)=>
 bif decide (v1<v) then match j5 s v1 with|some x =>(match p g x with|some r =>bif r then some (.inr (.inr (v1,()))) else some (.inl (s,g,v,wr .i64 (v1+1),()))|none =>none)|none =>none else some (.inr (.inl (())))
def qaj {γ0:Type} (p:γ0→Loan→Option Bool) (s:List Loan) (g:γ0):Option Int:=
 match c9 (d60 p) (s,g,(s.length:Int),0,()) with|some (.inl (_)) =>some (-1)|some (.inr (v,_)) =>some v|none =>none
def qc1 {γ0:Type} (p:γ0→Loan→Option Bool) (l:List Loan) (g:γ0):Option (Loan×Int):=
 match qaj p l g with|some r1 =>(bif decide (r1<0) then some ((⟨0,0,0,0,0,false⟩:Loan),(-1)) else match j5 l r1 with|some x =>some (x,r1)|none =>none)|none =>none
def qck (s:List Loan):Option (List Loan):=
 bif decide (([]:List Loan).length+s.length≤LIM) then some (([])++s) else none
def qdo (l:List Loan) (i:Int):Option (List Loan):=
 match qck l with|some l1 =>(match qci l1 i (wr .i64 (i+1)) with|some l3 =>some l3|none =>none)|none =>none
def qc7 (l:List Loan) (item:Int):Option ((List Loan)×Loan×Int):=
 match qa5 item with|some r1 =>(match qc1 (fun g x0=>qbk x0 g.2.1) l ((),(r1.1,())) with|some (r3,r4) =>(bif decide (r4<0) then some ([],(⟨0,0,0,0,0,false⟩:Loan),9) else match qdo l r4 with|some r6 =>some (r6,r3,0)|none =>none)|none =>none)|none =>none
def qc2 (l:List Loan) (e:Int) (d:Circ_desk):Option (Unit×Circ_desk):=
 let k3 (v1:Circ_desk):Option (Unit×Circ_desk):=let k (v2:List Loan):Option (Unit×Circ_desk):=some ((),(⟨⟨v1.c.Today,v1.c.Items,v1.c.Patrons,v2,v1.c.Holds,v1.c.Charges,v1.c.Rules,v1.c.Cals,v1.c.Moves,v1.c.NextHold,v1.c.NextCharge,v1.c.Local⟩,v1.err⟩:Circ_desk));bif v1.err==0 then k l else k v1.c.Loans;bif !(e==0) then match qo e d with|some (_,v) =>k3 v|none =>none else k3 d
def qbt (d:Int):Option Bool:=
 match qbw d with|some r1 =>some (!r1)|none =>none
def d61 {γ0:Type} (p:γ0→Int→Option Bool):((List Int)×γ0×Int×Int×Unit)→Option (((List Int)×γ0×Int×Int×Unit)⊕((Unit)⊕(Int×Unit))):=fun (s,g,v,v1,_)=>
 bif decide (v1<v) then match j5 s v1 with|some x =>(match p g x with|some r =>bif r then some (.inr (.inr (v1,()))) else some (.inl (s,g,v,wr .i64 (v1+1),()))|none =>none)|none =>none else some (.inr (.inl (())))
def qak {γ0:Type} (p:γ0→Int→Option Bool) (s:List Int) (g:γ0):Option Int:=
 match c9 (d61 p) (s,g,(s.length:Int),0,()) with|some (.inl (_)) =>some (-1)|some (.inr (v,_)) =>some v|none =>none
def qda {γ0:Type} (p:γ0→Int→Option Bool) (s:List Int) (g:γ0):Option Bool:=
 match qak p s g with|some r1 =>some (decide (0≤r1))|none =>none
def f06:((List Int)×Int×Int×Calendar×Unit)→Option (((List Int)×Int×Int×Calendar×Unit)⊕((Unit)⊕(Int×Unit))):=fun (v,v4,v5,c,_)=>
 bif decide (v5<v4) then match j5 v v5 with|some x =>let k (v7:Bool):Option (((List Int)×Int×Int×Calendar×Unit)⊕((Unit)⊕(Int×Unit))):=bif v7 then some (.inr (.inr (7,()))) else some (.inl (v,v4,wr .i64 (v5+1),c,()));bif decide (0<v5) then match j5 c.Closed (wr .i64 (v5-1)) with|some x6 =>k (decide (x≤x6))|none =>none else k false|none =>none else some (.inr (.inl (())))
def qp (c:Calendar):Option Int:=
 let k9 (v:Bool):Option Int:=let k (v3:Int):Option Int:=some v3;bif v then k 1 else bif decide (64<(c.Closed.length:Int)) then k 13 else match qda (fun g x0=>qbt x0) c.Closed ((),()) with|some r1 =>(bif r1 then k 2 else match c9 f06 (c.Closed,(c.Closed.length:Int),0,c,()) with|some (.inl (_)) =>some 0|some (.inr (v8,_)) =>some v8|none =>none)|none =>none;bif decide (c.Week<0) then k9 true else k9 (decide (127≤c.Week))
def qc5 (day:Int) (weekday:Int):Option Int:=
 match qby 0 with|some r1 =>bif decide (day<(wr .i64 ((wr .i64 (weekday-r1))+7)).tmod 7) then some 0 else some (wr .i64 ((wr .i64 ((wr .i64 (day-((wr .i64 ((wr .i64 (weekday-r1))+7)).tmod 7))).tdiv 7))+1))|none =>none
def f07:(Int×Int×Int×(V7 Bool)×Int×Calendar×(V7 Bool)×Unit)→Option ((Int×Int×Int×(V7 Bool)×Int×Calendar×(V7 Bool)×Unit)⊕((Int×Int×Int×Calendar×(V7 Bool)×Unit))):=fun (vfrom,vto,n,v,v2,c,vopen,_)=>
 bif decide (v2<7) then let k8 (v3:Bool):Option ((Int×Int×Int×(V7 Bool)×Int×Calendar×(V7 Bool)×Unit)⊕((Int×Int×Int×Calendar×(V7 Bool)×Unit))):=let k (n7:Int):Option ((Int×Int×Int×(V7 Bool)×Int×Calendar×(V7 Bool)×Unit)⊕((Int×Int×Int×Calendar×(V7 Bool)×Unit))):=some (.inl (vfrom,vto,n7,v,wr .i64 (v2+1),c,vopen,()));bif v3 then match qc5 vto v2 with|some r4 =>(match qc5 (wr .i64 (vfrom-1)) v2 with|some r6 =>k (wr .i64 (n+(wr .i64 (r4-r6))))|none =>none)|none =>none else k n;bif v2==0 then k8 v.x0 else bif v2==1 then k8 v.x1 else bif v2==2 then k8 v.x2 else bif v2==3 then k8 v.x3 else bif v2==4 then k8 v.x4 else bif v2==5 then k8 v.x5 else bif v2==6 then k8 v.x6 else none else some (.inr ((vfrom,vto,n,c,vopen,())))
def d7d:(Int×Int×Int×(List Int)×Int×Int×(V7 Bool)×Unit)→Option ((Int×Int×Int×(List Int)×Int×Int×(V7 Bool)×Unit)⊕((Int×Unit))):=fun (vfrom,vto,n,v,v12,v13,vopen,_)=>
 bif decide (v13<v12) then match j5 v v13 with|some x =>let k20 (v14:Bool):Option ((Int×Int×Int×(List Int)×Int×Int×(V7 Bool)×Unit)⊕((Int×Unit))):=let k19 (v17:Bool):Option ((Int×Int×Int×(List Int)×Int×Int×(V7 Bool)×Unit)⊕((Int×Unit))):=let k (n18:Int):Option ((Int×Int×Int×(List Int)×Int×Int×(V7 Bool)×Unit)⊕((Int×Unit))):=some (.inl (vfrom,vto,n18,v,v12,wr .i64 (v13+1),vopen,()));bif v17 then k (wr .i64 (n-1)) else k n;bif v14 then match qby x with|some r15 =>bif r15==0 then k19 vopen.x0 else bif r15==1 then k19 vopen.x1 else bif r15==2 then k19 vopen.x2 else bif r15==3 then k19 vopen.x3 else bif r15==4 then k19 vopen.x4 else bif r15==5 then k19 vopen.x5 else bif r15==6 then k19 vopen.x6 else none|none =>none else k19 false;bif decide (vfrom≤x) then k20 (decide (x≤vto)) else k20 false|none =>none else some (.inr ((n,())))
def qt (c:Calendar) (vfrom:Int) (vto:Int):Option Int:=
 bif decide ((if 109572<vto then 109572 else vto)<(if vfrom<0 then 0 else vfrom)) then some 0 else match q8 c with|some r1 =>(match c9 f07 ((if vfrom<0 then 0 else vfrom),(if 109572<vto then 109572 else vto),0,r1,0,c,r1,()) with|some ((vfrom9,vto10,n,c11,vopen,_)) =>(match c9 d7d (vfrom9,vto10,n,c11.Closed,(c11.Closed.length:Int),0,vopen,()) with|some ((n21,_)) =>some n21|none =>none)|none =>none)|none =>none
def qc8 (r:Rule) (c:Calendar) (due:Int) (back:Int):Option Int:=
 match qp c with|some r2 =>(let k10 (v:Bool):Option Int:=let k (v7:Bool):Option Int:=bif v7 then some 0 else match qt c (wr .i64 (due+1)) back with|some r9 =>bif decide (r9≤r.Grace) then some 0 else some (if r.MaxFine<wr .i64 (r9*r.Fine) then r.MaxFine else wr .i64 (r9*r.Fine))|none =>none;bif v then k true else match qcr back with|some r6 =>k (!r6)|none =>none;bif !(r2==0) then k10 true else match qcr due with|some r4 =>k10 (!r4)|none =>none)|none =>none
def qbx (x:Charge) (v:Int) (v1:Int) (v2:Int):Option Bool:=
 let k6 (v3:Bool):Option Bool:=let k (v5:Bool):Option Bool:=some v5;bif v3 then bif v2==0 then k true else k (x.Kind==v2) else k false;bif x.Patron==v then k6 (x.Item==v1) else k6 false
def d6z {γ0:Type} (p:γ0→Charge→Option Bool):(γ0×Int×Int×(List Charge)×Int×Int×(List Charge)×Unit)→Option ((γ0×Int×Int×(List Charge)×Int×Int×(List Charge)×Unit)⊕((Int×Int×(List Charge)×Unit))):=fun (g,paid,n,v,v1,v2,l,_)=>
 bif decide (v2<v1) then match j5 v v2 with|some x =>(match p g x with|some r =>bif r then some (.inl (g,wr .i64 (paid+x.Paid),wr .i64 (n+1),v,v1,wr .i64 (v2+1),l,())) else bif decide (l.length+([x]:List Charge).length≤LIM) then some (.inl (g,paid,n,v,v1,wr .i64 (v2+1),l++([x]:List Charge),())) else none|none =>none)|none =>none else some (.inr ((paid,n,l,())))
def qaf {γ0:Type} (p:γ0→Charge→Option Bool) (l:List Charge) (g:γ0):Option ((List Charge)×Int×Int):=
 match c9 (d6z p) (g,0,0,l,(l.length:Int),0,([]:List Charge),()) with|some ((paid,n,l3,_)) =>some (l3,paid,n)|none =>none
def qa7 (l:List Charge) (patron:Int) (item:Int) (kind:Int):Option ((List Charge)×Int):=
 match qaf (fun g x0=>qbx x0 g.2.1 g.2.2.1 g.2.2.2.1) l ((),(patron,item,kind,())) with|some (r1,r2,r3) =>some (r1,r2)|none =>none
def qdn (i:Int) (branch:Int) (d:Circ_desk):Option (Unit×Circ_desk):=
 match j5 d.c.Items i with|some x =>(match qa3 i 4 branch 0 d with|some (_,v) =>(bif !(v.err==0) then some ((),v) else match qc7 v.c.Loans x.ID with|some (r2,r3,r4) =>(match qc2 r2 r4 v with|some (_,v6) =>(match qcd v6.c r3.Patron x with|some (r8,r9) =>let k (v17:Circ_desk):Option (Unit×Circ_desk):=match qa7 v17.c.Charges r3.Patron x.ID 2 with|some (r19,r20) =>some ((),(⟨⟨v17.c.Today,v17.c.Items,v17.c.Patrons,v17.c.Loans,v17.c.Holds,r19,v17.c.Rules,v17.c.Cals,v17.c.Moves,v17.c.NextHold,v17.c.NextCharge,v17.c.Local⟩,v17.err⟩:Circ_desk))|none =>none;bif r9 then match qcg v6.c branch with|some r11 =>(match qc8 r8 r11 r3.Due v6.c.Today with|some r13 =>bif !(r13==0) then match qc0 r3.Patron x.ID 1 r13 v6 with|some (_,v15) =>k v15|none =>none else k v6|none =>none)|none =>none else k v6|none =>none)|none =>none)|none =>none)|none =>none)|none =>none
def qdz (c:Circ) (item:Int) (branch:Int):Option (Circ×Int×Int):=
 match qbq c with|some d =>(match qb8 item d with|some (r2,v) =>(bif decide (r2<0) then match qb4 0 v with|some ((r4,r5,r6),v7) =>some (r4,r5,r6)|none =>none else match j5 c.Items r2 with|some x =>let k43 (v9:Bool):Option (Circ×Int×Int):=let k42 (v23:Circ_desk):Option (Circ×Int×Int):=match qau v23.c item with|some (r25,r26) =>let k41 (v27:Bool):Option (Circ×Int×Int):=let k (v32:Circ_desk):Option (Circ×Int×Int):=match qau v32.c item with|some (r34,r35) =>(match qb4 r34.ID v32 with|some ((r37,r38,r39),v40) =>some (r37,r38,r39)|none =>none)|none =>none;bif v27 then match qb7 r2 r25 v23 with|some (_,v29) =>k v29|none =>none else match qbs r2 v23 with|some (_,v31) =>k v31|none =>none;bif r26 then k41 (r25.State==2) else k41 false|none =>none;bif v9 then match qdn r2 branch v with|some (_,v11) =>k42 v11|none =>none else bif x.Custody.State==8 then match qa3 r2 4 branch 0 v with|some (_,v13) =>k42 v13|none =>none else bif x.Custody.State==11 then match qa3 r2 14 branch 0 v with|some (_,v15) =>k42 v15|none =>none else bif x.Custody.State==6 then match qa3 r2 7 branch 0 v with|some (_,v17) =>k42 v17|none =>none else match qo 12 v with|some (_,v19) =>k42 v19|none =>none;bif x.Custody.State==4 then k43 (x.Custody.State==4) else bif x.Custody.State==9 then k43 (x.Custody.State==9) else k43 (x.Custody.State==10)|none =>none)|none =>none)|none =>none
def qcj (c:Circ) (vid:Int) (branch:Int):Option (Circ×Int):=
 match qdz c vid branch with|some (r1,r2,r3) =>some (r1,r3)|none =>none
def qcm (c:Circ) (x:Item) (branch:Int):Option (Circ×Int):=
 let k18 (v16:Int) (v17:Circ):Option (Circ×Int):=some (v17,v16);bif x.Custody.State==1 then match qcb c x.ID branch with|some (r1,r2) =>k18 r2 r1|none =>none else let k (v5:Bool):Option (Circ×Int):=bif v5 then match qcj c x.ID branch with|some (r7,r8) =>k18 r8 r7|none =>none else bif x.Custody.State==12 then k18 0 c else bif x.Custody.State==6 then bif x.Custody.To==branch then match qcj c x.ID branch with|some (r10,r11) =>k18 r11 r10|none =>none else match qce c x.ID with|some (r20,r21) =>(bif !(r21==0) then some (ZN,r21) else match qcj r20 x.ID branch with|some (r23,r24) =>some (r23,r24)|none =>none)|none =>none else match qce c x.ID with|some (r20,r21) =>(bif !(r21==0) then some (ZN,r21) else match qcj r20 x.ID branch with|some (r23,r24) =>some (r23,r24)|none =>none)|none =>none;bif x.Custody.State==4 then k (x.Custody.State==4) else bif x.Custody.State==9 then k (x.Custody.State==9) else bif x.Custody.State==10 then k (x.Custody.State==10) else bif x.Custody.State==8 then k (x.Custody.State==8) else k (x.Custody.State==11)
def c7t:(Int×(List Problem)×Int×Int×Circ×Circ×Unit)→Option ((Int×(List Problem)×Int×Int×Circ×Circ×Unit)⊕((Circ×Circ×Unit)⊕(Int×Circ×Unit))):=fun (branch,v,v4,v5,c,v6,_)=>
 bif decide (v5<v4) then match j5 v v5 with|some x =>(match qam c x.Index with|some (r7,r8) =>(match qbg r7 branch with|some r10 =>let k23 (v11:Bool):Option ((Int×(List Problem)×Int×Int×Circ×Circ×Unit)⊕((Circ×Circ×Unit)⊕(Int×Circ×Unit))):=let k22 (e20:Int) (c21:Circ):Option ((Int×(List Problem)×Int×Int×Circ×Circ×Unit)⊕((Circ×Circ×Unit)⊕(Int×Circ×Unit))):=bif !(e20==0) then some (.inr (.inr (e20,ZN,()))) else some (.inl (branch,v,v4,wr .i64 (v5+1),c21,v6,()));bif v11 then match qce c r7.ID with|some (r13,r14) =>k22 r14 r13|none =>none else let k (v15:Bool):Option ((Int×(List Problem)×Int×Int×Circ×Circ×Unit)⊕((Circ×Circ×Unit)⊕(Int×Circ×Unit))):=bif v15 then match qcm c r7 branch with|some (r17,r18) =>k22 r18 r17|none =>none else k22 0 c;bif x.Kind==2 then k (!r10) else k false;bif x.Kind==1 then k23 r10 else k23 false|none =>none)|none =>none)|none =>none else some (.inr (.inl (c,v6,())))
def qaz (c:Circ) (branch:Int) (l:List Int):Option (Circ×Int):=
 match qbu branch with|some r1 =>(bif !r1 then some (ZN,2) else match qa c branch l with|some r3 =>(match c9 c7t (branch,r3,(r3.length:Int),0,c,ZN,()) with|some (.inl (c24,v,_)) =>some (c24,0)|some (.inr (v25,v26,_)) =>some (v26,v25)|none =>none)|none =>none)|none =>none
def a49:((List Int)×Int×Int×Int×Unit)→Option (((List Int)×Int×Int×Int×Unit)⊕((Unit)⊕(Int×Unit))):=fun (s,v,v1,v2,_)=>
 bif decide (v2<v1) then match j5 s v2 with|some x =>bif v==x then some (.inr (.inr (v2,()))) else some (.inl (s,v,v1,wr .i64 (v2+1),()))|none =>none else some (.inr (.inl (())))
def qay (s:List Int) (v:Int):Option Int:=
 match c9 a49 (s,v,(s.length:Int),0,()) with|some (.inl (_)) =>some (-1)|some (.inr (v3,_)) =>some v3|none =>none
def qdb (s:List Int) (v:Int):Option Bool:=
 match qay s v with|some r1 =>some (decide (0≤r1))|none =>none
def a9u:((List Int)×(List Int)×Int×(List Int)×Int×Int×Unit)→Option (((List Int)×(List Int)×Int×(List Int)×Int×Int×Unit)⊕(((List Int)×Int×Unit))):=fun (l,vall,n,v,v2,v3,_)=>
 bif decide (v3<v2) then match j5 v v3 with|some x =>(match qdb l x with|some r4 =>let k (n5:Int):Option (((List Int)×(List Int)×Int×(List Int)×Int×Int×Unit)⊕(((List Int)×Int×Unit))):=some (.inl (l,vall,n5,v,v2,wr .i64 (v3+1),()));bif r4 then k (wr .i64 (n+1)) else k n|none =>none)|none =>none else some (.inr ((vall,n,())))
def qa2 (c:Circ) (branch:Int) (l:List Int):Option Int:=
 match qy c branch with|some r1 =>(bif (r1.length:Int)==0 then some 1000 else match c9 a9u (l,r1,0,r1,(r1.length:Int),0,()) with|some ((vall,n,_)) =>bif (vall.length:Int)==0 then none else some (wr .i64 ((wr .i64 (n*1000)).tdiv (vall.length:Int)))|none =>none)|none =>none
def a1v:(Int×Int×Circ×Circ×Unit)→Option ((Int×Int×Circ×Circ×Unit)⊕((Int×Circ×Circ×Unit)⊕(Bool×Unit))):=fun (i,k,a,b,_)=>
 let k17 (v:Int) (v9:List Int):Option ((Int×Int×Circ×Circ×Unit)⊕((Int×Circ×Circ×Unit)⊕(Bool×Unit))):=bif decide (k<(v9.length:Int)) then let k16 (v10:Int) (v11:List Int):Option ((Int×Int×Circ×Circ×Unit)⊕((Int×Circ×Circ×Unit)⊕(Bool×Unit))):=match j5 v11 k with|some x =>let k15 (v12:Int) (v13:List Int):Option ((Int×Int×Circ×Circ×Unit)⊕((Int×Circ×Circ×Unit)⊕(Bool×Unit))):=match j5 v13 k with|some x14 =>bif !(x==x14) then some (.inr (.inr (false,()))) else some (.inl (i,wr .i64 (k+1),a,b,()))|none =>none;bif i==0 then k15 b.Cals.x0.Week b.Cals.x0.Closed else bif i==1 then k15 b.Cals.x1.Week b.Cals.x1.Closed else bif i==2 then k15 b.Cals.x2.Week b.Cals.x2.Closed else bif i==3 then k15 b.Cals.x3.Week b.Cals.x3.Closed else none|none =>none;bif i==0 then k16 a.Cals.x0.Week a.Cals.x0.Closed else bif i==1 then k16 a.Cals.x1.Week a.Cals.x1.Closed else bif i==2 then k16 a.Cals.x2.Week a.Cals.x2.Closed else bif i==3 then k16 a.Cals.x3.Week a.Cals.x3.Closed else none else some (.inr (.inl (i,a,b,())));bif i==0 then k17 a.Cals.x0.Week a.Cals.x0.Closed else bif i==1 then k17 a.Cals.x1.Week a.Cals.x1.Closed else bif i==2 then k17 a.Cals.x2.Week a.Cals.x2.Closed else bif i==3 then k17 a.Cals.x3.Week a.Cals.x3.Closed else none
def a6k:(Int×Circ×Circ×Unit)→Option ((Int×Circ×Circ×Unit)⊕((Unit)⊕(Bool×Unit))):=fun (i,a,b,_)=>
 bif decide (i<4) then let k24 (v:Int) (v1:List Int):Option ((Int×Circ×Circ×Unit)⊕((Unit)⊕(Bool×Unit))):=let k23 (v2:Int) (v3:List Int):Option ((Int×Circ×Circ×Unit)⊕((Unit)⊕(Bool×Unit))):=let k22 (v8:Bool):Option ((Int×Circ×Circ×Unit)⊕((Unit)⊕(Bool×Unit))):=bif v8 then some (.inr (.inr (false,()))) else match c9 a1v (i,0,a,b,()) with|some (.inl (i18,a19,b20,_)) =>some (.inl (wr .i64 (i18+1),a19,b20,()))|some (.inr (v21,_)) =>some (.inr (.inr (v21,())))|none =>none;bif !(v==v2) then k22 true else let k (v4:Int) (v5:List Int):Option ((Int×Circ×Circ×Unit)⊕((Unit)⊕(Bool×Unit))):=bif i==0 then k22 (!((v5.length:Int)==(b.Cals.x0.Closed.length:Int))) else bif i==1 then k22 (!((v5.length:Int)==(b.Cals.x1.Closed.length:Int))) else bif i==2 then k22 (!((v5.length:Int)==(b.Cals.x2.Closed.length:Int))) else bif i==3 then k22 (!((v5.length:Int)==(b.Cals.x3.Closed.length:Int))) else none;bif i==0 then k a.Cals.x0.Week a.Cals.x0.Closed else bif i==1 then k a.Cals.x1.Week a.Cals.x1.Closed else bif i==2 then k a.Cals.x2.Week a.Cals.x2.Closed else bif i==3 then k a.Cals.x3.Week a.Cals.x3.Closed else none;bif i==0 then k23 b.Cals.x0.Week b.Cals.x0.Closed else bif i==1 then k23 b.Cals.x1.Week b.Cals.x1.Closed else bif i==2 then k23 b.Cals.x2.Week b.Cals.x2.Closed else bif i==3 then k23 b.Cals.x3.Week b.Cals.x3.Closed else none;bif i==0 then k24 a.Cals.x0.Week a.Cals.x0.Closed else bif i==1 then k24 a.Cals.x1.Week a.Cals.x1.Closed else bif i==2 then k24 a.Cals.x2.Week a.Cals.x2.Closed else bif i==3 then k24 a.Cals.x3.Week a.Cals.x3.Closed else none else some (.inr (.inl (())))
def qm (a:Circ) (b:Circ):Option Bool:=
 match c9 a6k (0,a,b,()) with|some (.inl (_)) =>some true|some (.inr (v,_)) =>some v|none =>none
def b6w:(Int×Circ×Circ×Unit)→Option ((Int×Circ×Circ×Unit)⊕((Circ×Circ×Unit)⊕(Bool×Unit))):=fun (i,a,b,_)=>
 bif decide (i<(a.Items.length:Int)) then match j5 a.Items i with|some x =>(match j5 b.Items i with|some x10 =>bif !(b0s x x10) then some (.inr (.inr (false,()))) else some (.inl (wr .i64 (i+1),a,b,()))|none =>none)|none =>none else some (.inr (.inl (a,b,())))
def a73:(Int×Circ×Circ×Unit)→Option ((Int×Circ×Circ×Unit)⊕((Circ×Circ×Unit)⊕(Bool×Unit))):=fun (i,a,b,_)=>
 bif decide (i<(a.Patrons.length:Int)) then match j5 a.Patrons i with|some x =>(match j5 b.Patrons i with|some x13 =>bif !(a5m x x13) then some (.inr (.inr (false,()))) else some (.inl (wr .i64 (i+1),a,b,()))|none =>none)|none =>none else some (.inr (.inl (a,b,())))
def a74:(Int×Circ×Circ×Unit)→Option ((Int×Circ×Circ×Unit)⊕((Circ×Circ×Unit)⊕(Bool×Unit))):=fun (i,a,b,_)=>
 bif decide (i<(a.Loans.length:Int)) then match j5 a.Loans i with|some x =>(match j5 b.Loans i with|some x16 =>bif !(b0u x x16) then some (.inr (.inr (false,()))) else some (.inl (wr .i64 (i+1),a,b,()))|none =>none)|none =>none else some (.inr (.inl (a,b,())))
def a77:(Int×Circ×Circ×Unit)→Option ((Int×Circ×Circ×Unit)⊕((Circ×Circ×Unit)⊕(Bool×Unit))):=fun (i,a,b,_)=>
 bif decide (i<(a.Holds.length:Int)) then match j5 a.Holds i with|some x =>(match j5 b.Holds i with|some x19 =>bif !(b0q x x19) then some (.inr (.inr (false,()))) else some (.inl (wr .i64 (i+1),a,b,()))|none =>none)|none =>none else some (.inr (.inl (a,b,())))
def a78:(Int×Circ×Circ×Unit)→Option ((Int×Circ×Circ×Unit)⊕((Circ×Circ×Unit)⊕(Bool×Unit))):=fun (i,a,b,_)=>
 bif decide (i<(a.Charges.length:Int)) then match j5 a.Charges i with|some x =>(match j5 b.Charges i with|some x22 =>bif !(a5l x x22) then some (.inr (.inr (false,()))) else some (.inl (wr .i64 (i+1),a,b,()))|none =>none)|none =>none else some (.inr (.inl (a,b,())))
def a79:(Int×Circ×Circ×Unit)→Option ((Int×Circ×Circ×Unit)⊕((Circ×Circ×Unit)⊕(Bool×Unit))):=fun (i,a,b,_)=>
 bif decide (i<(a.Rules.length:Int)) then match j5 a.Rules i with|some x =>(match j5 b.Rules i with|some x25 =>bif !(b0y x x25) then some (.inr (.inr (false,()))) else some (.inl (wr .i64 (i+1),a,b,()))|none =>none)|none =>none else some (.inr (.inl (a,b,())))
def a8a:(Int×Circ×Circ×Unit)→Option ((Int×Circ×Circ×Unit)⊕((Circ×Circ×Unit)⊕(Bool×Unit))):=fun (i,a,b,_)=>
 bif decide (i<(a.Moves.length:Int)) then match j5 a.Moves i with|some x =>(match j5 b.Moves i with|some x28 =>bif !(b0w x x28) then some (.inr (.inr (false,()))) else some (.inl (wr .i64 (i+1),a,b,()))|none =>none)|none =>none else some (.inr (.inl (a,b,())))
def qd (a:Circ) (b:Circ):Option Bool:=
 let k47 (v:Bool):Option Bool:=let k46 (v1:Bool):Option Bool:=let k45 (v2:Bool):Option Bool:=let k44 (v3:Bool):Option Bool:=bif v3 then some false else let k43 (v4:Bool):Option Bool:=let k42 (v5:Bool):Option Bool:=let k41 (v6:Bool):Option Bool:=let k40 (v7:Bool):Option Bool:=let k39 (v8:Bool):Option Bool:=let k (v9:Bool):Option Bool:=bif v9 then some false else match c9 b6w (0,a,b,()) with|some (.inl (a11,b12,_)) =>(match c9 a73 (0,a11,b12,()) with|some (.inl (a14,b15,_)) =>(match c9 a74 (0,a14,b15,()) with|some (.inl (a17,b18,_)) =>(match c9 a77 (0,a17,b18,()) with|some (.inl (a20,b21,_)) =>(match c9 a78 (0,a20,b21,()) with|some (.inl (a23,b24,_)) =>(match c9 a79 (0,a23,b24,()) with|some (.inl (a26,b27,_)) =>(match c9 a8a (0,a26,b27,()) with|some (.inl (a29,b30,_)) =>(match qm a29 b30 with|some r31 =>some r31|none =>none)|some (.inr (v32,_)) =>some v32|none =>none)|some (.inr (v33,_)) =>some v33|none =>none)|some (.inr (v34,_)) =>some v34|none =>none)|some (.inr (v35,_)) =>some v35|none =>none)|some (.inr (v36,_)) =>some v36|none =>none)|some (.inr (v37,_)) =>some v37|none =>none)|some (.inr (v38,_)) =>some v38|none =>none;bif v8 then k true else k (!((a.Moves.length:Int)==(b.Moves.length:Int)));bif v7 then k39 true else k39 (!((a.Rules.length:Int)==(b.Rules.length:Int)));bif v6 then k40 true else k40 (!((a.Charges.length:Int)==(b.Charges.length:Int)));bif v5 then k41 true else k41 (!((a.Holds.length:Int)==(b.Holds.length:Int)));bif v4 then k42 true else k42 (!((a.Loans.length:Int)==(b.Loans.length:Int)));bif !((a.Items.length:Int)==(b.Items.length:Int)) then k43 true else k43 (!((a.Patrons.length:Int)==(b.Patrons.length:Int)));bif v2 then k44 true else k44 (!(a.Local==b.Local));bif v1 then k45 true else k45 (!(a.NextCharge==b.NextCharge));bif v then k46 true else k46 (!(a.NextHold==b.NextHold));bif !(a.Today==b.Today) then k47 true else k47 (!(a.Cals.x0.Week==b.Cals.x0.Week))
def qb3 (c:Circ) (branch:Int):Option Bool:=
 match qb c with|some r1 =>(let k30 (v:Bool):Option Bool:=let k29 (v4:Bool):Option Bool:=let k28 (v5:Bool):Option Bool:=bif v5 then match qbz with|some r7 =>some r7|none =>none else match qy c branch with|some r9 =>(match qaz c branch r9 with|some (r11,r12) =>(match qbz with|some r14 =>let k27 (v17:Bool):Option Bool:=let k26 (v20:Bool):Option Bool:=let k25 (v21:Bool):Option Bool:=let k (v24:Bool):Option Bool:=some v24;bif v21 then match qd r11 c with|some r23 =>k r23|none =>none else k false;bif v20 then k25 (r12==0) else k25 false;bif v17 then match qa2 c branch r9 with|some r19 =>k26 (r19==1000)|none =>none else k26 false;bif r14 then match qa c branch r9 with|some r16 =>k27 ((r16.length:Int)==0)|none =>none else k27 false|none =>none)|none =>none)|none =>none;bif v4 then k28 true else k28 (decide (4<branch));bif v then k29 true else k29 (decide (branch<1));bif !r1 then k30 true else match qu c with|some r3 =>k30 (!r3)|none =>none)|none =>none
def qcx (s:List Patron):Option (List Patron):=
 bif decide (([]:List Patron).length+s.length≤LIM) then some (([])++s) else none
end
section
set_option maxRecDepth 100000
open Go
theorem b2n:g5 o3:=g5.iso (g5.cons (d5.int _) (g5.cons (d5.int _) (g5.cons (d5.int _) (g5.cons (d5.int _) g5.nil)))) (fun _=>rfl)
theorem b2p:g5 a06:=g5.iso (g5.cons (d5.int _) (g5.cons (d5.int _) (g5.cons (d5.int _) (g5.cons (d5.int _) (g5.cons (d5.int _) (g5.cons d5.str (g5.cons (d5.int _) (g5.cons (d5.int _) (g5.cons (d5.int _) (g5.cons (d5.int _) g5.nil)))))))))) (fun _=>rfl)
theorem a64:g5 a2d:=g5.iso (g5.cons (d5.int _) (g5.cons (d5.int _) (g5.cons (d5.int _) (g5.cons (d5.int _) (g5.cons d5.bool (g5.cons d5.str g5.nil)))))) (fun _=>rfl)
theorem b2q:g5 a3i:=g5.iso (g5.cons (d5.int _) (g5.cons (d5.int _) (g5.cons (d5.int _) (g5.cons (d5.int _) (g5.cons (d5.int _) (g5.cons d5.bool g5.nil)))))) (fun _=>rfl)
theorem b2o:g5 y3:=g5.iso (g5.cons (d5.int _) (g5.cons (d5.int _) (g5.cons (d5.int _) (g5.cons (d5.int _) (g5.cons (d5.int _) (g5.cons (d5.int _) (g5.cons (d5.int _) (g5.cons (d5.int _) (g5.cons (d5.int _) (g5.cons (d5.int _) (g5.cons (d5.int _) g5.nil))))))))))) (fun _=>rfl)
theorem a63:g5 a1m:=g5.iso (g5.cons (d5.int _) (g5.cons (d5.int _) (g5.cons (d5.int _) (g5.cons (d5.int _) (g5.cons (d5.int _) (g5.cons (d5.int _) (g5.cons (d5.int _) g5.nil))))))) (fun _=>rfl)
theorem b2u:g5 a3j:=g5.iso (g5.cons (d5.int _) (g5.cons (d5.int _) (g5.cons (d5.int _) (g5.cons (d5.int _) (g5.cons (d5.int _) (g5.cons (d5.int _) (g5.cons (d5.int _) (g5.cons (d5.int _) (g5.cons (d5.int _) (g5.cons (d5.int _) (g5.cons (d5.int _) (g5.cons (d5.int _) (g5.cons (d5.int _) g5.nil))))))))))))) (fun _=>rfl)
theorem b0k:g5 j8:=g5.iso (g5.cons (d5.int _) (g5.cons (d5.lst _) g5.nil)) (fun _=>rfl)
theorem b2t:g5 a5g:=g5.iso (g5.cons (d5.int _) (g5.cons (d5.int _) (g5.cons (d5.int _) (g5.cons (d5.int _) (g5.cons (d5.int _) g5.nil))))) (fun _=>rfl)
theorem c38:g5 d8:=g5.iso (g5.cons (d5.int _) (g5.cons (d5.lst _) (g5.cons (d5.lst _) (g5.cons (d5.lst _) (g5.cons (d5.lst _) (g5.cons (d5.lst _) (g5.cons (d5.lst _) (g5.cons (d5.int _) (g5.cons (d5.lst _) (g5.cons (d5.int _) (g5.cons (d5.lst _) (g5.cons (d5.int _) (g5.cons (d5.lst _) (g5.cons (d5.int _) (g5.cons (d5.lst _) (g5.cons (d5.lst _) (g5.cons (d5.int _) (g5.cons (d5.int _) (g5.cons d5.bool g5.nil))))))))))))))))))) (fun _=>rfl)
theorem b2r:g5 b5l:=g5.iso (g5.cons (d5.int _) (g5.cons (d5.int _) g5.nil)) (fun _=>rfl)
theorem a55:g5 a5h:=g5.iso (g5.cons (d5.int _) (g5.cons (d5.int _) (g5.cons d5.str (g5.cons (d5.int _) g5.nil)))) (fun _=>rfl)
theorem a80:g5 g9:=g5.iso (g5.cons (d5.int _) (g5.cons (d5.lst _) (g5.cons (d5.lst _) (g5.cons (d5.lst _) (g5.cons (d5.lst _) (g5.cons (d5.lst _) (g5.cons (d5.lst _) (g5.cons (d5.int _) (g5.cons (d5.lst _) (g5.cons (d5.int _) (g5.cons (d5.lst _) (g5.cons (d5.int _) (g5.cons (d5.lst _) (g5.cons (d5.int _) (g5.cons (d5.lst _) (g5.cons (d5.lst _) (g5.cons (d5.int _) (g5.cons (d5.int _) (g5.cons d5.bool (g5.cons (d5.int _) g5.nil)))))))))))))))))))) (fun _=>rfl)
theorem b2s:g5 b5m:=g5.iso (g5.cons (d5.int _) (g5.cons d5.str g5.nil)) (fun _=>rfl)
theorem a00:g5 y4:=g5.iso (g5.cons (d5.int _) (g5.cons (d5.int _) g5.nil)) (fun _=>rfl)
theorem b2v:g5 s5:=g5.iso (g5.cons d5.bool (g5.cons d5.bool (g5.cons d5.bool (g5.cons d5.bool (g5.cons d5.bool (g5.cons d5.bool (g5.cons d5.bool g5.nil))))))) (fun _=>rfl)
instance:CCC o3:=⟨b2n⟩
instance:CCC a06:=⟨b2p⟩
instance:CCC a2d:=⟨a64⟩
instance:CCC a3i:=⟨b2q⟩
instance:CCC y3:=⟨b2o⟩
instance:CCC a1m:=⟨a63⟩
instance:CCC a3j:=⟨b2u⟩
instance:CCC j8:=⟨b0k⟩
instance:CCC a5g:=⟨b2t⟩
instance:CCC d8:=⟨c38⟩
instance:CCC b5l:=⟨b2r⟩
instance:CCC a5h:=⟨a55⟩
instance:CCC g9:=⟨a80⟩
instance:CCC b5m:=⟨b2s⟩
instance:CCC y4:=⟨a00⟩
instance:CCC s5:=⟨b2v⟩
end
section
set_option maxRecDepth 100000
abbrev x0a:=Zc (Cod.cptr (CC.one Zi)) Zn
abbrev x0b:=OC.xs 0 [] [] [] Zz (.r [4] [] [] (Zs 4 Zi Zz))
abbrev x0c:=Zx 2 d8 (Zx 3 d8 Zz)
abbrev x0d:=OC.r [2] [] [] (Zs 2 Zb Zz)
abbrev x0e:=OC.r [2] [] [] (Zs 2 Zi Zz)
abbrev x0f:=Zc Zi Zn
abbrev x0g:=Zl .kHold
abbrev x0h:=Cod.fnc 293 (Zn) (Zn)
abbrev x0i:=OC.r [4] [] [] (Zs 4 Zb Zz)
abbrev x0j:=Zs 7 Zi (Zs 8 Zi Zz)
abbrev x0k:=Zl .ki64
abbrev x0l:=OC.xs 0 [1] [1] [] (Zp 1 1 (Zx 1 d8 Zz)) x0d
abbrev x0m:=Cod.cptr (CC.one Zi)
abbrev x0n:=Zc Zi x0f
abbrev x0o:=Zs 8 Zi (FC.own 99999 Kd.kHold false Zz)
abbrev x0p:=Zp 1 1 (Zs 3 Zi (Zx 1 d8 Zz))
abbrev x0q:=Zp 2 2 (Zp 3 3 x0c)
abbrev x0r:=Zx 3 d8 (FC.fixb 9 [.nil,.arr 44,.nil,.nil,.nil] (FC.map 23 Kd.kMapI (FC.own 44 Kd.ki64 false Zz)))
abbrev x0s:=Cod.agg d8
abbrev x0t:=Zl .kCharge
abbrev x0u:=Zl .kLoan
abbrev x0v:=Zl .kPatron
abbrev x0w:=OC.xs 0 [] [] [] Zz x0e
abbrev x0x:=Zs 1 Zi (Zs 2 x0h (Zs 6 Zi (Zs 7 Zi (FC.own 99999 Kd.kHold false Zz))))
abbrev x0y:=Zl .kItem
abbrev x0z:=Zx 1 d8 Zz
abbrev x00:=Zs 3 Zi Zz
abbrev x01:=Cod.agg y3
abbrev x02:=Cod.agg a06
abbrev x03:=Zp 2 2 (Zp 3 3 (Zs 5 Zi x0c))
abbrev x04:=Zc Zb Zn
abbrev x05:=Zl .kRule
abbrev x06:=Zs 5 Zi Zz
abbrev x07:=Cod.agg o3
abbrev x08:=Zc x0m x0a
abbrev x09:=Zs 1 Zi (Zs 2 x0h (Zs 6 Zi (Zs 7 Zi x0o)))
abbrev x1a:=OC.xs 2 [] [] [] Zz x0d
abbrev c0i:ZC (Circ×Unit):=Zc x0s Zn
abbrev m7:ZD (Bool):=Zb
abbrev f1t {R:Type}:Sm R:=j3 c0i m7 (fun a=>qb a.1)
def d8l {R:Type}:Nat→Sm R:=c0
abbrev c6a:=t8 [] [] [1,3] [1] [] x0p c12 x0l
abbrev c6b:=t8 [] [] [1,4] [1] [] (Zp 1 1 (Zs 4 Zi x0z)) c14 (.xs 2 [1] [1] [] (Zp 1 1 x0z) x0d)
abbrev b9b:=t8 [] [] [1,5] [1] [] (Zp 1 1 (Zs 5 Zi x0z)) a6b (.xs 4 [] [] [] Zz x0d)
def a6o {R:Type}:Lp Kd El R:=lp 14 b9b.sem (lp 9 c6b.sem (lp 4 c6a.sem l0))
abbrev d4m:ZC ((List UInt8)×Int×Unit):=Zc Cod.str x0f
abbrev c78:ZD (Int×Int):=(Cod.tup2 x0n)
abbrev b7g {R:Type}:Sm R:=j3 d4m c78 (fun a=>qa9 a.1 a.2.1)
abbrev d0m:ZC ((List UInt8)×Unit):=Zc Cod.str Zn
abbrev c9x {R:Type}:Sm R:=j3 d0m m7 (fun a=>qv a.1)
def d83 {R:Type}:Nat→Sm R:=cl 179 b7g c0
abbrev c6y:=t8 [] [] [0,3] [] [] (Zs 0 Cod.str x00) c2e (.xs 0 [] [] [] Zz x0d)
def b90 {R:Type}:Lp Kd El R:=lp 2 c6y.sem l0
abbrev s8:ZD (Int):=Zi
abbrev d7x {R:Type}:Sm R:=j3 d4m s8 (fun a=>qe a.1 a.2.1)
abbrev z8:ZC (Int×Unit):=Zc Zi Zn
abbrev c8k {R:Type}:Sm R:=j3 z8 m7 (fun a=>qab a.1)
abbrev c79:ZD ((List UInt8)):=Cod.str
abbrev c8l {R:Type}:Sm R:=j3 d0m c79 (fun a=>qac a.1)
def d02 {R:Type}:Nat→Sm R:=cl 179 b7g (cl 180 d7x (cl 181 c8k c0))
abbrev b8t:=t8 [] [] [0,3,4,5] [] [] (Zs 0 Cod.str (Zs 3 Cod.str (Zs 4 Zb x06))) a9w (.x 0 [3] [] [] (Zs 3 Cod.str Zz))
def b34 {R:Type}:Lp Kd El R:=lp 4 b8t.sem l0
abbrev d4p:ZC ((List Patron)×Unit):=Zc x0v Zn
abbrev c8o {R:Type}:Sm R:=j3 d4p s8 (fun a=>qai a.1)
def d08 {R:Type}:Nat→Sm R:=cl 107 c9x (cl 108 c8l c0)
abbrev b8z:=t8 [] [] [0,3] [] [] (Zs 0 x0v x00) a7z x0w
def b4a {R:Type}:Lp Kd El R:=lp 4 b8z.sem l0
abbrev d4n:ZC ((List Loan)×Unit):=Zc x0u Zn
abbrev c8m {R:Type}:Sm R:=j3 d4n s8 (fun a=>qag a.1)
def d06 {R:Type}:Nat→Sm R:=c0
abbrev b8x:=t8 [] [] [0,3] [] [] (Zs 0 x0u x00) a7x x0w
def b38 {R:Type}:Lp Kd El R:=lp 4 b8x.sem l0
abbrev e53 {R:Type}:Sm R:=j3 z8 m7 (fun a=>qcv a.1)
abbrev e5t {R:Type}:Sm R:=j3 z8 m7 (fun a=>qc9 a.1)
abbrev e74:ZC (Hold×Unit):=Zc x01 Zn
abbrev c9m {R:Type}:Sm R:=j3 e74 s8 (fun a=>qcs a.1)
abbrev e77:ZC ((List Hold)×Unit):=Zc x0g Zn
abbrev d7z {R:Type}:Sm R:=j3 e77 s8 (fun a=>qg a.1)
def d8p {R:Type}:Nat→Sm R:=cl 109 c9m c0
abbrev c6f:=t8 [] [] [0,3] [] [] (Zs 0 x0g x00) b6x (.xs 0 [0] [] [] (Zs 0 x0g Zz) x0e)
abbrev b9j:=t8 [] [] [0,5,6] [] [] (Zs 0 x0g (Zs 5 Zi (Zs 6 Zi Zz))) a8c (.xs 4 [0,5] [] [] (Zs 0 x0g x06) x0e)
abbrev b9i:=t8 [] [] [0,5] [] [] (Zs 0 x0g x06) a91 (.xs 2 [] [] [] Zz x0e)
def a6p {R:Type}:Lp Kd El R:=lp 12 b9i.sem (lp 15 b9j.sem (lp 4 c6f.sem l0))
abbrev c9v {R:Type}:Sm R:=j3 z8 m7 (fun a=>qdl a.1)
abbrev d4o:ZC ((List Charge)×Unit):=Zc x0t Zn
abbrev c8n {R:Type}:Sm R:=j3 d4o s8 (fun a=>qah a.1)
def d07 {R:Type}:Nat→Sm R:=cl 110 c9v c0
abbrev b8y:=t8 [] [] [0,3] [] [] (Zs 0 x0t x00) a7y x0w
def b39 {R:Type}:Lp Kd El R:=lp 4 b8y.sem l0
abbrev b7u:ZC (Int×Int×Int×Unit):=Zc Zi x0n
abbrev e43 {R:Type}:Sm R:=j3 b7u m7 (fun a=>qav a.1 a.2.1 a.2.2.1)
abbrev d4v:ZC (Rule×Unit):=Zc (Cod.agg a3j) Zn
abbrev c8t {R:Type}:Sm R:=j3 d4v m7 (fun a=>qb9 a.1)
abbrev f2u:ZC ((List Rule)×Unit):=Zc x05 Zn
abbrev d70 {R:Type}:Sm R:=j3 f2u s8 (fun a=>qh a.1)
def d8q {R:Type}:Nat→Sm R:=cl 111 c8t c0
abbrev c6h:=t8 [] [] [0,3,4] [] [] (Zs 0 x05 (Zs 3 Zi (Zs 4 Zi Zz))) b6y (.xs 2 [0,3] [] [] (Zs 0 x05 x00) x0e)
abbrev c6g:=t8 [] [] [0,3] [] [] (Zs 0 x05 x00) c18 x0w
def b1e {R:Type}:Lp Kd El R:=lp 4 c6g.sem (lp 9 c6h.sem l0)
abbrev d79:ZC (Calendar×Unit):=Zc (Cod.agg j8) Zn
abbrev d73 {R:Type}:Sm R:=j3 d79 s8 (fun a=>qn a.1)
def d8w {R:Type}:Nat→Sm R:=c0
abbrev c6r:=t8 [] [] [1,3] [1] [] (Zp 1 1 (Zs 3 Zi (Zx 1 j8 Zz))) b64 (.xs 0 [1] [1] [] (Zp 1 1 (Zx 1 j8 Zz)) x0e)
abbrev b9k:=t8 [] [] [1,4] [1] [] (Zp 1 1 (Zs 4 Zi (Zx 1 j8 Zz))) a8d (.xs 2 [] [] [] Zz x0e)
def b1h {R:Type}:Lp Kd El R:=lp 11 b9k.sem (lp 6 c6r.sem l0)
abbrev b7t:ZC ((List Patron)×Int×Unit):=Zc x0v x0f
abbrev e4t {R:Type}:Sm R:=j3 b7t s8 (fun a=>qae a.1 a.2.1)
def d04 {R:Type}:Nat→Sm R:=c0
abbrev b8v:=t8 [] [] [0,1,5] [] [] (Zs 0 x0v (Zs 1 Zi x06)) a9y x0b
def b36 {R:Type}:Lp Kd El R:=lp 2 b8v.sem l0
abbrev d7j:ZD (Patron×Bool):=(Cod.tup2 (Zc (Cod.agg a2d) x04))
abbrev b1v {R:Type}:Sm R:=j3 b7t d7j (fun a=>qbf a.1 a.2.1)
abbrev f1k:ZD (Custody):=x07
abbrev c9n {R:Type}:Sm R:=j3 z8 f1k (fun a=>qct a.1)
abbrev e6l {R:Type}:Sm R:=j3 z8 m7 (fun a=>qdt a.1)
abbrev c29:ZC (Custody×Unit):=Zc x07 Zn
abbrev e5v {R:Type}:Sm R:=j3 c29 m7 (fun a=>qcc a.1)
abbrev e7x:ZC (Move×Unit):=Zc (Cod.agg a5g) Zn
abbrev e5q {R:Type}:Sm R:=j3 e7x m7 (fun a=>qc6 a.1)
abbrev b96:ZD ((List Int)):=x0k
abbrev c80 {R:Type}:Sm R:=j3 z8 b96 (fun a=>qbo a.1)
abbrev c3i:ZC (Int×Int×Unit):=Zc Zi x0f
abbrev f17 {R:Type}:Sm R:=j3 c3i m7 (fun a=>qz a.1 a.2.1)
def d86 {R:Type}:Nat→Sm R:=cl 271 c80 c0
abbrev c61:=t8 [] [] [0,5,6] [] [] (Zs 0 Zi (Zs 5 x0k (Zs 6 Zi Zz))) c2g (.xs 0 [] [] [] Zz x0i)
def b93 {R:Type}:Lp Kd El R:=lp 3 c61.sem l0
abbrev b7v:ZC (Custody×Move×Unit):=Zc x07 (Zc (Cod.agg a5g) Zn)
abbrev e47 {R:Type}:Sm R:=j3 b7v m7 (fun a=>qb1 a.1 a.2.1)
abbrev e6q {R:Type}:Sm R:=j3 z8 s8 (fun a=>qdy a.1)
abbrev b97:ZD (Custody×Int):=(Cod.tup2 (Zc x07 x0f))
abbrev c81 {R:Type}:Sm R:=j3 b7v b97 (fun a=>qbp a.1 a.2.1)
abbrev e7f:ZC (Int×(List Move)×Int×Unit):=Zc Zi (Zc (Zl .kMove) x0f)
abbrev f1b:ZD (Custody×Int×Int):=(Cod.tup3 (Zc x07 x0n))
abbrev c8j {R:Type}:Sm R:=j3 e7f f1b (fun a=>qaa a.1 a.2.1 a.2.2.1)
def d01 {R:Type}:Nat→Sm R:=cl 151 c81 (cl 185 c9n c0)
abbrev b8s:=t8 [] [] [1,2,6,9,10] [6,9] [] (Zs 1 (Zl .kMove) (Zs 2 Zi (Zp 6 6 (Zp 9 9 (Zs 10 Zi (Zx 6 o3 (Zx 9 o3 Zz))))))) a9v (.xs 0 [6,9] [6,9] [] (Zp 6 6 (Zp 9 9 (Zx 6 o3 (Zx 9 o3 Zz)))) (.r [7,8] [6] [6] (Zp 6 6 (Zs 7 Zi (Zs 8 Zi (Zx 6 o3 Zz))))))
def b33 {R:Type}:Lp Kd El R:=lp 5 b8s.sem l0
abbrev b0c:ZC (Circ×Int×Unit):=Zc x0s x0f
abbrev c0b {R:Type}:Sm R:=j3 b0c s8 (fun a=>ql a.1 a.2.1)
def d8u {R:Type}:Nat→Sm R:=c0
abbrev c6o:=t8 [] [] [1,2,5] [2] [] (Zs 1 Zi (Zp 2 2 (Zs 5 Zi (Zx 2 d8 Zz)))) c2a x0b
def b9y {R:Type}:Lp Kd El R:=lp 2 c6o.sem l0
abbrev d75 {R:Type}:Sm R:=j3 c0i m7 (fun a=>qr a.1)
def d8z {R:Type}:Nat→Sm R:=cl 86 c0b (cl 107 c9x (cl 113 c8j c0))
abbrev c6u:=t8 [] [] [1,3] [1] [] x0p b66 x0l
abbrev b9m:=t8 [] [] [1,8] [1] [] (Zp 1 1 (Zs 8 Zi x0z)) a8e x1a
def b1j {R:Type}:Lp Kd El R:=lp 15 b9m.sem (lp 4 c6u.sem l0)
abbrev c88 {R:Type}:Sm R:=j3 c29 m7 (fun a=>qc3 a.1)
abbrev b7s:ZC ((List Loan)×Int×Unit):=Zc x0u x0f
abbrev e4s {R:Type}:Sm R:=j3 b7s s8 (fun a=>qad a.1 a.2.1)
def d03 {R:Type}:Nat→Sm R:=c0
abbrev b8u:=t8 [] [] [0,1,5] [] [] (Zs 0 x0u (Zs 1 Zi x06)) a9x x0b
def b35 {R:Type}:Lp Kd El R:=lp 2 b8u.sem l0
abbrev f1l:ZD (Loan×Bool):=(Cod.tup2 (Zc (Cod.agg a3i) x04))
abbrev c9o {R:Type}:Sm R:=j3 b7s f1l (fun a=>qcu a.1 a.2.1)
abbrev d74 {R:Type}:Sm R:=j3 c0i m7 (fun a=>qq a.1)
def d8y {R:Type}:Nat→Sm R:=cl 60 b1v (cl 86 c0b (cl 114 c88 (cl 115 c9o c0)))
abbrev c6t:=t8 [] [] [1,3] [1] [] x0p b65 x0l
abbrev b9l:=t8 [] [] [1,8] [1] [] (Zp 1 1 (Zs 8 Zi x0z)) a92 x1a
def b1i {R:Type}:Lp Kd El R:=lp 10 b9l.sem (lp 2 c6t.sem l0)
abbrev e4d:ZD (Hold×Bool):=(Cod.tup2 (Zc x01 x04))
abbrev d7v {R:Type}:Sm R:=j3 b0c e4d (fun a=>q9 a.1 a.2.1)
def d8k {R:Type}:Nat→Sm R:=c0
abbrev c58:=t8 [] [] [1,2,4,6] [2,4] [] (Zs 1 Zi (Zp 2 2 (Zp 4 4 (Zs 6 Zi (Zx 2 d8 (Zx 4 y3 Zz)))))) c1w (.xs 0 [4] [4] [] (Zp 4 4 (Zx 4 y3 Zz)) (.r [5] [4] [4] (Zp 4 4 (Zs 5 Zb (Zx 4 y3 Zz)))))
def b9u {R:Type}:Lp Kd El R:=lp 2 c58.sem l0
abbrev d76 {R:Type}:Sm R:=j3 c0i m7 (fun a=>qs a.1)
def d80 {R:Type}:Nat→Sm R:=cl 60 b1v (cl 86 c0b (cl 89 d7v c0))
abbrev c6v:=t8 [] [] [1,3] [1] [] x0p b67 x0l
abbrev b9n:=t8 [] [] [1,9] [1] [] (Zp 1 1 (Zs 9 Zi x0z)) a93 x1a
def b1k {R:Type}:Lp Kd El R:=lp 18 b9n.sem (lp 2 c6v.sem l0)
abbrev f11 {R:Type}:Sm R:=j3 c0i m7 (fun a=>qu a.1)
def d82 {R:Type}:Nat→Sm R:=cl 54 c8o (cl 55 c8m (cl 56 d7z (cl 57 c8n (cl 58 d70 (cl 59 d73 (cl 60 b1v (cl 61 d75 (cl 62 d74 (cl 63 d76 c0)))))))))
abbrev c6x:=t8 [] [] [1,3] [1] [] x0p b4s x0l
abbrev b9p:=t8 [] [] [1,4] [1] [] (Zp 1 1 (Zs 4 Zi x0z)) a8f (.xs 2 [1] [1] [] (Zp 1 1 x0z) x0d)
def b1m {R:Type}:Lp Kd El R:=lp 11 b9p.sem (lp 6 c6x.sem l0)
abbrev d4y:ZC (Unit):=Zn
abbrev b98:ZD (Bool):=m7
def d6n (a:Unit):Option (Bool):=qbz
abbrev e7p:ZC (Item×Int×Unit):=Zc x02 x0f
abbrev b1w {R:Type}:Sm R:=j3 e7p m7 (fun a=>qbg a.1 a.2.1)
abbrev c9y {R:Type}:Sm R:=j3 b0c b96 (fun a=>qy a.1 a.2.1)
def d85 {R:Type}:Nat→Sm R:=cl 33 b1w c0
abbrev c60:=t8 [(5,5,Kd.ki64)] [] [1,5,9,10,11] [] [5] (Zs 1 Zi (FC.arr 5 5 (Zs 9 x0y (Zs 10 Zi (Zs 11 Zi (FC.own 5 Kd.ki64 false Zz)))))) c2f (.x 0 [5] [] [5] (FC.arr 5 5 (FC.own 5 Kd.ki64 false Zz)))
def b92 {R:Type}:Lp Kd El R:=lp 3 c60.sem l0
abbrev b7k {R:Type}:Sm R:=j3 z8 m7 (fun a=>qbu a.1)
abbrev b7w:ZC ((List Int)×Unit):=Zc x0k Zn
abbrev b7j {R:Type}:Sm R:=j3 b7w b96 (fun a=>qb6 a.1)
abbrev c22:ZC ((List Int)×Unit):=b7w
abbrev d7e:ZD (List Int):=x0k
def d6j (a:(List Int)×Unit):Option (List Int):=qa0 a.1
abbrev c8i {R:Type}:Sm R:=j3 c22 d7e d6j
abbrev c25:ZC ((List Int)×Unit):=b7w
abbrev d7g:ZD ((List Int)):=b96
def d6k (a:(List Int)×Unit):Option ((List Int)):=qax a.1
abbrev b7i {R:Type}:Sm R:=j3 c25 d7g d6k
abbrev f1d:ZD ((List Int)×List MapI):=(Cod.tup2 (Zc x0k (Zc (Zl .kMapI) Zn)))
abbrev c8p {R:Type}:Sm R:=j3 b7w f1d (fun a=>qal a.1)
def d1b {R:Type}:Nat→Sm R:=cl 34 c8i (cl 35 b7i (cl 70 b7j c0))
abbrev b82:=t8 [] [] [0,4,9,10,11] [] [8] (Zs 0 x0k (FC.arr 4 8 (Zs 9 x0k (Zs 10 Zi (Zs 11 Zi (FC.map 8 Kd.kMapI Zz)))))) a9z (.x 0 [0,4] [] [8] (Zs 0 x0k (FC.arr 4 8 (FC.map 8 Kd.kMapI Zz))))
def b4d {R:Type}:Lp Kd El R:=lp 3 b82.sem l0
abbrev d4w:ZC (Item×Int×Unit):=Zc x02 x0a
abbrev c8z {R:Type}:Sm R:=j3 d4w m7 (fun a=>qbl a.1 a.2.1)
abbrev f2v:ZC ((List Item)×((Unit)×(Int×Unit))×Unit):=Zc x0y (Zc (Cod.fnc 72 (Zn) x0a) Zn)
abbrev f1w {R:Type}:Sm R:=j3 f2v s8 (fun a=>qi (fun g x0=>qbl x0 g.2.1) a.1 a.2.1)
def d8r {R:Type}:Nat→Sm R:=cl 72 c8z c0
abbrev c6i:=t8 [] [] [0,1,7,8] [] [] (Zs 0 x0y (Zs 1 (Cod.fnc 72 (Zn) x0a) x0j)) (b6z (fun g x0=>qbl x0 g.2.1)) x0b
def b9x {R:Type}:Lp Kd El R:=lp 2 c6i.sem l0
abbrev f1e:ZD (Item×Bool):=(Cod.tup2 (Zc x02 x04))
abbrev b7h {R:Type}:Sm R:=j3 b0c f1e (fun a=>qam a.1 a.2.1)
abbrev d78:ZC (Circ×Int×(List Int)×Unit):=Zc x0s (Zc Zi (Zc x0k Zn))
abbrev f3r:ZD ((List Problem)):=(Zl .kProblem)
abbrev d7w {R:Type}:Sm R:=j3 d78 f3r (fun a=>qa a.1 a.2.1 a.2.2.1)
def c37 {R:Type}:Nat→Sm R:=cl 21 c9y (cl 30 c8p (cl 31 b7k (cl 32 b7h (cl 33 b1w (cl 34 c8i (cl 35 b7i c0))))))
abbrev c59:=t8 [(309001,44,Kd.ki64)] [] [1,3,7,8,9,30,31,32] [3,9] [23,44] (Zs 1 Zi (Zp 3 3 (Zs 7 x0k (FC.arr 8 23 (Zp 9 9 (Zs 30 x0k (Zs 31 Zi (Zs 32 Zi x0r)))))))) b6o (.x 0 [1,3,7,8,9] [3,9] [23,44] (Zs 1 Zi (Zp 3 3 (Zs 7 x0k (FC.arr 8 23 (Zp 9 9 x0r))))))
abbrev b8r:=t8 [(309001,44,Kd.ki64),(309003,66,Kd.ki64),(309004,92,Kd.ki64),(309002,82,Kd.ki64)] [] [1,3,8,9,47,48,49] [3,9] [23,44,66,82,92] (Zs 1 Zi (Zp 3 3 (FC.arr 8 23 (Zp 9 9 (Zs 47 x0k (Zs 48 Zi (Zs 49 Zi (Zx 3 d8 (FC.fixb 9 [.nil,.arr 44,.arr 82,.arr 66,.arr 92] (FC.map 23 Kd.kMapI (FC.own 44 Kd.ki64 false (FC.own 66 Kd.ki64 false (FC.own 82 Kd.ki64 false (FC.own 92 Kd.ki64 false Zz)))))))))))))) a6a (.x 2 [9] [9] [44,66,82,92] (Zp 9 9 (FC.fixb 9 [.nil,.arr 44,.arr 82,.arr 66,.arr 92] (FC.own 44 Kd.ki64 false (FC.own 66 Kd.ki64 false (FC.own 82 Kd.ki64 false (FC.own 92 Kd.ki64 false Zz)))))))
abbrev a33:=t8 [(16,16,Kd.kProblem)] [] [16,17,95,96,103,104,105] [] [16,44,66,82,92,103] (FC.arr 16 16 (FC.fix 17 (.int .i64 0) (FC.fixa 95 [.nil,.arr 44,.arr 82,.arr 66,.arr 92] (FC.fix 96 (.int .i64 0) (FC.arr 103 103 (Zs 104 Zi (Zs 105 Zi (FC.own 16 Kd.kProblem false (FC.own 44 Kd.ki64 false (FC.own 66 Kd.ki64 false (FC.own 82 Kd.ki64 false (FC.own 92 Kd.ki64 false (FC.own 103 Kd.ki64 false Zz))))))))))))) qd5 (.x 7 [16,95,96] [] [16,44,66,82,92] (FC.arr 16 16 (FC.fixa 95 [.nil,.arr 44,.arr 82,.arr 66,.arr 92] (FC.fix 96 (.int .i64 0) (FC.own 16 Kd.kProblem false (FC.own 44 Kd.ki64 false (FC.own 66 Kd.ki64 false (FC.own 82 Kd.ki64 false (FC.own 92 Kd.ki64 false Zz)))))))))
abbrev a34:=t8 [] [400095] [16,17,95,96,103,104,105] [] [16,66,82,92,103] (FC.arr 16 16 (FC.fix 17 (.int .i64 1) (FC.fixa 95 [.nil,.und,.arr 82,.arr 66,.arr 92] (FC.fix 96 (.int .i64 1) (FC.arr 103 103 (Zs 104 Zi (Zs 105 Zi (FC.own 16 Kd.kProblem false (FC.own 66 Kd.ki64 false (FC.own 82 Kd.ki64 false (FC.own 92 Kd.ki64 false (FC.own 103 Kd.ki64 false Zz)))))))))))) qd4 (.x 7 [16,95,96] [] [16,66,82,92] (FC.arr 16 16 (FC.fixa 95 [.nil,.und,.arr 82,.arr 66,.arr 92] (FC.fix 96 (.int .i64 1) (FC.own 16 Kd.kProblem false (FC.own 66 Kd.ki64 false (FC.own 82 Kd.ki64 false (FC.own 92 Kd.ki64 false Zz))))))))
abbrev a35:=t8 [] [400095] [16,17,95,96,103,104,105] [] [16,66,92,103] (FC.arr 16 16 (FC.fix 17 (.int .i64 2) (FC.fixa 95 [.nil,.und,.und,.arr 66,.arr 92] (FC.fix 96 (.int .i64 2) (FC.arr 103 103 (Zs 104 Zi (Zs 105 Zi (FC.own 16 Kd.kProblem false (FC.own 66 Kd.ki64 false (FC.own 92 Kd.ki64 false (FC.own 103 Kd.ki64 false Zz))))))))))) qd3 (.x 7 [16,95,96] [] [16,66,92] (FC.arr 16 16 (FC.fixa 95 [.nil,.und,.und,.arr 66,.arr 92] (FC.fix 96 (.int .i64 2) (FC.own 16 Kd.kProblem false (FC.own 66 Kd.ki64 false (FC.own 92 Kd.ki64 false Zz)))))))
abbrev a36:=t8 [] [400095] [16,17,95,96,103,104,105] [] [16,92,103] (FC.arr 16 16 (FC.fix 17 (.int .i64 3) (FC.fixa 95 [.nil,.und,.und,.und,.arr 92] (FC.fix 96 (.int .i64 3) (FC.arr 103 103 (Zs 104 Zi (Zs 105 Zi (FC.own 16 Kd.kProblem false (FC.own 92 Kd.ki64 false (FC.own 103 Kd.ki64 false Zz)))))))))) qd2 (.x 7 [16,95,96] [] [16,92] (FC.arr 16 16 (FC.fixa 95 [.nil,.und,.und,.und,.arr 92] (FC.fix 96 (.int .i64 3) (FC.own 16 Kd.kProblem false (FC.own 92 Kd.ki64 false Zz))))))
abbrev a38:=t8 [] [400095] [16,17,95,96,103,104,105] [] [16,103] (FC.arr 16 16 (FC.fix 17 (.int .i64 4) (FC.fixa 95 [.nil,.und,.und,.und,.und] (FC.fix 96 (.int .i64 4) (FC.arr 103 103 (Zs 104 Zi (Zs 105 Zi (FC.own 16 Kd.kProblem false (FC.own 103 Kd.ki64 false Zz))))))))) qd1 (.x 7 [16,95,96] [] [16] (FC.arr 16 16 (FC.fixa 95 [.nil,.und,.und,.und,.und] (FC.fix 96 (.int .i64 4) (FC.own 16 Kd.kProblem false Zz)))))
abbrev f1g:ZC (Circ_desk):=g9
abbrev e5k {R:Type}:Sm R:=d7t c0i f1g (fun a=>qbq a.1)
abbrev c9l {R:Type}:Sm R:=j3 d4w m7 (fun a=>qcq a.1 a.2.1)
abbrev d0l:ZC ((List Item)×((Unit)×(Int×Unit))×Unit):=Zc x0y (Zc (Cod.fnc 160 (Zn) x0a) Zn)
abbrev c9w {R:Type}:Sm R:=j3 d0l s8 (fun a=>qi (fun g x0=>qcq x0 g.2.1) a.1 a.2.1)
def c0x {R:Type}:Nat→Sm R:=cl 160 c9l c0
abbrev a9r:=t8 [] [] [0,1,7,8] [] [] (Zs 0 x0y (Zs 1 (Cod.fnc 160 (Zn) x0a) x0j)) (b6z (fun g x0=>qcq x0 g.2.1)) x0b
def a7t {R:Type}:Lp Kd El R:=lp 2 a9r.sem l0
abbrev e5g {R:Type}:Sm R:=j3 b0c s8 (fun a=>qbe a.1 a.2.1)
abbrev c3h:ZC (Unit×Int×Unit):=Zc (Cod.ptrc 100000) x0f
abbrev a87:ZD (Unit):=Cod.unit
abbrev f1y {R:Type}:Sm R:=a9b c3h (BC.one g9) a87 (fun a b=>qo a.2.1 b)
abbrev e5d {R:Type}:Sm R:=a9b c3h (BC.one g9) s8 (fun a b=>qb8 a.2.1 b)
abbrev f2y:ZC (Unit×Unit):=Zc (Cod.ptrc 100000) Zn
abbrev c2i:ZD (Circ×Int):=(Cod.tup2 (Zc x0s x0f))
abbrev f13 {R:Type}:Sm R:=a9b f2y (BC.one g9) c2i (fun a b=>qw b)
abbrev e4r {R:Type}:Sm R:=j3 b7u m7 (fun a=>qa8 a.1 a.2.1 a.2.2.1)
abbrev e6j {R:Type}:Sm R:=j3 c29 m7 (fun a=>qdr a.1)
abbrev e6h {R:Type}:Sm R:=j3 c3i m7 (fun a=>qdp a.1 a.2.1)
abbrev e7s:ZC (Custody×Bool×Unit):=Zc x07 x04
abbrev e5i {R:Type}:Sm R:=j3 e7s b97 (fun a=>qbm a.1 a.2.1)
abbrev e6m {R:Type}:Sm R:=j3 b7v b97 (fun a=>qdu a.1 a.2.1)
abbrev e6k {R:Type}:Sm R:=j3 b7v b97 (fun a=>qds a.1 a.2.1)
abbrev e72:ZC ((List Item)×Unit):=Zc x0y Zn
abbrev d7m:ZD ((List Item)):=x0y
abbrev c9h {R:Type}:Sm R:=j3 e72 d7m (fun a=>qcl a.1)
abbrev e76:ZC ((List Move)×Unit):=Zc (Zl .kMove) Zn
abbrev f1n:ZD ((List Move)):=(Zl .kMove)
abbrev c9q {R:Type}:Sm R:=j3 e76 f1n (fun a=>qcy a.1)
abbrev d4l:ZC (Unit×Int×Int×Int×Int×Unit):=Zc (Cod.ptrc 100000) (Zc Zi (Zc Zi x0n))
abbrev e4n {R:Type}:Sm R:=a9b d4l (BC.one g9) a87 (fun a b=>qa3 a.2.1 a.2.2.1 a.2.2.2.1 a.2.2.2.2.1 b)
abbrev c26:ZC (Unit×Int×Int×Unit):=Zc (Cod.ptrc 100000) x0n
abbrev e5h {R:Type}:Sm R:=a9b c26 (BC.one g9) a87 (fun a b=>qbh a.2.1 a.2.2.1 b)
abbrev e6a {R:Type}:Sm R:=j3 z8 m7 (fun a=>qdg a.1)
abbrev e52 {R:Type}:Sm R:=j3 z8 m7 (fun a=>qcr a.1)
abbrev e7o:ZC (Charge×Unit):=Zc (Cod.agg a1m) Zn
abbrev c8v {R:Type}:Sm R:=j3 e7o s8 (fun a=>qbd a.1)
abbrev e4o {R:Type}:Sm R:=j3 d4o s8 (fun a=>qa4 a.1)
def d00 {R:Type}:Nat→Sm R:=cl 170 c8v c0
abbrev b8q:=t8 [] [] [0,9,10,11] [] [] (Zs 0 x0t (Zs 9 x0t (Zs 10 Zi (Zs 11 Zi Zz)))) d6y x0w
def b32 {R:Type}:Lp Kd El R:=lp 4 b8q.sem l0
abbrev e7l:ZC ((List Charge)×Charge×Unit):=Zc x0t (Zc (Cod.agg a1m) Zn)
abbrev d7h:ZD ((List Charge)×Int):=(Cod.tup2 (Zc x0t x0f))
abbrev e48 {R:Type}:Sm R:=j3 e7l d7h (fun a=>qb2 a.1 a.2.1)
abbrev e5m {R:Type}:Sm R:=a9b d4l (BC.one g9) a87 (fun a b=>qc0 a.2.1 a.2.2.1 a.2.2.2.1 a.2.2.2.2.1 b)
abbrev c27:ZC (Hold×Int×Unit):=Zc x01 x0a
abbrev c8w {R:Type}:Sm R:=j3 c27 m7 (fun a=>qbi a.1 a.2.1)
abbrev f2s:ZC ((List Hold)×((Unit)×(Int×Unit))×Unit):=Zc x0g (Zc (Cod.fnc 146 (Zn) x0a) Zn)
abbrev f1u {R:Type}:Sm R:=j3 f2s s8 (fun a=>qc (fun g x0=>qbi x0 g.2.1) a.1 a.2.1)
def d8m {R:Type}:Nat→Sm R:=cl 146 c8w c0
abbrev c6c:=t8 [] [] [0,1,7,8] [] [] (Zs 0 x0g (Zs 1 (Cod.fnc 146 (Zn) x0a) x0j)) (c7y (fun g x0=>qbi x0 g.2.1)) x0b
def b9v {R:Type}:Lp Kd El R:=lp 2 c6c.sem l0
abbrev e42 {R:Type}:Sm R:=j3 b0c e4d (fun a=>qau a.1 a.2.1)
abbrev c9k {R:Type}:Sm R:=j3 c27 m7 (fun a=>qcp a.1 a.2.1)
abbrev d0j:ZC ((List Hold)×((Unit)×(Int×Unit))×Unit):=Zc x0g (Zc (Cod.fnc 147 (Zn) x0a) Zn)
abbrev c9a {R:Type}:Sm R:=j3 d0j s8 (fun a=>qc (fun g x0=>qcp x0 g.2.1) a.1 a.2.1)
def c0u {R:Type}:Nat→Sm R:=cl 147 c9k c0
abbrev a9o:=t8 [] [] [0,1,7,8] [] [] (Zs 0 x0g (Zs 1 (Cod.fnc 147 (Zn) x0a) x0j)) (c7y (fun g x0=>qcp x0 g.2.1)) x0b
def a7q {R:Type}:Lp Kd El R:=lp 2 a9o.sem l0
abbrev c8a:ZD ((List Hold)):=x0g
abbrev e5b {R:Type}:Sm R:=j3 e77 c8a (fun a=>qb5 a.1)
abbrev e70:ZC ((List Hold)×Int×Hold×Unit):=Zc x0g (Zc Zi (Zc x01 Zn))
abbrev e5x {R:Type}:Sm R:=j3 e70 c8a (fun a=>qcf a.1 a.2.1 a.2.2.1)
abbrev c23:ZC ((List Hold)×Int×Unit):=Zc x0g x0f
abbrev d7f:ZD ((List Hold)×Int):=(Cod.tup2 (Zc x0g x0f))
abbrev e44 {R:Type}:Sm R:=j3 c23 d7f (fun a=>qaw a.1 a.2.1)
abbrev e7t:ZC (Unit×(List Hold)×Int×Unit):=Zc (Cod.ptrc 100000) (Zc x0g x0f)
abbrev e5j {R:Type}:Sm R:=a9b e7t (BC.one g9) a87 (fun a b=>qbn a.2.1 a.2.2.1 b)
abbrev e7d:ZC (Hold×Hold×Unit):=Zc x01 (Zc x01 Zn)
abbrev b7f {R:Type}:Sm R:=j3 e7d s8 (fun a=>qa6 a.1 a.2.1)
abbrev f2x:ZC ((List Hold)×Int×Int×((Unit)×(Unit))×Unit):=Zc x0g (Zc Zi (Zc Zi (Zc x0h Zn)))
abbrev d36:ZD (List Hold):=x0g
abbrev d71 {R:Type}:Sm R:=j3 f2x d36 (fun a=>qk (fun g x0 x1=>qa6 x0 x1) a.1 a.2.1 a.2.2.1 a.2.2.2.1)
def d8t {R:Type}:Nat→Sm R:=cl 293 b7f c0
abbrev c6n:=t8 [] [] [0,1,2,3,8,9] [] [99999] (FC.arr 0 99999 (Zs 1 Zi (Zs 2 Zi (Zs 3 x0h (Zs 8 Zi (Zs 9 Zi (FC.own 99999 Kd.kHold false Zz))))))) (f05 (fun g x0 x1=>qa6 x0 x1)) (.x 2 [0,1,2,3,8] [] [99999] (FC.arr 0 99999 (Zs 1 Zi (Zs 2 Zi (Zs 3 x0h x0o)))))
abbrev c6m:=t8 [] [] [0,1,2,3,8] [] [99999] (FC.arr 0 99999 (Zs 1 Zi (Zs 2 Zi (Zs 3 x0h x0o)))) (f04 (fun g x0 x1=>qa6 x0 x1)) (.x 0 [] [] [99999] (FC.own 99999 Kd.kHold false Zz))
def b1f {R:Type}:Lp Kd El R:=lp 1 c6m.sem (lp 4 c6n.sem l0)
abbrev d4x:ZC ((List Hold)×Int×Int×Int×((Unit)×(Unit))×Unit):=Zc x0g (Zc Zi (Zc Zi (Zc Zi (Zc x0h Zn))))
abbrev d7k:ZD (List Hold):=d36
def d6m (a:(List Hold)×Int×Int×Int×((Unit)×(Unit))×Unit):Option (List Hold):=qbr (fun g x0 x1=>qa6 x0 x1) a.1 a.2.1 a.2.2.1 a.2.2.2.1 a.2.2.2.2.1
abbrev e5l {R:Type}:Sm R:=j3 d4x d7k d6m
abbrev f2w:ZC ((List Hold)×Int×((Unit)×(Unit))×Unit):=Zc x0g (Zc Zi (Zc x0h Zn))
abbrev f1x {R:Type}:Sm R:=j3 f2w d36 (fun a=>qj (fun g x0 x1=>qa6 x0 x1) a.1 a.2.1 a.2.2.1)
def d8s {R:Type}:Nat→Sm R:=cl 293 b7f (cl 324 d71 (cl 325 e5l c0))
abbrev c6j:=t8 [] [] [0,1,2,6,7,8] [] [99999] (FC.arr 0 99999 x09) (f01 (fun g x0 x1=>qa6 x0 x1)) (.x 0 [0,1,2,6,7] [] [99999] (FC.arr 0 99999 x0x))
abbrev c6l:=t8 [] [] [0,1,2,6,7,8] [] [99999] (FC.arr 0 99999 x09) (f03 (fun g x0 x1=>qa6 x0 x1)) (.x 4 [0,1,2,6,7] [] [99999] (FC.arr 0 99999 x0x))
abbrev c6k:=t8 [] [] [0,1,2,6] [] [99999] (FC.arr 0 99999 (Zs 1 Zi (Zs 2 x0h (Zs 6 Zi (FC.own 99999 Kd.kHold false Zz))))) (f02 (fun g x0 x1=>qa6 x0 x1)) (.x 2 [] [] [99999] (FC.own 99999 Kd.kHold false Zz))
def a6q {R:Type}:Lp Kd El R:=lp 7 c6k.sem (lp 9 c6l.sem (lp 2 c6j.sem l0))
abbrev e71:ZC ((List Hold)×((Unit)×(Unit))×Unit):=Zc x0g (Zc x0h Zn)
abbrev c9f {R:Type}:Sm R:=j3 e71 d36 (fun a=>qch (fun g x0 x1=>qa6 x0 x1) a.1 a.2.1)
abbrev f2t:ZC ((List Hold)×Int×Int×Unit):=Zc x0g x0n
abbrev d7y {R:Type}:Sm R:=j3 f2t c8a (fun a=>qf a.1 a.2.1 a.2.2.1)
def d8o {R:Type}:Nat→Sm R:=cl 292 c9f c0
abbrev c6e:=t8 [(7,7,Kd.kHold)] [] [1,2,7,10,11,12] [] [7] (Zs 1 Zi (Zs 2 Zi (FC.arr 7 7 (Zs 10 x0g (Zs 11 Zi (Zs 12 Zi (FC.own 7 Kd.kHold false Zz))))))) f00 (.x 0 [7] [] [7] (FC.arr 7 7 (FC.own 7 Kd.kHold false Zz)))
def b9w {R:Type}:Lp Kd El R:=lp 3 c6e.sem l0
abbrev e7j:ZC ((List Hold)×Item×Int×Int×Bool×Unit):=Zc x0g (Zc x02 (Zc Zi (Zc Zi x04)))
abbrev e41 {R:Type}:Sm R:=j3 e7j s8 (fun a=>qat a.1 a.2.1 a.2.2.1 a.2.2.2.1 a.2.2.2.2.1)
def d1h {R:Type}:Nat→Sm R:=cl 266 d7y c0
abbrev b88:=t8 [] [] [2,4,6,11,18,19,20] [6] [] (Zs 2 Zi (Zs 4 Zb (Zp 6 6 (Zs 11 Zi (Zs 18 x0g (Zs 19 Zi (Zs 20 Zi (Zx 6 a06 Zz)))))))) d67 (.xs 0 [11] [] [] (Zs 11 Zi Zz) (.r [10] [] [] (Zs 10 Zi Zz)))
def b4j {R:Type}:Lp Kd El R:=lp 3 b88.sem l0
abbrev e7k:ZC (Circ×Item×Unit):=Zc x0s (Zc x02 Zn)
abbrev c8s {R:Type}:Sm R:=j3 e7k s8 (fun a=>qb0 a.1 a.2.1)
abbrev c9j {R:Type}:Sm R:=j3 c27 m7 (fun a=>qco a.1 a.2.1)
abbrev d0k:ZC ((List Hold)×((Unit)×(Int×Unit))×Unit):=Zc x0g (Zc (Cod.fnc 287 (Zn) x0a) Zn)
abbrev c9b {R:Type}:Sm R:=j3 d0k s8 (fun a=>qc (fun g x0=>qco x0 g.2.1) a.1 a.2.1)
def c0v {R:Type}:Nat→Sm R:=cl 287 c9j c0
abbrev a9p:=t8 [] [] [0,1,7,8] [] [] (Zs 0 x0g (Zs 1 (Cod.fnc 287 (Zn) x0a) x0j)) (c7y (fun g x0=>qco x0 g.2.1)) x0b
def a7r {R:Type}:Lp Kd El R:=lp 2 a9p.sem l0
abbrev e5f {R:Type}:Sm R:=j3 c23 s8 (fun a=>qbc a.1 a.2.1)
abbrev e55 {R:Type}:Sm R:=j3 c23 e4d (fun a=>qd0 a.1 a.2.1)
abbrev e7u:ZC (Patron×Int×Unit):=Zc (Cod.agg a2d) x0a
abbrev c84 {R:Type}:Sm R:=j3 e7u m7 (fun a=>qbv a.1 a.2.1)
abbrev e7h:ZC ((List Patron)×((Unit)×(Int×Unit))×Unit):=Zc x0v (Zc (Cod.fnc 244 (Zn) x0a) Zn)
abbrev e4z {R:Type}:Sm R:=j3 e7h s8 (fun a=>qap (fun g x0=>qbv x0 g.2.1) a.1 a.2.1)
def d1e {R:Type}:Nat→Sm R:=cl 244 c84 c0
abbrev b85:=t8 [] [] [0,1,7,8] [] [] (Zs 0 x0v (Zs 1 (Cod.fnc 244 (Zn) x0a) x0j)) (d64 (fun g x0=>qbv x0 g.2.1)) x0b
def b4g {R:Type}:Lp Kd El R:=lp 2 b85.sem l0
abbrev e5e {R:Type}:Sm R:=j3 b7t s8 (fun a=>qba a.1 a.2.1)
abbrev e6o {R:Type}:Sm R:=j3 b7t d7j (fun a=>qdw a.1 a.2.1)
abbrev e5p {R:Type}:Sm R:=j3 c3i m7 (fun a=>qc4 a.1 a.2.1)
abbrev e7n:ZC (Rule×Int×Int×Int×Unit):=Zc (Cod.agg a3j) (Zc Zi x0n)
abbrev c8u {R:Type}:Sm R:=j3 e7n m7 (fun a=>qbb a.1 a.2.1 a.2.2.1 a.2.2.2.1)
abbrev c8q {R:Type}:Sm R:=j3 d4v s8 (fun a=>qaq a.1)
def d1f {R:Type}:Nat→Sm R:=c0
abbrev b86:=t8 [] [] [3,12,13,14] [] [12] (Zs 3 Zi (FC.arr 12 12 (Zs 13 Zi (Zs 14 Zi (FC.own 12 Kd.ki64 false Zz))))) d65 (.x 0 [3] [] [] x00)
def b4h {R:Type}:Lp Kd El R:=lp 3 b86.sem l0
abbrev d4t:ZC ((List Rule)×Int×Int×Int×Unit):=Zc x05 (Zc Zi x0n)
abbrev e4y {R:Type}:Sm R:=j3 d4t s8 (fun a=>qao a.1 a.2.1 a.2.2.1 a.2.2.2.1)
def d1d {R:Type}:Nat→Sm R:=cl 306 c8u (cl 307 c8q c0)
abbrev b84:=t8 [] [] [0,1,2,3,9,12,13,14] [] [] (Zs 0 x05 (Zs 1 Zi (Zs 2 Zi (Zs 3 Zi (Zs 9 Zi (Zs 12 x05 (Zs 13 Zi (Zs 14 Zi Zz)))))))) d63 (.x 0 [9] [] [] (Zs 9 Zi Zz))
def b4f {R:Type}:Lp Kd El R:=lp 3 b84.sem l0
abbrev d7n:ZD (Rule×Bool):=(Cod.tup2 (Zc (Cod.agg a3j) x04))
abbrev e51 {R:Type}:Sm R:=j3 d4t d7n (fun a=>qcn a.1 a.2.1 a.2.2.1 a.2.2.2.1)
abbrev e7z:ZC (Circ×Int×Item×Unit):=Zc x0s (Zc Zi (Zc x02 Zn))
abbrev e5w {R:Type}:Sm R:=j3 e7z d7n (fun a=>qcd a.1 a.2.1 a.2.2.1)
abbrev e6n {R:Type}:Sm R:=j3 b7u m7 (fun a=>qdv a.1 a.2.1 a.2.2.1)
abbrev f1j:ZD (Calendar):=(Cod.agg j8)
abbrev e5y {R:Type}:Sm R:=j3 b0c f1j (fun a=>qcg a.1 a.2.1)
abbrev c85 {R:Type}:Sm R:=j3 z8 m7 (fun a=>qbw a.1)
abbrev e58 {R:Type}:Sm R:=j3 z8 m7 (fun a=>qde a.1)
abbrev c9u {R:Type}:Sm R:=j3 c3i m7 (fun a=>qdh a.1 a.2.1)
abbrev c9r {R:Type}:Sm R:=j3 z8 m7 (fun a=>qcz a.1)
abbrev d8a:ZC ((List Int)×Int×Unit):=Zc x0k x0f
abbrev f3s:ZD (Int×Bool):=(Cod.tup2 (Zc Zi x04))
abbrev f15 {R:Type}:Sm R:=j3 d8a f3s (fun a=>qx a.1 a.2.1)
def d84 {R:Type}:Nat→Sm R:=cl 140 c9u (cl 322 c9r c0)
abbrev c6z:=t8 [] [] [0,1,6,7,8] [] [] (Zs 0 x0k (Zs 1 Zi (Zs 6 Zi x0j))) f09 (.x 0 [0,1,6,7] [] [] (Zs 0 x0k (Zs 1 Zi (Zs 6 Zi (Zs 7 Zi Zz)))))
def b91 {R:Type}:Lp Kd El R:=lp 3 c6z.sem l0
abbrev f3q:ZD ((V7 Bool)):=(Cod.agg s5)
abbrev d7u {R:Type}:Sm R:=j3 d79 f3q (fun a=>q8 a.1)
def d8j {R:Type}:Nat→Sm R:=c0
abbrev c57:=t8 [] [] [1,2,3,5] [1,2,3] [] (Zp 1 1 (Zp 2 2 (Zp 3 3 (Zs 5 Zi (Zx 1 j8 (Zx 2 s5 (Zx 3 s5 Zz))))))) f0g (.x 0 [2,3] [2,3] [] (Zp 2 2 (Zp 3 3 (Zx 2 s5 (Zx 3 s5 Zz)))))
def b9t {R:Type}:Lp Kd El R:=lp 3 c57.sem l0
abbrev e6p {R:Type}:Sm R:=j3 z8 m7 (fun a=>qdx a.1)
abbrev c87 {R:Type}:Sm R:=j3 z8 s8 (fun a=>qby a.1)
abbrev d4z:ZC (Calendar×Int×Unit):=Zc (Cod.agg j8) x0f
abbrev c9d {R:Type}:Sm R:=j3 d4z m7 (fun a=>qca a.1 a.2.1)
abbrev c8r {R:Type}:Sm R:=j3 d4z c78 (fun a=>qar a.1 a.2.1)
def d1g {R:Type}:Nat→Sm R:=cl 290 c9d c0
abbrev b87:=t8 [] [] [2,6] [2] [] (Zp 2 2 (Zs 6 Zi (Zx 2 j8 Zz))) d66 (.xs 0 [] [] [] Zz (.r [4,5] [] [] (Zs 4 Zi x06)))
def b4i {R:Type}:Lp Kd El R:=lp 2 b87.sem l0
abbrev d4s:ZC (Calendar×Int×Int×Unit):=Zc (Cod.agg j8) x0n
abbrev e4x {R:Type}:Sm R:=j3 d4s c78 (fun a=>qan a.1 a.2.1 a.2.2.1)
def d1c {R:Type}:Nat→Sm R:=cl 175 c85 (cl 260 c8r c0)
abbrev b83:=t8 [] [] [3,8,28,29] [3] [] (Zp 3 3 (Zs 8 Zi (Zs 28 Zi (Zs 29 Zi (Zx 3 j8 Zz))))) d62 (.xs 0 [8] [] [] (Zs 8 Zi Zz) (.r [6,7] [] [] (Zs 6 Zi (Zs 7 Zi Zz))))
def b4e {R:Type}:Lp Kd El R:=lp 9 b83.sem l0
abbrev e6i {R:Type}:Sm R:=a9b c26 (BC.one g9) s8 (fun a b=>qdq a.2.1 a.2.2.1 b)
abbrev e6b {R:Type}:Sm R:=j3 b7u m7 (fun a=>qdi a.1 a.2.1 a.2.2.1)
abbrev e7q:ZC (Hold×Int×Int×Unit):=Zc x01 x08
abbrev c8x {R:Type}:Sm R:=j3 e7q m7 (fun a=>qbj a.1 a.2.1 a.2.2.1)
abbrev b7x:ZC ((List Hold)×((Unit)×(Int×Int×Unit))×Unit):=Zc x0g (Zc (Cod.fnc 255 (Zn) x08) Zn)
abbrev c9c {R:Type}:Sm R:=j3 b7x s8 (fun a=>qc (fun g x0=>qbj x0 g.2.1 g.2.2.1) a.1 a.2.1)
def c0w {R:Type}:Nat→Sm R:=cl 255 c8x c0
abbrev a9q:=t8 [] [] [0,1,7,8] [] [] (Zs 0 x0g (Zs 1 (Cod.fnc 255 (Zn) x08) x0j)) (c7y (fun g x0=>qbj x0 g.2.1 g.2.2.1)) x0b
def a7s {R:Type}:Lp Kd El R:=lp 2 a9q.sem l0
abbrev e6e {R:Type}:Sm R:=j3 b7x m7 (fun a=>qdm (fun g x0=>qbj x0 g.2.1 g.2.2.1) a.1 a.2.1)
abbrev e7i:ZC ((List Hold)×Int×Int×Int×Int×Unit):=Zc x0g (Zc Zi (Zc Zi x0n))
abbrev e40 {R:Type}:Sm R:=j3 e7i d7f (fun a=>qas a.1 a.2.1 a.2.2.1 a.2.2.2.1 a.2.2.2.2.1)
abbrev e7m:ZC (Unit×Int×Hold×Unit):=Zc (Cod.ptrc 100000) (Zc Zi (Zc x01 Zn))
abbrev e5c {R:Type}:Sm R:=a9b e7m (BC.one g9) a87 (fun a b=>qb7 a.2.1 a.2.2.1 b)
abbrev c82 {R:Type}:Sm R:=a9b c3h (BC.one g9) a87 (fun a b=>qbs a.2.1 b)
abbrev e4l {R:Type}:Sm R:=a9b c3h (BC.one g9) a87 (fun a b=>qa1 a.2.1 b)
def d0y {R:Type}:Nat→Sm R:=cl 124 c82 (cl 149 c8s c0)
abbrev b8o:=t8 [] [] [0,1,11,12] [100000] [] (Zp 0 100000 (Zs 1 Zi (Zs 11 Zi (Zs 12 Zi (Zx 100000 g9 Zz))))) d6x (.xs 0 [] [100000] [] (Zx 100000 g9 Zz) (.r [] [] [100000] (Zx 100000 g9 Zz)))
def b3z {R:Type}:Lp Kd El R:=lp 1 b8o.sem l0
abbrev c9e {R:Type}:Sm R:=j3 b0c c2i (fun a=>qce a.1 a.2.1)
abbrev c28:ZC (Circ×Int×Int×Unit):=Zc x0s x0n
abbrev e5u {R:Type}:Sm R:=j3 c28 c2i (fun a=>qcb a.1 a.2.1 a.2.2.1)
abbrev d7i:ZD (Circ×Int×Int):=(Cod.tup3 (Zc x0s x0n))
abbrev e5a {R:Type}:Sm R:=a9b c3h (BC.one g9) d7i (fun a b=>qb4 a.2.1 b)
abbrev f1a:ZD ((Int×Unit)):=(Cod.clo 246 x0a)
abbrev e4p {R:Type}:Sm R:=j3 z8 f1a (fun a=>qa5 a.1)
abbrev e7r:ZC (Loan×Int×Unit):=Zc (Cod.agg a3i) x0a
abbrev c8y {R:Type}:Sm R:=j3 e7r m7 (fun a=>qbk a.1 a.2.1)
abbrev d4q:ZC ((List Loan)×((Unit)×(Int×Unit))×Unit):=Zc x0u (Zc (Cod.fnc 246 (Zn) x0a) Zn)
abbrev e4v {R:Type}:Sm R:=j3 d4q s8 (fun a=>qaj (fun g x0=>qbk x0 g.2.1) a.1 a.2.1)
def d09 {R:Type}:Nat→Sm R:=cl 246 c8y c0
abbrev b80:=t8 [] [] [0,1,7,8] [] [] (Zs 0 x0u (Zs 1 (Cod.fnc 246 (Zn) x0a) x0j)) (d60 (fun g x0=>qbk x0 g.2.1)) x0b
def b4b {R:Type}:Lp Kd El R:=lp 2 b80.sem l0
abbrev f1h:ZD (Loan×Int):=(Cod.tup2 (Zc (Cod.agg a3i) x0f))
abbrev e5n {R:Type}:Sm R:=j3 d4q f1h (fun a=>qc1 (fun g x0=>qbk x0 g.2.1) a.1 a.2.1)
abbrev b99:ZD ((List Loan)):=x0u
abbrev c9g {R:Type}:Sm R:=j3 d4n b99 (fun a=>qck a.1)
abbrev c3a:ZC ((List Loan)×Int×Int×Unit):=Zc x0u x0n
abbrev d7l:ZD ((List Loan)):=b99
def d6o (a:(List Loan)×Int×Int×Unit):Option ((List Loan)):=qci a.1 a.2.1 a.2.2.1
abbrev e5z {R:Type}:Sm R:=j3 c3a d7l d6o
abbrev e6g {R:Type}:Sm R:=j3 b7s b99 (fun a=>qdo a.1 a.2.1)
abbrev f1i:ZD ((List Loan)×Loan×Int):=(Cod.tup3 (Zc x0u (Zc (Cod.agg a3i) x0f)))
abbrev e5r {R:Type}:Sm R:=j3 b7s f1i (fun a=>qc7 a.1 a.2.1)
abbrev e7w:ZC (Unit×(List Loan)×Int×Unit):=Zc (Cod.ptrc 100000) (Zc x0u x0f)
abbrev e5o {R:Type}:Sm R:=a9b e7w (BC.one g9) a87 (fun a b=>qc2 a.2.1 a.2.2.1 b)
abbrev c83 {R:Type}:Sm R:=j3 z8 m7 (fun a=>qbt a.1)
abbrev d4r:ZC ((List Int)×((Unit)×(Unit))×Unit):=Zc x0k (Zc (Cod.fnc 174 (Zn) (Zn)) Zn)
abbrev e4w {R:Type}:Sm R:=j3 d4r s8 (fun a=>qak (fun g x0=>qbt x0) a.1 a.2.1)
def d1a {R:Type}:Nat→Sm R:=cl 174 c83 c0
abbrev b81:=t8 [] [] [0,1,7,8] [] [] (Zs 0 x0k (Zs 1 (Cod.fnc 174 (Zn) (Zn)) x0j)) (d61 (fun g x0=>qbt x0)) x0b
def b4c {R:Type}:Lp Kd El R:=lp 2 b81.sem l0
abbrev c9s {R:Type}:Sm R:=j3 d4r m7 (fun a=>qda (fun g x0=>qbt x0) a.1 a.2.1)
abbrev f1z {R:Type}:Sm R:=j3 d79 s8 (fun a=>qp a.1)
def d8x {R:Type}:Nat→Sm R:=cl 64 c9s c0
abbrev c6s:=t8 [] [] [1,24,25,26] [1] [] (Zp 1 1 (Zs 24 x0k (Zs 25 Zi (Zs 26 Zi (Zx 1 j8 Zz))))) f06 (.xs 1 [] [] [] Zz x0e)
def b9z {R:Type}:Lp Kd El R:=lp 8 c6s.sem l0
abbrev c89 {R:Type}:Sm R:=j3 c3i s8 (fun a=>qc5 a.1 a.2.1)
abbrev f10 {R:Type}:Sm R:=j3 d4s s8 (fun a=>qt a.1 a.2.1 a.2.2.1)
def d81 {R:Type}:Nat→Sm R:=cl 309 d7u (cl 310 c87 (cl 314 c89 c0))
abbrev c6w:=t8 [] [] [1,2,3,7,8,22,23] [3,7] [] (Zs 1 Zi (Zs 2 Zi (Zp 3 3 (Zp 7 7 (Zs 8 Zi (Zs 22 (Cod.agg s5) (Zs 23 Zi (Zx 3 j8 (Zx 7 s5 Zz))))))))) f07 (.x 0 [1,2,3,7,8] [3,7] [] (Zs 1 Zi (Zs 2 Zi (Zp 3 3 (Zp 7 7 (Zs 8 Zi (Zx 3 j8 (Zx 7 s5 Zz))))))))
abbrev b9o:=t8 [] [] [1,2,7,8,40,41,42] [7] [] (Zs 1 Zi (Zs 2 Zi (Zp 7 7 (Zs 8 Zi (Zs 40 x0k (Zs 41 Zi (Zs 42 Zi (Zx 7 s5 Zz)))))))) d7d (.x 2 [8] [] [] (Zs 8 Zi Zz))
def b1l {R:Type}:Lp Kd El R:=lp 13 b9o.sem (lp 7 c6w.sem l0)
abbrev e7y:ZC (Rule×Calendar×Int×Int×Unit):=Zc (Cod.agg a3j) (Zc (Cod.agg j8) x0n)
abbrev e5s {R:Type}:Sm R:=j3 e7y s8 (fun a=>qc8 a.1 a.2.1 a.2.2.1 a.2.2.2.1)
abbrev e7v:ZC (Charge×Int×Int×Int×Unit):=Zc (Cod.agg a1m) (Zc x0m x08)
abbrev c86 {R:Type}:Sm R:=j3 e7v m7 (fun a=>qbx a.1 a.2.1 a.2.2.1 a.2.2.2.1)
abbrev e7g:ZC ((List Charge)×((Unit)×(Int×Int×Int×Unit))×Unit):=Zc x0t (Zc (Cod.fnc 297 (Zn) (Zc x0m x08)) Zn)
abbrev f1c:ZD ((List Charge)×Int×Int):=(Cod.tup3 (Zc x0t x0n))
abbrev e4u {R:Type}:Sm R:=j3 e7g f1c (fun a=>qaf (fun g x0=>qbx x0 g.2.1 g.2.2.1 g.2.2.2.1) a.1 a.2.1)
def d05 {R:Type}:Nat→Sm R:=cl 297 c86 c0
abbrev b8w:=t8 [(4,4,Kd.kCharge)] [] [1,4,5,6,9,10,11] [] [4] (Zs 1 (Cod.fnc 297 (Zn) (Zc x0m x08)) (FC.arr 4 4 (Zs 5 Zi (Zs 6 Zi (Zs 9 x0t (Zs 10 Zi (Zs 11 Zi (FC.own 4 Kd.kCharge false Zz)))))))) (d6z (fun g x0=>qbx x0 g.2.1 g.2.2.1 g.2.2.2.1)) (.x 0 [4,5,6] [] [4] (FC.arr 4 4 (Zs 5 Zi (Zs 6 Zi (FC.own 4 Kd.kCharge false Zz)))))
def b37 {R:Type}:Lp Kd El R:=lp 2 b8w.sem l0
abbrev e7e:ZC ((List Charge)×Int×Int×Int×Unit):=Zc x0t (Zc Zi x0n)
abbrev e4q {R:Type}:Sm R:=j3 e7e d7h (fun a=>qa7 a.1 a.2.1 a.2.2.1 a.2.2.2.1)
abbrev e6f {R:Type}:Sm R:=a9b c26 (BC.one g9) a87 (fun a b=>qdn a.2.1 a.2.2.1 b)
abbrev e6r {R:Type}:Sm R:=j3 c28 d7i (fun a=>qdz a.1 a.2.1 a.2.2.1)
abbrev e50 {R:Type}:Sm R:=j3 c28 c2i (fun a=>qcj a.1 a.2.1 a.2.2.1)
abbrev e73:ZC (Circ×Item×Int×Unit):=Zc x0s (Zc x02 x0f)
abbrev c9i {R:Type}:Sm R:=j3 e73 c2i (fun a=>qcm a.1 a.2.1 a.2.2.1)
abbrev e46 {R:Type}:Sm R:=j3 d78 c2i (fun a=>qaz a.1 a.2.1 a.2.2.1)
def d1j {R:Type}:Nat→Sm R:=cl 12 d7w (cl 31 b7k (cl 32 b7h (cl 33 b1w (cl 41 c9e (cl 42 c9i c0)))))
abbrev b9a:=t8 [] [] [1,3,6,21,22,23] [3,6] [] (Zs 1 Zi (Zp 3 3 (Zp 6 6 (Zs 21 (Zl .kProblem) (Zs 22 Zi (Zs 23 Zi (Zx 3 d8 (Zx 6 d8 Zz)))))))) c7t (.xs 0 [3,6] [3,6] [] (Zp 3 3 (Zp 6 6 (Zx 3 d8 (Zx 6 d8 Zz)))) (.r [7] [6] [6] (Zp 6 6 (Zs 7 Zi (Zx 6 d8 Zz)))))
def b4l {R:Type}:Lp Kd El R:=lp 4 b9a.sem l0
abbrev e45 {R:Type}:Sm R:=j3 d8a s8 (fun a=>qay a.1 a.2.1)
def d1i {R:Type}:Nat→Sm R:=c0
abbrev b89:=t8 [] [] [0,1,7,8] [] [] (Zs 0 x0k (Zs 1 Zi x0j)) a49 x0b
def b4k {R:Type}:Lp Kd El R:=lp 2 b89.sem l0
abbrev c9t {R:Type}:Sm R:=j3 d8a m7 (fun a=>qdb a.1 a.2.1)
abbrev e4m {R:Type}:Sm R:=j3 d78 s8 (fun a=>qa2 a.1 a.2.1 a.2.2.1)
def d0z {R:Type}:Nat→Sm R:=cl 21 c9y (cl 40 c9t c0)
abbrev b8p:=t8 [] [] [2,7,8,17,18,19] [] [] (Zs 2 x0k (Zs 7 x0k (Zs 8 Zi (Zs 17 x0k (Zs 18 Zi (Zs 19 Zi Zz)))))) a9u (.x 0 [7,8] [] [] (Zs 7 x0k (Zs 8 Zi Zz)))
def b31 {R:Type}:Lp Kd El R:=lp 6 b8p.sem l0
abbrev e78:ZC (Circ×Circ×Unit):=Zc x0s (Zc x0s Zn)
abbrev d72 {R:Type}:Sm R:=j3 e78 m7 (fun a=>qm a.1 a.2.1)
def d8v {R:Type}:Nat→Sm R:=c0
abbrev c6q:=t8 [] [] [2,3,5,6] [2,3] [] (Zp 2 2 (Zp 3 3 (Zs 5 Zi (Zs 6 Zi x0c)))) a1v (.xs 2 [2,3,5] [2,3] [] x03 x0i)
abbrev c6p:=t8 [] [] [2,3,5] [2,3] [] x03 a6k (.xs 0 [] [] [] Zz x0i)
def b1g {R:Type}:Lp Kd El R:=lp 2 c6p.sem (lp 7 c6q.sem l0)
abbrev f1v {R:Type}:Sm R:=j3 e78 m7 (fun a=>qd a.1 a.2.1)
def d8n {R:Type}:Nat→Sm R:=cl 45 d72 c0
abbrev c6d:=t8 [] [] [2,3,5] [2,3] [] x03 b6w (.xs 0 [2,3] [2,3] [] x0q x0i)
abbrev b9c:=t8 [] [] [2,3,6] [2,3] [] (Zp 2 2 (Zp 3 3 (Zs 6 Zi x0c))) a73 (.xs 2 [2,3] [2,3] [] x0q x0i)
abbrev b9d:=t8 [] [] [2,3,7] [2,3] [] (Zp 2 2 (Zp 3 3 (Zs 7 Zi x0c))) a74 (.xs 4 [2,3] [2,3] [] x0q x0i)
abbrev b9e:=t8 [] [] [2,3,8] [2,3] [] (Zp 2 2 (Zp 3 3 (Zs 8 Zi x0c))) a77 (.xs 6 [2,3] [2,3] [] x0q x0i)
abbrev b9f:=t8 [] [] [2,3,9] [2,3] [] (Zp 2 2 (Zp 3 3 (Zs 9 Zi x0c))) a78 (.xs 8 [2,3] [2,3] [] x0q x0i)
abbrev b9g:=t8 [] [] [2,3,10] [2,3] [] (Zp 2 2 (Zp 3 3 (Zs 10 Zi x0c))) a79 (.xs 10 [2,3] [2,3] [] x0q x0i)
abbrev b9h:=t8 [] [] [2,3,11] [2,3] [] (Zp 2 2 (Zp 3 3 (Zs 11 Zi x0c))) a8a (.xs 12 [2,3] [2,3] [] x0q x0i)
def a10 {R:Type}:Lp Kd El R:=lp 36 b9h.sem (lp 31 b9g.sem (lp 26 b9f.sem (lp 21 b9e.sem (lp 16 b9d.sem (lp 11 b9c.sem (lp 6 c6d.sem l0))))))
abbrev d4u:ZC (Circ×Int×Unit):=b0c
abbrev f1f:ZD (Bool):=m7
def d6l (a:Circ×Int×Unit):Option (Bool):=qb3 a.1 a.2.1
abbrev e49 {R:Type}:Sm R:=j3 d4u f1f d6l
abbrev c3e:ZC (Int×Unit):=z8
abbrev d7q:ZD ((List UInt8)):=c79
def d6s (a:Int×Unit):Option ((List UInt8)):=qdf a.1
abbrev e59 {R:Type}:Sm R:=j3 c3e d7q d6s
abbrev c3d:ZC ((List Item)×Int×(List Item)×Unit):=Zc x0y (Zc Zi (Zc x0y Zn))
abbrev d7p:ZD ((List Item)):=d7m
def d6r (a:(List Item)×Int×(List Item)×Unit):Option ((List Item)):=qdd a.1 a.2.1 a.2.2.1
abbrev e57 {R:Type}:Sm R:=j3 c3d d7p d6r
abbrev c3f:ZC ((List UInt8)×Unit):=d0m
abbrev d7r:ZD (Bool):=m7
def d6t (a:(List UInt8)×Unit):Option (Bool):=qdj a.1
abbrev e6c {R:Type}:Sm R:=j3 c3f d7r d6t
abbrev c3c:ZC ((List Loan)×Int×(List Loan)×Unit):=Zc x0u (Zc Zi (Zc x0u Zn))
abbrev d7o:ZD ((List Loan)):=b99
def d6q (a:(List Loan)×Int×(List Loan)×Unit):Option ((List Loan)):=qdc a.1 a.2.1 a.2.2.1
abbrev e56 {R:Type}:Sm R:=j3 c3c d7o d6q
abbrev c3g:ZC ((List UInt8)×Unit):=d0m
abbrev d7s:ZD ((List UInt8)):=c79
def d6u (a:(List UInt8)×Unit):Option ((List UInt8)):=qdk a.1
abbrev e6d {R:Type}:Sm R:=j3 c3g d7s d6u
abbrev c3b:ZC ((List Patron)×Int×(List Patron)×Unit):=Zc x0v (Zc Zi (Zc x0v Zn))
abbrev c8b:ZD ((List Patron)):=x0v
def d6p (a:(List Patron)×Int×(List Patron)×Unit):Option ((List Patron)):=qcw a.1 a.2.1 a.2.2.1
abbrev e54 {R:Type}:Sm R:=j3 c3b c8b d6p
abbrev e75:ZC ((List Patron)×Unit):=d4p
abbrev f1m:ZD ((List Patron)):=c8b
def e9y (a:(List Patron)×Unit):Option ((List Patron)):=qcx a.1
abbrev c9p {R:Type}:Sm R:=j3 e75 f1m e9y
end
section
set_option maxRecDepth 100000
open Go
theorem e8n:∀k,g5 (ccK k)
 |.kItem=>b2p
 |.kPatron=>a64
 |.kLoan=>b2q
 |.kHold=>b2o
 |.kCharge=>a63
 |.kRule=>b2u
 |.ki64=>g5.one (d5.int _)
 |.kMove=>b2t
 |.kMapI=>b2r
 |.kProblem=>a55
 |.kstr=>g5.one d5.str
 |.kMapS=>b2s
 |.kbool=>g5.one d5.bool
 |.ku64=>g5.one (d5.int _)
 |.ku8=>g5.one (d5.int _)
 |.kUtf8_acceptRange=>a00
 |.ku16=>g5.one (d5.int _)
theorem f4o:SgOk sg:=e6s (cc:=ccK) (fun _=>rfl) (fun _=>rfl) e8n (by intro k x;cases k<;>rfl) (by intro k x;cases k<;>rfl) (by intro k;cases k<;>decide)
theorem eok:∀t,e9g t=true→EqOk Tryz.prog t:=a1e kr (a1e kr (a1e kr (a1e kr (a1e kr (a1e kr (a1e kr (a1e kr (a1e kr (e2d)))))))))
theorem mok:∀t M,f0d t=some M→d0c Tryz.prog sg t M:=b94 (d3u (kt:=3) (et:=9) kr kr kr (fun _ _=>rfl) (fun _ _=>rfl) (fun _=>rfl)) (b94 (d3t (kt:=3) (et:=3) kr kr kr (fun _ _=>rfl) (fun _ _=>rfl) (fun _=>rfl)) (e30))
theorem good:GoodP Tryz.prog sg:=⟨f4n kr kr,f4o,eok,mok⟩
end
end Go.Proofs.YteaknldbhmocpaaGreatDoor
namespace Go.Proofs.YteaknldbhmocpaaGreatDoor.Ev
open Go
section
section
variable {P:Program} {w:World}
theorem o7 {dT sT ty elem:TypeId} {i0:TypeInfo} {g o dLen dCap sLen sCap z:Nat} {a:Addr} {L cs:List Value} {t:TypeId} (hu:P.underlying dT=some (.slice elem)) (hi:P.info? elem=some i0) (hz:i0.size=z)
 (hg:w.heap[g]?=some (.cells L.toArray t (0,0))) (hn:cs.length=Nat.min sLen dLen*z) (hsrc:∀j v,cs[j]?=some v→w.cell? (a.add j)=some v) (hfit:o+cs.length≤L.length) (h1:∀v∈cs,v.oneCell'=true) :
 (Builtin.copy_ #[dT,sT] ty #[.slice (some ⟨g,o,none⟩) dLen dCap,.slice (some a) sLen sCap]).run P w=.ok (goInt (Nat.min sLen dLen)) (w.setRow g (Go.splice L o cs).toArray):=by
 have hl:=run_firstCells_some (P:=P) w z (Nat.min sLen dLen) a sLen sCap cs hn hsrc;have hst:=run_storeCells_at P g o t cs 0 L.toArray w hg (by simpa using hfit) h1;simp only[yaU]at hst;subst hz;simp[Builtin.copy_,run_underlying hu,Builtin.lenOf,sizeOf,typeInfo,hi,hl,hst,Go.splice]
theorem a8w {ops:Array Oper} {rest:List Oper} {o:Oper} {a:Act} {Q:Exit→Act→World→Prop} (hgd:o.guard=none) (d s:Operand) (t t':TypeId)
 (ho:o.op=.call {callee:=.builtin .copy,args:=#[d,s],argTypes:=#[t,t']}) (v u:Value) (hd:a.eval d=v) (hs:a.eval s=u) {v':Value} {w':World}
 (hr:(Builtin.copy_ #[t,t'] o.type #[v,u]).run P w=.ok v' w') (h:wpList P ops Q rest (a.put o.dst v') w'):wpList P ops Q (o::rest) a w:=
 wpList_plain hgd fun _ hK=>by
  unfold Oper.wp execOp;simp only[ho,resolve,invoke,builtin,Sem.run_bind,Sem.run_pure,Result.andThen_ok,List.map_toArray,ya2,List.map_nil,hd,hs,hr];exact hK _ _ h
theorem a0v {ops:Array Oper} {o:Oper} {a:Act} {K:Act→World→Prop} {Q:Exit→Act→World→Prop} {E:Prop}
 (hg:o.guard=none) (d x:Operand) (dT sT:TypeId) (hop:o.op=Op.call {callee:=Callee.builtin Builtin.copy,args:=#[d,x],argTypes:=#[dT,sT]})
 (v u:Value) (hd:a.eval d=v) (hx:a.eval x=u) {v':Value} {w':World} (hr:(Builtin.copy_ #[dT,sT] o.type #[v,u]).run P w=.ok v' w') (hK:K (a.put o.dst v') w') :
 if Region.wanted o (yielded ops a.tmps)=true then Oper.wp P o a w K Q else E:=by
 have hw:Region.wanted o (yielded ops a.tmps)=true:=by simp[Region.wanted,hg]
 rw[yat hw];unfold Oper.wp;simp[execOp,hop,resolve,invoke,builtin,hd,hx,hr,Result.andThen];exact hK
theorem c2p {ops:Array Oper} {o:Oper} {a:Act} {K:Act→World→Prop} {Q:Exit→Act→World→Prop} {E:Prop}
 (hg:o.guard=none) (d x:Operand) (dT sT:TypeId) (hop:o.op=Op.call {callee:=Callee.builtin Builtin.append,args:=#[d,x],argTypes:=#[dT,sT]})
 (v u:Value) (hd:a.eval d=v) (hx:a.eval x=u) {v':Value} {w':World} (hr:(Builtin.append_ #[dT,sT] o.type #[v,u]).run P w=.ok v' w') (hK:K (a.put o.dst v') w') :
 if Region.wanted o (yielded ops a.tmps)=true then Oper.wp P o a w K Q else E:=by
 have hw:Region.wanted o (yielded ops a.tmps)=true:=by simp[Region.wanted,hg]
 rw[yat hw];unfold Oper.wp;simp[execOp,hop,resolve,invoke,builtin,hd,hx,hr,Result.andThen];exact hK
theorem o8 {ops:Array Oper} {rest:List Oper} {o:Oper} {a:Act} {Q:Exit→Act→World→Prop} (hgd:o.guard=none) (s x:Operand) (t tn:TypeId)
 (ho:o.op=.call {callee:=.builtin .append,args:=#[s,x],argTypes:=#[t,tn]}) (vs vx:Value) (hs:a.eval s=vs) (hx:a.eval x=vx)
 {v':Value} {w':World} (hr:(Builtin.append_ #[t,tn] o.type #[vs,vx]).run P w=.ok v' w') (h:wpList P ops Q rest (a.put o.dst v') w'):wpList P ops Q (o::rest) a w:=
 Lib.wpList_append_run w hgd s x t tn ho vs vx hs hx v' w' hr h
theorem b7c {t e ty:TypeId} {i0:TypeInfo} {z0:Value} {b o n c:Nat} {L:List Value} {tt:TypeId} (ht:P.underlying t=some (.slice e)) (hi:P.info? e=some i0) (hz:i0.zero=some z0)
 (hn:0<n) (hb:w.heap[b]?=some (.cells L.toArray tt (0,0))) (hfit:o+n*z0.cells.size≤L.length) (h1:∀v∈z0.cells,v.oneCell'=true) :
 (Builtin.clear_ #[t] ty #[.slice (some ⟨b,o,none⟩) n c]).run P w=.ok (.tuple #[]) (w.setRow b (Go.splice L o (Builtin.zeroCells z0.cells n).toList).toArray):=by
 have hl:(Builtin.zeroCells z0.cells n).toList.length=n*z0.cells.size:=by rw[yaM,Go.size_zeroCells]
 have hst:=run_storeCells_at P b o tt (Builtin.zeroCells z0.cells n).toList 0 L.toArray w hb (by rw[hl];simpa using hfit) (fun v hv=>by
  simp only[Builtin.zeroCells,Array.toList_map,ya4,Array.toList_range,List.mem_range]at hv;obtain ⟨q,hq,rfl⟩:=hv;have hp:0<z0.cells.size:=Nat.pos_of_ne_zero (fun h=>by rw[h]at hq;omega);rw[getElem!_pos z0.cells _ (Nat.mod_lt _ hp)];exact h1 _ (Array.getElem_mem _))
 simp only[yaU]at hst;obtain ⟨m,rfl⟩:∃m,n=m+1:=⟨n-1,by omega⟩
 simp only[ybh]at hst;simp[Builtin.clear_,run_underlying ht,sizeOf,typeInfo,zeroValue,hi,hz,hst,Go.splice]
theorem a08 {tS tR e:TypeId} {i0:TypeInfo} (ht:P.underlying tS=some (.slice e)) (hi:P.info? e=some i0) {a b:Addr} {la ca lb cb:Nat} (hne:a.block≠b.block)
 {va vb:Array Value} {ta tb:TypeId} {fa:Nat×Nat} (ha:w.heap[a.block]?=some (.cells va ta fa)) (ha0:0<va.size) (hb:w.heap[b.block]?=some (.cells vb tb (0,0))) (hb0:0<vb.size) :
 (Extern.SlicesOverlaps.overlaps #[tS,tS] #[tR] #[.slice (some a) la ca,.slice (some b) lb cb]).run P w=.ok (.bool false) w:=by
 have hnb:(a.block != b.block)=true:=by simpa using hne
 have hnb':(a.block==b.block)=false:=by simpa using hne
 have hsa:w.shape? a.block=some (ta,va.size):=by simp[World.shape?,ha]
 have hsb:w.shape? b.block=some (tb,vb.size):=by simp[World.shape?,hb]
 have hfb:w.frozen? b=false:=by simp[World.frozen?,hb]
 have hfb':w.frozen? {block:=b.block,off:=vb.size}=false:=by simp[World.frozen?,hb]
 change Sem.run P (α:=Value) (do
  let some t:=(#[tS,tS]:Array TypeId)[0]?|stuck "slices.overlaps: no parameter types"
  let .slice elem ←underlying t|stuck "slices.overlaps: slice type expected"
  let size ←sizeOf elem
  match (some a:Option Addr),(some b:Option Addr) with
  |some a,some b=>
   if la=0∨lb=0∨size=0 then pure (Value.bool false)
   else if a.block != b.block&&(←frozen a)&&(←frozen b) then unsupported .addressObserved
   else do
    if a.block != b.block then do
     noView a;noView b
     if ←mayBeOne a b then return Value.bool ((←choose (.extern "sameAddr.stringBytes" 2))==1)
    pure (Value.bool (a.block==b.block&&a.off<b.off+lb*size&&b.off<a.off+la*size))
  |_,_=>pure (Value.bool false)) w=_
 have hz:(Go.sizeOf e).run P w=.ok i0.size w:=by simp[sizeOf,typeInfo,hi]
 by_cases h0:la=0∨lb=0∨i0.size=0
 ·simp[run_underlying ht,hz,h0]
 ·obtain ⟨ka,hka⟩:∃k,va.size=k+1:=⟨va.size-1,by omega⟩
  obtain ⟨kb,hkb⟩:∃k,vb.size=k+1:=⟨vb.size-1,by omega⟩
  rw[hka]at hsa;rw[hkb]at hsb hfb';by_cases hfa:w.frozen? a=true
  ·simp[run_underlying ht,hz,h0,hnb,hnb',frozen,noView,viewAt,mayBeOne,stringish,shape,Sem.run,hsa,hsb,hfa,hfb,hfb']
  ·have hfa:w.frozen? a=false:=by simpa using hfa
   by_cases hfe:w.frozen? {block:=a.block,off:=ka+1}=true
   ·simp[run_underlying ht,hz,h0,hnb,hnb',frozen,noView,viewAt,mayBeOne,stringish,shape,Sem.run,hsa,hsb,hfa,hfb,hfb',hfe]
   ·have hfe:w.frozen? {block:=a.block,off:=ka+1}=false:=by simpa using hfe
    simp[run_underlying ht,hz,h0,hnb,hnb',frozen,noView,viewAt,mayBeOne,stringish,shape,Sem.run,hsa,hsb,hfa,hfb,hfb',hfe]
end
end
section
section
variable {κ:Type} {El:κ→Type} {S:Sg κ El} {P:Program}
theorem n8 {α:Type} {L new:List α} {off j:Nat} (h:off+new.length≤L.length):(Go.splice L off new)[j]?=if off≤j∧j<off+new.length then new[j-off]? else L[j]?:=by
 unfold Go.splice;rw[←ybh];exact b1u L new off j h
theorem a3l (sgk:SgOk S) {w w':World} {I J I':Nat→Nat→Prop} {v:Value} {d:D κ El} (h:DR S w I J v d) (hp:a3v d=true) (H:∀b o,I b o→w'.cell? ⟨b,o,none⟩=w.cell? ⟨b,o,none⟩∧I' b o):DR S w' I' I' v d:=
 (h.relendL sgk (J':=I) (y6 hp)).mono H H
theorem a03 (sgk:SgOk S) {k:κ} {x:El k} {j:Nat} {d:D κ El} (h:(S.enc k x)[j]?=some d):a3v d=true:=sgk.plain k x d (yak h)
theorem c7m {w:World} {I J:Nat→Nat→Prop} {v:Value} {d:D κ El} (h:DR S w I J v d) (hp:a3v d=true):v.oneCell'=true:=
 (h.lone (by cases d<;>simp_all[a3v,solid])).one
structure InsOk (P:Program) (f z E:Nat):Prop where
 shift:∀{w:World} {b n c i vb vo vc:Nat} {L vs:List Value} {t:TypeId},i<n→n+1≤c→n+1≤1073741824→vb≠b→w.heap[b]?=some (.cells L.toArray t (0,0))→L.length=c*z→vs.length=z→
  (∀j v,vs[j]?=some v→w.cell? ⟨vb,vo+j,none⟩=some v)→(∀v∈(L.drop (i*z)).take ((n-i)*z),v.oneCell'=true)→(∀v∈vs,v.oneCell'=true)→
  Calls P f #[.slice (some ⟨b,0,none⟩) n c,.int .i64 i,.slice (some ⟨vb,vo,none⟩) 1 vc] w fun e w'=>
   e=.returned (.slice (some ⟨b,0,none⟩) (n+1) c)∧w'=(w.drew.setRow b (Go.splice L ((i+1)*z) ((L.drop (i*z)).take ((n-i)*z))).toArray).setRow b (Go.splice (Go.splice L ((i+1)*z) ((L.drop (i*z)).take ((n-i)*z))) (i*z) vs).toArray
 room:∀{w:World} {b n c vb vo vc:Nat} {L vs:List Value} {t:TypeId},n+1≤c→n+1≤1073741824→w.heap[b]?=some (.cells L.toArray t (0,0))→L.length=c*z→vs.length=z→
  (∀j v,vs[j]?=some v→w.cell? ⟨vb,vo+j,none⟩=some v)→(∀v∈vs,v.oneCell'=true)→
  Calls P f #[.slice (some ⟨b,0,none⟩) n c,.int .i64 n,.slice (some ⟨vb,vo,none⟩) 1 vc] w fun e w'=>
   e=.returned (.slice (some ⟨b,0,none⟩) (n+1) c)∧w'=w.setRow b (Go.splice L (n*z) vs).toArray
 new:∀{w:World} {base:Option Addr} {n c vb vo vc:Nat} {olds vs:List Value},n≤c→c<n+1→n+1≤1073741824→vs.length=z→(base=none→n=0)→olds.length=n*z→
  (∀a,base=some a→∀j v,olds[j]?=some v→w.cell? (a.add j)=some v)→(∀j v,vs[j]?=some v→w.cell? ⟨vb,vo+j,none⟩=some v)→
  Calls P f #[.slice base n c,.int .i64 n,.slice (some ⟨vb,vo,none⟩) 1 vc] w fun e w'=>
   ∃cap zs,e=.returned (.slice (some ⟨w.heap.size,0,none⟩) (n+1) cap)∧w'=w.drew.alloc (.cells (olds++(vs++zs)).toArray E)∧n+1≤cap∧zs.length=(cap-(n+1))*z
 grow:∀{w:World} {b n c i vb vo vc:Nat} {L vs:List Value} {t:TypeId},i<n→n≤c→c<n+1→n+1≤1073741824→vb≠b→w.heap[b]?=some (.cells L.toArray t (0,0))→L.length=c*z→vs.length=z→
  (∀j v,vs[j]?=some v→w.cell? ⟨vb,vo+j,none⟩=some v)→(∀v∈(L.drop (i*z)).take ((n-i)*z),v.oneCell'=true)→(∀v∈vs,v.oneCell'=true)→
  Calls P f #[.slice (some ⟨b,0,none⟩) n c,.int .i64 i,.slice (some ⟨vb,vo,none⟩) 1 vc] w fun e w'=>
   ∃cap row,e=.returned (.slice (some ⟨w.heap.size,0,none⟩) (n+1) cap)∧n+1≤cap∧row.length=cap*z∧row.take (i*z)=L.take (i*z)∧
    w'.heap=(w.heap.push (.cells (Go.splice (Go.splice row (i*z) vs) ((i+1)*z) ((L.drop (i*z)).take ((n-i)*z))).toArray E))∧w'.os=w.os∧w'.output=w.output∧w'.tape=w.tape
theorem a7k {k:κ} {xs:List (El k)} {y:El k} {i:Nat} {L vs M:List Value} {Q:Value→D κ El→Prop} (sgk:SgOk S) (hi:i≤xs.length)
 (h1:∀(i:Nat) (hi:i<xs.length) (j:Nat) (d:D κ El),(S.enc k xs[i])[j]?=some d→∃v,L[i*S.sz k+j]?=some v∧Q v d)
 (h2:∀(j:Nat) (d:D κ El),(S.enc k y)[j]?=some d→∃v,vs[j]?=some v∧Q v d)
 (m1:∀p:Nat,p<i*S.sz k→M[p]?=L[p]?) (m2:∀j:Nat,j<S.sz k→M[i*S.sz k+j]?=vs[j]?) (m3:∀p:Nat,i*S.sz k≤p→p<xs.length*S.sz k→M[p+S.sz k]?=L[p]?) :
 ∀(i':Nat) (hi':i'<(xs.take i++y::xs.drop i).length) (j:Nat) (d:D κ El),(S.enc k (xs.take i++y::xs.drop i)[i'])[j]?=some d→∃v,M[i'*S.sz k+j]?=some v∧Q v d:=by
 intro i' hi' j d hj;have hj':j<S.sz k:=by have:=(zL hj);rwa [sgk.sz]at this
 have hl:(xs.take i).length=i:=by simp;omega
 by_cases hlt:i'<i
 ·have e:(xs.take i++y::xs.drop i)[i']=xs[i']'(by omega):=by rw[ybj (by omega)];simp
  rw[e]at hj;obtain ⟨v,a,b⟩:=h1 i' (by omega) j d hj;exact ⟨v,by rw[m1 _ (a0w hj' hlt)];exact a,b⟩
 ·by_cases heq:i'=i
  ·subst heq;have e:(xs.take i'++y::xs.drop i')[i']=y:=by rw[ybi (by omega)];simp[hl]
   rw[e]at hj;obtain ⟨v,a,b⟩:=h2 j d hj;exact ⟨v,by rw[m2 j hj'];exact a,b⟩
  ·obtain ⟨p,rfl⟩:∃p,i'=p+1:=⟨i'-1,by omega⟩
   have hp:p<xs.length:=by simp at hi';omega
   have e:(xs.take i++y::xs.drop i)[p+1]=xs[p]:=by
    rw[ybi (by omega)];have e2:p+1-(xs.take i).length=(p-i)+1:=by omega
    simp only[e2,List.getElem_cons_succ,List.getElem_drop];congr 1;omega
   rw[e]at hj;obtain ⟨v,a,b⟩:=h1 p hp j d hj;refine ⟨v,?_,b⟩;have:=m3 (p*S.sz k+j) (by have:=yal (S.sz k) (show i≤p by omega);omega) (a0w hj' hp);rw[←a,←this];congr 1;rw[yaK];omega
theorem d9j (sgk:SgOk S) {f E:Nat} {fn:Func} {code:Code} (fok:FnOk P f fn code) (hmd:S.md f=.cons) {k:κ} (W:InsOk P f (S.sz k) E)
 {xs:List (El k)} {y:El k} {i:Nat} {ds:List (D κ El)} (hi:i≤xs.length) (hlim:xs.length+1≤1073741824) (hwl:WL ds [.lst k xs,.int .i64 (i:Int),.lst k [y]]) :
 Con P S f ds [] (.lst k (xs.take i++y::xs.drop i)) []:=by
 unfold Con;rw[hmd];intro _ k' xs' ds0 hds k2 xs2 hd w I J mb v0 vs hp ho ha;subst hds;cases hd
 have hw0:=hwl.2 0 _ _ rfl rfl;cases hw0 with
 |leaf _ _ hw0=>
 cases hw0
 have ha:=WL.args (cs':=[.int .i64 (i:Int),.lst k [y]]) ⟨by simpa using hwl.1,fun q d d' h1 h2=>hwl.2 (q+1) d d' (by simpa using h1) (by simpa using h2)⟩ ha;obtain ⟨base,c,rfl,hnc,hz⟩:=ho;obtain ⟨hvs,hav⟩:=ha;obtain ⟨u1,u2,rfl⟩:∃u1 u2,vs = #[u1,u2]:=by
  simp at hvs;exact ⟨vs[0],vs[1],by
   apply Array.ext
   ·simp[hvs]
   ·intro j h1 h2;simp at h2;rcases (show j=0∨j=1 by omega) with rfl|rfl<;>rfl⟩
 have hu1:u1=.int .i64 i:=(hav 0 u1 _ rfl rfl).int_inv;have hu2:=hav 1 u2 _ rfl rfl;subst hu1;obtain ⟨n,hn⟩:∃n,n=xs.length:=⟨_,rfl⟩
 have hpos:=sgk.pos k;cases hu2 with
 |lst vb vo vc _ _ cv hvcap hvc hvv=>
 obtain ⟨us,hus⟩:∃us,us=(List.range (S.sz k)).map (cv 0):=⟨_,rfl⟩
 have husl:us.length=S.sz k:=by rw[hus];simp
 have hug:∀j,j<S.sz k→us[j]?=some (cv 0 j):=fun j hj=>by rw[hus];simp[hj]
 have huc:∀j v,us[j]?=some v→w.cell? ⟨vb,vo+j,none⟩=some v:=fun j v hj=>by
  have hlt:=(zL hj)
  rw[husl]at hlt;rw[hug j hlt]at hj;cases hj
  have:=(hvc 0 j (by simp) hlt).1;simpa using this
 have huI:∀j,j<S.sz k→I vb (vo+j):=fun j hlt=>by have:=(hvc 0 j (by simp) hlt).2;simpa using this
 have hud:∀j d,(S.enc k y)[j]?=some d→∃v,us[j]?=some v∧DR S w I J v d:=fun j d hj=>by
  have hlt:=(zL hj)
  rw[sgk.sz]at hlt;exact ⟨_,hug j hlt,hvv 0 (by simp) j d hj⟩
 have hu1c:∀v∈us,v.oneCell'=true:=fun v hv=>by
  obtain ⟨j,hj⟩:=ybb hv;have hlt:=(zL hj)
  have hlt':j<(S.enc k y).length:=by rw[sgk.sz,←husl];exact hlt
  obtain ⟨v',e1,e2⟩:=hud j _ (yaa hlt');rw[hj]at e1;cases e1
  exact c7m e2 (sgk.plain k y _ (ybp hlt'))
 have hIw:∀b o,I b o→b<w.heap.size:=hp.ib;have hres:(xs.take i++y::xs.drop i).length=n+1:=by simp;omega
 unfold w3;rw[MuLone.run_callFunc_enter fok.at_ fok.name fok.body _ w];simp only;show Calls P f #[.slice base xs.length c,.int .i64 (i:Int),.slice (some ⟨vb,vo,none⟩) 1 vc] w _
 rcases hz with ⟨rfl,rfl⟩|⟨b,vals,t,rfl,rfl,hb,hvsz,hel⟩
 ·have hx0:xs=[]:=yar (by omega);subst hx0;have hi0:i=0:=by simpa using hi
  subst hi0;have hnew:=W.new (w:=w) (base:=base) (n:=0) (c:=0) (vb:=vb) (vo:=vo) (vc:=vc) (olds:=[]) (vs:=us) (by omega) (by omega) (by omega) husl (fun _=>rfl) (by simp) (fun a _ j v hj=>by simp at hj) huc;refine hnew.mono (fun e w' he=>?_);obtain ⟨cap,zs,rfl,rfl,hcap,hzl⟩:=he;refine ⟨I,⟨by rw[World.size_alloc];show w.heap.size≤w.heap.size+1;omega,rfl,rfl,rfl,fun q hq _=>?_,fun _ _ h=>h,fun _ _ h=>.inl h,fun q o h=>by have:=hIw q o h;rw[World.size_alloc];show q<w.heap.size+1;omega⟩,
   some ⟨w.heap.size,0,none⟩,cap,by simp,by simp;omega,.inr ⟨w.heap.size,_,E,rfl,a0y w.drew _,?_,.inl (yan _),fun o h=>absurd (hIw _ _ h) (by omega),?_⟩⟩
  ·simp only[World.alloc];rw[yby,yam (by show ¬q=w.heap.size;omega)];rfl
  ·simp[husl,hzl];obtain ⟨q,rfl⟩:∃q,cap=q+1:=⟨cap-1,by omega⟩
   rw[Nat.add_sub_cancel,yaK];omega
  ·intro i' hi' j d hj;have:=a7k (L:=[]) (vs:=us) (M:=us++zs) (Q:=fun v d=>DR S (w.drew.alloc (.cells ([]++(us++zs)).toArray E)) I I v d) sgk (i:=0) (xs:=[]) (y:=y) (by simp) (fun i hi=>absurd hi (by simp))
    (fun j d hj=>by
     obtain ⟨v,a,b⟩:=hud j d hj;exact ⟨v,a,a3l sgk b (a03 sgk hj) (fun q o h=>⟨by
      have:=hIw q o h;simp only[World.cell?,World.alloc];rw[yby,yam (by show ¬q=w.heap.size;omega)];rfl,h⟩)⟩)
    (fun p hp=>absurd hp (by omega)) (fun j hj=>by rw[Nat.zero_mul,yaL,yap (by omega)]) (fun p _ hp=>by simp at hp) i' hi' j d hj
   simpa using this
 ·have hbw:b<w.heap.size:=(yad.1 hb).1;have hbI:∀o,¬I b o:=fun o h=>(hp.jb b o (hp.ij b o h)).2 (by simp)
  have hne:vb≠b:=fun e=>by subst e;exact hbI _ (huI 0 hpos)
  obtain ⟨L,hL⟩:∃L,L=vals.toList:=⟨_,rfl⟩
  have hLa:vals=L.toArray:=by rw[hL]
  have hLl:L.length=c*S.sz k:=by rw[hL];simpa using hvsz
  rw[hLa]at hb;have hel':∀i (hi:i<xs.length) j d,(S.enc k xs[i])[j]?=some d→∃v,L[i*S.sz k+j]?=some v∧DR S w I J v d:=fun i hi j d hj=>by
   obtain ⟨v,a,e⟩:=hel i hi j d hj;exact ⟨v,by rw[hL];simpa using a,e⟩
  have hnL:n*S.sz k≤L.length:=by rw[hLl];exact yal _ (by omega)
  have hone:∀v∈L.take (n*S.sz k),v.oneCell'=true:=fun v hv=>by
   obtain ⟨p,hp'⟩:=ybb hv;have hlt:=(zL hp')
   simp only[ya1]at hlt;have h1:p / S.sz k<n:=(Nat.div_lt_iff_lt_mul hpos).2 (by omega);have h2:=Nat.mod_lt p hpos;have h3:p % S.sz k<(S.enc k (xs[p / S.sz k]'(by omega))).length:=by rw[sgk.sz];exact h2
   obtain ⟨v',a,e⟩:=hel' (p / S.sz k) (by omega) _ _ (yaa h3);rw[Nat.div_add_mod']at a;rw[yaq,yat (by omega),a]at hp';cases hp'
   exact c7m e (sgk.plain k _ _ (ybp h3))
  have hC1:(L.drop (i*S.sz k)).take ((n-i)*S.sz k)=(L.take (n*S.sz k)).drop (i*S.sz k):=by
   rw[List.drop_take];congr 1;rw[Nat.sub_mul]
  have hone1:∀v∈(L.drop (i*S.sz k)).take ((n-i)*S.sz k),v.oneCell'=true:=fun v hv=>hone v (by rw[hC1]at hv;exact List.mem_of_mem_drop hv)
  have hin:i*S.sz k≤n*S.sz k:=yal _ (by omega);have hi1:(i+1)*S.sz k=i*S.sz k+S.sz k:=by rw[yaK,ybD]
  have hn1:(n+1)*S.sz k=n*S.sz k+S.sz k:=by rw[yaK,ybD]
  obtain ⟨C1,hC⟩:∃C1,C1=(L.drop (i*S.sz k)).take ((n-i)*S.sz k):=⟨_,rfl⟩
  have hC1l:C1.length=n*S.sz k-i*S.sz k:=by rw[hC,hC1];simp;omega
  have hC1g:∀q,q<n*S.sz k-i*S.sz k→C1[q]?=L[i*S.sz k+q]?:=fun q hq=>by rw[hC,hC1,ybq,yaq,yat (by omega)]
  have inpl:∀(M:List Value) (w':World),M.length=L.length→(w'=w.setRow b M.toArray∨∃M0:Array Value,w'=(w.drew.setRow b M0).setRow b M.toArray)→n+1≤c→
   (∀p:Nat,p<i*S.sz k→M[p]?=L[p]?)→(∀j:Nat,j<S.sz k→M[i*S.sz k+j]?=us[j]?)→(∀p:Nat,i*S.sz k≤p→p<xs.length*S.sz k→M[p+S.sz k]?=L[p]?)→
   ∃I',GrowM [b] w w' I I'∧f2r S w' I' w.heap.size [b] k (xs.take i++y::xs.drop i) (.slice (some ⟨b,0,none⟩) (n+1) c):=by
   intro M w' hMl hw' hroom m1 m2 m3;have hheap:w'.heap[b]?=some (.cells M.toArray t (0,0)):=by
    rcases hw' with rfl|⟨M0,rfl⟩
    ·exact setRow_heap _ _ _ _ _ _ hb
    ·exact setRow_heap _ _ _ _ _ _ (setRow_heap w.drew _ _ _ _ _ hb)
   have hoth:∀q,q≠b→w'.heap[q]?=w.heap[q]?:=fun q hq=>by
    rcases hw' with rfl|⟨M0,rfl⟩
    ·exact setRow_other _ _ _ _ hq
    ·rw[setRow_other _ _ _ _ hq,setRow_other _ _ _ _ hq];rfl
   have hsz:w'.heap.size=w.heap.size:=by
    rcases hw' with rfl|⟨M0,rfl⟩<;>simp only[setRow_size]<;>rfl
   refine ⟨I,⟨by omega,by rcases hw' with rfl|⟨M0,rfl⟩<;>rfl,by rcases hw' with rfl|⟨M0,rfl⟩<;>rfl,by rcases hw' with rfl|⟨M0,rfl⟩<;>rfl,fun q hq hm=>hoth q (by simpa using hm),fun _ _ h=>h,fun _ _ h=>.inl h,fun q o h=>by have:=hIw q o h;omega⟩,
    some ⟨b,0,none⟩,c,by rw[hres],by omega,.inr ⟨b,_,t,rfl,hheap,by simp[hMl,hLl],.inr (by simp),hbI,?_⟩⟩
   intro i' hi' j d hj;have:=a7k (L:=L) (vs:=us) (M:=M) (Q:=fun v d=>DR S w' I I v d) sgk (by omega)
    (fun i hi j d hj=>by
     obtain ⟨v,a,e⟩:=hel' i hi j d hj;exact ⟨v,a,a3l sgk e (a03 sgk hj) (fun q o h=>⟨by simp only[World.cell?];rw[hoth q (fun e=>by subst e;exact hbI o h)],h⟩)⟩)
    (fun j d hj=>by
     obtain ⟨v,a,e⟩:=hud j d hj;exact ⟨v,a,a3l sgk e (a03 sgk hj) (fun q o h=>⟨by simp only[World.cell?];rw[hoth q (fun e=>by subst e;exact hbI o h)],h⟩)⟩) m1 m2 m3 i' hi' j d hj
   simpa using this
  have newb:∀(M:List Value) (cap:Nat) (w':World),M.length=cap*S.sz k→w'.heap=w.heap.push (.cells M.toArray E)→w'.os=w.os→w'.output=w.output→w'.tape=w.tape→n+1≤cap→
   (∀p:Nat,p<i*S.sz k→M[p]?=L[p]?)→(∀j:Nat,j<S.sz k→M[i*S.sz k+j]?=us[j]?)→(∀p:Nat,i*S.sz k≤p→p<xs.length*S.sz k→M[p+S.sz k]?=L[p]?)→
   ∃I',GrowM [b] w w' I I'∧f2r S w' I' w.heap.size [b] k (xs.take i++y::xs.drop i) (.slice (some ⟨w.heap.size,0,none⟩) (n+1) cap):=by
   intro M cap w' hMl hheap h1 h2 h3 hcap m1 m2 m3;have hoth:∀q,q<w.heap.size→w'.heap[q]?=w.heap[q]?:=fun q hq=>by rw[hheap,yby,yam (by omega)]
   refine ⟨I,⟨by rw[hheap];simp,h1,h2,h3,fun q hq _=>hoth q hq,fun _ _ h=>h,fun _ _ h=>.inl h,fun q o h=>by have:=hIw q o h;rw[hheap];simp;omega⟩,
    some ⟨w.heap.size,0,none⟩,cap,by rw[hres],by omega,.inr ⟨w.heap.size,_,E,rfl,by rw[hheap];exact Array.getElem?_push_size,by simp[hMl],.inl (yan _),fun o h=>absurd (hIw _ _ h) (by omega),?_⟩⟩
   intro i' hi' j d hj;have:=a7k (L:=L) (vs:=us) (M:=M) (Q:=fun v d=>DR S w' I I v d) sgk (by omega)
    (fun i hi j d hj=>by
     obtain ⟨v,a,e⟩:=hel' i hi j d hj;exact ⟨v,a,a3l sgk e (a03 sgk hj) (fun q o h=>⟨by simp only[World.cell?];rw[hoth q (hIw q o h)],h⟩)⟩)
    (fun j d hj=>by
     obtain ⟨v,a,e⟩:=hud j d hj;exact ⟨v,a,a3l sgk e (a03 sgk hj) (fun q o h=>⟨by simp only[World.cell?];rw[hoth q (hIw q o h)],h⟩)⟩) m1 m2 m3 i' hi' j d hj
   simpa using this
  rw[←hn]at hi hlim hnc ⊢;by_cases hroom:n+1≤c
  ·have hn1c:(n+1)*S.sz k≤L.length:=by rw[hLl];exact yal _ hroom
   by_cases hlt:i<n
   ·refine (W.shift (vc:=vc) hlt hroom hlim hne hb hLl husl huc hone1 hu1c).mono (fun e w' he=>?_);obtain ⟨rfl,rfl⟩:=he;rw[←hC];have l1:(Go.splice L ((i+1)*S.sz k) C1).length=L.length:=length_splice _ _ _ (by omega);refine inpl _ _ ?_ (.inr ⟨_,rfl⟩) hroom ?_ ?_ ?_
    ·rw[length_splice _ _ _ (by omega),l1]
    ·intro p hp';rw[n8 (by omega),yam (by omega),n8 (by omega),yam (by omega)]
    ·intro j hj;rw[n8 (by omega),yat (by omega)];congr 1;omega
    ·intro p h1 h2;rw[←hn]at h2;rw[n8 (by omega),yam (by omega),n8 (by omega),yat (by omega),hC1g _ (by omega)];congr 1;omega
   ·have hie:i=n:=by omega
    subst hie;refine (W.room (vc:=vc) hroom hlim hb hLl husl huc hu1c).mono (fun e w' he=>?_);obtain ⟨rfl,rfl⟩:=he;refine inpl _ _ (length_splice _ _ _ (by omega)) (.inl rfl) hroom ?_ ?_ ?_
    ·intro p hp';rw[n8 (by omega),yam (by omega)]
    ·intro j hj;rw[n8 (by omega),yat (by omega)];congr 1;omega
    ·intro p h1 h2;rw[←hn]at h2;omega
  ·by_cases hlt:i<n
   ·refine (W.grow (vc:=vc) hlt hnc (by omega) hlim hne hb hLl husl huc hone1 hu1c).mono (fun e w' he=>?_);obtain ⟨cap,row,rfl,hcap,hrl,hrt,hheap,q1,q2,q3⟩:=he;rw[←hC]at hheap;have hrl':(n+1)*S.sz k≤row.length:=by rw[hrl];exact yal _ hcap
    have l1:(Go.splice row (i*S.sz k) us).length=row.length:=length_splice _ _ _ (by omega);refine newb _ cap w' ?_ hheap q1 q2 q3 hcap ?_ ?_ ?_
    ·rw[length_splice _ _ _ (by omega),l1,hrl]
    ·intro p hp';rw[n8 (by omega),yam (by omega),n8 (by omega),yam (by omega)];have e1:(row.take (i*S.sz k))[p]?=row[p]?:=by rw[yaq,yat hp']
     have e2:(L.take (i*S.sz k))[p]?=L[p]?:=by rw[yaq,yat hp']
     rw[←e1,hrt,e2]
    ·intro j hj;rw[n8 (by omega),yam (by omega),n8 (by omega),yat (by omega)];congr 1;omega
    ·intro p h1 h2;rw[←hn]at h2;rw[n8 (by omega),yat (by omega),hC1g _ (by omega)];congr 1;omega
   ·have hie:i=n:=by omega
    subst hie;refine (W.new (base:=some ⟨b,0,none⟩) (vc:=vc) (olds:=L.take (i*S.sz k)) hnc (by omega) hlim husl (fun h=>by cases h) (by simp;omega) (fun a ha j v hj=>?_) huc).mono (fun e w' he=>?_)
    ·cases ha
     rw[yaq]at hj;split at hj
     ·rw[p7,yaL];simp only[World.cell?,hb];simpa using hj
     ·cases hj
    ·obtain ⟨cap,zs,rfl,rfl,hcap,hzl⟩:=he;obtain ⟨q,rfl⟩:∃q,cap=q+(i+1):=⟨cap-(i+1),by omega⟩
     rw[Nat.add_sub_cancel]at hzl;have hTl:(L.take (i*S.sz k)).length=i*S.sz k:=by simp;omega
     refine newb _ (q+(i+1)) _ ?_ rfl rfl rfl rfl hcap ?_ ?_ ?_
     ·simp only[yaI,hTl,husl,hzl];rw[yaK,hi1];omega
     ·intro p hp';rw[yap (by omega),yaq,yat hp']
     ·intro j hj;rw[yau (by omega),yap (by omega)];congr 1;omega
     ·intro p h1 h2;rw[←hn]at h2;omega
theorem b0l (sgk:SgOk S) {f E:Nat} {fn:Func} {code:Code} (fok:FnOk P f fn code) (hmd:S.md f=.cons) {k:κ} (W:InsOk P f (S.sz k) E)
 {xs vs r:List (El k)} {i:Int} {ds:List (D κ El)} (hwl:WL ds [.lst k xs,.int .i64 i,.lst k vs]) (hr:a7l xs i vs=some r):Con P S f ds [] (.lst k r) []:=by
 unfold a7l at hr;split at hr
 ·rename_i y;rw[b9]at hr;split at hr
  ·rename_i h;simp only[yab,yaf]at h;cases hr
   obtain ⟨n,rfl⟩:=Int.eq_ofNat_of_zero_le h.1.1;exact d9j sgk fok hmd W (i:=n) (by omega) h.2 hwl
  ·cases hr
 ·cases hr
end
end
section
section
variable {κ:Type} {El:κ→Type} {S:Sg κ El} {P:Program}
structure DelOk (P:Program) (f z:Nat):Prop where
 non:∀{w:World} {base:Option Addr} {n c i:Nat},n≤c→i≤n→Calls P f #[.slice base n c,.int .i64 i,.int .i64 i] w fun e w'=>e=.returned (.slice base n c)∧w'=w
 som:∀{w:World} {b n c i j:Nat} {L:List Value} {t:TypeId},i<j→j≤n→n≤c→w.heap[b]?=some (.cells L.toArray t (0,0))→L.length=c*z→(∀v∈(L.drop (j*z)).take ((n-j)*z),v.oneCell'=true)→
  Calls P f #[.slice (some ⟨b,0,none⟩) n c,.int .i64 i,.int .i64 j] w fun e w'=>
   e=.returned (.slice (some ⟨b,0,none⟩) (i+(n-j)) c)∧∃(M0:Array Value) (zs:List Value),zs.length=(j-i)*z∧w'=(w.drew.setRow b M0).setRow b (Go.splice (Go.splice L (i*z) ((L.drop (j*z)).take ((n-j)*z))) ((i+(n-j))*z) zs).toArray
theorem d9i (sgk:SgOk S) {f:Nat} {fn:Func} {code:Code} (fok:FnOk P f fn code) (hmd:S.md f=.cons) {k:κ} (W:DelOk P f (S.sz k))
 {xs:List (El k)} {i j:Nat} {ds:List (D κ El)} (hij:i≤j) (hj:j≤xs.length) (hwl:WL ds [.lst k xs,.int .i64 (i:Int),.int .i64 (j:Int)]) :
 Con P S f ds [] (.lst k (xs.take i++xs.drop j)) []:=by
 unfold Con;rw[hmd];intro _ k' xs' ds0 hds k2 xs2 hd w I J mb v0 vs hp ho ha;subst hds;cases hd
 have hw0:=hwl.2 0 _ _ rfl rfl;cases hw0 with
 |leaf _ _ hw0=>
 cases hw0
 have ha:=WL.args (cs':=[.int .i64 (i:Int),.int .i64 (j:Int)]) ⟨by simpa using hwl.1,fun q d d' h1 h2=>hwl.2 (q+1) d d' (by simpa using h1) (by simpa using h2)⟩ ha;obtain ⟨base,c,rfl,hnc,hz⟩:=ho;obtain ⟨hvs,hav⟩:=ha;obtain ⟨u1,u2,rfl⟩:∃u1 u2,vs = #[u1,u2]:=by
  simp at hvs;exact ⟨vs[0],vs[1],by
   apply Array.ext
   ·simp[hvs]
   ·intro j h1 h2;simp at h2;rcases (show j=0∨j=1 by omega) with rfl|rfl<;>rfl⟩
 have hu1:u1=.int .i64 i:=(hav 0 u1 _ rfl rfl).int_inv;have hu2:u2=.int .i64 j:=(hav 1 u2 _ rfl rfl).int_inv;subst hu1 hu2;obtain ⟨n,hn⟩:∃n,n=xs.length:=⟨_,rfl⟩
 have hpos:=sgk.pos k;have hIw:∀b o,I b o→b<w.heap.size:=hp.ib;have hres:(xs.take i++xs.drop j).length=i+(n-j):=by simp;omega
 unfold w3;rw[MuLone.run_callFunc_enter fok.at_ fok.name fok.body _ w];simp only;show Calls P f #[.slice base xs.length c,.int .i64 (i:Int),.int .i64 (j:Int)] w _
 by_cases heq:i=j
 ·subst heq;refine (W.non hnc hj).mono (fun e w' he=>?_);obtain ⟨rfl,rfl⟩:=he;have e:xs.take i++xs.drop i=xs:=by simp
  rw[e];refine ⟨I,⟨yan _,rfl,rfl,rfl,fun _ _ _=>rfl,fun _ _ h=>h,fun _ _ h=>.inl h,hIw⟩,base,c,rfl,hnc,?_⟩;rcases hz with ⟨h,_⟩|⟨b,vals,t,rfl,rfl,hb,hvsz,hel⟩
  ·exact .inl h
  ·have hbI:∀o,¬I b o:=fun o h=>(hp.jb b o (hp.ij b o h)).2 (by simp)
   refine .inr ⟨b,vals,t,rfl,hb,hvsz,.inr (by simp),hbI,fun q hq j d hj=>?_⟩;obtain ⟨v,a,e⟩:=hel q hq j d hj;exact ⟨v,a,a3l sgk e (a03 sgk hj) (fun _ _ h=>⟨rfl,h⟩)⟩
 ·have hlt:i<j:=by omega
  rcases hz with ⟨rfl,rfl⟩|⟨b,vals,t,rfl,rfl,hb,hvsz,hel⟩
  ·exfalso;omega
  ·have hbw:b<w.heap.size:=(yad.1 hb).1;have hbI:∀o,¬I b o:=fun o h=>(hp.jb b o (hp.ij b o h)).2 (by simp)
   obtain ⟨L,hL⟩:∃L,L=vals.toList:=⟨_,rfl⟩
   have hLa:vals=L.toArray:=by rw[hL]
   have hLl:L.length=c*S.sz k:=by rw[hL];simpa using hvsz
   rw[hLa]at hb;have hel':∀i (hi:i<xs.length) j d,(S.enc k xs[i])[j]?=some d→∃v,L[i*S.sz k+j]?=some v∧DR S w I J v d:=fun i hi j d hj=>by
    obtain ⟨v,a,e⟩:=hel i hi j d hj;exact ⟨v,by rw[hL];simpa using a,e⟩
   have hnL:n*S.sz k≤L.length:=by rw[hLl];exact yal _ (by omega)
   have hone:∀v∈L.take (n*S.sz k),v.oneCell'=true:=fun v hv=>by
    obtain ⟨p,hp'⟩:=ybb hv;have hlt:=(zL hp')
    simp only[ya1]at hlt;have h1:p / S.sz k<n:=(Nat.div_lt_iff_lt_mul hpos).2 (by omega);have h2:=Nat.mod_lt p hpos;have h3:p % S.sz k<(S.enc k (xs[p / S.sz k]'(by omega))).length:=by rw[sgk.sz];exact h2
    obtain ⟨v',a,e⟩:=hel' (p / S.sz k) (by omega) _ _ (yaa h3);rw[Nat.div_add_mod']at a;rw[yaq,yat (by omega),a]at hp';cases hp'
    exact c7m e (sgk.plain k _ _ (ybp h3))
   have hjn:j*S.sz k≤n*S.sz k:=yal _ (by omega);have hC1:(L.drop (j*S.sz k)).take ((n-j)*S.sz k)=(L.take (n*S.sz k)).drop (j*S.sz k):=by
    rw[List.drop_take];congr 1;rw[Nat.sub_mul]
   have hone1:∀v∈(L.drop (j*S.sz k)).take ((n-j)*S.sz k),v.oneCell'=true:=fun v hv=>hone v (by rw[hC1]at hv;exact List.mem_of_mem_drop hv)
   obtain ⟨C1,hC⟩:∃C1,C1=(L.drop (j*S.sz k)).take ((n-j)*S.sz k):=⟨_,rfl⟩
   have hC1l:C1.length=n*S.sz k-j*S.sz k:=by rw[hC,hC1];simp;omega
   have hC1g:∀q,q<n*S.sz k-j*S.sz k→C1[q]?=L[j*S.sz k+q]?:=fun q hq=>by rw[hC,hC1,ybq,yaq,yat (by omega)]
   have hij':i*S.sz k≤j*S.sz k:=yal _ (by omega);have hm:(i+(n-j))*S.sz k=i*S.sz k+(n*S.sz k-j*S.sz k):=by rw[yaK,Nat.sub_mul]
   have hz2:(j-i)*S.sz k=j*S.sz k-i*S.sz k:=by rw[Nat.sub_mul]
   refine (W.som hlt hj hnc hb hLl (by rw[←hn];exact hone1)).mono (fun e w' he=>?_);obtain ⟨rfl,M0,zs,hzl,rfl⟩:=he;rw[←hn,←hC];have l1:(Go.splice L (i*S.sz k) C1).length=L.length:=length_splice _ _ _ (by omega);have l2:(Go.splice (Go.splice L (i*S.sz k) C1) ((i+(n-j))*S.sz k) zs).length=L.length:=by rw[length_splice _ _ _ (by omega),l1]
   generalize hM:Go.splice (Go.splice L (i*S.sz k) C1) ((i+(n-j))*S.sz k) zs=M at l2 ⊢;have hMg:∀p,p<(i+(n-j))*S.sz k→M[p]?=if p<i*S.sz k then L[p]? else L[p+(j*S.sz k-i*S.sz k)]?:=fun p hp=>by
    rw[←hM,n8 (by omega),yam (by omega),n8 (by omega)];by_cases h:p<i*S.sz k
    ·rw[yam (by omega),yat h]
    ·rw[yat (by omega),yam h,hC1g _ (by omega)];congr 1;omega
   have hheap:((w.drew.setRow b M0).setRow b M.toArray).heap[b]?=some (.cells M.toArray t (0,0)):=setRow_heap _ _ _ _ _ _ (setRow_heap w.drew _ _ _ _ _ hb);have hoth:∀q,q≠b→((w.drew.setRow b M0).setRow b M.toArray).heap[q]?=w.heap[q]?:=fun q hq=>by rw[setRow_other _ _ _ _ hq,setRow_other _ _ _ _ hq];rfl
   have hsz:((w.drew.setRow b M0).setRow b M.toArray).heap.size=w.heap.size:=by simp only[setRow_size];rfl
   refine ⟨I,⟨by omega,rfl,rfl,rfl,fun q hq hm=>hoth q (by simpa using hm),fun _ _ h=>h,fun _ _ h=>.inl h,fun q o h=>by have:=hIw q o h;omega⟩,
    some ⟨b,0,none⟩,c,by rw[hres],by omega,.inr ⟨b,_,t,rfl,hheap,by simp[l2,hLl],.inr (by simp),hbI,?_⟩⟩
   intro q hq s d hs;have hs':s<S.sz k:=by have:=(zL hs);rwa [sgk.sz]at this
   rw[hres]at hq;have hlt2:=a0w hs' hq;by_cases hqi:q<i
   ·have e:(xs.take i++xs.drop j)[q]'(by omega)=xs[q]'(by omega):=by rw[ybj (by simp;omega)];simp
    rw[e]at hs;obtain ⟨v,a,e2⟩:=hel' q (by omega) s d hs;refine ⟨v,?_,a3l sgk e2 (a03 sgk hs) (fun q o h=>⟨by simp only[World.cell?];rw[hoth q (fun e=>by subst e;exact hbI o h)],h⟩)⟩;rw[←a,ya7,hMg _ hlt2,yat (a0w hs' hqi)]
   ·have e:(xs.take i++xs.drop j)[q]'(by omega)=xs[q+(j-i)]'(by omega):=by
     have hl:(xs.take i).length=i:=by simp;omega
     rw[ybi (by omega)];simp only[hl,List.getElem_drop];congr 1;omega
    rw[e]at hs;obtain ⟨v,a,e2⟩:=hel' (q+(j-i)) (by omega) s d hs;refine ⟨v,?_,a3l sgk e2 (a03 sgk hs) (fun q o h=>⟨by simp only[World.cell?];rw[hoth q (fun e=>by subst e;exact hbI o h)],h⟩)⟩;have hqz:i*S.sz k≤q*S.sz k:=yal _ (by omega);rw[←a,ya7,hMg _ hlt2,yam (by omega)];congr 1;rw[yaK,hz2];omega
theorem d1p (sgk:SgOk S) {f:Nat} {fn:Func} {code:Code} (fok:FnOk P f fn code) (hmd:S.md f=.cons) {k:κ} (W:DelOk P f (S.sz k))
 {xs r:List (El k)} {i j:Int} {ds:List (D κ El)} (hwl:WL ds [.lst k xs,.int .i64 i,.int .i64 j]) (hr:b52 xs i j=some r):Con P S f ds [] (.lst k r) []:=by
 unfold b52 at hr;rw[b9]at hr;split at hr
 ·rename_i h;simp only[yab,yaf]at h;cases hr
  obtain ⟨n,rfl⟩:=Int.eq_ofNat_of_zero_le h.1.1.1;obtain ⟨m,rfl⟩:=Int.eq_ofNat_of_zero_le (Int.le_trans h.1.1.1 h.1.1.2);exact d9i sgk fok hmd W (i:=n) (j:=m) (by omega) (by omega) hwl
 ·cases hr
end
end
section
def c3u (c:Nat):Bool:=decide (c<32)||(decide (127≤c)&&decide (c≤159))||decide (65535<c)
theorem a3z {c:Nat}:c3u c=true↔c<32∨(127≤c∧c≤159)∨65535<c:=by
 unfold c3u;simp only[ya5,yab,yaf];omega
set_option maxHeartbeats 2000000 in
theorem a9j {l:List UInt8} (hl:l≠[]):dcd l=if ((Lib.decodeL l).1=65533∧(Lib.decodeL l).2=1)∨c3u (Lib.decodeL l).1=true then (0,0) else Lib.decodeL l:=by
 cases l with
 |nil=>exact absurd rfl hl
 |cons a r=>
  rw[Lib.decodeL_N];have ha:=a.toNat_lt;simp only[a3z];rcases r with _|⟨b,_|⟨c,_|⟨d,r⟩⟩⟩
  ·simp only[List.getD_cons_zero,List.getD_cons_succ,List.getD_nil,yaF,yaD];obtain ⟨X,hX⟩:∃X,Lib.decodeN (0+1) a.toNat (0:UInt8).toNat (0:UInt8).toNat (0:UInt8).toNat=X:=⟨_,rfl⟩
   rw[hX];unfold Lib.decodeN at hX;unfold dcd;dsimp only;split at hX
   ·subst hX
    repeat' split
    all_goals first|with_reducible rfl|(exfalso;omega)
   ·rw[yam (by omega),yam (by omega),yam (by omega)]at hX;subst hX
    repeat' split
    all_goals first|with_reducible rfl|(exfalso;omega)
  ·simp only[List.getD_cons_zero,List.getD_cons_succ,List.getD_nil,yaF,yaD];have hb:=b.toNat_lt;obtain ⟨X,hX⟩:∃X,Lib.decodeN (0+1+1) a.toNat b.toNat (0:UInt8).toNat (0:UInt8).toNat=X:=⟨_,rfl⟩
   rw[hX];unfold Lib.decodeN at hX;unfold dcd;dsimp only
   repeat' split at hX
   all_goals subst hX
   all_goals dsimp only
   all_goals repeat' split
   all_goals first|with_reducible rfl|(exfalso;omega)|(simp only[yaV,and_true];omega)
  ·simp only[List.getD_cons_zero,List.getD_cons_succ,List.getD_nil,yaF,yaD];have hb:=b.toNat_lt;have hc:=c.toNat_lt;obtain ⟨X,hX⟩:∃X,Lib.decodeN (0+1+1+1) a.toNat b.toNat c.toNat (0:UInt8).toNat=X:=⟨_,rfl⟩
   rw[hX];unfold Lib.decodeN at hX;unfold dcd;dsimp only
   repeat' split at hX
   all_goals subst hX
   all_goals dsimp only
   all_goals repeat' split
   all_goals first|with_reducible rfl|(exfalso;omega)|(simp only[yaV,and_true];omega)
  ·simp only[List.getD_cons_zero,List.getD_cons_succ,List.getD_nil,yaF,yaD];have hb:=b.toNat_lt;have hc:=c.toNat_lt;have hd:=d.toNat_lt;obtain ⟨X,hX⟩:∃X,Lib.decodeN (r.length+1+1+1+1) a.toNat b.toNat c.toNat d.toNat=X:=⟨_,rfl⟩
   rw[hX];unfold Lib.decodeN at hX;unfold dcd;dsimp only
   repeat' split at hX
   all_goals subst hX
   all_goals dsimp only
   all_goals repeat' split
   all_goals first|with_reducible rfl|(exfalso;omega)|(simp only[yaV,and_true];omega)
def okN:Nat→List UInt8→Bool
 |0,_=>true
 |n+1,l=>if l=[] then true else if c3u (Lib.decodeL l).1 then false else okN n (l.drop (Lib.decodeL l).2)
theorem a2v {l:List UInt8} (hl:l≠[]):1≤(Lib.decodeL l).2∧(Lib.decodeL l).2≤l.length:=by
 cases l with
 |nil=>exact absurd rfl hl
 |cons a r=>
  rw[Lib.decodeL_N];unfold Lib.decodeN;have:1≤(a::r).length:=by simp
  repeat' split
  all_goals simp only
  all_goals omega
theorem e6w:∀(n:Nat) (l:List UInt8),c2u n l=(Lib.validGoD n l&&okN n l):=by
 intro n
 induction n with
 |zero=>intro l;rfl
 |succ n ih=>
  intro l;simp only[c2u,Lib.validGoD,okN];by_cases hl:l=[]
  ·simp[hl]
  ·simp only[hl,ya6];rw[a9j hl];by_cases h1:(Lib.decodeL l).1=65533∧(Lib.decodeL l).2=1
   ·simp[h1]
   ·by_cases h2:c3u (Lib.decodeL l).1=true
    ·simp[h2]
    ·have:=a2v hl;have hne:¬(((Lib.decodeL l).1=65533∧(Lib.decodeL l).2=1)∨c3u (Lib.decodeL l).1=true):=fun h=>h.elim h1 h2
     rw[yam hne,yam (show ¬(Lib.decodeL l).2=0 by omega),yam h1,yam h2];exact ih _
theorem d3v:∀(n m:Nat) (l:List UInt8),l.length≤n→l.length≤m→okN n l=okN m l:=by
 intro n
 induction n with
 |zero=>intro m l h1 h2;have:l=[]:=ya3.1 (by omega);subst this;cases m<;>simp[okN]
 |succ n ih=>
  intro m l h1 h2;by_cases hl:l=[]
  ·subst hl;cases m<;>simp[okN]
  ·have hp:=a2v hl;have:0<l.length:=List.length_pos_iff.2 hl;obtain ⟨m,rfl⟩:∃k,m=k+1:=⟨m-1,by omega⟩
   simp only[okN,hl,ya6];split
   ·rfl
   ·exact ih m _ (by rw[yaW];omega) (by rw[yaW];omega)
theorem c53 (xs:List (List UInt8)) (y sep:List UInt8):Lib.join (xs++[y]) sep=if xs=[] then y else Lib.join xs sep++(sep++y):=by
 cases xs with
 |nil=>simp[Lib.join_one]
 |cons x xs=>
  rw[List.cons_append,Lib.join_cons,Lib.join_cons];simp[Lib.joinTail]
def pcs (l:List UInt8) (acc:List (Nat×Nat)):List (List UInt8):=acc.map fun x=>(l.take x.2).drop x.1
def J (l:List UInt8) (acc:List (Nat×Nat)):List UInt8:=Lib.join (pcs l acc) [32]
theorem e7b (l:List UInt8):J l []=[]:=rfl
theorem c2y (l:List UInt8) (acc:List (Nat×Nat)) (a b:Nat):J l (acc++[(a,b)])=if acc=[] then (l.take b).drop a else J l acc++([32]++(l.take b).drop a):=by
 unfold J pcs;rw[List.map_append,List.map_singleton,c53];simp only[List.map_eq_nil_iff]
theorem f36 {l:List UInt8}:∀{acc:List (Nat×Nat)},(∀x∈acc,x.1<x.2∧x.2≤l.length)→acc≠[]→J l acc≠[]:=by
 intro acc h hne;obtain ⟨x,r,rfl⟩:=List.exists_cons_of_ne_nil hne;have hx:=h x (by simp);unfold J pcs;rw[ya2,Lib.join_cons];intro e;have:=congrArg List.length e;simp only[yaI,yaW,ya1,yaD]at this;omega
theorem c4b {s:ByteArray} {l:List UInt8} (hl:s.data.toList=l) (p:Nat→Bool) (hp:∀c,p c=blk c):∀(f pos:Nat) (st:Option Nat) (acc:List (Nat×Nat)) (gap:Bool),
 s.size≤pos+f→pos≤s.size→c2u f (l.drop pos)=true→(∀a,st=some a→a<pos∧gap=false)→(st=none→gap=true∨acc=[])→(∀x∈acc,x.1<x.2∧x.2≤l.length)→
 J l (Lib.closeSpans s (Lib.spansFromP p s f pos st acc))=b13 f (l.drop pos) (match st with|some a=>J l (acc++[(a,pos)])|none=>J l acc) gap:=by
 have hsz:s.size=l.length:=by rw[Lib.size_eq,hl]
 intro f
 induction f with
 |zero=>
  intro pos st acc gap h1 h2 hv hs hn hacc;have:pos=s.size:=by omega
  subst this;simp only[Lib.spansFromP,b13];cases st with
  |none=>rfl
  |some a=>rfl
 |succ f ih=>
  intro pos st acc gap h1 h2 hv hs hn hacc;by_cases hlt:pos<s.size
  ·have hne:l.drop pos≠[]:=by simp;omega
   have hdec:Lib.decodeL (l.drop pos)=Utf8.decode s pos:=by rw[←hl];exact Lib.decodeL_drop s pos
   have hpos:=a2v hne;rw[yaW]at hpos;have hv2:=hv;simp only[c2u,hne,ya6]at hv2;have hd:=a9j hne;split at hd
   ·rw[hd]at hv2;simp at hv2
   ·rename_i hnb;have hz:¬(dcd (l.drop pos)).2=0:=by rw[hd];omega
    rw[yam hz,List.drop_drop,hd,hdec]at hv2;have hw:wid (l.drop pos)=(Utf8.decode s pos).2:=by unfold wid;rw[hd,hdec,yam (by rw[←hdec];omega)]
    rw[hdec]at hpos;obtain ⟨k,hk⟩:∃k,(Utf8.decode s pos).2=k:=⟨_,rfl⟩
    rw[b13,yam hne,List.drop_drop,hw,hd,hdec];simp only[Lib.spansFromP,hlt,ybw,hp];rw[hk]at hpos hv2 ⊢;have htk:∀a,a≤pos→(l.take pos).drop a++(l.drop pos).take k=(l.take (pos+k)).drop a:=by
     intro a ha;rw[List.take_add,List.drop_append_of_le_length (by simp;omega)]
    cases hb:blk (Utf8.decode s pos).1 with
    |true=>
     simp only[ybw];cases st with
     |none=>exact ih (pos+k) none acc true (by omega) (by omega) hv2 (fun a h=>by cases h) (fun _=>.inl rfl) hacc
     |some a=>
      have:=(hs a rfl).1;exact ih (pos+k) none (acc++[(a,pos)]) true (by omega) (by omega) hv2 (fun a h=>by cases h) (fun _=>.inl rfl) (fun x hx=>by
       rcases yaN.1 hx with h|h
       ·exact hacc x h
       ·simp only[ybk]at h;subst h;exact ⟨this,by simp only;omega⟩)
    |false=>
     simp only[yaw,ya6];cases st with
     |some a=>
      obtain ⟨ha,hg⟩:=hs a rfl;subst hg;rw[ih (pos+k) (some a) acc false (by omega) (by omega) hv2 (fun b h=>by cases h;exact ⟨by omega,rfl⟩) (fun h=>by cases h) hacc];simp only[Bool.false_and,yaw,ya6];congr 1;rw[c2y,c2y];split
      ·exact (htk a (by omega)).symm
      ·rw[←htk a (by omega)];simp
     |none=>
      rw[ih (pos+k) (some pos) acc false (by omega) (by omega) hv2 (fun b h=>by cases h;exact ⟨by omega,rfl⟩) (fun h=>by cases h) hacc];congr 1;dsimp only;rw[c2y];have e:=htk pos (yan _);rw[@List.drop_eq_nil_of_le _ (l.take pos) _ (by simp;omega),ybn]at e;rcases hn rfl with hg|hacc0
      ·subst hg;by_cases h0:acc=[]
       ·subst h0;simp[e7b,e]
       ·have:=f36 hacc h0;have hb2:(J l acc==[])=false:=by simpa using this
        simp[h0,hb2,e]
      ·subst hacc0;simp[e7b,e]
  ·have:pos=s.size:=by omega
   subst this;have hnil:l.drop s.size=[]:=by rw[hsz];simp
   rw[Lib.spansFromP_end _ _ _ _ _ _ hlt,b13,yat hnil];cases st with
   |none=>rfl
   |some a=>rfl
theorem c0z {s:ByteArray} {p:Nat→Bool} (hp:∀c,p c=blk c) (hv:vld s.data.toList=true):Lib.join ((Lib.goFieldsP p s).map (·.data.toList)) [32]=cln s.data.toList:=by
 have h:=c4b (s:=s) rfl p hp s.size 0 none [] false (by omega) (by omega) (by rw[List.drop_zero,Lib.size_eq];exact hv) (fun a h=>by cases h) (fun _=>.inr rfl) (fun x h=>by cases h);rw[List.drop_zero]at h;have hc:cln s.data.toList=b13 s.size s.data.toList [] false:=by unfold cln;rw[Lib.size_eq]
 rw[hc];refine Eq.trans ?_ h;unfold J pcs Lib.goFieldsP Lib.spansOfP;rw[List.map_map];congr 1;refine List.map_congr_left (fun x _=>?_);show (s.extract x.1 x.2).data.toList=(s.data.toList.take x.2).drop x.1
 rw[Lib.extract_data,List.drop_take]
theorem c91 (p:Nat→Bool) (s:ByteArray):∀(f pos:Nat) (st:Option Nat) (acc:List (Nat×Nat)),(Lib.spansFromP p s f pos st acc).1.length≤acc.length+f:=by
 intro f
 induction f with
 |zero=>intro pos st acc;exact yan _
 |succ f ih=>
  intro pos st acc;unfold Lib.spansFromP;split
  ·split
   ·cases st with
    |none=>exact yaR (ih _ _ _) (by omega)
    |some a=>exact yaR (ih _ _ _) (by simp;omega)
   ·cases st with
    |none=>exact yaR (ih _ _ _) (by omega)
    |some a=>exact yaR (ih _ _ _) (by omega)
  ·simp
theorem c05 (p:Nat→Bool) (s:ByteArray):(Lib.goFieldsP p s).length≤s.size+1:=by
 have:=c91 p s s.size 0 none [];unfold Lib.goFieldsP Lib.spansOfP Lib.closeSpans;rw[ya9];split
 ·rw[yaI];simp at this ⊢;omega
 ·simp at this;omega
theorem d1n:∀(n:Nat) (l out:List UInt8) (gap:Bool),(b13 n l out gap).length≤out.length+2*l.length:=by
 intro n
 induction n with
 |zero=>intro l out gap;simp[b13]
 |succ n ih=>
  intro l out gap;rw[b13];split
  ·omega
  ·have hw:1≤wid l:=by unfold wid;split<;>omega
   have hl:0<l.length:=List.length_pos_iff.2 (by assumption);split
   ·have:=ih (l.drop (wid l)) out true;rw[yaW]at this;omega
   ·have:=ih (l.drop (wid l)) ((if gap&&!(out==[]) then out++[32] else out)++l.take (wid l)) false;rw[yaW]at this;have h2:(if gap&&!(out==[]) then out++[32] else out).length≤out.length+1:=by split<;>simp
    simp only[yaI,ya1]at this;omega
theorem d9h (s:ByteArray):(cln s.data.toList).length≤2*s.size:=by
 have:=d1n s.data.toList.length s.data.toList [] false;rw[Lib.size_eq];simpa[cln]using this
end
end Go.Proofs.YteaknldbhmocpaaGreatDoor.Ev
namespace Go.Proofs
open Go.Shelf
def Tryz.laysValid_ren:Go.Shelf.Ren:=⟨fun|196=>231|259=>280|n=>n,fun|9=>9|4=>4|3=>3|5=>5|12=>12|119=>257|0=>0|46=>110|139=>260|138=>259|53=>166|n=>n,fun|3=>1|4=>2|n=>n⟩
theorem Tryz.laysValid:Go.Proofs.Lays.n196 Tryz.prog Tryz.laysValid_ren:={
 mixed:=by kernel_rfl
 f196:=Tryz.func231.trans (congrArg some (by kernel_rfl))
 f259:=Tryz.func280.trans (congrArg some (by kernel_rfl))
 t0:=Tryz.underlying0
 a0:=Tryz.isAgg0
 z0:=Tryz.sizeOf0
 v0:=Tryz.zeroValue0
 t3:=Tryz.underlying3
 a3:=Tryz.isAgg3
 z3:=Tryz.sizeOf3
 v3:=Tryz.zeroValue3
 t4:=Tryz.underlying4
 a4:=Tryz.isAgg4
 z4:=Tryz.sizeOf4
 v4:=Tryz.zeroValue4
 t5:=Tryz.underlying5
 a5:=Tryz.isAgg5
 z5:=Tryz.sizeOf5
 v5:=Tryz.zeroValue5
 t9:=Tryz.underlying9
 a9:=Tryz.isAgg9
 z9:=Tryz.sizeOf9
 v9:=Tryz.zeroValue9
 t12:=Tryz.underlying12
 a12:=Tryz.isAgg12
 z12:=Tryz.sizeOf12
 v12:=Tryz.zeroValue12
 t46:=Tryz.underlying110
 a46:=Tryz.isAgg110
 z46:=Tryz.sizeOf110
 v46:=Tryz.zeroValue110
 t53:=Tryz.underlying166
 a53:=Tryz.isAgg166
 z53:=Tryz.sizeOf166
 v53:=Tryz.zeroValue166
 t119:=Tryz.underlying257
 a119:=Tryz.isAgg257
 z119:=Tryz.sizeOf257
 t138:=Tryz.underlying259
 a138:=Tryz.isAgg259
 z138:=Tryz.sizeOf259
 v138:=Tryz.zeroValue259
 t139:=Tryz.underlying260
 a139:=Tryz.isAgg260
 z139:=Tryz.sizeOf260
 v139:=Tryz.zeroValue260
 g3:=by kernel_rfl
 g4:=by kernel_rfl}
def Tryz.lays156_ren:Go.Shelf.Ren:=⟨fun|156=>281|165=>302|166=>303|169=>304|240=>318|241=>319|276=>327|277=>328|n=>n,fun|31=>46|9=>9|3=>3|4=>4|0=>0|20=>20|72=>279|76=>282|70=>277|37=>226|75=>281|127=>298|164=>302|5=>5|80=>284|n=>n,fun|n=>n⟩
theorem Tryz.lays156:Go.Proofs.Lays.n156 Tryz.prog Tryz.lays156_ren:={
 mixed:=by kernel_rfl
 f156:=Tryz.func281.trans (congrArg some (by kernel_rfl))
 f165:=Tryz.func302.trans (congrArg some (by kernel_rfl))
 f166:=Tryz.func303.trans (congrArg some (by kernel_rfl))
 f169:=Tryz.func304.trans (congrArg some (by kernel_rfl))
 f240:=Tryz.func318.trans (congrArg some (by kernel_rfl))
 f241:=Tryz.func319.trans (congrArg some (by kernel_rfl))
 f276:=Tryz.func327.trans (congrArg some (by kernel_rfl))
 f277:=Tryz.func328.trans (congrArg some (by kernel_rfl))
 t0:=Tryz.underlying0
 a0:=Tryz.isAgg0
 z0:=Tryz.sizeOf0
 v0:=Tryz.zeroValue0
 t3:=Tryz.underlying3
 a3:=Tryz.isAgg3
 z3:=Tryz.sizeOf3
 v3:=Tryz.zeroValue3
 t4:=Tryz.underlying4
 a4:=Tryz.isAgg4
 z4:=Tryz.sizeOf4
 v4:=Tryz.zeroValue4
 t9:=Tryz.underlying9
 a9:=Tryz.isAgg9
 z9:=Tryz.sizeOf9
 v9:=Tryz.zeroValue9
 t20:=Tryz.underlying20
 a20:=Tryz.isAgg20
 z20:=Tryz.sizeOf20
 v20:=Tryz.zeroValue20
 t31:=Tryz.underlying46
 a31:=Tryz.isAgg46
 z31:=Tryz.sizeOf46
 v31:=Tryz.zeroValue46
 t37:=Tryz.underlying226
 a37:=Tryz.isAgg226
 z37:=Tryz.sizeOf226
 v37:=Tryz.zeroValue226
 t70:=Tryz.underlying277
 a70:=Tryz.isAgg277
 z70:=Tryz.sizeOf277
 v70:=Tryz.zeroValue277
 t72:=Tryz.underlying279
 a72:=Tryz.isAgg279
 z72:=Tryz.sizeOf279
 v72:=Tryz.zeroValue279
 t75:=Tryz.underlying281
 a75:=Tryz.isAgg281
 z75:=Tryz.sizeOf281
 v75:=Tryz.zeroValue281
 t76:=Tryz.underlying282
 a76:=Tryz.isAgg282
 z76:=Tryz.sizeOf282
 v76:=Tryz.zeroValue282
 t127:=Tryz.underlying298
 a127:=Tryz.isAgg298
 z127:=Tryz.sizeOf298
 v127:=Tryz.zeroValue298
 t164:=Tryz.underlying302
 a164:=Tryz.isAgg302
 z164:=Tryz.sizeOf302
 v164:=Tryz.zeroValue302}
theorem Tryz.Builder_Extra_156:Builder.Extra Tryz.prog Tryz.lays156_ren:={
 sizeBuilder:=by kernel_rfl
 liesBuilder:=by kernel_rfl
 t5:=Tryz.underlying5
 a5:=Tryz.isAgg5
 z5:=Tryz.sizeOf5
 v5:=Tryz.zeroValue5
 infoByte:=by kernel_rfl
 cellsByte:=by kernel_rfl
 sizeByte:=by kernel_rfl
 neB5:=by decide}
open Go.RowKit in
theorem Tryz.strings_Join (bk o c:Nat) (xs:List ByteArray) (sep:ByteArray) (w:World) (hcells:∀(j:Nat) x,xs[j]?=some x→w.cell? ⟨bk,o+j,none⟩=some (.string x)) (hbk:bk<w.heap.size) (hN:xs.length≤140737488355328) (hcap:xs.length≤c) (hlen:(Lib.join (xs.map (·.data.toList)) sep.data.toList).length≤140737488355328) :
 Calls Tryz.prog 281 #[.slice (some ⟨bk,o,none⟩) xs.length c,.string sep] w fun e w'=>e=.returned (.string ⟨(Lib.join (xs.map (·.data.toList)) sep.data.toList).toArray⟩)∧Below w.heap.size w w':=Any.strings_Join Tryz.lays156 Tryz.Builder_Extra_156 bk o c xs sep w hcells hbk hN hcap hlen
def Tryz.lays229_ren:Go.Shelf.Ren:=⟨fun|229=>282|n=>n,fun|9=>9|40=>265|31=>46|152=>285|3=>3|0=>0|4=>4|21=>21|154=>287|n=>n,fun|n=>n⟩
theorem Tryz.lays229:Go.Proofs.Lays.n229 Tryz.prog Tryz.lays229_ren:={
 mixed:=by kernel_rfl
 f229:=Tryz.func282.trans (congrArg some (by kernel_rfl))
 t0:=Tryz.underlying0
 a0:=Tryz.isAgg0
 z0:=Tryz.sizeOf0
 v0:=Tryz.zeroValue0
 t3:=Tryz.underlying3
 a3:=Tryz.isAgg3
 z3:=Tryz.sizeOf3
 v3:=Tryz.zeroValue3
 t4:=Tryz.underlying4
 a4:=Tryz.isAgg4
 z4:=Tryz.sizeOf4
 v4:=Tryz.zeroValue4
 t9:=Tryz.underlying9
 a9:=Tryz.isAgg9
 z9:=Tryz.sizeOf9
 v9:=Tryz.zeroValue9
 t21:=Tryz.underlying21
 a21:=Tryz.isAgg21
 z21:=Tryz.sizeOf21
 v21:=Tryz.zeroValue21
 t31:=Tryz.underlying46
 a31:=Tryz.isAgg46
 z31:=Tryz.sizeOf46
 v31:=Tryz.zeroValue46
 t40:=Tryz.underlying265
 a40:=Tryz.isAgg265
 z40:=Tryz.sizeOf265
 v40:=Tryz.zeroValue265
 t152:=Tryz.underlying285
 a152:=Tryz.isAgg285
 z152:=Tryz.sizeOf285
 v152:=Tryz.zeroValue285
 t154:=Tryz.underlying287
 a154:=Tryz.isAgg287
 z154:=Tryz.sizeOf287
 v154:=Tryz.zeroValue287}
open Go.RowKit Go.Lib in
theorem Tryz.strings_FieldsFunc_runes (g:Nat) (lb:Array Value) (eg:∀args w,(callFunc g args).run Tryz.prog w=.ok (.enter g args) w) (p:Nat→Bool) (s:ByteArray) (w:World) (hs:s.size≤4294967296) (hp:PredAtRunes Tryz.prog g lb p w) :
 Calls Tryz.prog 282 #[.string s,.func (.func g) #[] lb] w fun e w'=>∃A,e=.returned (.slice (some ⟨A,0,none⟩) (Lib.goFieldsP p s).length (Lib.goFieldsP p s).length)∧w.heap.size≤A∧
  w'.ownsRow w.heap.size 9 1 (.slice (some ⟨A,0,none⟩) (Lib.goFieldsP p s).length (Lib.goFieldsP p s).length) (Lib.goFieldsP p s).length ((Lib.goFieldsP p s).map Value.string)∧Below w.heap.size w w':=Any.strings_FieldsFunc_runes Tryz.lays229 g lb eg p s w hs hp (by kernel_rfl) (by kernel_rfl)
open Go.RowKit in
theorem Tryz.strings_Join_none (a:Option Addr) (c:Nat) (sep:ByteArray) (w:World) :
 Calls Tryz.prog 281 #[.slice a 0 c,.string sep] w fun e w'=>e=.returned (.string ⟨#[]⟩)∧w'=w:=Any.strings_Join_none Tryz.lays156 Tryz.Builder_Extra_156 a c sep w
end Go.Proofs
