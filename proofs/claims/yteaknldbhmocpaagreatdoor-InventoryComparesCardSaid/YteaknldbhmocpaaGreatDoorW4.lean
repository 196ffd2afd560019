/- InventoryCompares: a part of the proof of the given statement, which is proved without conditions. -/
import Derived.Test.YteaknldbhmocpaaGreatDoorW3
import Derived.Sort.Defs
import Derived.Lib.Small
import Derived.Lib.BitFns
import Derived.Lib.DecodeN
import Derived.Lib.SlicesCompact
import Derived.KernelRfl
import Derived.Test.YteaknldbhmocpaaGreatDoorProg
import Derived.Shelf.RegionOpenPlain
import Derived.WalkKit
import Derived.Lib.Walk
import Derived.Lib.AppendZerosOnto
import Derived.Lib.AppendZeros
import Derived.Laws.Externs
import Derived.Laws.CopyOwn
import Derived.Deep.RegionLaw
import Derived.Lib.TrimUEq
import Derived.Lib.ValidU
import Derived.Lib.FieldsP
import Derived.Lib.Join
import Derived.Shelf.Strings.OnBuilder
import Derived.Shelf.Strings.FieldsFuncAny
import Derived.Shelf.Unicode.ValidAny
import Derived.Ground.NamesProg
import Derived.Ground.Names2Prog
import Derived.WalkMore
import Derived.Below
import Derived.Laws.RangeString
import Derived.Laws.Runes
import Derived.LoopTactic
import Derived.Deep.LoopGhost
import Derived.Shelf.Sort.Plain
import Derived.Shelf.Slices.CompactI
import Derived.Shelf.Slices.In.SortNone
import Derived.Lib.RowBridge
import Derived.Test.YteaknldbhmocpaaGreatDoorTie
import Derived.Shelf.LaysM
import Derived.Shelf.Strconv.Itoa3
set_option linter.all false
namespace Go.Proofs.YteaknldbhmocpaaGreatDoor.Ev
open Go
def a6x {α:Type} (s:List α) (i:Int) (v:List α):Option (List α):=
 match v with
 | [y]=>bif decide (0≤i)&&decide (i≤(s.length:Int))&&decide (s.length+1≤1073741824) then some (s.take i.toNat++y::s.drop i.toNat) else none
 |_=>none
def b3m {α:Type} (s:List α) (i j:Int):Option (List α):=
 bif decide (0≤i)&&decide (i≤j)&&decide (j≤(s.length:Int))&&decide (s.length≤1073741824) then some (s.take i.toNat++s.drop j.toNat) else none
def dcd:List UInt8→Nat×Nat
 | []=>(0,0)
 |a::r=>
  if 32≤a.toNat∧a.toNat<127 then (a.toNat,1)
  else if 194≤a.toNat∧a.toNat<224 then
   (match r with
   |b::_=>if (128≤b.toNat∧b.toNat<192)∧160≤(a.toNat-192)*64+b.toNat-128 then ((a.toNat-192)*64+b.toNat-128,2) else (0,0)
   | []=>(0,0))
  else if 224≤a.toNat∧a.toNat<240 then
   (match r with
   |b::c::_=>
    if ((128≤b.toNat∧b.toNat<192)∧(128≤c.toNat∧c.toNat<192))∧2048≤(a.toNat-224)*4096+(b.toNat-128)*64+c.toNat-128∧
     ((a.toNat-224)*4096+(b.toNat-128)*64+c.toNat-128<55296∨57343<(a.toNat-224)*4096+(b.toNat-128)*64+c.toNat-128) then
     ((a.toNat-224)*4096+(b.toNat-128)*64+c.toNat-128,3) else (0,0)
   |_=>(0,0))
  else (0,0)
def b80:Nat→List UInt8→Bool
 |0,_=>true
 |n+1,l=>if l=[] then true else if (dcd l).2=0 then false else b80 n (l.drop (dcd l).2)
def vld (s:List UInt8):Bool:=b80 s.length s
def wid (l:List UInt8):Nat:=if (dcd l).2<1 then 1 else (dcd l).2
def blk (c:Nat):Bool:=c==32||c==160
def b0h:Nat→List UInt8→List UInt8→Bool→List UInt8
 |0,_,out,_=>out
 |n+1,l,out,gap=>if l=[] then out else
  if blk (dcd l).1 then b0h n (l.drop (wid l)) out true
  else b0h n (l.drop (wid l)) ((if gap&&!(out==[]) then out++[32] else out)++l.take (wid l)) false
def cln (s:List UInt8):List UInt8:=b0h s.length s [] false
end Go.Proofs.YteaknldbhmocpaaGreatDoor.Ev
namespace Go.Proofs.YteaknldbhmocpaaGreatDoor
open Ev
open Go (IntKind)
section
set_option maxRecDepth 100000
structure V4 (α:Type) where
 x0:α
 x1:α
 x2:α
 x3:α
structure Custody where
 State:Int
 Branch:Int
 Who:Int
 To:Int
structure Item where
 ID:Int
 Record:Int
 Branch:Int
 Kind:Int
 Price:Int
 Call:List UInt8
 Custody:Custody
structure Patron where
 ID:Int
 Kind:Int
 Branch:Int
 Until:Int
 Stopped:Bool
 Name:List UInt8
structure Loan where
 Item:Int
 Patron:Int
 Out:Int
 Due:Int
 Renewals:Int
 Recalled:Bool
structure Hold where
 ID:Int
 Patron:Int
 Record:Int
 Item:Int
 Pickup:Int
 Placed:Int
 State:Int
 Got:Int
 Until:Int
 Asleep:Int
 Rank:Int
structure Charge where
 ID:Int
 Patron:Int
 Item:Int
 Day:Int
 Kind:Int
 Amount:Int
 Paid:Int
structure Rule where
 Patron:Int
 Item:Int
 Branch:Int
 Days:Int
 Renewals:Int
 Fine:Int
 Grace:Int
 MaxFine:Int
 Loans:Int
 Shelf:Int
 Recall:Int
 Fixed:Int
 Rank:Int
structure Calendar where
 Week:Int
 Closed:List Int
structure Move where
 Day:Int
 Item:Int
 Kind:Int
 Branch:Int
 Who:Int
structure Circ where
 Today:Int
 Items:List Item
 Patrons:List Patron
 Loans:List Loan
 Holds:List Hold
 Charges:List Charge
 Rules:List Rule
 Cals:V4 Calendar
 Moves:List Move
 NextHold:Int
 NextCharge:Int
 Local:Bool
structure MapI where
 key:Int
 val:Int
structure Problem where
 Kind:Int
 Index:Int
 Tag:List UInt8
 Code:Int
structure MapS where
 key:Int
 val:List UInt8
structure Utf8_acceptRange where
 lo:Int
 hi:Int
inductive Kd where
 |kItem
 |kPatron
 |kLoan
 |kHold
 |kCharge
 |kRule
 |ki64
 |kMove
 |kMapI
 |kProblem
 |kstr
 |kMapS
 |kbool
 |ku64
 |ku8
 |kUtf8_acceptRange
 |ku16
abbrev El:Kd→Type
 |.kItem=>Item
 |.kPatron=>Patron
 |.kLoan=>Loan
 |.kHold=>Hold
 |.kCharge=>Charge
 |.kRule=>Rule
 |.ki64=>Int
 |.kMove=>Move
 |.kMapI=>MapI
 |.kProblem=>Problem
 |.kstr=>List UInt8
 |.kMapS=>MapS
 |.kbool=>Bool
 |.ku64=>Int
 |.ku8=>Int
 |.kUtf8_acceptRange=>Utf8_acceptRange
 |.ku16=>Int
abbrev DD:=D Kd El
abbrev Sm (R:Type):=a0a Kd El R
abbrev a0r {α β:Type} (ta:List (Nat×Nat×Kd)) (se ss bs az:List Nat) (fc:FC Kd El α) [FCC fc] (step:α→Option (α⊕β)) (oc:OC Kd El β):LD Kd El α β:=⟨ta,se,ss,bs,az,fc,step,oc⟩
instance:KdEq Kd where
 dec:=fun a b=>match a,b with
  |.kItem,.kItem=>some ⟨rfl⟩
  |.kPatron,.kPatron=>some ⟨rfl⟩
  |.kLoan,.kLoan=>some ⟨rfl⟩
  |.kHold,.kHold=>some ⟨rfl⟩
  |.kCharge,.kCharge=>some ⟨rfl⟩
  |.kRule,.kRule=>some ⟨rfl⟩
  |.ki64,.ki64=>some ⟨rfl⟩
  |.kMove,.kMove=>some ⟨rfl⟩
  |.kMapI,.kMapI=>some ⟨rfl⟩
  |.kProblem,.kProblem=>some ⟨rfl⟩
  |.kstr,.kstr=>some ⟨rfl⟩
  |.kMapS,.kMapS=>some ⟨rfl⟩
  |.kbool,.kbool=>some ⟨rfl⟩
  |.ku64,.ku64=>some ⟨rfl⟩
  |.ku8,.ku8=>some ⟨rfl⟩
  |.kUtf8_acceptRange,.kUtf8_acceptRange=>some ⟨rfl⟩
  |.ku16,.ku16=>some ⟨rfl⟩
  |_,_=>none
abbrev wr (k:IntKind) (n:Int):Int:=IntKind.wrap k n
def b3o (x:Custody):List DD:=[.int .i64 x.State,.int .i64 x.Branch,.int .i64 x.Who,.int .i64 x.To]
def m8:CC Kd El Custody:=(CC.cons (Cod.int .i64) (CC.cons (Cod.int .i64) (CC.cons (Cod.int .i64) (CC.cons (Cod.int .i64) CC.nil)))).iso b3o (fun p=>⟨p.1,p.2.1,p.2.2.1,p.2.2.2.1⟩)
def c5s (x:Item):List DD:=[.int .i64 x.ID,.int .i64 x.Record,.int .i64 x.Branch,.int .i64 x.Kind,.int .i64 x.Price,.str x.Call,.int .i64 x.Custody.State,.int .i64 x.Custody.Branch,.int .i64 x.Custody.Who,.int .i64 x.Custody.To]
def a1i:CC Kd El Item:=(CC.cons (Cod.int .i64) (CC.cons (Cod.int .i64) (CC.cons (Cod.int .i64) (CC.cons (Cod.int .i64) (CC.cons (Cod.int .i64) (CC.cons Cod.str (CC.cons (Cod.int .i64) (CC.cons (Cod.int .i64) (CC.cons (Cod.int .i64) (CC.cons (Cod.int .i64) CC.nil)))))))))).iso c5s (fun p=>⟨p.1,p.2.1,p.2.2.1,p.2.2.2.1,p.2.2.2.2.1,p.2.2.2.2.2.1,⟨p.2.2.2.2.2.2.1,p.2.2.2.2.2.2.2.1,p.2.2.2.2.2.2.2.2.1,p.2.2.2.2.2.2.2.2.2.1⟩⟩)
def b7h (x:Patron):List DD:=[.int .i64 x.ID,.int .i64 x.Kind,.int .i64 x.Branch,.int .i64 x.Until,.bool x.Stopped,.str x.Name]
def a2r:CC Kd El Patron:=(CC.cons (Cod.int .i64) (CC.cons (Cod.int .i64) (CC.cons (Cod.int .i64) (CC.cons (Cod.int .i64) (CC.cons Cod.bool (CC.cons Cod.str CC.nil)))))).iso b7h (fun p=>⟨p.1,p.2.1,p.2.2.1,p.2.2.2.1,p.2.2.2.2.1,p.2.2.2.2.2.1⟩)
def c5t (x:Loan):List DD:=[.int .i64 x.Item,.int .i64 x.Patron,.int .i64 x.Out,.int .i64 x.Due,.int .i64 x.Renewals,.bool x.Recalled]
def a6e:CC Kd El Loan:=(CC.cons (Cod.int .i64) (CC.cons (Cod.int .i64) (CC.cons (Cod.int .i64) (CC.cons (Cod.int .i64) (CC.cons (Cod.int .i64) (CC.cons Cod.bool CC.nil)))))).iso c5t (fun p=>⟨p.1,p.2.1,p.2.2.1,p.2.2.2.1,p.2.2.2.2.1,p.2.2.2.2.2.1⟩)
def c5r (x:Hold):List DD:=[.int .i64 x.ID,.int .i64 x.Patron,.int .i64 x.Record,.int .i64 x.Item,.int .i64 x.Pickup,.int .i64 x.Placed,.int .i64 x.State,.int .i64 x.Got,.int .i64 x.Until,.int .i64 x.Asleep,.int .i64 x.Rank]
def a17:CC Kd El Hold:=(CC.cons (Cod.int .i64) (CC.cons (Cod.int .i64) (CC.cons (Cod.int .i64) (CC.cons (Cod.int .i64) (CC.cons (Cod.int .i64) (CC.cons (Cod.int .i64) (CC.cons (Cod.int .i64) (CC.cons (Cod.int .i64) (CC.cons (Cod.int .i64) (CC.cons (Cod.int .i64) (CC.cons (Cod.int .i64) CC.nil))))))))))).iso c5r (fun p=>⟨p.1,p.2.1,p.2.2.1,p.2.2.2.1,p.2.2.2.2.1,p.2.2.2.2.2.1,p.2.2.2.2.2.2.1,p.2.2.2.2.2.2.2.1,p.2.2.2.2.2.2.2.2.1,p.2.2.2.2.2.2.2.2.2.1,p.2.2.2.2.2.2.2.2.2.2.1⟩)
def b7g (x:Charge):List DD:=[.int .i64 x.ID,.int .i64 x.Patron,.int .i64 x.Item,.int .i64 x.Day,.int .i64 x.Kind,.int .i64 x.Amount,.int .i64 x.Paid]
def a38:CC Kd El Charge:=(CC.cons (Cod.int .i64) (CC.cons (Cod.int .i64) (CC.cons (Cod.int .i64) (CC.cons (Cod.int .i64) (CC.cons (Cod.int .i64) (CC.cons (Cod.int .i64) (CC.cons (Cod.int .i64) CC.nil))))))).iso b7g (fun p=>⟨p.1,p.2.1,p.2.2.1,p.2.2.2.1,p.2.2.2.2.1,p.2.2.2.2.2.1,p.2.2.2.2.2.2.1⟩)
def c5x (x:Rule):List DD:=[.int .i64 x.Patron,.int .i64 x.Item,.int .i64 x.Branch,.int .i64 x.Days,.int .i64 x.Renewals,.int .i64 x.Fine,.int .i64 x.Grace,.int .i64 x.MaxFine,.int .i64 x.Loans,.int .i64 x.Shelf,.int .i64 x.Recall,.int .i64 x.Fixed,.int .i64 x.Rank]
def a6f:CC Kd El Rule:=(CC.cons (Cod.int .i64) (CC.cons (Cod.int .i64) (CC.cons (Cod.int .i64) (CC.cons (Cod.int .i64) (CC.cons (Cod.int .i64) (CC.cons (Cod.int .i64) (CC.cons (Cod.int .i64) (CC.cons (Cod.int .i64) (CC.cons (Cod.int .i64) (CC.cons (Cod.int .i64) (CC.cons (Cod.int .i64) (CC.cons (Cod.int .i64) (CC.cons (Cod.int .i64) CC.nil))))))))))))).iso c5x (fun p=>⟨p.1,p.2.1,p.2.2.1,p.2.2.2.1,p.2.2.2.2.1,p.2.2.2.2.2.1,p.2.2.2.2.2.2.1,p.2.2.2.2.2.2.2.1,p.2.2.2.2.2.2.2.2.1,p.2.2.2.2.2.2.2.2.2.1,p.2.2.2.2.2.2.2.2.2.2.1,p.2.2.2.2.2.2.2.2.2.2.2.1,p.2.2.2.2.2.2.2.2.2.2.2.2.1⟩)
def b1g (x:Calendar):List DD:=[.int .i64 x.Week,.lst .ki64 x.Closed]
def a0c:CC Kd El Calendar:=(CC.cons (Cod.int .i64) (CC.cons (Cod.lst Kd.ki64) CC.nil)).iso b1g (fun p=>⟨p.1,p.2.1⟩)
def c5w (x:Move):List DD:=[.int .i64 x.Day,.int .i64 x.Item,.int .i64 x.Kind,.int .i64 x.Branch,.int .i64 x.Who]
def a4t:CC Kd El Move:=(CC.cons (Cod.int .i64) (CC.cons (Cod.int .i64) (CC.cons (Cod.int .i64) (CC.cons (Cod.int .i64) (CC.cons (Cod.int .i64) CC.nil))))).iso c5w (fun p=>⟨p.1,p.2.1,p.2.2.1,p.2.2.2.1,p.2.2.2.2.1⟩)
def c5q (x:Circ):List DD:=[.int .i64 x.Today,.lst .kItem x.Items,.lst .kPatron x.Patrons,.lst .kLoan x.Loans,.lst .kHold x.Holds,.lst .kCharge x.Charges,.lst .kRule x.Rules,.int .i64 x.Cals.x0.Week,.lst .ki64 x.Cals.x0.Closed,.int .i64 x.Cals.x1.Week,.lst .ki64 x.Cals.x1.Closed,.int .i64 x.Cals.x2.Week,.lst .ki64 x.Cals.x2.Closed,.int .i64 x.Cals.x3.Week,.lst .ki64 x.Cals.x3.Closed,.lst .kMove x.Moves,.int .i64 x.NextHold,.int .i64 x.NextCharge,.bool x.Local]
def g7:CC Kd El Circ:=(CC.cons (Cod.int .i64) (CC.cons (Cod.lst Kd.kItem) (CC.cons (Cod.lst Kd.kPatron) (CC.cons (Cod.lst Kd.kLoan) (CC.cons (Cod.lst Kd.kHold) (CC.cons (Cod.lst Kd.kCharge) (CC.cons (Cod.lst Kd.kRule) (CC.cons (Cod.int .i64) (CC.cons (Cod.lst Kd.ki64) (CC.cons (Cod.int .i64) (CC.cons (Cod.lst Kd.ki64) (CC.cons (Cod.int .i64) (CC.cons (Cod.lst Kd.ki64) (CC.cons (Cod.int .i64) (CC.cons (Cod.lst Kd.ki64) (CC.cons (Cod.lst Kd.kMove) (CC.cons (Cod.int .i64) (CC.cons (Cod.int .i64) (CC.cons Cod.bool CC.nil))))))))))))))))))).iso c5q (fun p=>⟨p.1,p.2.1,p.2.2.1,p.2.2.2.1,p.2.2.2.2.1,p.2.2.2.2.2.1,p.2.2.2.2.2.2.1,⟨⟨p.2.2.2.2.2.2.2.1,p.2.2.2.2.2.2.2.2.1⟩,⟨p.2.2.2.2.2.2.2.2.2.1,p.2.2.2.2.2.2.2.2.2.2.1⟩,⟨p.2.2.2.2.2.2.2.2.2.2.2.1,p.2.2.2.2.2.2.2.2.2.2.2.2.1⟩,⟨p.2.2.2.2.2.2.2.2.2.2.2.2.2.1,p.2.2.2.2.2.2.2.2.2.2.2.2.2.2.1⟩⟩,p.2.2.2.2.2.2.2.2.2.2.2.2.2.2.2.1,p.2.2.2.2.2.2.2.2.2.2.2.2.2.2.2.2.1,p.2.2.2.2.2.2.2.2.2.2.2.2.2.2.2.2.2.1,p.2.2.2.2.2.2.2.2.2.2.2.2.2.2.2.2.2.2.1⟩)
def c5u (x:MapI):List DD:=[.int .i64 x.key,.int .i64 x.val]
def b3e:CC Kd El MapI:=(CC.cons (Cod.int .i64) (CC.cons (Cod.int .i64) CC.nil)).iso c5u (fun p=>⟨p.1,p.2.1⟩)
def b3p (x:Problem):List DD:=[.int .i64 x.Kind,.int .i64 x.Index,.str x.Tag,.int .u8 x.Code]
def a4u:CC Kd El Problem:=(CC.cons (Cod.int .i64) (CC.cons (Cod.int .i64) (CC.cons Cod.str (CC.cons (Cod.int .u8) CC.nil)))).iso b3p (fun p=>⟨p.1,p.2.1,p.2.2.1,p.2.2.2.1⟩)
def c5v (x:MapS):List DD:=[.int .i64 x.key,.str x.val]
def b3f:CC Kd El MapS:=(CC.cons (Cod.int .i64) (CC.cons Cod.str CC.nil)).iso c5v (fun p=>⟨p.1,p.2.1⟩)
def a3o (x:Utf8_acceptRange):List DD:=[.int .u8 x.lo,.int .u8 x.hi]
def u3:CC Kd El Utf8_acceptRange:=(CC.cons (Cod.int .u8) (CC.cons (Cod.int .u8) CC.nil)).iso a3o (fun p=>⟨p.1,p.2.1⟩)
def ccK:(k:Kd)→CC Kd El (El k)
 |.kItem=>a1i
 |.kPatron=>a2r
 |.kLoan=>a6e
 |.kHold=>a17
 |.kCharge=>a38
 |.kRule=>a6f
 |.ki64=>CC.one (Cod.int .i64)
 |.kMove=>a4t
 |.kMapI=>b3e
 |.kProblem=>a4u
 |.kstr=>CC.one Cod.str
 |.kMapS=>b3f
 |.kbool=>CC.one Cod.bool
 |.ku64=>CC.one (Cod.int .u64)
 |.ku8=>CC.one (Cod.int .u8)
 |.kUtf8_acceptRange=>u3
 |.ku16=>CC.one (Cod.int .u16)
def e2e:Kd→Nat
 |.kItem=>10
 |.kPatron=>6
 |.kLoan=>6
 |.kHold=>11
 |.kCharge=>7
 |.kRule=>13
 |.ki64=>1
 |.kMove=>5
 |.kMapI=>2
 |.kProblem=>4
 |.kstr=>1
 |.kMapS=>2
 |.kbool=>1
 |.ku64=>1
 |.ku8=>1
 |.kUtf8_acceptRange=>2
 |.ku16=>1
def e2d (t:Nat):Option Kd:=bif Nat.beq t 321 then some .kMapS else bif Nat.beq t 319 then some .kMapI else bif Nat.beq t 312 then some .ku8 else bif Nat.beq t 311 then some .ku8 else bif Nat.beq t 261 then some .ku16 else bif Nat.beq t 259 then some .kUtf8_acceptRange else bif Nat.beq t 208 then some .ku64 else bif Nat.beq t 166 then some .ku64 else bif Nat.beq t 155 then some .ki64 else bif Nat.beq t 110 then some .ku64 else bif Nat.beq t 87 then some .kMove else bif Nat.beq t 85 then some .kRule else bif Nat.beq t 83 then some .kCharge else bif Nat.beq t 81 then some .kHold else bif Nat.beq t 79 then some .kLoan else bif Nat.beq t 77 then some .kPatron else bif Nat.beq t 61 then some .kItem else bif Nat.beq t 57 then some .kProblem else bif Nat.beq t 42 then some .ki64 else bif Nat.beq t 12 then some .ku64 else bif Nat.beq t 11 then some .kstr else bif Nat.beq t 10 then some .kstr else bif Nat.beq t 9 then some .kstr else bif Nat.beq t 6 then some .ku8 else bif Nat.beq t 5 then some .ku8 else bif Nat.beq t 4 then some .kbool else bif Nat.beq t 3 then some .ki64 else bif Nat.beq t 2 then some .ki64 else none
def d8:List Int:=(List.range 20).map fun i=>((10 ^ i:Nat):Int)
def g8:List Int:=(List.range 256).map fun c=>(Go.Lib.firstT c:Int)
def f7:List Utf8_acceptRange:=(List.range 16).map fun i=>⟨(Go.Lib.accLo i:Int),(Go.Lib.accHi i:Int)⟩
def w8:List Int:=[0,32770,41316,42344,6160,8268,8320,8704,16,4112,32784,49152,0]
def b5m (t:Nat):Option ((k:Kd)×List (El k)):=bif Nat.beq t 3 then some ⟨.ku16,w8⟩ else bif Nat.beq t 2 then some ⟨.kUtf8_acceptRange,f7⟩ else bif Nat.beq t 1 then some ⟨.ku8,g8⟩ else bif Nat.beq t 0 then some ⟨.ku64,d8⟩ else none
def e2g (f:Nat):Md:=bif Nat.beq f 324 then .inpl else bif Nat.beq f 312 then .inpl else bif Nat.beq f 294 then .fresh else bif Nat.beq f 292 then .inpl else bif Nat.beq f 266 then .fresh else bif Nat.beq f 256 then .fresh else bif Nat.beq f 212 then .mut else bif Nat.beq f 134 then .inpl else bif Nat.beq f 127 then .mut else bif Nat.beq f 124 then .mut else bif Nat.beq f 123 then .mut else bif Nat.beq f 79 then .mut else bif Nat.beq f 77 then .mut else bif Nat.beq f 76 then .newb else bif Nat.beq f 73 then .inpl else bif Nat.beq f 19 then .fresh else bif Nat.beq f 313 then .cons else bif Nat.beq f 250 then .fresh else bif Nat.beq f 249 then .cons else bif Nat.beq f 202 then .fresh else bif Nat.beq f 201 then .cons else bif Nat.beq f 190 then .fresh else bif Nat.beq f 122 then .fresh else bif Nat.beq f 121 then .cons else bif Nat.beq f 70 then .fresh else bif Nat.beq f 35 then .cons else bif Nat.beq f 34 then .inpl else bif Nat.beq f 30 then .nmap else .data
def d7q (t:Nat):Bool:=Nat.beq t 59||(Nat.beq t 57||(false))
def d3w:MpK Kd El:=e01 .kMapI MapI.key MapI.val (fun k v=>⟨k,v⟩)
def d3x:MpK Kd El:=e02 .kMapS MapS.key MapS.val (fun k v=>⟨k,v⟩)
def d8w (t:Nat):Option (MpK Kd El):=bif Nat.beq t 88 then some d3x else bif Nat.beq t 62 then some d3w else none
def e2b (f:Nat):Option Kd:=bif Nat.beq f 324 then some .kHold else bif Nat.beq f 313 then some .kLoan else bif Nat.beq f 312 then some .kHold else bif Nat.beq f 292 then some .kHold else bif Nat.beq f 249 then some .kPatron else bif Nat.beq f 201 then some .kLoan else bif Nat.beq f 134 then some .ki64 else bif Nat.beq f 121 then some .kItem else bif Nat.beq f 73 then some .ki64 else bif Nat.beq f 35 then some .ki64 else bif Nat.beq f 34 then some .ki64 else none
def e0y (n:Nat):Bool:=Nat.beq n 0
def sg:Sg Kd El:=⟨fun k=>(ccK k).enc,fun k=>(ccK k).dec,e2e,e2d,b5m,e2g,d7q,d8w,e2b,e0y⟩
def u4 (x y:Custody):Bool:=(x.State==y.State&&(x.Branch==y.Branch&&(x.Who==y.Who&&(x.To==y.To&&true))))
def a3w (x y:Problem):Bool:=(x.Kind==y.Kind&&(x.Index==y.Index&&(x.Tag==y.Tag&&(x.Code==y.Code&&true))))
abbrev ZC:=CC Kd El
abbrev ZF:=FC Kd El
abbrev ZD:=Cod Kd El
abbrev Zi:ZD Int:=Cod.int .i64
abbrev Zb:ZD Bool:=Cod.bool
abbrev Zl (k:Kd):ZD (List (El k)):=Cod.lst k
abbrev Zn:ZC Unit:=CC.nil
abbrev Zz:ZF Unit:=FC.nil
section
variable {α β:Type}
abbrev Zc:ZD α→ZC β→ZC (α×β):=CC.cons
abbrev Zs:Nat→ZD α→ZF β→ZF (α×β):=FC.slot
abbrev Zp:Nat→Nat→ZF β→ZF β:=FC.ptr
abbrev Zx:Nat→ZC α→ZF β→ZF (α×β):=FC.box
end
end
section
def qa4 (s:List Item) (i:Int) (v:List Item):Option (List Item):=a6x s i v
def qa2 (s:List Patron) (i:Int) (v:List Patron):Option (List Patron):=a6x s i v
def qat (s:List Loan) (i:Int) (v:List Loan):Option (List Loan):=a6x s i v
def qbe (s:List Loan) (i j:Int):Option (List Loan):=b3m s i j
def qag (s:List Int):Option (List Int):=bif decide (s.length≤LIM) then some (s.mergeSort fun x y=>decide (x≤y)) else none
def qae (s:List Int):Option (List Int):=bif decide (s.length≤LIM) then some (Go.Lib.compact s) else none
@[inline] def d5k:Nat→Nat→List UInt8→List UInt8|0,_,a=>a|f+1,u,a=>bif decide (u<10) then UInt8.ofNat (48+u)::a else d5k f (u / 10) (UInt8.ofNat (48+u % 10)::a)
def qbf (n:Int):Option (List UInt8):=bif decide (-9223372036854775808≤n)&&decide (n≤9223372036854775807) then some (bif decide (n<0) then 45::d5k 20 n.natAbs [] else d5k 20 n.natAbs []) else none
def qbg (s:List UInt8):Option Bool:=bif decide (s.length≤LIM) then some (vld s) else none
def qbh (s:List UInt8):Option (List UInt8):=bif decide (s.length≤LIM)&&vld s then some (cln s) else none
end
section
set_option maxRecDepth 100000
def qf:Option Bool:=some true
def b76:(Int×Circ×Unit)→Option ((Int×Circ×Unit)⊕((Circ×Unit)⊕(Bool×Unit))):=fun (i,c,_)=>
 bif decide (i<(c.Items.length:Int)) then match j7 c.Items i with|some x =>bif decide (300<(x.Call.length:Int)) then some (.inr (.inr (false,()))) else some (.inl (wr .i64 (i+1),c,()))|none =>none else some (.inr (.inl (c,())))
def b77:(Int×Circ×Unit)→Option ((Int×Circ×Unit)⊕((Circ×Unit)⊕(Bool×Unit))):=fun (i,c,_)=>
 bif decide (i<(c.Patrons.length:Int)) then match j7 c.Patrons i with|some x =>bif decide (300<(x.Name.length:Int)) then some (.inr (.inr (false,()))) else some (.inl (wr .i64 (i+1),c,()))|none =>none else some (.inr (.inl (c,())))
def a5k:(Int×Circ×Unit)→Option ((Int×Circ×Unit)⊕((Unit)⊕(Bool×Unit))):=fun (i,c,_)=>
 bif decide (i<4) then let k (v:Int) (v8:List Int):Option ((Int×Circ×Unit)⊕((Unit)⊕(Bool×Unit))):=bif decide (20<(v8.length:Int)) then some (.inr (.inr (false,()))) else some (.inl (wr .i64 (i+1),c,()));bif i==0 then k c.Cals.x0.Week c.Cals.x0.Closed else bif i==1 then k c.Cals.x1.Week c.Cals.x1.Closed else bif i==2 then k c.Cals.x2.Week c.Cals.x2.Closed else bif i==3 then k c.Cals.x3.Week c.Cals.x3.Closed else none else some (.inr (.inl (())))
def qb (c:Circ):Option Bool:=
 let k16 (v:Bool):Option Bool:=let k15 (v1:Bool):Option Bool:=let k14 (v2:Bool):Option Bool:=let k13 (v3:Bool):Option Bool:=let k12 (v4:Bool):Option Bool:=let k (v5:Bool):Option Bool:=bif v5 then some false else match d3 b76 (0,c,()) with|some (.inl (c6,_)) =>(match d3 b77 (0,c6,()) with|some (.inl (c7,_)) =>(match d3 a5k (0,c7,()) with|some (.inl (_)) =>some true|some (.inr (v9,_)) =>some v9|none =>none)|some (.inr (v10,_)) =>some v10|none =>none)|some (.inr (v11,_)) =>some v11|none =>none;bif v4 then k true else k (decide (200<(c.Moves.length:Int)));bif v3 then k12 true else k12 (decide (10<(c.Rules.length:Int)));bif v2 then k13 true else k13 (decide (30<(c.Charges.length:Int)));bif v1 then k14 true else k14 (decide (12<(c.Loans.length:Int)));bif v then k15 true else k15 (decide (12<(c.Holds.length:Int)));bif decide (10<(c.Items.length:Int)) then k16 true else k16 (decide (8<(c.Patrons.length:Int)))
def qam (s:List UInt8) (i:Int):Option (Int×Int):=
 match j7 s i with|some b =>let k35 (v:Bool):Option (Int×Int):=bif v then some (wr .i64 (b.toNat:Int),1) else let k34 (v1:Bool):Option (Int×Int):=let k33 (v2:Bool):Option (Int×Int):=let k32 (v4:Bool):Option (Int×Int):=let k31 (v6:Bool):Option (Int×Int):=let k (v8:Int) (v9:Int):Option (Int×Int):=some (v8,v9);bif v6 then match j7 s (wr .i64 (i+1)) with|some b7 =>bif decide (160≤wr .i64 ((wr .i64 ((wr .i64 ((wr .i64 ((wr .i64 (b.toNat:Int))-192))*64))+(wr .i64 (b7.toNat:Int))))-128)) then k (wr .i64 ((wr .i64 ((wr .i64 ((wr .i64 ((wr .i64 (b.toNat:Int))-192))*64))+(wr .i64 (b7.toNat:Int))))-128)) 2 else k 0 0|none =>none else let k30 (v10:Bool):Option (Int×Int):=let k29 (v11:Bool):Option (Int×Int):=let k28 (v13:Bool):Option (Int×Int):=let k27 (v15:Bool):Option (Int×Int):=let k26 (v17:Bool):Option (Int×Int):=let k25 (v19:Bool):Option (Int×Int):=bif v19 then match j7 s (wr .i64 (i+1)) with|some b20 =>(match j7 s (wr .i64 (i+2)) with|some b21 =>let k24 (v23:Bool):Option (Int×Int):=bif v23 then some (wr .i64 ((wr .i64 ((wr .i64 ((wr .i64 ((wr .i64 ((wr .i64 (b.toNat:Int))-224))*4096))+(wr .i64 ((wr .i64 ((wr .i64 (b20.toNat:Int))-128))*64))))+(wr .i64 (b21.toNat:Int))))-128),3) else some (0,0);bif decide (2048≤wr .i64 ((wr .i64 ((wr .i64 ((wr .i64 ((wr .i64 ((wr .i64 (b.toNat:Int))-224))*4096))+(wr .i64 ((wr .i64 ((wr .i64 (b20.toNat:Int))-128))*64))))+(wr .i64 (b21.toNat:Int))))-128)) then bif decide (wr .i64 ((wr .i64 ((wr .i64 ((wr .i64 ((wr .i64 ((wr .i64 (b.toNat:Int))-224))*4096))+(wr .i64 ((wr .i64 ((wr .i64 (b20.toNat:Int))-128))*64))))+(wr .i64 (b21.toNat:Int))))-128)<55296) then k24 true else k24 (decide (57343<wr .i64 ((wr .i64 ((wr .i64 ((wr .i64 ((wr .i64 ((wr .i64 (b.toNat:Int))-224))*4096))+(wr .i64 ((wr .i64 ((wr .i64 (b20.toNat:Int))-128))*64))))+(wr .i64 (b21.toNat:Int))))-128))) else k24 false|none =>none)|none =>none else some (0,0);bif v17 then match j7 s (wr .i64 (i+2)) with|some b18 =>k25 (decide ((b18.toNat:Int)<192))|none =>none else k25 false;bif v15 then match j7 s (wr .i64 (i+2)) with|some b16 =>k26 (decide (128≤(b16.toNat:Int)))|none =>none else k26 false;bif v13 then match j7 s (wr .i64 (i+1)) with|some b14 =>k27 (decide ((b14.toNat:Int)<192))|none =>none else k27 false;bif v11 then match j7 s (wr .i64 (i+1)) with|some b12 =>k28 (decide (128≤(b12.toNat:Int)))|none =>none else k28 false;bif v10 then k29 (decide (wr .i64 (i+2)<(s.length:Int))) else k29 false;bif decide (224≤wr .i64 (b.toNat:Int)) then k30 (decide (wr .i64 (b.toNat:Int)<240)) else k30 false;bif v4 then match j7 s (wr .i64 (i+1)) with|some b5 =>k31 (decide ((b5.toNat:Int)<192))|none =>none else k31 false;bif v2 then match j7 s (wr .i64 (i+1)) with|some b3 =>k32 (decide (128≤(b3.toNat:Int)))|none =>none else k32 false;bif v1 then k33 (decide (wr .i64 (i+1)<(s.length:Int))) else k33 false;bif decide (194≤wr .i64 (b.toNat:Int)) then k34 (decide (wr .i64 (b.toNat:Int)<224)) else k34 false;bif decide (32≤wr .i64 (b.toNat:Int)) then k35 (decide (wr .i64 (b.toNat:Int)<127)) else k35 false|none =>none
def b8g:((List UInt8)×Int×Unit)→Option (((List UInt8)×Int×Unit)⊕((Unit)⊕(Bool×Unit))):=fun (s,i,_)=>
 bif decide (i<(s.length:Int)) then match qam s i with|some (r1,r2) =>bif r2==0 then some (.inr (.inr (false,()))) else some (.inl (s,wr .i64 (i+r2),()))|none =>none else some (.inr (.inl (())))
def qn (s:List UInt8):Option Bool:=
 match d3 b8g (s,0,()) with|some (.inl (_)) =>some true|some (.inr (v,_)) =>some v|none =>none
def qr (s:List UInt8) (i:Int):Option Int:=
 match qam s i with|some (r1,r2) =>some (if r2<1 then 1 else r2)|none =>none
def qal (c:Int):Option Bool:=
 let k (v:Bool):Option Bool:=some v;bif c==32 then k true else k (c==160)
def b8j:((List UInt8)×(List UInt8)×Bool×Int×Unit)→Option (((List UInt8)×(List UInt8)×Bool×Int×Unit)⊕(((List UInt8)×Unit))):=fun (s,vout,gap,i,_)=>
 bif decide (i<(s.length:Int)) then match qam s i with|some (r1,r2) =>(match qr s i with|some r4 =>(match qal r1 with|some r6 =>let k11 (vout9:List UInt8) (gap10:Bool):Option (((List UInt8)×(List UInt8)×Bool×Int×Unit)⊕(((List UInt8)×Unit))):=some (.inl (s,vout9,gap10,wr .i64 (i+r4),()));bif r6 then k11 vout true else let k8 (v:Bool):Option (((List UInt8)×(List UInt8)×Bool×Int×Unit)⊕(((List UInt8)×Unit))):=let k (vout7:List UInt8):Option (((List UInt8)×(List UInt8)×Bool×Int×Unit)⊕(((List UInt8)×Unit))):=bif decide (0≤(i:Int))&&(decide ((i:Int)≤wr .i64 (i+r4))&&decide (wr .i64 (i+r4)≤(s.length:Int))) then bif decide (vout7.length+((s.take (wr .i64 (i+r4)).toNat).drop (i:Int).toNat).length≤LIM) then k11 (vout7++((s.take (wr .i64 (i+r4)).toNat).drop (i:Int).toNat)) false else none else none;bif v then bif decide (vout.length+([32]).length≤LIM) then k (vout++([32])) else none else k vout;bif gap then k8 (!(vout==([]))) else k8 false|none =>none)|none =>none)|none =>none else some (.inr ((vout,())))
def qq (s:List UInt8):Option (List UInt8):=
 match d3 b8j (s,[],false,0,()) with|some ((vout,_)) =>some vout|none =>none
def b4i:((List Patron)×Int×Unit)→Option (((List Patron)×Int×Unit)⊕((Unit)⊕(Int×Unit))):=fun (l,i,_)=>
 bif decide (i<(l.length:Int)) then match j7 l i with|some x =>let k18 (v:Bool):Option (((List Patron)×Int×Unit)⊕((Unit)⊕(Int×Unit))):=bif v then some (.inr (.inr (2,()))) else let k17 (v2:Bool):Option (((List Patron)×Int×Unit)⊕((Unit)⊕(Int×Unit))):=bif v2 then some (.inr (.inr (7,()))) else let k16 (v3:Bool):Option (((List Patron)×Int×Unit)⊕((Unit)⊕(Int×Unit))):=let k15 (v4:Bool):Option (((List Patron)×Int×Unit)⊕((Unit)⊕(Int×Unit))):=let k14 (v5:Bool):Option (((List Patron)×Int×Unit)⊕((Unit)⊕(Int×Unit))):=bif v5 then some (.inr (.inr (1,()))) else let k13 (v6:Bool):Option (((List Patron)×Int×Unit)⊕((Unit)⊕(Int×Unit))):=bif v6 then some (.inr (.inr (2,()))) else let k12 (v8:Bool):Option (((List Patron)×Int×Unit)⊕((Unit)⊕(Int×Unit))):=let k (v11:Bool):Option (((List Patron)×Int×Unit)⊕((Unit)⊕(Int×Unit))):=bif v11 then some (.inr (.inr (3,()))) else bif decide (200<(x.Name.length:Int)) then some (.inr (.inr (4,()))) else some (.inl (l,wr .i64 (i+1),()));bif v8 then k true else match qq x.Name with|some r10 =>k (!(r10==x.Name))|none =>none;bif x.Name==([]) then k12 true else match qn x.Name with|some r7 =>k12 (!r7)|none =>none;bif decide (x.Until<0) then k13 true else k13 (decide (109572<x.Until));bif v4 then k14 true else k14 (decide (4<x.Branch));bif v3 then k15 true else k15 (decide (x.Branch<1));bif decide (x.Kind<1) then k16 true else k16 (decide (9<x.Kind));bif decide (0<i) then match j7 l (wr .i64 (i-1)) with|some x1 =>k17 (decide (x.ID≤x1.ID))|none =>none else k17 false;bif decide (x.ID<1) then k18 true else k18 (decide (9999<x.ID))|none =>none else some (.inr (.inl (())))
def qu (l:List Patron):Option Int:=
 bif decide (32<(l.length:Int)) then some 13 else match d3 b4i (l,0,()) with|some (.inl (_)) =>some 0|some (.inr (v,_)) =>some v|none =>none
def b4h:((List Loan)×Int×Unit)→Option (((List Loan)×Int×Unit)⊕((Unit)⊕(Int×Unit))):=fun (l,i,_)=>
 bif decide (i<(l.length:Int)) then match j7 l i with|some x =>let k21 (v:Bool):Option (((List Loan)×Int×Unit)⊕((Unit)⊕(Int×Unit))):=bif v then some (.inr (.inr (7,()))) else let k20 (v2:Bool):Option (((List Loan)×Int×Unit)⊕((Unit)⊕(Int×Unit))):=let k19 (v3:Bool):Option (((List Loan)×Int×Unit)⊕((Unit)⊕(Int×Unit))):=let k18 (v4:Bool):Option (((List Loan)×Int×Unit)⊕((Unit)⊕(Int×Unit))):=let k17 (v5:Bool):Option (((List Loan)×Int×Unit)⊕((Unit)⊕(Int×Unit))):=let k16 (v6:Bool):Option (((List Loan)×Int×Unit)⊕((Unit)⊕(Int×Unit))):=let k15 (v7:Bool):Option (((List Loan)×Int×Unit)⊕((Unit)⊕(Int×Unit))):=let k14 (v8:Bool):Option (((List Loan)×Int×Unit)⊕((Unit)⊕(Int×Unit))):=let k13 (v9:Bool):Option (((List Loan)×Int×Unit)⊕((Unit)⊕(Int×Unit))):=let k12 (v10:Bool):Option (((List Loan)×Int×Unit)⊕((Unit)⊕(Int×Unit))):=let k (v11:Bool):Option (((List Loan)×Int×Unit)⊕((Unit)⊕(Int×Unit))):=bif v11 then some (.inr (.inr (2,()))) else some (.inl (l,wr .i64 (i+1),()));bif v10 then k true else k (decide (10<x.Renewals));bif v9 then k12 true else k12 (decide (x.Renewals<0));bif v8 then k13 true else k13 (decide (x.Due<x.Out));bif v7 then k14 true else k14 (decide (109572<x.Due));bif v6 then k15 true else k15 (decide (x.Due<0));bif v5 then k16 true else k16 (decide (109572<x.Out));bif v4 then k17 true else k17 (decide (x.Out<0));bif v3 then k18 true else k18 (decide (9999<x.Patron));bif v2 then k19 true else k19 (decide (x.Patron<1));bif decide (x.Item<1) then k20 true else k20 (decide (9999<x.Item));bif decide (0<i) then match j7 l (wr .i64 (i-1)) with|some x1 =>k21 (decide (x.Item≤x1.Item))|none =>none else k21 false|none =>none else some (.inr (.inl (())))
def qt (l:List Loan):Option Int:=
 bif decide (64<(l.length:Int)) then some 13 else match d3 b4h (l,0,()) with|some (.inl (_)) =>some 0|some (.inr (v,_)) =>some v|none =>none
def qa1 (n:Int):Option Bool:=
 let k (v:Bool):Option Bool:=some v;bif decide (1≤n) then k (decide (n≤9999)) else k false
def qbc (n:Int):Option Bool:=
 let k (v:Bool):Option Bool:=some v;bif decide (0≤n) then k (decide (n≤109572)) else k false
def qav (h:Hold):Option Int:=
 let k41 (v:Bool):Option Int:=let k40 (v2:Bool):Option Int:=let k39 (v5:Bool):Option Int:=let k38 (v9:Bool):Option Int:=let k37 (v10:Bool):Option Int:=let k36 (v11:Bool):Option Int:=let k35 (v14:Bool):Option Int:=let k34 (v18:Bool):Option Int:=let k33 (v21:Bool):Option Int:=let k32 (v24:Bool):Option Int:=let k31 (v25:Bool):Option Int:=let k30 (v26:Bool):Option Int:=bif v26 then some 2 else let k29 (v27:Bool):Option Int:=bif v27 then some 1 else let k (v28:Bool):Option Int:=bif v28 then some 12 else some 0;bif !((decide (0<h.Got))==(!(h.State==1))) then k true else k (!((decide (0<h.Until))==(h.State==3)));bif decide (h.State<1) then k29 true else k29 (decide (3<h.State));bif v25 then k30 true else k30 (decide (9<h.Rank));bif v24 then k31 true else k31 (decide (h.Rank<0));bif v21 then k32 true else match qbc h.Asleep with|some r23 =>k32 (!r23)|none =>none;bif v18 then k33 true else match qbc h.Until with|some r20 =>k33 (!r20)|none =>none;bif v14 then k34 true else bif !(h.Got==0) then match qa1 h.Got with|some r16 =>k34 (!r16)|none =>none else k34 false;bif v11 then k35 true else match qbc h.Placed with|some r13 =>k35 (!r13)|none =>none;bif v10 then k36 true else k36 (decide (4<h.Pickup));bif v9 then k37 true else k37 (decide (h.Pickup<1));bif v5 then k38 true else bif !(h.Item==0) then match qa1 h.Item with|some r7 =>k38 (!r7)|none =>none else k38 false;bif v2 then k39 true else match qa1 h.Record with|some r4 =>k39 (!r4)|none =>none;bif v then k40 true else match qa1 h.Patron with|some r1 =>k40 (!r1)|none =>none;bif decide (h.ID<1) then k41 true else k41 (decide (99999<h.ID))
def b4a:((List Hold)×Int×Unit)→Option (((List Hold)×Int×Unit)⊕(((List Hold)×Unit)⊕(Int×Unit))):=fun (l,i,_)=>
 bif decide (i<(l.length:Int)) then let k (v:Bool):Option (((List Hold)×Int×Unit)⊕(((List Hold)×Unit)⊕(Int×Unit))):=bif v then some (.inr (.inr (7,()))) else match j7 l i with|some x2 =>(match qav x2 with|some r3 =>bif !(r3==0) then some (.inr (.inr (r3,()))) else some (.inl (l,wr .i64 (i+1),()))|none =>none)|none =>none;bif decide (0<i) then match j7 l i with|some x =>(match j7 l (wr .i64 (i-1)) with|some x1 =>k (decide (x.ID≤x1.ID))|none =>none)|none =>none else k false else some (.inr (.inl (l,())))
def a68:((List Hold)×Int×Int×Unit)→Option (((List Hold)×Int×Int×Unit)⊕(((List Hold)×Int×Unit)⊕(Int×Unit))):=fun (l,i,k,_)=>
 bif decide (k<i) then match j7 l i with|some x =>(match j7 l k with|some x5 =>let k14 (v:Bool):Option (((List Hold)×Int×Int×Unit)⊕(((List Hold)×Int×Unit)⊕(Int×Unit))):=let k13 (v12:Bool):Option (((List Hold)×Int×Int×Unit)⊕(((List Hold)×Int×Unit)⊕(Int×Unit))):=bif v12 then some (.inr (.inr (7,()))) else some (.inl (l,i,wr .i64 (k+1),()));bif v then k13 true else match j7 l i with|some x8 =>bif decide (0<x8.Got) then match j7 l i with|some x9 =>(match j7 l k with|some x10 =>k13 (x9.Got==x10.Got)|none =>none)|none =>none else k13 false|none =>none;bif x.Patron==x5.Patron then match j7 l i with|some x6 =>(match j7 l k with|some x7 =>k14 (x6.Record==x7.Record)|none =>none)|none =>none else k14 false|none =>none)|none =>none else some (.inr (.inl (l,i,())))
def a8y:((List Hold)×Int×Unit)→Option (((List Hold)×Int×Unit)⊕((Unit)⊕(Int×Unit))):=fun (l,i,_)=>
 bif decide (i<(l.length:Int)) then match d3 a68 (l,i,0,()) with|some (.inl (l15,i16,_)) =>some (.inl (l15,wr .i64 (i16+1),()))|some (.inr (v,_)) =>some (.inr (.inr (v,())))|none =>none else some (.inr (.inl (())))
def qc (l:List Hold):Option Int:=
 bif decide (64<(l.length:Int)) then some 13 else match d3 b4a (l,0,()) with|some (.inl (l4,_)) =>(match d3 a8y (l4,0,()) with|some (.inl (_)) =>some 0|some (.inr (v,_)) =>some v|none =>none)|some (.inr (v17,_)) =>some v17|none =>none
def qbi (n:Int):Option Bool:=
 let k (v:Bool):Option Bool:=some v;bif decide (0≤n) then k (decide (n≤109572)) else k false
def b4j:((List Charge)×Int×Unit)→Option (((List Charge)×Int×Unit)⊕((Unit)⊕(Int×Unit))):=fun (l,i,_)=>
 bif decide (i<(l.length:Int)) then match j7 l i with|some x =>let k22 (v:Bool):Option (((List Charge)×Int×Unit)⊕((Unit)⊕(Int×Unit))):=bif v then some (.inr (.inr (7,()))) else let k21 (v2:Bool):Option (((List Charge)×Int×Unit)⊕((Unit)⊕(Int×Unit))):=let k20 (v3:Bool):Option (((List Charge)×Int×Unit)⊕((Unit)⊕(Int×Unit))):=let k19 (v4:Bool):Option (((List Charge)×Int×Unit)⊕((Unit)⊕(Int×Unit))):=let k18 (v5:Bool):Option (((List Charge)×Int×Unit)⊕((Unit)⊕(Int×Unit))):=let k17 (v6:Bool):Option (((List Charge)×Int×Unit)⊕((Unit)⊕(Int×Unit))):=let k16 (v8:Bool):Option (((List Charge)×Int×Unit)⊕((Unit)⊕(Int×Unit))):=bif v8 then some (.inr (.inr (2,()))) else let k15 (v9:Bool):Option (((List Charge)×Int×Unit)⊕((Unit)⊕(Int×Unit))):=bif v9 then some (.inr (.inr (1,()))) else let k14 (v10:Bool):Option (((List Charge)×Int×Unit)⊕((Unit)⊕(Int×Unit))):=let k13 (v11:Bool):Option (((List Charge)×Int×Unit)⊕((Unit)⊕(Int×Unit))):=let k (v12:Bool):Option (((List Charge)×Int×Unit)⊕((Unit)⊕(Int×Unit))):=bif v12 then some (.inr (.inr (2,()))) else some (.inl (l,wr .i64 (i+1),()));bif v11 then k true else k (decide (x.Amount≤x.Paid));bif v10 then k13 true else k13 (decide (x.Paid<0));bif decide (x.Amount<1) then k14 true else k14 (decide (100000000<x.Amount));bif decide (x.Kind<1) then k15 true else k15 (decide (3<x.Kind));bif v6 then k16 true else match qbi x.Day with|some r7 =>k16 (!r7)|none =>none;bif v5 then k17 true else k17 (decide (9999<x.Item));bif v4 then k18 true else k18 (decide (x.Item<1));bif v3 then k19 true else k19 (decide (9999<x.Patron));bif v2 then k20 true else k20 (decide (x.Patron<1));bif decide (x.ID<1) then k21 true else k21 (decide (99999<x.ID));bif decide (0<i) then match j7 l (wr .i64 (i-1)) with|some x1 =>k22 (decide (x.ID≤x1.ID))|none =>none else k22 false|none =>none else some (.inr (.inl (())))
def qy (l:List Charge):Option Int:=
 bif decide (128<(l.length:Int)) then some 13 else match d3 b4j (l,0,()) with|some (.inl (_)) =>some 0|some (.inr (v,_)) =>some v|none =>none
def qak (n:Int) (low:Int) (high:Int):Option Bool:=
 let k (v:Bool):Option Bool:=some v;bif decide (low≤n) then k (decide (n≤high)) else k false
def qau (r:Rule):Option Bool:=
 match qak r.Patron 0 9 with|some r2 =>let k48 (v:Bool):Option Bool:=let k47 (v7:Bool):Option Bool:=match qak r.Days 0 365 with|some r9 =>let k46 (v12:Bool):Option Bool:=let k45 (v15:Bool):Option Bool:=match qak r.Fine 0 1000 with|some r17 =>let k44 (v20:Bool):Option Bool:=let k43 (v23:Bool):Option Bool:=let k42 (v24:Bool):Option Bool:=let k41 (v25:Bool):Option Bool:=let k40 (v28:Bool):Option Bool:=let k39 (v31:Bool):Option Bool:=let k38 (v34:Bool):Option Bool:=let k (v37:Bool):Option Bool:=some v37;bif v34 then match qak r.Rank 0 9 with|some r36 =>k r36|none =>none else k false;bif v31 then match qak r.Fixed 0 109572 with|some r33 =>k38 r33|none =>none else k38 false;bif v28 then match qak r.Recall 1 60 with|some r30 =>k39 r30|none =>none else k39 false;bif v25 then match qak r.Shelf 1 60 with|some r27 =>k40 r27|none =>none else k40 false;bif v24 then k41 v23 else k41 false;bif v7 then k42 v15 else k42 false;bif v20 then match qak r.MaxFine 0 100000000 with|some r22 =>k43 r22|none =>none else k43 false;bif r17 then match qak r.Grace 0 30 with|some r19 =>k44 r19|none =>none else k44 false|none =>none;bif v12 then match qak r.Loans 0 99 with|some r14 =>k45 r14|none =>none else k45 false;bif r9 then match qak r.Renewals 0 10 with|some r11 =>k46 r11|none =>none else k46 false|none =>none;bif v then match qak r.Branch 0 4 with|some r6 =>k47 r6|none =>none else k47 false;bif r2 then match qak r.Item 0 9 with|some r4 =>k48 r4|none =>none else k48 false|none =>none
def b4b:((List Rule)×Int×Int×Unit)→Option (((List Rule)×Int×Int×Unit)⊕(((List Rule)×Int×Unit)⊕(Int×Unit))):=fun (l,i,k,_)=>
 bif decide (k<i) then match j7 l k with|some x =>(match j7 l i with|some x2 =>let k9 (v:Bool):Option (((List Rule)×Int×Int×Unit)⊕(((List Rule)×Int×Unit)⊕(Int×Unit))):=let k8 (v7:Bool):Option (((List Rule)×Int×Int×Unit)⊕(((List Rule)×Int×Unit)⊕(Int×Unit))):=bif v7 then some (.inr (.inr (7,()))) else some (.inl (l,i,wr .i64 (k+1),()));bif v then match j7 l k with|some x5 =>(match j7 l i with|some x6 =>k8 (x5.Branch==x6.Branch)|none =>none)|none =>none else k8 false;bif x.Patron==x2.Patron then match j7 l k with|some x3 =>(match j7 l i with|some x4 =>k9 (x3.Item==x4.Item)|none =>none)|none =>none else k9 false|none =>none)|none =>none else some (.inr (.inl (l,i,())))
def b8a:((List Rule)×Int×Unit)→Option (((List Rule)×Int×Unit)⊕((Unit)⊕(Int×Unit))):=fun (l,i,_)=>
 bif decide (i<(l.length:Int)) then match j7 l i with|some x =>(match qau x with|some r1 =>(bif !r1 then some (.inr (.inr (2,()))) else match d3 b4b (l,i,0,()) with|some (.inl (l10,i11,_)) =>some (.inl (l10,wr .i64 (i11+1),()))|some (.inr (v,_)) =>some (.inr (.inr (v,())))|none =>none)|none =>none)|none =>none else some (.inr (.inl (())))
def qd (l:List Rule):Option Int:=
 bif decide (32<(l.length:Int)) then some 13 else match d3 b8a (l,0,()) with|some (.inl (_)) =>some 0|some (.inr (v,_)) =>some v|none =>none
def b4d:(Int×Calendar×Unit)→Option ((Int×Calendar×Unit)⊕((Calendar×Unit)⊕(Int×Unit))):=fun (i,c,_)=>
 bif decide (i<(c.Closed.length:Int)) then match j7 c.Closed i with|some x =>(let k (v:Bool):Option ((Int×Calendar×Unit)⊕((Calendar×Unit)⊕(Int×Unit))):=bif v then some (.inr (.inr (2,()))) else some (.inl (wr .i64 (i+1),c,()));bif decide (x<0) then k true else match j7 c.Closed i with|some x1 =>k (decide (109572<x1))|none =>none)|none =>none else some (.inr (.inl (c,())))
def a69:(Int×Calendar×Unit)→Option ((Int×Calendar×Unit)⊕((Unit)⊕(Int×Unit))):=fun (i,c,_)=>
 bif decide (i<(c.Closed.length:Int)) then match j7 c.Closed i with|some x =>(match j7 c.Closed (wr .i64 (i-1)) with|some x3 =>bif decide (x≤x3) then some (.inr (.inr (7,()))) else some (.inl (wr .i64 (i+1),c,()))|none =>none)|none =>none else some (.inr (.inl (())))
def qh (c:Calendar):Option Int:=
 let k (v:Bool):Option Int:=bif v then some 1 else bif decide (64<(c.Closed.length:Int)) then some 13 else match d3 b4d (0,c,()) with|some (.inl (c2,_)) =>(match d3 a69 (1,c2,()) with|some (.inl (_)) =>some 0|some (.inr (v4,_)) =>some v4|none =>none)|some (.inr (v5,_)) =>some v5|none =>none;bif decide (c.Week<0) then k true else k (decide (126<c.Week))
def b74:((List Patron)×Int×Int×Unit)→Option (((List Patron)×Int×Int×Unit)⊕((Unit)⊕(Int×Unit))):=fun (l,vid,i,_)=>
 bif decide (i<(l.length:Int)) then match j7 l i with|some x =>bif x.ID==vid then some (.inr (.inr (i,()))) else some (.inl (l,vid,wr .i64 (i+1),()))|none =>none else some (.inr (.inl (())))
def q8 (l:List Patron) (vid:Int):Option Int:=
 match d3 b74 (l,vid,0,()) with|some (.inl (_)) =>some (-1)|some (.inr (v,_)) =>some v|none =>none
def qan (l:List Patron) (vid:Int):Option (Patron×Bool):=
 match q8 l vid with|some r1 =>(bif decide (r1<0) then some ((⟨0,0,0,0,false,[]⟩:Patron),false) else match j7 l r1 with|some x =>some (x,true)|none =>none)|none =>none
def qaw (branch:Int):Option Custody:=
 some (⟨1,branch,0,0⟩:Custody)
def qbj (state:Int):Option Bool:=
 let k6 (v:Bool):Option Bool:=let k5 (v1:Bool):Option Bool:=let k4 (v2:Bool):Option Bool:=let k (v3:Bool):Option Bool:=some v3;bif v2 then k true else k (state==10);bif v1 then k4 true else k4 (state==9);bif v then k5 true else k5 (state==8);bif state==4 then k6 true else k6 (state==5)
def qax (c:Custody):Option Bool:=
 let k17 (v:Bool):Option Bool:=let k16 (v1:Bool):Option Bool:=let k15 (v2:Bool):Option Bool:=bif v2 then some false else let k10 (v9:Bool):Option Bool:=some v9;bif c.State==6 then let k8 (v3:Bool):Option Bool:=let k7 (v4:Bool):Option Bool:=let k (v5:Bool):Option Bool:=bif v5 then k10 (!(c.To==c.Branch)) else k10 false;bif v4 then k (decide (c.To≤4)) else k false;bif v3 then k7 (decide (1≤c.To)) else k7 false;bif decide (0≤c.Who) then k8 (decide (c.Who≤9999)) else k8 false else bif !(c.To==0) then some false else match qbj c.State with|some r11 =>let k14 (v13:Bool):Option Bool:=some v13;bif r11 then bif decide (1≤c.Who) then k14 (decide (c.Who≤9999)) else k14 false else some (c.Who==0)|none =>none;bif v1 then k15 true else k15 (decide (4<c.Branch));bif v then k16 true else k16 (decide (c.Branch<1));bif decide (c.State<1) then k17 true else k17 (decide (12<c.State))
def qba (m:Move):Option Bool:=
 let k16 (v:Bool):Option Bool:=let k15 (v1:Bool):Option Bool:=let k14 (v2:Bool):Option Bool:=let k13 (v3:Bool):Option Bool:=let k12 (v4:Bool):Option Bool:=let k11 (v5:Bool):Option Bool:=let k10 (v6:Bool):Option Bool:=let k9 (v7:Bool):Option Bool:=let k (v8:Bool):Option Bool:=some v8;bif v7 then k (decide (m.Who≤9999)) else k false;bif v6 then k9 (decide (0≤m.Who)) else k9 false;bif v5 then k10 (decide (m.Branch≤4)) else k10 false;bif v4 then k11 (decide (1≤m.Branch)) else k11 false;bif v3 then k12 (decide (m.Kind≤15)) else k12 false;bif v2 then k13 (decide (1≤m.Kind)) else k13 false;bif v1 then k14 (decide (m.Item≤9999)) else k14 false;bif v then k15 (decide (1≤m.Item)) else k15 false;bif decide (0≤m.Day) then k16 (decide (m.Day≤109572)) else k16 false
def qap (kind:Int):Option (List Int):=
 bif kind==1 then some ([1]) else bif kind==2 then some ([2,5]) else bif kind==3 then some ([3,5]) else bif kind==4 then some ([4,8,9,10]) else let k (v:Bool):Option (List Int):=bif v then some ([2,3]) else bif kind==6 then some ([2,3,5]) else bif kind==7 then some ([6]) else bif kind==9 then some ([7]) else bif kind==10 then some ([3]) else bif kind==11 then some ([4]) else bif kind==12 then some ([4,9]) else bif kind==13 then some ([2,3,5,6,7]) else bif kind==14 then some ([11]) else bif kind==15 then some ([1,2,3,11,10]) else some ([]);bif kind==5 then k (kind==5) else k (kind==8)
def a8r:(Int×(List Int)×Int×Unit)→Option ((Int×(List Int)×Int×Unit)⊕((Unit)⊕(Bool×Unit))):=fun (state,l,i,_)=>
 bif decide (i<(l.length:Int)) then match j7 l i with|some x =>bif x==state then some (.inr (.inr (true,()))) else some (.inl (state,l,wr .i64 (i+1),()))|none =>none else some (.inr (.inl (())))
def qaa (state:Int) (kind:Int):Option Bool:=
 match qap kind with|some r1 =>(match d3 a8r (state,r1,0,()) with|some (.inl (_)) =>some false|some (.inr (v,_)) =>some v|none =>none)|none =>none
def qa0 (c:Custody) (m:Move):Option Bool:=
 let k14 (v2:Bool):Option Bool:=let k11 (v10:Bool):Option Bool:=some v10;bif v2 then k11 (m.Who==0) else bif m.Kind==7 then bif m.Who==0 then k11 (m.Branch==c.To) else k11 false else bif m.Kind==6 then k11 (!(m.Branch==c.Branch)) else let k (v5:Bool):Option Bool:=bif v5 then bif m.Branch==c.Branch then k11 (decide (1≤m.Who)) else k11 false else let k13 (v12:Bool):Option Bool:=some v12;bif m.Branch==c.Branch then k13 (m.Who==0) else k13 false;bif m.Kind==3 then k (m.Kind==3) else bif m.Kind==5 then k (m.Kind==5) else k (m.Kind==10);bif m.Kind==1 then k14 (m.Kind==1) else bif m.Kind==4 then k14 (m.Kind==4) else bif m.Kind==9 then k14 (m.Kind==9) else k14 (m.Kind==14)
def qbk (kind:Int):Option Int:=
 let k13 (v3:Bool):Option Int:=let k (v12:Int):Option Int:=some v12;bif v3 then k 2 else bif kind==2 then k 3 else bif kind==3 then k 4 else bif kind==5 then k 5 else bif kind==6 then k 6 else bif kind==8 then k 7 else bif kind==10 then k 8 else bif kind==11 then k 9 else bif kind==12 then k 10 else bif kind==13 then k 11 else some 12;bif kind==1 then k13 (kind==1) else bif kind==4 then k13 (kind==4) else bif kind==7 then k13 (kind==7) else bif kind==9 then k13 (kind==9) else k13 (kind==14)
def qay (c:Custody) (m:Move):Option (Custody×Int):=
 match qax c with|some r1 =>(let k26 (v:Bool):Option (Custody×Int):=bif v then some ((⟨0,0,0,0⟩:Custody),1) else match qaa c.State m.Kind with|some r5 =>bif !r5 then some ((⟨0,0,0,0⟩:Custody),12) else let k25 (v6:Bool):Option (Custody×Int):=let k24 (v7:Bool):Option (Custody×Int):=bif v7 then some ((⟨0,0,0,0⟩:Custody),16) else match qa0 c m with|some r9 =>(bif !r9 then some ((⟨0,0,0,0⟩:Custody),1) else match qbk m.Kind with|some r11 =>let k23 (vout20:Int) (vout21:Int) (vout22:Int):Option (Custody×Int):=some ((⟨r11,vout20,vout21,vout22⟩:Custody),0);bif r11==2 then k23 m.Branch 0 0 else let k19 (v13:Bool):Option (Custody×Int):=bif v13 then k23 c.Branch m.Who 0 else bif r11==6 then k23 c.Branch m.Who m.Branch else let k (v14:Bool):Option (Custody×Int):=bif v14 then k23 c.Branch c.Who 0 else k23 c.Branch 0 0;bif r11==9 then k (r11==9) else k (r11==10);bif r11==4 then k19 (r11==4) else bif r11==5 then k19 (r11==5) else k19 (r11==8)|none =>none)|none =>none;bif v6 then k24 (!(m.Who==c.Who)) else k24 false;bif m.Kind==3 then k25 (c.State==5) else k25 false|none =>none;bif !r1 then k26 true else match qba m with|some r3 =>k26 (!r3)|none =>none)|none =>none
def b8i:((List Move)×Int×Int×Custody×Custody×Unit)→Option (((List Move)×Int×Int×Custody×Custody×Unit)⊕((Custody×Custody×Unit)⊕(Int×Int×Custody×Unit))):=fun (l,item,i,v,c,_)=>
 bif decide (i<(l.length:Int)) then match j7 l i with|some x =>(bif !(x.Item==item) then some (.inl (l,item,wr .i64 (i+1),v,c,())) else match j7 l i with|some x2 =>(match qay c x2 with|some (r3,r4) =>bif !(r4==0) then some (.inr (.inr (i,r4,(⟨0,0,0,0⟩:Custody),()))) else some (.inl (l,item,wr .i64 (i+1),v,r3,()))|none =>none)|none =>none)|none =>none else some (.inr (.inl (v,c,())))
def qp (branch:Int) (l:List Move) (item:Int):Option (Custody×Int×Int):=
 let k (v:Bool):Option (Custody×Int×Int):=bif v then some ((⟨0,0,0,0⟩:Custody),(-1),1) else match qaw branch with|some r1 =>(match d3 b8i (l,item,0,(⟨0,0,0,0⟩:Custody),r1,()) with|some (.inl (v5,c,_)) =>some (c,(-1),0)|some (.inr (v6,v7,v8,_)) =>some (v8,v6,v7)|none =>none)|none =>none;bif decide (branch<1) then k true else k (decide (4<branch))
def b8b:(Int×Int×Circ×Unit)→Option ((Int×Int×Circ×Unit)⊕((Unit)⊕(Int×Unit))):=fun (item,i,c,_)=>
 bif decide (i<(c.Items.length:Int)) then match j7 c.Items i with|some x =>bif x.ID==item then some (.inr (.inr (i,()))) else some (.inl (item,wr .i64 (i+1),c,()))|none =>none else some (.inr (.inl (())))
def qg (c:Circ) (item:Int):Option Int:=
 match d3 b8b (item,0,c,()) with|some (.inl (_)) =>some (-1)|some (.inr (v,_)) =>some v|none =>none
def b4f:(Int×Circ×Unit)→Option ((Int×Circ×Unit)⊕((Circ×Unit)⊕(Bool×Unit))):=fun (i,c,_)=>
 bif decide (i<(c.Items.length:Int)) then match j7 c.Items i with|some x =>let k29 (v:Bool):Option ((Int×Circ×Unit)⊕((Circ×Unit)⊕(Bool×Unit))):=let k28 (v3:Bool):Option ((Int×Circ×Unit)⊕((Circ×Unit)⊕(Bool×Unit))):=let k27 (v4:Bool):Option ((Int×Circ×Unit)⊕((Circ×Unit)⊕(Bool×Unit))):=let k26 (v5:Bool):Option ((Int×Circ×Unit)⊕((Circ×Unit)⊕(Bool×Unit))):=let k25 (v6:Bool):Option ((Int×Circ×Unit)⊕((Circ×Unit)⊕(Bool×Unit))):=let k24 (v7:Bool):Option ((Int×Circ×Unit)⊕((Circ×Unit)⊕(Bool×Unit))):=bif v7 then some (.inr (.inr (false,()))) else let k23 (v8:Bool):Option ((Int×Circ×Unit)⊕((Circ×Unit)⊕(Bool×Unit))):=let k22 (v9:Bool):Option ((Int×Circ×Unit)⊕((Circ×Unit)⊕(Bool×Unit))):=let k21 (v10:Bool):Option ((Int×Circ×Unit)⊕((Circ×Unit)⊕(Bool×Unit))):=let k20 (v11:Bool):Option ((Int×Circ×Unit)⊕((Circ×Unit)⊕(Bool×Unit))):=let k19 (v13:Bool):Option ((Int×Circ×Unit)⊕((Circ×Unit)⊕(Bool×Unit))):=bif v13 then some (.inr (.inr (false,()))) else match qp x.Branch c.Moves x.ID with|some (r15,r16,r17) =>let k (v18:Bool):Option ((Int×Circ×Unit)⊕((Circ×Unit)⊕(Bool×Unit))):=bif v18 then some (.inr (.inr (false,()))) else some (.inl (wr .i64 (i+1),c,()));bif !(r17==0) then k true else k (!(u4 r15 x.Custody))|none =>none;bif v11 then k19 true else match qn x.Call with|some r12 =>k19 (!r12)|none =>none;bif v10 then k20 true else k20 (decide (200<(x.Call.length:Int)));bif v9 then k21 true else k21 (decide (100000000<x.Price));bif v8 then k22 true else k22 (decide (x.Price<0));bif decide (x.Kind<1) then k23 true else k23 (decide (9<x.Kind));bif v6 then k24 true else k24 (decide (4<x.Branch));bif v5 then k25 true else k25 (decide (x.Branch<1));bif v4 then k26 true else k26 (decide (9999<x.Record));bif v3 then k27 true else k27 (decide (x.Record<1));bif v then k28 true else bif decide (0<i) then match j7 c.Items (wr .i64 (i-1)) with|some x1 =>k28 (decide (x.ID≤x1.ID))|none =>none else k28 false;bif decide (x.ID<1) then k29 true else k29 (decide (9999<x.ID))|none =>none else some (.inr (.inl (c,())))
def a7a:(Int×Circ×Unit)→Option ((Int×Circ×Unit)⊕((Unit)⊕(Bool×Unit))):=fun (i,c,_)=>
 bif decide (i<(c.Moves.length:Int)) then match j7 c.Moves i with|some x =>(match qg c x.Item with|some r31 =>bif decide (r31<0) then some (.inr (.inr (false,()))) else some (.inl (wr .i64 (i+1),c,()))|none =>none)|none =>none else some (.inr (.inl (())))
def qj (c:Circ):Option Bool:=
 let k (v:Bool):Option Bool:=bif v then some false else match d3 b4f (0,c,()) with|some (.inl (c30,_)) =>(match d3 a7a (0,c30,()) with|some (.inl (_)) =>some true|some (.inr (v32,_)) =>some v32|none =>none)|some (.inr (v33,_)) =>some v33|none =>none;bif decide (64<(c.Items.length:Int)) then k true else k (decide (2000<(c.Moves.length:Int)))
def qa9 (u:Custody):Option Bool:=
 let k2 (v:Bool):Option Bool:=let k (v1:Bool):Option Bool:=some v1;bif v then k true else k (u.State==10);bif u.State==4 then k2 true else k2 (u.State==9)
def b8o:((List Loan)×Int×Int×Unit)→Option (((List Loan)×Int×Int×Unit)⊕((Unit)⊕(Int×Unit))):=fun (l,item,i,_)=>
 bif decide (i<(l.length:Int)) then match j7 l i with|some x =>bif x.Item==item then some (.inr (.inr (i,()))) else some (.inl (l,item,wr .i64 (i+1),()))|none =>none else some (.inr (.inl (())))
def qz (l:List Loan) (item:Int):Option Int:=
 match d3 b8o (l,item,0,()) with|some (.inl (_)) =>some (-1)|some (.inr (v,_)) =>some v|none =>none
def qaz (l:List Loan) (item:Int):Option (Loan×Bool):=
 match qz l item with|some r1 =>(bif decide (r1<0) then some ((⟨0,0,0,0,0,false⟩:Loan),false) else match j7 l r1 with|some x =>some (x,true)|none =>none)|none =>none
def b4e:(Int×Circ×Unit)→Option ((Int×Circ×Unit)⊕((Circ×Unit)⊕(Bool×Unit))):=fun (i,c,_)=>
 bif decide (i<(c.Loans.length:Int)) then match j7 c.Loans i with|some x =>(match qg c x.Item with|some r1 =>(match qan c.Patrons x.Patron with|some (r3,r4) =>let k12 (v:Bool):Option ((Int×Circ×Unit)⊕((Circ×Unit)⊕(Bool×Unit))):=let k11 (v8:Bool):Option ((Int×Circ×Unit)⊕((Circ×Unit)⊕(Bool×Unit))):=let k (v10:Bool):Option ((Int×Circ×Unit)⊕((Circ×Unit)⊕(Bool×Unit))):=bif v10 then some (.inr (.inr (false,()))) else some (.inl (wr .i64 (i+1),c,()));bif v8 then k true else match j7 c.Items r1 with|some x9 =>k (!(x9.Custody.Who==x.Patron))|none =>none;bif v then k11 true else match j7 c.Items r1 with|some x5 =>(match qa9 x5.Custody with|some r7 =>k11 (!r7)|none =>none)|none =>none;bif decide (r1<0) then k12 true else k12 (!r4)|none =>none)|none =>none)|none =>none else some (.inr (.inl (c,())))
def a80:(Int×Circ×Unit)→Option ((Int×Circ×Unit)⊕((Unit)⊕(Bool×Unit))):=fun (i,c,_)=>
 bif decide (i<(c.Items.length:Int)) then match j7 c.Items i with|some x =>(match qaz c.Loans x.ID with|some (r14,r15) =>(match j7 c.Items i with|some x16 =>(match qa9 x16.Custody with|some r18 =>bif !(r15==r18) then some (.inr (.inr (false,()))) else some (.inl (wr .i64 (i+1),c,()))|none =>none)|none =>none)|none =>none)|none =>none else some (.inr (.inl (())))
def qi (c:Circ):Option Bool:=
 match d3 b4e (0,c,()) with|some (.inl (c13,_)) =>(match d3 a80 (0,c13,()) with|some (.inl (_)) =>some true|some (.inr (v,_)) =>some v|none =>none)|some (.inr (v19,_)) =>some v19|none =>none
def b8m:(Int×Int×Circ×Hold×Unit)→Option ((Int×Int×Circ×Hold×Unit)⊕((Hold×Unit)⊕(Bool×Hold×Unit))):=fun (item,i,c,v,_)=>
 bif decide (i<(c.Holds.length:Int)) then match j7 c.Holds i with|some x =>bif x.Got==item then match j7 c.Holds i with|some x1 =>some (.inr (.inr (true,x1,())))|none =>none else some (.inl (item,wr .i64 (i+1),c,v,()))|none =>none else some (.inr (.inl (v,())))
def qw (c:Circ) (item:Int):Option (Hold×Bool):=
 match d3 b8m (item,0,c,(⟨0,0,0,0,0,0,0,0,0,0,0⟩:Hold),()) with|some (.inl (v,_)) =>some ((⟨0,0,0,0,0,0,0,0,0,0,0⟩:Hold),false)|some (.inr (v2,v3,_)) =>some (v3,v2)|none =>none
def b4g:(Int×Circ×Unit)→Option ((Int×Circ×Unit)⊕((Circ×Unit)⊕(Bool×Unit))):=fun (i,c,_)=>
 bif decide (i<(c.Holds.length:Int)) then match j7 c.Holds i with|some x =>(match qan c.Patrons x.Patron with|some (r1,r2) =>let k18 (v:Bool):Option ((Int×Circ×Unit)⊕((Circ×Unit)⊕(Bool×Unit))):=bif v then some (.inr (.inr (false,()))) else bif x.State==1 then some (.inl (wr .i64 (i+1),c,())) else match qg c x.Got with|some r4 =>(let k17 (v6:Bool):Option ((Int×Circ×Unit)⊕((Circ×Unit)⊕(Bool×Unit))):=bif v6 then some (.inr (.inr (false,()))) else match j7 c.Items r4 with|some x7 =>let k16 (v10:Bool):Option ((Int×Circ×Unit)⊕((Circ×Unit)⊕(Bool×Unit))):=bif v10 then some (.inr (.inr (false,()))) else let k15 (v14:Bool):Option ((Int×Circ×Unit)⊕((Circ×Unit)⊕(Bool×Unit))):=bif v14 then some (.inr (.inr (false,()))) else some (.inl (wr .i64 (i+1),c,()));bif x.State==2 then let k13 (v11:Bool):Option ((Int×Circ×Unit)⊕((Circ×Unit)⊕(Bool×Unit))):=bif v11 then k15 true else k15 (!(x7.Custody.Who==x.Patron));bif !(x7.Custody.State==6) then k13 true else k13 (!(x7.Custody.To==x.Pickup)) else k15 false;bif x.State==3 then let k (v8:Bool):Option ((Int×Circ×Unit)⊕((Circ×Unit)⊕(Bool×Unit))):=bif v8 then k16 true else k16 (!(x7.Custody.Who==x.Patron));bif !(x7.Custody.State==5) then k true else k (!(x7.Custody.Branch==x.Pickup)) else k16 false|none =>none;bif decide (r4<0) then k17 true else match j7 c.Items r4 with|some x5 =>k17 (!(x5.Record==x.Record))|none =>none)|none =>none;bif !r2 then k18 true else k18 (decide (c.NextHold≤x.ID))|none =>none)|none =>none else some (.inr (.inl (c,())))
def a81:(Int×Circ×Unit)→Option ((Int×Circ×Unit)⊕((Unit)⊕(Bool×Unit))):=fun (i,c,_)=>
 bif decide (i<(c.Items.length:Int)) then match j7 c.Items i with|some x =>(bif !(x.Custody.State==5) then some (.inl (wr .i64 (i+1),c,())) else match j7 c.Items i with|some x20 =>(match qw c x20.ID with|some (r21,r22) =>let k (v:Bool):Option ((Int×Circ×Unit)⊕((Unit)⊕(Bool×Unit))):=bif v then some (.inr (.inr (false,()))) else some (.inl (wr .i64 (i+1),c,()));bif !r22 then k true else k (!(r21.State==3))|none =>none)|none =>none)|none =>none else some (.inr (.inl (())))
def qk (c:Circ):Option Bool:=
 match d3 b4g (0,c,()) with|some (.inl (c19,_)) =>(match d3 a81 (0,c19,()) with|some (.inl (_)) =>some true|some (.inr (v,_)) =>some v|none =>none)|some (.inr (v23,_)) =>some v23|none =>none
def b2j:(Int×Circ×Unit)→Option ((Int×Circ×Unit)⊕((Circ×Unit)⊕(Bool×Unit))):=fun (i,c,_)=>
 bif decide (i<4) then let k (v:Int) (v18:List Int):Option ((Int×Circ×Unit)⊕((Circ×Unit)⊕(Bool×Unit))):=match qh (⟨v,v18⟩:Calendar) with|some r19 =>bif !(r19==0) then some (.inr (.inr (false,()))) else some (.inl (wr .i64 (i+1),c,()))|none =>none;bif i==0 then k c.Cals.x0.Week c.Cals.x0.Closed else bif i==1 then k c.Cals.x1.Week c.Cals.x1.Closed else bif i==2 then k c.Cals.x2.Week c.Cals.x2.Closed else bif i==3 then k c.Cals.x3.Week c.Cals.x3.Closed else none else some (.inr (.inl (c,())))
def a7b:(Int×Circ×Unit)→Option ((Int×Circ×Unit)⊕((Circ×Unit)⊕(Bool×Unit))):=fun (i,c,_)=>
 bif decide (i<(c.Charges.length:Int)) then match j7 c.Charges i with|some x =>(match qan c.Patrons x.Patron with|some (r21,r22) =>(let k (v:Bool):Option ((Int×Circ×Unit)⊕((Circ×Unit)⊕(Bool×Unit))):=bif v then some (.inr (.inr (false,()))) else some (.inl (wr .i64 (i+1),c,()));bif !r22 then k true else match j7 c.Charges i with|some x23 =>k (decide (c.NextCharge≤x23.ID))|none =>none)|none =>none)|none =>none else some (.inr (.inl (c,())))
def qm (c:Circ):Option Bool:=
 let k44 (v:Bool):Option Bool:=let k43 (v1:Bool):Option Bool:=let k42 (v2:Bool):Option Bool:=let k41 (v3:Bool):Option Bool:=let k40 (v4:Bool):Option Bool:=bif v4 then some false else match qu c.Patrons with|some r5 =>(let k39 (v8:Bool):Option Bool:=let k38 (v11:Bool):Option Bool:=let k37 (v14:Bool):Option Bool:=let k36 (v17:Bool):Option Bool:=bif v17 then some false else match d3 b2j (0,c,()) with|some (.inl (c20,_)) =>(match d3 a7b (0,c20,()) with|some (.inl (c24,_)) =>(match qj c24 with|some r26 =>let k33 (v29:Bool):Option Bool:=let k (v32:Bool):Option Bool:=some v32;bif v29 then match qk c24 with|some r31 =>k r31|none =>none else k false;bif r26 then match qi c24 with|some r28 =>k33 r28|none =>none else k33 false|none =>none)|some (.inr (v34,_)) =>some v34|none =>none)|some (.inr (v35,_)) =>some v35|none =>none;bif v14 then k36 true else match qd c.Rules with|some r16 =>k36 (!(r16==0))|none =>none;bif v11 then k37 true else match qy c.Charges with|some r13 =>k37 (!(r13==0))|none =>none;bif v8 then k38 true else match qc c.Holds with|some r10 =>k38 (!(r10==0))|none =>none;bif !(r5==0) then k39 true else match qt c.Loans with|some r7 =>k39 (!(r7==0))|none =>none)|none =>none;bif v3 then k40 true else k40 (decide (100000<c.NextCharge));bif v2 then k41 true else k41 (decide (c.NextCharge<1));bif v1 then k42 true else k42 (decide (100000<c.NextHold));bif v then k43 true else k43 (decide (c.NextHold<1));bif decide (c.Today<0) then k44 true else k44 (decide (109572<c.Today))
def b8h:((List Int)×Int×Unit)→Option (((List Int)×Int×Unit)⊕((Unit)⊕(Int×Unit))):=fun (l,i,_)=>
 bif decide (i<(l.length:Int)) then match j7 l i with|some x =>(let k (v:Bool):Option (((List Int)×Int×Unit)⊕((Unit)⊕(Int×Unit))):=bif v then some (.inr (.inr (2,()))) else some (.inl (l,wr .i64 (i+1),()));bif decide (x<1) then k true else match j7 l i with|some x1 =>k (decide (9999<x1))|none =>none)|none =>none else some (.inr (.inl (())))
def qo (l:List Int):Option Int:=
 bif decide (200<(l.length:Int)) then some 13 else match d3 b8h (l,0,()) with|some (.inl (_)) =>some 0|some (.inr (v,_)) =>some v|none =>none
def qbb (c:Circ) (l:List Int):Option Bool:=
 match qb c with|some r1 =>let k9 (v:Bool):Option Bool:=let k8 (v4:Bool):Option Bool:=let k (v7:Bool):Option Bool:=some v7;bif v4 then match qo l with|some r6 =>k (r6==0)|none =>none else k false;bif v then k8 (decide ((l.length:Int)≤60)) else k8 false;bif r1 then match qm c with|some r3 =>k9 r3|none =>none else k9 false|none =>none
def qbl (s:List Int):Option (List Int):=
 bif decide (([]:List Int).length+s.length≤LIM) then some (([])++s) else none
def b8l:((List Int)×(List Int)×Int×Int×(List MapI)×Unit)→Option (((List Int)×(List Int)×Int×Int×(List MapI)×Unit)⊕(((List Int)×(List MapI)×Unit))):=fun (l,v,v1,v2,l3,_)=>
 bif decide (v2<v1) then match j7 v v2 with|some x =>some (.inl (l,v,v1,wr .i64 (v2+1),b23 MapI.key x (⟨x,wr .i64 ((a1k MapI.key MapI.val l3 x)+1)⟩:MapI) l3,()))|none =>none else some (.inr ((l,l3,())))
def qv (l:List Int):Option ((List Int)×List MapI):=
 match d3 b8l (l,l,(l.length:Int),0,([]:List MapI),()) with|some ((l4,l5,_)) =>(match qbl l4 with|some l6 =>(match qag l6 with|some l8 =>(match qae l8 with|some l10 =>some (l10,l5)|none =>none)|none =>none)|none =>none)|none =>none
def qa8 (branch:Int):Option Bool:=
 let k (v:Bool):Option Bool:=some v;bif decide (1≤branch) then k (decide (branch≤4)) else k false
def qao (x:Item) (branch:Int):Option Bool:=
 let k3 (v2:Bool):Option Bool:=some v2;bif x.Custody.Branch==branch then let k (v:Bool):Option Bool:=bif v then k3 true else k3 (x.Custody.State==5);bif x.Custody.State==2 then k true else k (x.Custody.State==3) else k3 false
def b8k:(Int×(List Item)×Int×Int×(List Int)×Unit)→Option ((Int×(List Item)×Int×Int×(List Int)×Unit)⊕(((List Int)×Unit))):=fun (branch,v,v1,v2,l,_)=>
 bif decide (v2<v1) then match j7 v v2 with|some x =>(match qao x branch with|some r3 =>bif r3 then bif decide (l.length+([x.ID]:List Int).length≤LIM) then some (.inl (branch,v,v1,wr .i64 (v2+1),l++([x.ID]:List Int),())) else none else some (.inl (branch,v,v1,wr .i64 (v2+1),l,()))|none =>none)|none =>none else some (.inr ((l,())))
def qs (c:Circ) (branch:Int):Option (List Int):=
 match d3 b8k (branch,c.Items,(c.Items.length:Int),0,([]:List Int),()) with|some ((l,_)) =>some l|none =>none
def qaq (x:Item) (v:Int):Option Bool:=
 some (x.ID==v)
def b75 {γ0:Type} (p:γ0→Item→Option Bool):((List Item)×γ0×Int×Int×Unit)→Option (((List Item)×γ0×Int×Int×Unit)⊕((Unit)⊕(Int×Unit))):=fun (s,g,v,v1,_)=>
 bif decide (v1<v) then match j7 s v1 with|some x =>(match p g x with|some r =>bif r then some (.inr (.inr (v1,()))) else some (.inl (s,g,v,wr .i64 (v1+1),()))|none =>none)|none =>none else some (.inr (.inl (())))
def q9 {γ0:Type} (p:γ0→Item→Option Bool) (s:List Item) (g:γ0):Option Int:=
 match d3 (b75 p) (s,g,(s.length:Int),0,()) with|some (.inl (_)) =>some (-1)|some (.inr (v,_)) =>some v|none =>none
def qah (c:Circ) (vid:Int):Option (Item×Bool):=
 match q9 (fun g x0=>qaq x0 g.2.1) c.Items ((),(vid,())) with|some r1 =>(bif decide (r1<0) then some ((⟨0,0,0,0,0,[],⟨0,0,0,0⟩⟩:Item),false) else match j7 c.Items r1 with|some x =>some (x,true)|none =>none)|none =>none
def b38:(Int×(List Int)×(List Int)×Int×Int×Circ×(List MapI)×(List Int)×Unit)→Option ((Int×(List Int)×(List Int)×Int×Int×Circ×(List MapI)×(List Int)×Unit)⊕((Int×(List Int)×Circ×(List MapI)×(List Int)×Unit))):=fun (branch,ids,v,v6,v7,c,l,l8,_)=>
 bif decide (v7<v6) then match j7 v v7 with|some x =>bif (a1k MapI.key MapI.val l x)==0 then bif decide (l8.length+([x]:List Int).length≤LIM) then some (.inl (branch,ids,v,v6,wr .i64 (v7+1),c,l,l8++([x]:List Int),())) else none else some (.inl (branch,ids,v,v6,wr .i64 (v7+1),c,l,l8,()))|none =>none else some (.inr ((branch,ids,c,l,l8,())))
def a5j:(Int×(List Int)×Int×Int×Circ×(List MapI)×(List Int)×(List Int)×(List Int)×(List Int)×Unit)→Option ((Int×(List Int)×Int×Int×Circ×(List MapI)×(List Int)×(List Int)×(List Int)×(List Int)×Unit)⊕(((List Int)×(List Int)×(List Int)×(List Int)×Unit))):=fun (branch,v,v13,v14,c,l,l15,l16,l17,l18,_)=>
 bif decide (v14<v13) then match j7 v v14 with|some x =>(match qah c x with|some (r19,r20) =>(bif !r20 then bif decide (l16.length+([x]:List Int).length≤LIM) then bif decide (1<a1k MapI.key MapI.val l x) then bif decide (l18.length+([x]:List Int).length≤LIM) then some (.inl (branch,v,v13,wr .i64 (v14+1),c,l,l15,l16++([x]:List Int),l17,l18++([x]:List Int),())) else none else some (.inl (branch,v,v13,wr .i64 (v14+1),c,l,l15,l16++([x]:List Int),l17,l18,())) else none else match qa8 branch with|some r22 =>(let k (v25:Bool):Option ((Int×(List Int)×Int×Int×Circ×(List MapI)×(List Int)×(List Int)×(List Int)×(List Int)×Unit)⊕(((List Int)×(List Int)×(List Int)×(List Int)×Unit))):=bif v25 then bif decide (l17.length+([x]:List Int).length≤LIM) then bif decide (1<a1k MapI.key MapI.val l x) then bif decide (l18.length+([x]:List Int).length≤LIM) then some (.inl (branch,v,v13,wr .i64 (v14+1),c,l,l15,l16,l17++([x]:List Int),l18++([x]:List Int),())) else none else some (.inl (branch,v,v13,wr .i64 (v14+1),c,l,l15,l16,l17++([x]:List Int),l18,())) else none else bif decide (1<a1k MapI.key MapI.val l x) then bif decide (l18.length+([x]:List Int).length≤LIM) then some (.inl (branch,v,v13,wr .i64 (v14+1),c,l,l15,l16,l17,l18++([x]:List Int),())) else none else some (.inl (branch,v,v13,wr .i64 (v14+1),c,l,l15,l16,l17,l18,()));bif !r22 then k true else match qao r19 branch with|some r24 =>k (!r24)|none =>none)|none =>none)|none =>none)|none =>none else some (.inr ((l15,l16,l17,l18,())))
def qbq:(Int×Int×(List Problem)×(List Int)×(List Int)×(List Int)×(List Int)×(List Int)×Unit)→Option ((Int×Int×(List Problem)×(List Int)×(List Int)×(List Int)×(List Int)×(List Int)×Unit)⊕(((List Problem)×(List Int)×(List Int)×(List Int)×(List Int)×Unit))):=fun (v,v33,l,l34,l35,l36,l37,l38,_)=>
 bif decide (v33<v) then match j7 l38 v33 with|some _ =>(match l38[v33.toNat]? with|some x =>bif decide (l.length+([(⟨0,x,[],0⟩:Problem)]:List Problem).length≤LIM) then some (.inl (v,wr .i64 (v33+1),l++([(⟨0,x,[],0⟩:Problem)]:List Problem),l34,l35,l36,l37,l38,())) else none|none =>none)|none =>none else some (.inr ((l,l34,l35,l36,l37,())))
def qbp:(Int×Int×(List Problem)×(List Int)×(List Int)×(List Int)×(List Int)×Unit)→Option ((Int×Int×(List Problem)×(List Int)×(List Int)×(List Int)×(List Int)×Unit)⊕(((List Problem)×(List Int)×(List Int)×(List Int)×Unit))):=fun (v,v48,l,l49,l50,l51,l52,_)=>
 bif decide (v48<v) then match j7 l52 v48 with|some _ =>(match l52[v48.toNat]? with|some x =>bif decide (l.length+([(⟨1,x,[],0⟩:Problem)]:List Problem).length≤LIM) then some (.inl (v,wr .i64 (v48+1),l++([(⟨1,x,[],0⟩:Problem)]:List Problem),l49,l50,l51,l52,())) else none|none =>none)|none =>none else some (.inr ((l,l49,l50,l51,())))
def qbo:(Int×Int×(List Problem)×(List Int)×(List Int)×(List Int)×Unit)→Option ((Int×Int×(List Problem)×(List Int)×(List Int)×(List Int)×Unit)⊕(((List Problem)×(List Int)×(List Int)×Unit))):=fun (v,v61,l,l62,l63,l64,_)=>
 bif decide (v61<v) then match j7 l64 v61 with|some _ =>(match l64[v61.toNat]? with|some x =>bif decide (l.length+([(⟨2,x,[],0⟩:Problem)]:List Problem).length≤LIM) then some (.inl (v,wr .i64 (v61+1),l++([(⟨2,x,[],0⟩:Problem)]:List Problem),l62,l63,l64,())) else none|none =>none)|none =>none else some (.inr ((l,l62,l63,())))
def qbn:(Int×Int×(List Problem)×(List Int)×(List Int)×Unit)→Option ((Int×Int×(List Problem)×(List Int)×(List Int)×Unit)⊕(((List Problem)×(List Int)×Unit))):=fun (v,v72,l,l73,l74,_)=>
 bif decide (v72<v) then match j7 l74 v72 with|some _ =>(match l74[v72.toNat]? with|some x =>bif decide (l.length+([(⟨3,x,[],0⟩:Problem)]:List Problem).length≤LIM) then some (.inl (v,wr .i64 (v72+1),l++([(⟨3,x,[],0⟩:Problem)]:List Problem),l73,l74,())) else none|none =>none)|none =>none else some (.inr ((l,l73,())))
def qbm:(Int×Int×(List Problem)×(List Int)×Unit)→Option ((Int×Int×(List Problem)×(List Int)×Unit)⊕(((List Problem)×Unit))):=fun (v,v81,l,l82,_)=>
 bif decide (v81<v) then match j7 l82 v81 with|some _ =>(match l82[v81.toNat]? with|some x =>bif decide (l.length+([(⟨4,x,[],0⟩:Problem)]:List Problem).length≤LIM) then some (.inl (v,wr .i64 (v81+1),l++([(⟨4,x,[],0⟩:Problem)]:List Problem),l82,())) else none|none =>none)|none =>none else some (.inr ((l,())))
def qa (c:Circ) (branch:Int) (l:List Int):Option (List Problem):=
 match qv l with|some (r1,m) =>(match qa8 branch with|some r3 =>(bif r3 then match qs c branch with|some r5 =>(match d3 b38 (branch,r1,r5,(r5.length:Int),0,c,m,([]:List Int),()) with|some ((branch9,ids,c10,l11,l12,_)) =>(match d3 a5j (branch9,ids,(ids.length:Int),0,c10,l11,l12,([]:List Int),([]:List Int),([]:List Int),()) with|some ((l26,l27,l28,l29,_)) =>(match qag ([]:List Int) with|some _ =>(match qae ([]:List Int) with|some l32 =>(match d3 qbq ((l32.length:Int),0,([]:List Problem),l26,l27,l28,l29,l32,()) with|some ((l39,l40,l41,l42,l43,_)) =>(match qag l40 with|some l45 =>(match qae l45 with|some l47 =>(match d3 qbp ((l47.length:Int),0,l39,l41,l42,l43,l47,()) with|some ((l53,l54,l55,l56,_)) =>(match qag l55 with|some l58 =>(match qae l58 with|some l60 =>(match d3 qbo ((l60.length:Int),0,l53,l54,l56,l60,()) with|some ((l65,l66,l67,_)) =>(match qag l66 with|some l69 =>(match qae l69 with|some l71 =>(match d3 qbn ((l71.length:Int),0,l65,l67,l71,()) with|some ((l75,l76,_)) =>(match qag l76 with|some l78 =>(match qae l78 with|some l80 =>(match d3 qbm ((l80.length:Int),0,l75,l80,()) with|some ((l83,_)) =>some l83|none =>none)|none =>none)|none =>none)|none =>none)|none =>none)|none =>none)|none =>none)|none =>none)|none =>none)|none =>none)|none =>none)|none =>none)|none =>none)|none =>none)|none =>none)|none =>none)|none =>none)|none =>none else match d3 a5j (branch,r1,(r1.length:Int),0,c,m,([]:List Int),([]:List Int),([]:List Int),([]:List Int),()) with|some ((l84,l85,l86,l87,_)) =>(match qag ([]:List Int) with|some _ =>(match qae ([]:List Int) with|some l90 =>(match d3 qbq ((l90.length:Int),0,([]:List Problem),l84,l85,l86,l87,l90,()) with|some ((l91,l92,l93,l94,l95,_)) =>(match qag l92 with|some l97 =>(match qae l97 with|some l99 =>(match d3 qbp ((l99.length:Int),0,l91,l93,l94,l95,l99,()) with|some ((l100,l101,l102,l103,_)) =>(match qag l102 with|some l105 =>(match qae l105 with|some l107 =>(match d3 qbo ((l107.length:Int),0,l100,l101,l103,l107,()) with|some ((l108,l109,l110,_)) =>(match qag l109 with|some l112 =>(match qae l112 with|some l114 =>(match d3 qbn ((l114.length:Int),0,l108,l110,l114,()) with|some ((l115,l116,_)) =>(match qag l116 with|some l118 =>(match qae l118 with|some l120 =>(match d3 qbm ((l120.length:Int),0,l115,l120,()) with|some ((l121,_)) =>some l121|none =>none)|none =>none)|none =>none)|none =>none)|none =>none)|none =>none)|none =>none)|none =>none)|none =>none)|none =>none)|none =>none)|none =>none)|none =>none)|none =>none)|none =>none)|none =>none)|none =>none)|none =>none
def qar (x:Item) (branch:Int):Option Bool:=
 let k3 (v2:Bool):Option Bool:=some v2;bif x.Custody.Branch==branch then let k (v:Bool):Option Bool:=bif v then k3 true else k3 (x.Custody.State==5);bif x.Custody.State==2 then k true else k (x.Custody.State==3) else k3 false
def b8e:((List Int)×Int×Int×Int×Unit)→Option (((List Int)×Int×Int×Int×Unit)⊕((Int×Unit))):=fun (l,n,k,i,_)=>
 bif decide (i<(l.length:Int)) then match j7 l i with|some x =>let k2 (k1:Int):Option (((List Int)×Int×Int×Int×Unit)⊕((Int×Unit))):=some (.inl (l,n,k1,wr .i64 (i+1),()));bif x==n then k2 (wr .i64 (k+1)) else k2 k|none =>none else some (.inr ((k,())))
def ql (l:List Int) (n:Int):Option Int:=
 match d3 b8e (l,n,0,0,()) with|some ((k,_)) =>some k|none =>none
def b8n:((List Int)×Int×Int×Int×Unit)→Option (((List Int)×Int×Int×Int×Unit)⊕((Int×Unit))):=fun (l,above,best,i,_)=>
 bif decide (i<(l.length:Int)) then match j7 l i with|some x =>let k5 (v2:Bool):Option (((List Int)×Int×Int×Int×Unit)⊕((Int×Unit))):=let k (best4:Int):Option (((List Int)×Int×Int×Int×Unit)⊕((Int×Unit))):=some (.inl (l,above,best4,wr .i64 (i+1),()));bif v2 then match j7 l i with|some x3 =>k x3|none =>none else k best;bif decide (above<x) then bif best==0 then k5 true else match j7 l i with|some x1 =>k5 (decide (x1<best))|none =>none else k5 false|none =>none else some (.inr ((best,())))
def qx (l:List Int) (above:Int):Option Int:=
 match d3 b8n (l,above,0,0,()) with|some ((best,_)) =>some best|none =>none
def a8u:(Int×Int×Circ×Item×Unit)→Option ((Int×Int×Circ×Item×Unit)⊕((Item×Unit)⊕(Bool×Item×Unit))):=fun (vid,i,c,v,_)=>
 bif decide (i<(c.Items.length:Int)) then match j7 c.Items i with|some x =>bif x.ID==vid then match j7 c.Items i with|some x1 =>some (.inr (.inr (true,x1,())))|none =>none else some (.inl (vid,wr .i64 (i+1),c,v,()))|none =>none else some (.inr (.inl (v,())))
def qad (c:Circ) (vid:Int):Option (Item×Bool):=
 match d3 a8u (vid,0,c,(⟨0,0,0,0,0,[],⟨0,0,0,0⟩⟩:Item),()) with|some (.inl (v,_)) =>some ((⟨0,0,0,0,0,[],⟨0,0,0,0⟩⟩:Item),false)|some (.inr (v2,v3,_)) =>some (v3,v2)|none =>none
def b4c:(Int×(List Int)×Int×Circ×(List Problem)×Unit)→Option ((Int×(List Int)×Int×Circ×(List Problem)×Unit)⊕((Int×(List Int)×Circ×(List Problem)×Unit))):=fun (branch,l,i,c,l1,_)=>
 bif decide (i<(c.Items.length:Int)) then match j7 c.Items i with|some x =>(match qar x branch with|some r2 =>let k (v:Bool):Option ((Int×(List Int)×Int×Circ×(List Problem)×Unit)⊕((Int×(List Int)×Circ×(List Problem)×Unit))):=bif v then match j7 c.Items i with|some x6 =>bif decide (l1.length+([(⟨1,x6.ID,[],0⟩:Problem)]:List Problem).length≤LIM) then some (.inl (branch,l,wr .i64 (i+1),c,l1++([(⟨1,x6.ID,[],0⟩:Problem)]:List Problem),())) else none|none =>none else some (.inl (branch,l,wr .i64 (i+1),c,l1,()));bif r2 then match j7 c.Items i with|some x3 =>(match ql l x3.ID with|some r5 =>k (r5==0)|none =>none)|none =>none else k false|none =>none)|none =>none else some (.inr ((branch,l,c,l1,())))
def a8z:(Int×(List Int)×Int×Int×Circ×(List Problem)×Unit)→Option ((Int×(List Int)×Int×Int×Circ×(List Problem)×Unit)⊕((Int×(List Int)×Int×Circ×(List Problem)×Unit))):=fun (branch,l,kind,n,c,l13,_)=>
 bif !(n==0) then match qad c n with|some (r14,r15) =>let k31 (v:Bool):Option ((Int×(List Int)×Int×Int×Circ×(List Problem)×Unit)⊕((Int×(List Int)×Int×Circ×(List Problem)×Unit))):=let k30 (v18:Bool):Option ((Int×(List Int)×Int×Int×Circ×(List Problem)×Unit)⊕((Int×(List Int)×Int×Circ×(List Problem)×Unit))):=let k29 (v20:Bool):Option ((Int×(List Int)×Int×Int×Circ×(List Problem)×Unit)⊕((Int×(List Int)×Int×Circ×(List Problem)×Unit))):=let k (v24:Bool):Option ((Int×(List Int)×Int×Int×Circ×(List Problem)×Unit)⊕((Int×(List Int)×Int×Circ×(List Problem)×Unit))):=bif v24 then bif decide (l13.length+([(⟨kind,n,[],0⟩:Problem)]:List Problem).length≤LIM) then match qx l n with|some r26 =>some (.inl (branch,l,kind,r26,c,l13++([(⟨kind,n,[],0⟩:Problem)]:List Problem),()))|none =>none else none else match qx l n with|some r28 =>some (.inl (branch,l,kind,r28,c,l13,()))|none =>none;bif v20 then k true else bif kind==4 then match ql l n with|some r22 =>k (decide (1<r22))|none =>none else k false;bif v18 then k29 true else bif kind==3 then k29 (!r15) else k29 false;bif v then match qar r14 branch with|some r17 =>k30 (!r17)|none =>none else k30 false;bif kind==2 then k31 r15 else k31 false|none =>none else some (.inr ((branch,l,kind,c,l13,())))
def c28:(Int×(List Int)×Int×Circ×(List Problem)×Unit)→Option ((Int×(List Int)×Int×Circ×(List Problem)×Unit)⊕(((List Problem)×Unit))):=fun (branch,l,kind,c,l11,_)=>
 bif decide (kind≤4) then match qx l 0 with|some r12 =>(match d3 a8z (branch,l,kind,r12,c,l11,()) with|some ((branch32,l33,kind34,c35,l36,_)) =>some (.inl (branch32,l33,wr .i64 (kind34+1),c35,l36,()))|none =>none)|none =>none else some (.inr ((l11,())))
def qe (c:Circ) (branch:Int) (l:List Int):Option (List Problem):=
 match d3 b4c (branch,l,0,c,([]:List Problem),()) with|some ((branch7,l8,c9,l10,_)) =>(match d3 c28 (branch7,l8,2,c9,l10,()) with|some ((l37,_)) =>some l37|none =>none)|none =>none
def a8s:((List Problem)×(List Problem)×Int×Unit)→Option (((List Problem)×(List Problem)×Int×Unit)⊕((Unit)⊕(Bool×Unit))):=fun (a,b,i,_)=>
 bif decide (i<(a.length:Int)) then match j7 a i with|some x =>(match j7 b i with|some x1 =>bif !(a3w x x1) then some (.inr (.inr (false,()))) else some (.inl (a,b,wr .i64 (i+1),()))|none =>none)|none =>none else some (.inr (.inl (())))
def qab (a:List Problem) (b:List Problem):Option Bool:=
 bif !((a.length:Int)==(b.length:Int)) then some false else match d3 a8s (a,b,0,()) with|some (.inl (_)) =>some true|some (.inr (v,_)) =>some v|none =>none
def a4m:((List Int)×Int×Int×Int×Unit)→Option (((List Int)×Int×Int×Int×Unit)⊕((Unit)⊕(Int×Unit))):=fun (s,v,v1,v2,_)=>
 bif decide (v2<v1) then match j7 s v2 with|some x =>bif v==x then some (.inr (.inr (v2,()))) else some (.inl (s,v,v1,wr .i64 (v2+1),()))|none =>none else some (.inr (.inl (())))
def qaf (s:List Int) (v:Int):Option Int:=
 match d3 a4m (s,v,(s.length:Int),0,()) with|some (.inl (_)) =>some (-1)|some (.inr (v3,_)) =>some v3|none =>none
def qbd (s:List Int) (v:Int):Option Bool:=
 match qaf s v with|some r1 =>some (decide (0≤r1))|none =>none
def a8v:((List Int)×(List Int)×Int×(List Int)×Int×Int×Unit)→Option (((List Int)×(List Int)×Int×(List Int)×Int×Int×Unit)⊕(((List Int)×Int×Unit))):=fun (l,vall,n,v,v2,v3,_)=>
 bif decide (v3<v2) then match j7 v v3 with|some x =>(match qbd l x with|some r4 =>let k (n5:Int):Option (((List Int)×(List Int)×Int×(List Int)×Int×Int×Unit)⊕(((List Int)×Int×Unit))):=some (.inl (l,vall,n5,v,v2,wr .i64 (v3+1),()));bif r4 then k (wr .i64 (n+1)) else k n|none =>none)|none =>none else some (.inr ((vall,n,())))
def qai (c:Circ) (branch:Int) (l:List Int):Option Int:=
 match qs c branch with|some r1 =>(bif (r1.length:Int)==0 then some 1000 else match d3 a8v (l,r1,0,r1,(r1.length:Int),0,()) with|some ((vall,n,_)) =>bif (vall.length:Int)==0 then none else some (wr .i64 ((wr .i64 (n*1000)).tdiv (vall.length:Int)))|none =>none)|none =>none
def a8t:(Int×Int×Circ×(List Int)×Unit)→Option ((Int×Int×Circ×(List Int)×Unit)⊕(((List Int)×Unit))):=fun (branch,i,c,l,_)=>
 bif decide (i<(c.Items.length:Int)) then match j7 c.Items i with|some x =>(match qar x branch with|some r1 =>bif r1 then match j7 c.Items i with|some x2 =>bif decide (l.length+([x2.ID]:List Int).length≤LIM) then some (.inl (branch,wr .i64 (i+1),c,l++([x2.ID]:List Int),())) else none|none =>none else some (.inl (branch,wr .i64 (i+1),c,l,()))|none =>none)|none =>none else some (.inr ((l,())))
def qac (c:Circ) (branch:Int):Option (List Int):=
 match d3 a8t (branch,0,c,([]:List Int),()) with|some ((l,_)) =>some l|none =>none
def a8w:((List Int)×(List Int)×Int×Int×Unit)→Option (((List Int)×(List Int)×Int×Int×Unit)⊕(((List Int)×Int×Unit))):=fun (l,want,n,i,_)=>
 bif decide (i<(want.length:Int)) then match j7 want i with|some x =>(match ql l x with|some r2 =>let k (n3:Int):Option (((List Int)×(List Int)×Int×Int×Unit)⊕(((List Int)×Int×Unit))):=some (.inl (l,want,n3,wr .i64 (i+1),()));bif decide (0<r2) then k (wr .i64 (n+1)) else k n|none =>none)|none =>none else some (.inr ((want,n,())))
def qaj (c:Circ) (branch:Int) (l:List Int):Option Int:=
 match qac c branch with|some r1 =>(bif (r1.length:Int)==0 then some 1000 else match d3 a8w (l,r1,0,0,()) with|some ((want,n,_)) =>bif (want.length:Int)==0 then none else some (wr .i64 ((wr .i64 (n*1000)).tdiv (want.length:Int)))|none =>none)|none =>none
def qas (c:Circ) (branch:Int) (l:List Int):Option Bool:=
 match qf with|some r1 =>let k (v15:Bool):Option Bool:=some v15;bif r1 then match qbb c l with|some r3 =>(bif !r3 then k true else match qa c branch l with|some r5 =>(match qe c branch l with|some r7 =>(match qab r5 r7 with|some r9 =>bif r9 then match qai c branch l with|some r11 =>(match qaj c branch l with|some r13 =>k (r11==r13)|none =>none)|none =>none else k false|none =>none)|none =>none)|none =>none)|none =>none else k false|none =>none
def qa7 (s:List Item):Option (List Item):=
 bif decide (([]:List Item).length+s.length≤LIM) then some (([])++s) else none
def qa5 (s:List Move):Option (List Move):=
 bif decide (([]:List Move).length+s.length≤LIM) then some (([])++s) else none
def qa6 (s:List Loan):Option (List Loan):=
 bif decide (([]:List Loan).length+s.length≤LIM) then some (([])++s) else none
def qa3 (s:List Patron):Option (List Patron):=
 bif decide (([]:List Patron).length+s.length≤LIM) then some (([])++s) else none
end
section
set_option maxRecDepth 100000
open Go
theorem b0x:f9 m8:=f9.iso (f9.cons (d7.int _) (f9.cons (d7.int _) (f9.cons (d7.int _) (f9.cons (d7.int _) f9.nil)))) (fun _=>rfl)
theorem b0z:f9 a1i:=f9.iso (f9.cons (d7.int _) (f9.cons (d7.int _) (f9.cons (d7.int _) (f9.cons (d7.int _) (f9.cons (d7.int _) (f9.cons d7.str (f9.cons (d7.int _) (f9.cons (d7.int _) (f9.cons (d7.int _) (f9.cons (d7.int _) f9.nil)))))))))) (fun _=>rfl)
theorem a6h:f9 a2r:=f9.iso (f9.cons (d7.int _) (f9.cons (d7.int _) (f9.cons (d7.int _) (f9.cons (d7.int _) (f9.cons d7.bool (f9.cons d7.str f9.nil)))))) (fun _=>rfl)
theorem b00:f9 a6e:=f9.iso (f9.cons (d7.int _) (f9.cons (d7.int _) (f9.cons (d7.int _) (f9.cons (d7.int _) (f9.cons (d7.int _) (f9.cons d7.bool f9.nil)))))) (fun _=>rfl)
theorem b0y:f9 a17:=f9.iso (f9.cons (d7.int _) (f9.cons (d7.int _) (f9.cons (d7.int _) (f9.cons (d7.int _) (f9.cons (d7.int _) (f9.cons (d7.int _) (f9.cons (d7.int _) (f9.cons (d7.int _) (f9.cons (d7.int _) (f9.cons (d7.int _) (f9.cons (d7.int _) f9.nil))))))))))) (fun _=>rfl)
theorem a6g:f9 a38:=f9.iso (f9.cons (d7.int _) (f9.cons (d7.int _) (f9.cons (d7.int _) (f9.cons (d7.int _) (f9.cons (d7.int _) (f9.cons (d7.int _) (f9.cons (d7.int _) f9.nil))))))) (fun _=>rfl)
theorem b04:f9 a6f:=f9.iso (f9.cons (d7.int _) (f9.cons (d7.int _) (f9.cons (d7.int _) (f9.cons (d7.int _) (f9.cons (d7.int _) (f9.cons (d7.int _) (f9.cons (d7.int _) (f9.cons (d7.int _) (f9.cons (d7.int _) (f9.cons (d7.int _) (f9.cons (d7.int _) (f9.cons (d7.int _) (f9.cons (d7.int _) f9.nil))))))))))))) (fun _=>rfl)
theorem a9g:f9 a0c:=f9.iso (f9.cons (d7.int _) (f9.cons (d7.lst _) f9.nil)) (fun _=>rfl)
theorem b03:f9 a4t:=f9.iso (f9.cons (d7.int _) (f9.cons (d7.int _) (f9.cons (d7.int _) (f9.cons (d7.int _) (f9.cons (d7.int _) f9.nil))))) (fun _=>rfl)
theorem b98:f9 g7:=f9.iso (f9.cons (d7.int _) (f9.cons (d7.lst _) (f9.cons (d7.lst _) (f9.cons (d7.lst _) (f9.cons (d7.lst _) (f9.cons (d7.lst _) (f9.cons (d7.lst _) (f9.cons (d7.int _) (f9.cons (d7.lst _) (f9.cons (d7.int _) (f9.cons (d7.lst _) (f9.cons (d7.int _) (f9.cons (d7.lst _) (f9.cons (d7.int _) (f9.cons (d7.lst _) (f9.cons (d7.lst _) (f9.cons (d7.int _) (f9.cons (d7.int _) (f9.cons d7.bool f9.nil))))))))))))))))))) (fun _=>rfl)
theorem b01:f9 b3e:=f9.iso (f9.cons (d7.int _) (f9.cons (d7.int _) f9.nil)) (fun _=>rfl)
theorem a5f:f9 a4u:=f9.iso (f9.cons (d7.int _) (f9.cons (d7.int _) (f9.cons d7.str (f9.cons (d7.int _) f9.nil)))) (fun _=>rfl)
theorem b02:f9 b3f:=f9.iso (f9.cons (d7.int _) (f9.cons d7.str f9.nil)) (fun _=>rfl)
theorem a0k:f9 u3:=f9.iso (f9.cons (d7.int _) (f9.cons (d7.int _) f9.nil)) (fun _=>rfl)
instance:CCC m8:=⟨b0x⟩
instance:CCC a1i:=⟨b0z⟩
instance:CCC a2r:=⟨a6h⟩
instance:CCC a6e:=⟨b00⟩
instance:CCC a17:=⟨b0y⟩
instance:CCC a38:=⟨a6g⟩
instance:CCC a6f:=⟨b04⟩
instance:CCC a0c:=⟨a9g⟩
instance:CCC a4t:=⟨b03⟩
instance:CCC g7:=⟨b98⟩
instance:CCC b3e:=⟨b01⟩
instance:CCC a4u:=⟨a5f⟩
instance:CCC b3f:=⟨b02⟩
instance:CCC u3:=⟨a0k⟩
end
section
set_option maxRecDepth 100000
abbrev x0a:=OC.r [2] [] [] (Zs 2 Zb Zz)
abbrev x0b:=OC.r [2] [] [] (Zs 2 Zi Zz)
abbrev x0c:=Zl .ki64
abbrev x0d:=OC.xs 0 [] [] [] Zz (.r [4] [] [] (Zs 4 Zi Zz))
abbrev x0e:=OC.xs 0 [1] [1] [] (Zp 1 1 (Zx 1 g7 Zz)) x0a
abbrev x0f:=Zx 3 g7 (FC.own 7 Kd.kProblem false Zz)
abbrev x0g:=Zp 1 1 (Zs 3 Zi (Zx 1 g7 Zz))
abbrev x0h:=Zx 3 g7 (FC.fixb 9 [.nil,.arr 44,.nil,.nil,.nil] (FC.map 23 Kd.kMapI (FC.own 44 Kd.ki64 false Zz)))
abbrev x0i:=Zc Zi Zn
abbrev x0j:=OC.xs 0 [] [] [] Zz x0b
abbrev x0k:=Zx 1 g7 Zz
abbrev x0l:=Zs 3 Zi Zz
abbrev x0m:=Zs 5 Zi Zz
abbrev x0n:=Zl .kPatron
abbrev x0o:=Zl .kLoan
abbrev x0p:=Zc (Cod.cptr (CC.one Zi)) Zn
abbrev x0q:=Zs 1 Zi (Zs 2 x0c (Zp 3 3 (FC.arr 7 7 (Zs 9 Zi x0f))))
abbrev x0r:=Zl .kItem
abbrev x0s:=OC.xs 0 [] [] [] Zz (.r [4] [] [] (Zs 4 Zb Zz))
abbrev x0t:=Zl .kProblem
abbrev x0u:=Zl .kHold
abbrev x0v:=OC.xs 2 [] [] [] Zz x0a
abbrev x0w:=Zs 0 x0c (Zs 1 Zi (Zs 5 Zi (Zs 6 Zi Zz)))
abbrev d57:ZC (Unit):=Zn
abbrev u7:ZD (Bool):=Zb
def d8i (a:Unit):Option (Bool):=qf
abbrev b9d:ZC (Circ×Unit):=Zc (Cod.agg g7) Zn
abbrev d92 {R:Type}:Sm R:=n6 b9d u7 (fun a=>qb a.1)
def c96 {R:Type}:Nat→Sm R:=c0
abbrev c1h:=a0r [] [] [1,3] [1] [] x0g b76 x0e
abbrev c1i:=a0r [] [] [1,4] [1] [] (Zp 1 1 (Zs 4 Zi x0k)) b77 (.xs 2 [1] [1] [] (Zp 1 1 x0k) x0a)
abbrev b5v:=a0r [] [] [1,5] [1] [] (Zp 1 1 (Zs 5 Zi x0k)) a5k (.xs 4 [] [] [] Zz x0a)
def a5w {R:Type}:Lp Kd El R:=lp 14 b5v.sem (lp 9 c1i.sem (lp 4 c1h.sem l0))
abbrev c7x:ZC ((List UInt8)×Int×Unit):=Zc Cod.str x0i
abbrev d9n:ZD (Int×Int):=(Cod.tup2 (Zc Zi x0i))
abbrev b4t {R:Type}:Sm R:=n6 c7x d9n (fun a=>qam a.1 a.2.1)
abbrev c4y:ZC ((List UInt8)×Unit):=Zc Cod.str Zn
abbrev c4b {R:Type}:Sm R:=n6 c4y u7 (fun a=>qn a.1)
def d0h {R:Type}:Nat→Sm R:=cl 179 b4t c0
abbrev c1v:=a0r [] [] [0,3] [] [] (Zs 0 Cod.str x0l) b8g (.xs 0 [] [] [] Zz x0a)
def b6c {R:Type}:Lp Kd El R:=lp 2 c1v.sem l0
abbrev a2e:ZD (Int):=Zi
abbrev c9m {R:Type}:Sm R:=n6 c7x a2e (fun a=>qr a.1 a.2.1)
abbrev a3q:ZC (Int×Unit):=Zc Zi Zn
abbrev c3y {R:Type}:Sm R:=n6 a3q u7 (fun a=>qal a.1)
abbrev d4a:ZD ((List UInt8)):=Cod.str
abbrev c9l {R:Type}:Sm R:=n6 c4y d4a (fun a=>qq a.1)
def d0k {R:Type}:Nat→Sm R:=cl 179 b4t (cl 180 c9m (cl 181 c3y c0))
abbrev c1y:=a0r [] [] [0,3,4,5] [] [] (Zs 0 Cod.str (Zs 3 Cod.str (Zs 4 Zb x0m))) b8j (.x 0 [3] [] [] (Zs 3 Cod.str Zz))
def b6f {R:Type}:Lp Kd El R:=lp 4 c1y.sem l0
abbrev d59:ZC ((List Patron)×Unit):=Zc x0n Zn
abbrev c9o {R:Type}:Sm R:=n6 d59 a2e (fun a=>qu a.1)
def d0n {R:Type}:Nat→Sm R:=cl 107 c4b (cl 108 c9l c0)
abbrev c12:=a0r [] [] [0,3] [] [] (Zs 0 x0n x0l) b4i x0j
def b6i {R:Type}:Lp Kd El R:=lp 4 c12.sem l0
abbrev d58:ZC ((List Loan)×Unit):=Zc x0o Zn
abbrev c9n {R:Type}:Sm R:=n6 d58 a2e (fun a=>qt a.1)
def d0m {R:Type}:Nat→Sm R:=c0
abbrev c11:=a0r [] [] [0,3] [] [] (Zs 0 x0o x0l) b4h x0j
def b6h {R:Type}:Lp Kd El R:=lp 4 c11.sem l0
abbrev d4n {R:Type}:Sm R:=n6 a3q u7 (fun a=>qa1 a.1)
abbrev d41 {R:Type}:Sm R:=n6 a3q u7 (fun a=>qbc a.1)
abbrev d54:ZC (Hold×Unit):=Zc (Cod.agg a17) Zn
abbrev c33 {R:Type}:Sm R:=n6 d54 a2e (fun a=>qav a.1)
abbrev e0o:ZC ((List Hold)×Unit):=Zc x0u Zn
abbrev c9e {R:Type}:Sm R:=n6 e0o a2e (fun a=>qc a.1)
def c97 {R:Type}:Nat→Sm R:=cl 109 c33 c0
abbrev c1j:=a0r [] [] [0,3] [] [] (Zs 0 x0u x0l) b4a (.xs 0 [0] [] [] (Zs 0 x0u Zz) x0b)
abbrev b5x:=a0r [] [] [0,5,6] [] [] (Zs 0 x0u (Zs 5 Zi (Zs 6 Zi Zz))) a68 (.xs 4 [0,5] [] [] (Zs 0 x0u x0m) x0b)
abbrev b5w:=a0r [] [] [0,5] [] [] (Zs 0 x0u x0m) a8y (.xs 2 [] [] [] Zz x0b)
def a5x {R:Type}:Lp Kd El R:=lp 12 b5w.sem (lp 15 b5x.sem (lp 4 c1j.sem l0))
abbrev c39 {R:Type}:Sm R:=n6 a3q u7 (fun a=>qbi a.1)
abbrev e0s:ZC ((List Charge)×Unit):=Zc (Zl .kCharge) Zn
abbrev c9s {R:Type}:Sm R:=n6 e0s a2e (fun a=>qy a.1)
def d0r {R:Type}:Nat→Sm R:=cl 110 c39 c0
abbrev c17:=a0r [] [] [0,3] [] [] (Zs 0 (Zl .kCharge) x0l) b4j x0j
def b6m {R:Type}:Lp Kd El R:=lp 4 c17.sem l0
abbrev d51:ZC (Int×Int×Int×Unit):=Zc Zi (Zc Zi x0i)
abbrev d4v {R:Type}:Sm R:=n6 d51 u7 (fun a=>qak a.1 a.2.1 a.2.2.1)
abbrev d53:ZC (Rule×Unit):=Zc (Cod.agg a6f) Zn
abbrev c32 {R:Type}:Sm R:=n6 d53 u7 (fun a=>qau a.1)
abbrev e0p:ZC ((List Rule)×Unit):=Zc (Zl .kRule) Zn
abbrev c9f {R:Type}:Sm R:=n6 e0p a2e (fun a=>qd a.1)
def c98 {R:Type}:Nat→Sm R:=cl 111 c32 c0
abbrev c1l:=a0r [] [] [0,3,4] [] [] (Zs 0 (Zl .kRule) (Zs 3 Zi (Zs 4 Zi Zz))) b4b (.xs 2 [0,3] [] [] (Zs 0 (Zl .kRule) x0l) x0b)
abbrev c1k:=a0r [] [] [0,3] [] [] (Zs 0 (Zl .kRule) x0l) b8a x0j
def a9y {R:Type}:Lp Kd El R:=lp 4 c1k.sem (lp 9 c1l.sem l0)
abbrev e0q:ZC (Calendar×Unit):=Zc (Cod.agg a0c) Zn
abbrev c9g {R:Type}:Sm R:=n6 e0q a2e (fun a=>qh a.1)
def d0b {R:Type}:Nat→Sm R:=c0
abbrev c1p:=a0r [] [] [1,3] [1] [] (Zp 1 1 (Zs 3 Zi (Zx 1 a0c Zz))) b4d (.xs 0 [1] [1] [] (Zp 1 1 (Zx 1 a0c Zz)) x0b)
abbrev b5z:=a0r [] [] [1,4] [1] [] (Zp 1 1 (Zs 4 Zi (Zx 1 a0c Zz))) a69 (.xs 2 [] [] [] Zz x0b)
def a9z {R:Type}:Lp Kd El R:=lp 11 b5z.sem (lp 6 c1p.sem l0)
abbrev d5u:ZC ((List Patron)×Int×Unit):=Zc x0n x0i
abbrev d9z {R:Type}:Sm R:=n6 d5u a2e (fun a=>q8 a.1 a.2.1)
def c94 {R:Type}:Nat→Sm R:=c0
abbrev c1e:=a0r [] [] [0,1,5] [] [] (Zs 0 x0n (Zs 1 Zi x0m)) b74 x0d
def b58 {R:Type}:Lp Kd El R:=lp 2 c1e.sem l0
abbrev d9o:ZD (Patron×Bool):=(Cod.tup2 (Zc (Cod.agg a2r) (Zc Zb Zn)))
abbrev b0b {R:Type}:Sm R:=n6 d5u d9o (fun a=>qan a.1 a.2.1)
abbrev d9q:ZD (Custody):=(Cod.agg m8)
abbrev c34 {R:Type}:Sm R:=n6 a3q d9q (fun a=>qaw a.1)
abbrev d46 {R:Type}:Sm R:=n6 a3q u7 (fun a=>qbj a.1)
abbrev c70:ZC (Custody×Unit):=Zc (Cod.agg m8) Zn
abbrev d4y {R:Type}:Sm R:=n6 c70 u7 (fun a=>qax a.1)
abbrev d55:ZC (Move×Unit):=Zc (Cod.agg a4t) Zn
abbrev d4z {R:Type}:Sm R:=n6 d55 u7 (fun a=>qba a.1)
abbrev b2k:ZD ((List Int)):=x0c
abbrev c3z {R:Type}:Sm R:=n6 a3q b2k (fun a=>qap a.1)
abbrev d5z:ZC (Int×Int×Unit):=Zc Zi x0i
abbrev d4q {R:Type}:Sm R:=n6 d5z u7 (fun a=>qaa a.1 a.2.1)
def c5a {R:Type}:Nat→Sm R:=cl 271 c3z c0
abbrev b5o:=a0r [] [] [0,5,6] [] [] (Zs 0 Zi (Zs 5 x0c (Zs 6 Zi Zz))) a8r x0s
def b13 {R:Type}:Lp Kd El R:=lp 3 b5o.sem l0
abbrev c7w:ZC (Custody×Move×Unit):=Zc (Cod.agg m8) (Zc (Cod.agg a4t) Zn)
abbrev d4m {R:Type}:Sm R:=n6 c7w u7 (fun a=>qa0 a.1 a.2.1)
abbrev d47 {R:Type}:Sm R:=n6 a3q a2e (fun a=>qbk a.1)
abbrev d9r:ZD (Custody×Int):=(Cod.tup2 (Zc (Cod.agg m8) x0i))
abbrev c36 {R:Type}:Sm R:=n6 c7w d9r (fun a=>qay a.1 a.2.1)
abbrev e0r:ZC (Int×(List Move)×Int×Unit):=Zc Zi (Zc (Zl .kMove) x0i)
abbrev e1p:ZD (Custody×Int×Int):=(Cod.tup3 (Zc (Cod.agg m8) (Zc Zi x0i)))
abbrev c9k {R:Type}:Sm R:=n6 e0r e1p (fun a=>qp a.1 a.2.1 a.2.2.1)
def d0j {R:Type}:Nat→Sm R:=cl 151 c36 (cl 185 c34 c0)
abbrev c1x:=a0r [] [] [1,2,6,9,10] [6,9] [] (Zs 1 (Zl .kMove) (Zs 2 Zi (Zp 6 6 (Zp 9 9 (Zs 10 Zi (Zx 6 m8 (Zx 9 m8 Zz))))))) b8i (.xs 0 [6,9] [6,9] [] (Zp 6 6 (Zp 9 9 (Zx 6 m8 (Zx 9 m8 Zz)))) (.r [7,8] [6] [6] (Zp 6 6 (Zs 7 Zi (Zs 8 Zi (Zx 6 m8 Zz))))))
def b6e {R:Type}:Lp Kd El R:=lp 5 c1x.sem l0
abbrev b6z:ZC (Circ×Int×Unit):=Zc (Cod.agg g7) x0i
abbrev b6t {R:Type}:Sm R:=n6 b6z a2e (fun a=>qg a.1 a.2.1)
def d0a {R:Type}:Nat→Sm R:=c0
abbrev c1o:=a0r [] [] [1,2,5] [2] [] (Zs 1 Zi (Zp 2 2 (Zs 5 Zi (Zx 2 g7 Zz)))) b8b x0d
def b6a {R:Type}:Lp Kd El R:=lp 2 c1o.sem l0
abbrev c9i {R:Type}:Sm R:=n6 b9d u7 (fun a=>qj a.1)
def d0d {R:Type}:Nat→Sm R:=cl 86 b6t (cl 107 c4b (cl 113 c9k c0))
abbrev c1r:=a0r [] [] [1,3] [1] [] x0g b4f x0e
abbrev b51:=a0r [] [] [1,8] [1] [] (Zp 1 1 (Zs 8 Zi x0k)) a7a x0v
def a91 {R:Type}:Lp Kd El R:=lp 15 b51.sem (lp 4 c1r.sem l0)
abbrev c3t {R:Type}:Sm R:=n6 c70 u7 (fun a=>qa9 a.1)
abbrev d6a:ZC ((List Loan)×Int×Unit):=Zc x0o x0i
abbrev d96 {R:Type}:Sm R:=n6 d6a a2e (fun a=>qz a.1 a.2.1)
def d0s {R:Type}:Nat→Sm R:=c0
abbrev c18:=a0r [] [] [0,1,5] [] [] (Zs 0 x0o (Zs 1 Zi x0m)) b8o x0d
def b6n {R:Type}:Lp Kd El R:=lp 2 c18.sem l0
abbrev d9s:ZD (Loan×Bool):=(Cod.tup2 (Zc (Cod.agg a6e) (Zc Zb Zn)))
abbrev c37 {R:Type}:Sm R:=n6 d6a d9s (fun a=>qaz a.1 a.2.1)
abbrev c9h {R:Type}:Sm R:=n6 b9d u7 (fun a=>qi a.1)
def d0c {R:Type}:Nat→Sm R:=cl 60 b0b (cl 86 b6t (cl 114 c3t (cl 115 c37 c0)))
abbrev c1q:=a0r [] [] [1,3] [1] [] x0g b4e x0e
abbrev b50:=a0r [] [] [1,8] [1] [] (Zp 1 1 (Zs 8 Zi x0k)) a80 x0v
def a90 {R:Type}:Lp Kd El R:=lp 10 b50.sem (lp 2 c1q.sem l0)
abbrev e1r:ZD (Hold×Bool):=(Cod.tup2 (Zc (Cod.agg a17) (Zc Zb Zn)))
abbrev c9q {R:Type}:Sm R:=n6 b6z e1r (fun a=>qw a.1 a.2.1)
def d0p {R:Type}:Nat→Sm R:=c0
abbrev c15:=a0r [] [] [1,2,4,6] [2,4] [] (Zs 1 Zi (Zp 2 2 (Zp 4 4 (Zs 6 Zi (Zx 2 g7 (Zx 4 a17 Zz)))))) b8m (.xs 0 [4] [4] [] (Zp 4 4 (Zx 4 a17 Zz)) (.r [5] [4] [4] (Zp 4 4 (Zs 5 Zb (Zx 4 a17 Zz)))))
def b6k {R:Type}:Lp Kd El R:=lp 2 c15.sem l0
abbrev c9j {R:Type}:Sm R:=n6 b9d u7 (fun a=>qk a.1)
def d0e {R:Type}:Nat→Sm R:=cl 60 b0b (cl 86 b6t (cl 89 c9q c0))
abbrev c1s:=a0r [] [] [1,3] [1] [] x0g b4g x0e
abbrev b52:=a0r [] [] [1,9] [1] [] (Zp 1 1 (Zs 9 Zi x0k)) a81 x0v
def a92 {R:Type}:Lp Kd El R:=lp 18 b52.sem (lp 2 c1s.sem l0)
abbrev d94 {R:Type}:Sm R:=n6 b9d u7 (fun a=>qm a.1)
def d0g {R:Type}:Nat→Sm R:=cl 54 c9o (cl 55 c9n (cl 56 c9e (cl 57 c9s (cl 58 c9f (cl 59 c9g (cl 60 b0b (cl 61 c9i (cl 62 c9h (cl 63 c9j c0)))))))))
abbrev c1u:=a0r [] [] [1,3] [1] [] x0g b2j x0e
abbrev b53:=a0r [] [] [1,4] [1] [] (Zp 1 1 (Zs 4 Zi x0k)) a7b (.xs 2 [1] [1] [] (Zp 1 1 x0k) x0a)
def a93 {R:Type}:Lp Kd El R:=lp 11 b53.sem (lp 6 c1u.sem l0)
abbrev b9i:ZC ((List Int)×Unit):=Zc x0c Zn
abbrev d95 {R:Type}:Sm R:=n6 b9i a2e (fun a=>qo a.1)
def d0i {R:Type}:Nat→Sm R:=c0
abbrev c1w:=a0r [] [] [0,3] [] [] (Zs 0 x0c x0l) b8h x0j
def b6d {R:Type}:Lp Kd El R:=lp 4 c1w.sem l0
abbrev d56:ZC (Circ×(List Int)×Unit):=Zc (Cod.agg g7) (Zc x0c Zn)
abbrev d40 {R:Type}:Sm R:=n6 d56 u7 (fun a=>qbb a.1 a.2.1)
abbrev b4w {R:Type}:Sm R:=n6 b9i b2k (fun a=>qbl a.1)
abbrev b9b:ZC ((List Int)×Unit):=b9i
abbrev c87:ZD (List Int):=x0c
def c8r (a:(List Int)×Unit):Option (List Int):=qag a.1
abbrev c3w {R:Type}:Sm R:=n6 b9b c87 c8r
abbrev b9a:ZC ((List Int)×Unit):=b9i
abbrev c86:ZD ((List Int)):=b2k
def c8q (a:(List Int)×Unit):Option ((List Int)):=qae a.1
abbrev b4s {R:Type}:Sm R:=n6 b9a c86 c8q
abbrev e1q:ZD ((List Int)×List MapI):=(Cod.tup2 (Zc x0c (Zc (Zl .kMapI) Zn)))
abbrev c9p {R:Type}:Sm R:=n6 b9i e1q (fun a=>qv a.1)
def d0o {R:Type}:Nat→Sm R:=cl 34 c3w (cl 35 b4s (cl 70 b4w c0))
abbrev c14:=a0r [] [] [0,4,9,10,11] [] [8] (Zs 0 x0c (FC.arr 4 8 (Zs 9 x0c (Zs 10 Zi (Zs 11 Zi (FC.map 8 Kd.kMapI Zz)))))) b8l (.x 0 [0,4] [] [8] (Zs 0 x0c (FC.arr 4 8 (FC.map 8 Kd.kMapI Zz))))
def b6j {R:Type}:Lp Kd El R:=lp 3 c14.sem l0
abbrev c3s {R:Type}:Sm R:=n6 a3q u7 (fun a=>qa8 a.1)
abbrev c7y:ZC (Item×Int×Unit):=Zc (Cod.agg a1i) x0i
abbrev b4u {R:Type}:Sm R:=n6 c7y u7 (fun a=>qao a.1 a.2.1)
abbrev c4c {R:Type}:Sm R:=n6 b6z b2k (fun a=>qs a.1 a.2.1)
def d0l {R:Type}:Nat→Sm R:=cl 33 b4u c0
abbrev c1z:=a0r [(5,5,Kd.ki64)] [] [1,5,9,10,11] [] [5] (Zs 1 Zi (FC.arr 5 5 (Zs 9 x0r (Zs 10 Zi (Zs 11 Zi (FC.own 5 Kd.ki64 false Zz)))))) b8k (.x 0 [5] [] [5] (FC.arr 5 5 (FC.own 5 Kd.ki64 false Zz)))
def b6g {R:Type}:Lp Kd El R:=lp 3 c1z.sem l0
abbrev d52:ZC (Item×Int×Unit):=Zc (Cod.agg a1i) x0p
abbrev c31 {R:Type}:Sm R:=n6 d52 u7 (fun a=>qaq a.1 a.2.1)
abbrev e0n:ZC ((List Item)×((Unit)×(Int×Unit))×Unit):=Zc x0r (Zc (Cod.fnc 72 (Zn) x0p) Zn)
abbrev d90 {R:Type}:Sm R:=n6 e0n a2e (fun a=>q9 (fun g x0=>qaq x0 g.2.1) a.1 a.2.1)
def c95 {R:Type}:Nat→Sm R:=cl 72 c31 c0
abbrev c1f:=a0r [] [] [0,1,7,8] [] [] (Zs 0 x0r (Zs 1 (Cod.fnc 72 (Zn) x0p) (Zs 7 Zi (Zs 8 Zi Zz)))) (b75 (fun g x0=>qaq x0 g.2.1)) x0d
def b59 {R:Type}:Lp Kd El R:=lp 2 c1f.sem l0
abbrev c88:ZD (Item×Bool):=(Cod.tup2 (Zc (Cod.agg a1i) (Zc Zb Zn)))
abbrev c3x {R:Type}:Sm R:=n6 b6z c88 (fun a=>qah a.1 a.2.1)
abbrev b87:ZC (Circ×Int×(List Int)×Unit):=Zc (Cod.agg g7) (Zc Zi (Zc x0c Zn))
abbrev d9i:ZD ((List Problem)):=x0t
abbrev d91 {R:Type}:Sm R:=n6 b87 d9i (fun a=>qa a.1 a.2.1 a.2.2.1)
def b97 {R:Type}:Nat→Sm R:=cl 21 c4c (cl 30 c9p (cl 31 c3s (cl 32 c3x (cl 33 b4u (cl 34 c3w (cl 35 b4s c0))))))
abbrev c1g:=a0r [(309001,44,Kd.ki64)] [] [1,3,7,8,9,30,31,32] [3,9] [23,44] (Zs 1 Zi (Zp 3 3 (Zs 7 x0c (FC.arr 8 23 (Zp 9 9 (Zs 30 x0c (Zs 31 Zi (Zs 32 Zi x0h)))))))) b38 (.x 0 [1,3,7,8,9] [3,9] [23,44] (Zs 1 Zi (Zp 3 3 (Zs 7 x0c (FC.arr 8 23 (Zp 9 9 x0h))))))
abbrev b5n:=a0r [(309001,44,Kd.ki64),(309003,66,Kd.ki64),(309004,92,Kd.ki64),(309002,82,Kd.ki64)] [] [1,3,8,9,47,48,49] [3,9] [23,44,66,82,92] (Zs 1 Zi (Zp 3 3 (FC.arr 8 23 (Zp 9 9 (Zs 47 x0c (Zs 48 Zi (Zs 49 Zi (Zx 3 g7 (FC.fixb 9 [.nil,.arr 44,.arr 82,.arr 66,.arr 92] (FC.map 23 Kd.kMapI (FC.own 44 Kd.ki64 false (FC.own 66 Kd.ki64 false (FC.own 82 Kd.ki64 false (FC.own 92 Kd.ki64 false Zz)))))))))))))) a5j (.x 2 [9] [9] [44,66,82,92] (Zp 9 9 (FC.fixb 9 [.nil,.arr 44,.arr 82,.arr 66,.arr 92] (FC.own 44 Kd.ki64 false (FC.own 66 Kd.ki64 false (FC.own 82 Kd.ki64 false (FC.own 92 Kd.ki64 false Zz)))))))
abbrev a3f:=a0r [(16,16,Kd.kProblem)] [] [16,17,95,96,103,104,105] [] [16,44,66,82,92,103] (FC.arr 16 16 (FC.fix 17 (.int .i64 0) (FC.fixa 95 [.nil,.arr 44,.arr 82,.arr 66,.arr 92] (FC.fix 96 (.int .i64 0) (FC.arr 103 103 (Zs 104 Zi (Zs 105 Zi (FC.own 16 Kd.kProblem false (FC.own 44 Kd.ki64 false (FC.own 66 Kd.ki64 false (FC.own 82 Kd.ki64 false (FC.own 92 Kd.ki64 false (FC.own 103 Kd.ki64 false Zz))))))))))))) qbq (.x 7 [16,95,96] [] [16,44,66,82,92] (FC.arr 16 16 (FC.fixa 95 [.nil,.arr 44,.arr 82,.arr 66,.arr 92] (FC.fix 96 (.int .i64 0) (FC.own 16 Kd.kProblem false (FC.own 44 Kd.ki64 false (FC.own 66 Kd.ki64 false (FC.own 82 Kd.ki64 false (FC.own 92 Kd.ki64 false Zz)))))))))
abbrev a3g:=a0r [] [400095] [16,17,95,96,103,104,105] [] [16,66,82,92,103] (FC.arr 16 16 (FC.fix 17 (.int .i64 1) (FC.fixa 95 [.nil,.und,.arr 82,.arr 66,.arr 92] (FC.fix 96 (.int .i64 1) (FC.arr 103 103 (Zs 104 Zi (Zs 105 Zi (FC.own 16 Kd.kProblem false (FC.own 66 Kd.ki64 false (FC.own 82 Kd.ki64 false (FC.own 92 Kd.ki64 false (FC.own 103 Kd.ki64 false Zz)))))))))))) qbp (.x 7 [16,95,96] [] [16,66,82,92] (FC.arr 16 16 (FC.fixa 95 [.nil,.und,.arr 82,.arr 66,.arr 92] (FC.fix 96 (.int .i64 1) (FC.own 16 Kd.kProblem false (FC.own 66 Kd.ki64 false (FC.own 82 Kd.ki64 false (FC.own 92 Kd.ki64 false Zz))))))))
abbrev a3h:=a0r [] [400095] [16,17,95,96,103,104,105] [] [16,66,92,103] (FC.arr 16 16 (FC.fix 17 (.int .i64 2) (FC.fixa 95 [.nil,.und,.und,.arr 66,.arr 92] (FC.fix 96 (.int .i64 2) (FC.arr 103 103 (Zs 104 Zi (Zs 105 Zi (FC.own 16 Kd.kProblem false (FC.own 66 Kd.ki64 false (FC.own 92 Kd.ki64 false (FC.own 103 Kd.ki64 false Zz))))))))))) qbo (.x 7 [16,95,96] [] [16,66,92] (FC.arr 16 16 (FC.fixa 95 [.nil,.und,.und,.arr 66,.arr 92] (FC.fix 96 (.int .i64 2) (FC.own 16 Kd.kProblem false (FC.own 66 Kd.ki64 false (FC.own 92 Kd.ki64 false Zz)))))))
abbrev a3i:=a0r [] [400095] [16,17,95,96,103,104,105] [] [16,92,103] (FC.arr 16 16 (FC.fix 17 (.int .i64 3) (FC.fixa 95 [.nil,.und,.und,.und,.arr 92] (FC.fix 96 (.int .i64 3) (FC.arr 103 103 (Zs 104 Zi (Zs 105 Zi (FC.own 16 Kd.kProblem false (FC.own 92 Kd.ki64 false (FC.own 103 Kd.ki64 false Zz)))))))))) qbn (.x 7 [16,95,96] [] [16,92] (FC.arr 16 16 (FC.fixa 95 [.nil,.und,.und,.und,.arr 92] (FC.fix 96 (.int .i64 3) (FC.own 16 Kd.kProblem false (FC.own 92 Kd.ki64 false Zz))))))
abbrev a3j:=a0r [] [400095] [16,17,95,96,103,104,105] [] [16,103] (FC.arr 16 16 (FC.fix 17 (.int .i64 4) (FC.fixa 95 [.nil,.und,.und,.und,.und] (FC.fix 96 (.int .i64 4) (FC.arr 103 103 (Zs 104 Zi (Zs 105 Zi (FC.own 16 Kd.kProblem false (FC.own 103 Kd.ki64 false Zz))))))))) qbm (.x 7 [16,95,96] [] [16] (FC.arr 16 16 (FC.fixa 95 [.nil,.und,.und,.und,.und] (FC.fix 96 (.int .i64 4) (FC.own 16 Kd.kProblem false Zz)))))
abbrev b4v {R:Type}:Sm R:=n6 c7y u7 (fun a=>qar a.1 a.2.1)
abbrev c4x:ZC ((List Int)×Int×Unit):=Zc x0c x0i
abbrev c4a {R:Type}:Sm R:=n6 c4x a2e (fun a=>ql a.1 a.2.1)
def d0f {R:Type}:Nat→Sm R:=c0
abbrev c1t:=a0r [] [] [0,1,5,6] [] [] x0w b8e (.x 0 [5] [] [] x0m)
def b6b {R:Type}:Lp Kd El R:=lp 3 c1t.sem l0
abbrev c9r {R:Type}:Sm R:=n6 c4x a2e (fun a=>qx a.1 a.2.1)
def d0q {R:Type}:Nat→Sm R:=c0
abbrev c16:=a0r [] [] [0,1,5,6] [] [] x0w b8n (.x 0 [5] [] [] x0m)
def b6l {R:Type}:Lp Kd El R:=lp 3 c16.sem l0
abbrev c3v {R:Type}:Sm R:=n6 b6z c88 (fun a=>qad a.1 a.2.1)
def c5d {R:Type}:Nat→Sm R:=c0
abbrev b5r:=a0r [] [] [1,2,4,6] [2,4] [] (Zs 1 Zi (Zp 2 2 (Zp 4 4 (Zs 6 Zi (Zx 2 g7 (Zx 4 a1i Zz)))))) a8u (.xs 0 [4] [4] [] (Zp 4 4 (Zx 4 a1i Zz)) (.r [5] [4] [4] (Zp 4 4 (Zs 5 Zb (Zx 4 a1i Zz)))))
def b19 {R:Type}:Lp Kd El R:=lp 2 b5r.sem l0
abbrev d93 {R:Type}:Sm R:=n6 b87 d9i (fun a=>qe a.1 a.2.1 a.2.2.1)
def c99 {R:Type}:Nat→Sm R:=cl 36 b4v (cl 37 c4a (cl 38 c9r (cl 39 c3v c0)))
abbrev c1m:=a0r [(7,7,Kd.kProblem)] [] [1,2,3,7,8] [3] [7] (Zs 1 Zi (Zs 2 x0c (Zp 3 3 (FC.arr 7 7 (Zs 8 Zi x0f))))) b4c (.x 0 [1,2,3,7] [3] [7] (Zs 1 Zi (Zs 2 x0c (Zp 3 3 (FC.arr 7 7 x0f)))))
abbrev b5y:=a0r [] [] [1,2,3,7,9,10] [3] [7] (Zs 1 Zi (Zs 2 x0c (Zp 3 3 (FC.arr 7 7 (Zs 9 Zi (Zs 10 Zi x0f)))))) a8z (.x 4 [1,2,3,7,9] [3] [7] x0q)
abbrev c1n:=a0r [] [] [1,2,3,7,9] [3] [7] x0q c28 (.x 2 [7] [] [7] (FC.arr 7 7 (FC.own 7 Kd.kProblem false Zz)))
def a5y {R:Type}:Lp Kd El R:=lp 8 c1n.sem (lp 11 b5y.sem (lp 3 c1m.sem l0))
abbrev d50:ZC ((List Problem)×(List Problem)×Unit):=Zc x0t (Zc x0t Zn)
abbrev d4r {R:Type}:Sm R:=n6 d50 u7 (fun a=>qab a.1 a.2.1)
def c5b {R:Type}:Nat→Sm R:=c0
abbrev b5p:=a0r [] [] [0,1,5] [] [] (Zs 0 x0t (Zs 1 x0t x0m)) a8s x0s
def b15 {R:Type}:Lp Kd El R:=lp 4 b5p.sem l0
abbrev d4s {R:Type}:Sm R:=n6 c4x a2e (fun a=>qaf a.1 a.2.1)
def c5e {R:Type}:Nat→Sm R:=c0
abbrev b5s:=a0r [] [] [0,1,7,8] [] [] (Zs 0 x0c (Zs 1 Zi (Zs 7 Zi (Zs 8 Zi Zz)))) a4m x0d
def b2a {R:Type}:Lp Kd El R:=lp 2 b5s.sem l0
abbrev c38 {R:Type}:Sm R:=n6 c4x u7 (fun a=>qbd a.1 a.2.1)
abbrev d4t {R:Type}:Sm R:=n6 b87 a2e (fun a=>qai a.1 a.2.1 a.2.2.1)
def c5f {R:Type}:Nat→Sm R:=cl 21 c4c (cl 40 c38 c0)
abbrev b5t:=a0r [] [] [2,7,8,17,18,19] [] [] (Zs 2 x0c (Zs 7 x0c (Zs 8 Zi (Zs 17 x0c (Zs 18 Zi (Zs 19 Zi Zz)))))) a8v (.x 0 [7,8] [] [] (Zs 7 x0c (Zs 8 Zi Zz)))
def b2b {R:Type}:Lp Kd El R:=lp 6 b5t.sem l0
abbrev c3u {R:Type}:Sm R:=n6 b6z b2k (fun a=>qac a.1 a.2.1)
def c5c {R:Type}:Nat→Sm R:=cl 36 b4v c0
abbrev b5q:=a0r [(5,5,Kd.ki64)] [] [1,2,5,6] [2] [5] (Zs 1 Zi (Zp 2 2 (FC.arr 5 5 (Zs 6 Zi (Zx 2 g7 (FC.own 5 Kd.ki64 false Zz)))))) a8t (.x 0 [5] [] [5] (FC.arr 5 5 (FC.own 5 Kd.ki64 false Zz)))
def b17 {R:Type}:Lp Kd El R:=lp 3 b5q.sem l0
abbrev d4u {R:Type}:Sm R:=n6 b87 a2e (fun a=>qaj a.1 a.2.1 a.2.2.1)
def c5g {R:Type}:Nat→Sm R:=cl 28 c3u (cl 37 c4a c0)
abbrev b5u:=a0r [] [] [2,7,8,9] [] [] (Zs 2 x0c (Zs 7 x0c (Zs 8 Zi (Zs 9 Zi Zz)))) a8w (.x 0 [7,8] [] [] (Zs 7 x0c (Zs 8 Zi Zz)))
def b2c {R:Type}:Lp Kd El R:=lp 6 b5u.sem l0
abbrev c7z:ZC (Circ×Int×(List Int)×Unit):=b87
abbrev d9p:ZD (Bool):=u7
def c8s (a:Circ×Int×(List Int)×Unit):Option (Bool):=qas a.1 a.2.1 a.2.2.1
abbrev d4w {R:Type}:Sm R:=n6 c7z d9p c8s
abbrev b9f:ZC (Int×Unit):=a3q
abbrev c9a:ZD ((List UInt8)):=d4a
def c8v (a:Int×Unit):Option ((List UInt8)):=qbf a.1
abbrev d43 {R:Type}:Sm R:=n6 b9f c9a c8v
abbrev b89:ZC ((List Item)×Int×(List Item)×Unit):=Zc x0r (Zc Zi (Zc x0r Zn))
abbrev c3h:ZD ((List Item)):=x0r
def c8p (a:(List Item)×Int×(List Item)×Unit):Option ((List Item)):=qa4 a.1 a.2.1 a.2.2.1
abbrev d4p {R:Type}:Sm R:=n6 b89 c3h c8p
abbrev d5y:ZC ((List Item)×Unit):=Zc x0r Zn
abbrev d9m:ZD ((List Item)):=c3h
def d8h (a:(List Item)×Unit):Option ((List Item)):=qa7 a.1
abbrev c3r {R:Type}:Sm R:=n6 d5y d9m d8h
abbrev b9g:ZC ((List UInt8)×Unit):=c4y
abbrev c9b:ZD (Bool):=u7
def c8w (a:(List UInt8)×Unit):Option (Bool):=qbg a.1
abbrev d44 {R:Type}:Sm R:=n6 b9g c9b c8w
abbrev d5w:ZC ((List Move)×Unit):=Zc (Zl .kMove) Zn
abbrev d9k:ZD ((List Move)):=(Zl .kMove)
def d8f (a:(List Move)×Unit):Option ((List Move)):=qa5 a.1
abbrev c3p {R:Type}:Sm R:=n6 d5w d9k d8f
abbrev b9c:ZC ((List Loan)×Int×(List Loan)×Unit):=Zc x0o (Zc Zi (Zc x0o Zn))
abbrev b6r:ZD ((List Loan)):=x0o
def c8t (a:(List Loan)×Int×(List Loan)×Unit):Option ((List Loan)):=qat a.1 a.2.1 a.2.2.1
abbrev d4x {R:Type}:Sm R:=n6 b9c b6r c8t
abbrev d5x:ZC ((List Loan)×Unit):=d58
abbrev d9l:ZD ((List Loan)):=b6r
def d8g (a:(List Loan)×Unit):Option ((List Loan)):=qa6 a.1
abbrev c3q {R:Type}:Sm R:=n6 d5x d9l d8g
abbrev b9h:ZC ((List UInt8)×Unit):=c4y
abbrev c9c:ZD ((List UInt8)):=d4a
def c8x (a:(List UInt8)×Unit):Option ((List UInt8)):=qbh a.1
abbrev d45 {R:Type}:Sm R:=n6 b9h c9c c8x
abbrev b88:ZC ((List Patron)×Int×(List Patron)×Unit):=Zc x0n (Zc Zi (Zc x0n Zn))
abbrev c3g:ZD ((List Patron)):=x0n
def c8o (a:(List Patron)×Int×(List Patron)×Unit):Option ((List Patron)):=qa2 a.1 a.2.1 a.2.2.1
abbrev d4o {R:Type}:Sm R:=n6 b88 c3g c8o
abbrev d5v:ZC ((List Patron)×Unit):=d59
abbrev d9j:ZD ((List Patron)):=c3g
def d8e (a:(List Patron)×Unit):Option ((List Patron)):=qa3 a.1
abbrev c3o {R:Type}:Sm R:=n6 d5v d9j d8e
abbrev b9e:ZC ((List Loan)×Int×Int×Unit):=Zc x0o (Zc Zi x0i)
abbrev c89:ZD ((List Loan)):=b6r
def c8u (a:(List Loan)×Int×Int×Unit):Option ((List Loan)):=qbe a.1 a.2.1 a.2.2.1
abbrev d42 {R:Type}:Sm R:=n6 b9e c89 c8u
end
section
set_option maxRecDepth 100000
open Go
theorem d6u:∀k,f9 (ccK k)
 |.kItem=>b0z
 |.kPatron=>a6h
 |.kLoan=>b00
 |.kHold=>b0y
 |.kCharge=>a6g
 |.kRule=>b04
 |.ki64=>f9.one (d7.int _)
 |.kMove=>b03
 |.kMapI=>b01
 |.kProblem=>a5f
 |.kstr=>f9.one d7.str
 |.kMapS=>b02
 |.kbool=>f9.one d7.bool
 |.ku64=>f9.one (d7.int _)
 |.ku8=>f9.one (d7.int _)
 |.kUtf8_acceptRange=>a0k
 |.ku16=>f9.one (d7.int _)
theorem e2j:SgOk sg:=d48 (cc:=ccK) (fun _=>rfl) (fun _=>rfl) d6u (by intro k x;cases k<;>rfl) (by intro k x;cases k<;>rfl) (by intro k;cases k<;>decide)
theorem eok:∀t,d7q t=true→EqOk Tryz.prog t:=b5i kr (b5i kr (d2b))
theorem mok:∀t M,d8w t=some M→c4q Tryz.prog sg t M:=b6p (c68 (kt:=3) (et:=9) kr kr kr (fun _ _=>rfl) (fun _ _=>rfl) (fun _=>rfl)) (b6p (c67 (kt:=3) (et:=3) kr kr kr (fun _ _=>rfl) (fun _ _=>rfl) (fun _=>rfl)) (d3y))
theorem good:GoodP Tryz.prog sg:=⟨e2i kr kr,e2j,eok,mok⟩
end
end Go.Proofs.YteaknldbhmocpaaGreatDoor
namespace Go.Proofs.YteaknldbhmocpaaGreatDoor.Ev
open Go
section
section
variable {P:Program} {w:World}
theorem m9 {dT sT ty elem:TypeId} {i0:TypeInfo} {g o dLen dCap sLen sCap z:Nat} {a:Addr} {L cs:List Value} {t:TypeId} (hu:P.underlying dT=some (.slice elem)) (hi:P.info? elem=some i0) (hz:i0.size=z)
 (hg:w.heap[g]?=some (.cells L.toArray t (0,0))) (hn:cs.length=Nat.min sLen dLen*z) (hsrc:∀j v,cs[j]?=some v→w.cell? (a.add j)=some v) (hfit:o+cs.length≤L.length) (h1:∀v∈cs,v.oneCell'=true) :
 (Builtin.copy_ #[dT,sT] ty #[.slice (some ⟨g,o,none⟩) dLen dCap,.slice (some a) sLen sCap]).run P w=.ok (goInt (Nat.min sLen dLen)) (w.setRow g (Go.splice L o cs).toArray):=by
 have hl:=run_firstCells_some (P:=P) w z (Nat.min sLen dLen) a sLen sCap cs hn hsrc;have hst:=run_storeCells_at P g o t cs 0 L.toArray w hg (by simpa using hfit) h1;simp only[yaU]at hst;subst hz;simp[Builtin.copy_,run_underlying hu,Builtin.lenOf,sizeOf,typeInfo,hi,hl,hst,Go.splice]
theorem a7t {ops:Array Oper} {rest:List Oper} {o:Oper} {a:Act} {Q:Exit→Act→World→Prop} (hgd:o.guard=none) (d s:Operand) (t t':TypeId)
 (ho:o.op=.call {callee:=.builtin .copy,args:=#[d,s],argTypes:=#[t,t']}) (v u:Value) (hd:a.eval d=v) (hs:a.eval s=u) {v':Value} {w':World}
 (hr:(Builtin.copy_ #[t,t'] o.type #[v,u]).run P w=.ok v' w') (h:wpList P ops Q rest (a.put o.dst v') w'):wpList P ops Q (o::rest) a w:=
 wpList_plain hgd fun _ hK=>by
  unfold Oper.wp execOp;simp only[ho,resolve,invoke,builtin,Sem.run_bind,Sem.run_pure,Result.andThen_ok,List.map_toArray,ya2,List.map_nil,hd,hs,hr];exact hK _ _ h
theorem a0f {ops:Array Oper} {o:Oper} {a:Act} {K:Act→World→Prop} {Q:Exit→Act→World→Prop} {E:Prop}
 (hg:o.guard=none) (d x:Operand) (dT sT:TypeId) (hop:o.op=Op.call {callee:=Callee.builtin Builtin.copy,args:=#[d,x],argTypes:=#[dT,sT]})
 (v u:Value) (hd:a.eval d=v) (hx:a.eval x=u) {v':Value} {w':World} (hr:(Builtin.copy_ #[dT,sT] o.type #[v,u]).run P w=.ok v' w') (hK:K (a.put o.dst v') w') :
 if Region.wanted o (yielded ops a.tmps)=true then Oper.wp P o a w K Q else E:=by
 have hw:Region.wanted o (yielded ops a.tmps)=true:=by simp[Region.wanted,hg]
 rw[yat hw];unfold Oper.wp;simp[execOp,hop,resolve,invoke,builtin,hd,hx,hr,Result.andThen];exact hK
theorem b8v {ops:Array Oper} {o:Oper} {a:Act} {K:Act→World→Prop} {Q:Exit→Act→World→Prop} {E:Prop}
 (hg:o.guard=none) (d x:Operand) (dT sT:TypeId) (hop:o.op=Op.call {callee:=Callee.builtin Builtin.append,args:=#[d,x],argTypes:=#[dT,sT]})
 (v u:Value) (hd:a.eval d=v) (hx:a.eval x=u) {v':Value} {w':World} (hr:(Builtin.append_ #[dT,sT] o.type #[v,u]).run P w=.ok v' w') (hK:K (a.put o.dst v') w') :
 if Region.wanted o (yielded ops a.tmps)=true then Oper.wp P o a w K Q else E:=by
 have hw:Region.wanted o (yielded ops a.tmps)=true:=by simp[Region.wanted,hg]
 rw[yat hw];unfold Oper.wp;simp[execOp,hop,resolve,invoke,builtin,hd,hx,hr,Result.andThen];exact hK
theorem n7 {ops:Array Oper} {rest:List Oper} {o:Oper} {a:Act} {Q:Exit→Act→World→Prop} (hgd:o.guard=none) (s x:Operand) (t tn:TypeId)
 (ho:o.op=.call {callee:=.builtin .append,args:=#[s,x],argTypes:=#[t,tn]}) (vs vx:Value) (hs:a.eval s=vs) (hx:a.eval x=vx)
 {v':Value} {w':World} (hr:(Builtin.append_ #[t,tn] o.type #[vs,vx]).run P w=.ok v' w') (h:wpList P ops Q rest (a.put o.dst v') w'):wpList P ops Q (o::rest) a w:=
 Lib.wpList_append_run w hgd s x t tn ho vs vx hs hx v' w' hr h
theorem b4p {t e ty:TypeId} {i0:TypeInfo} {z0:Value} {b o n c:Nat} {L:List Value} {tt:TypeId} (ht:P.underlying t=some (.slice e)) (hi:P.info? e=some i0) (hz:i0.zero=some z0)
 (hn:0<n) (hb:w.heap[b]?=some (.cells L.toArray tt (0,0))) (hfit:o+n*z0.cells.size≤L.length) (h1:∀v∈z0.cells,v.oneCell'=true) :
 (Builtin.clear_ #[t] ty #[.slice (some ⟨b,o,none⟩) n c]).run P w=.ok (.tuple #[]) (w.setRow b (Go.splice L o (Builtin.zeroCells z0.cells n).toList).toArray):=by
 have hl:(Builtin.zeroCells z0.cells n).toList.length=n*z0.cells.size:=by rw[yaL,Go.size_zeroCells]
 have hst:=run_storeCells_at P b o tt (Builtin.zeroCells z0.cells n).toList 0 L.toArray w hb (by rw[hl];simpa using hfit) (fun v hv=>by
  simp only[Builtin.zeroCells,Array.toList_map,ya7,Array.toList_range,List.mem_range]at hv;obtain ⟨q,hq,rfl⟩:=hv;have hp:0<z0.cells.size:=Nat.pos_of_ne_zero (fun h=>by rw[h]at hq;omega);rw[getElem!_pos z0.cells _ (Nat.mod_lt _ hp)];exact h1 _ (Array.getElem_mem _))
 simp only[yaU]at hst;obtain ⟨m,rfl⟩:∃m,n=m+1:=⟨n-1,by omega⟩
 simp only[ybd]at hst;simp[Builtin.clear_,run_underlying ht,sizeOf,typeInfo,zeroValue,hi,hz,hst,Go.splice]
theorem a0s {tS tR e:TypeId} {i0:TypeInfo} (ht:P.underlying tS=some (.slice e)) (hi:P.info? e=some i0) {a b:Addr} {la ca lb cb:Nat} (hne:a.block≠b.block)
 {va vb:Array Value} {ta tb:TypeId} {fa:Nat×Nat} (ha:w.heap[a.block]?=some (.cells va ta fa)) (ha0:0<va.size) (hb:w.heap[b.block]?=some (.cells vb tb (0,0))) (hb0:0<vb.size) :
 (Extern.SlicesOverlaps.overlaps #[tS,tS] #[tR] #[.slice (some a) la ca,.slice (some b) lb cb]).run P w=.ok (.bool false) w:=by
 have hnb:(a.block != b.block)=true:=by simpa using hne
 have hnb':(a.block==b.block)=false:=by simpa using hne
 have hsa:w.shape? a.block=some (ta,va.size):=by simp[World.shape?,ha]
 have hsb:w.shape? b.block=some (tb,vb.size):=by simp[World.shape?,hb]
 have hfb:w.frozen? b=false:=by simp[World.frozen?,hb]
 have hfb':w.frozen? {block:=b.block,off:=vb.size}=false:=by simp[World.frozen?,hb]
 change Sem.run P (α:=Value) (do
  let some t:=(#[tS,tS]:Array TypeId)[0]?|stuck "slices.overlaps: no parameter types"
  let .slice elem ←underlying t|stuck "slices.overlaps: slice type expected"
  let size ←sizeOf elem
  match (some a:Option Addr),(some b:Option Addr) with
  |some a,some b=>
   if la=0∨lb=0∨size=0 then pure (Value.bool false)
   else if a.block != b.block&&(←frozen a)&&(←frozen b) then unsupported .addressObserved
   else do
    if a.block != b.block then do
     noView a;noView b
     if ←mayBeOne a b then return Value.bool ((←choose (.extern "sameAddr.stringBytes" 2))==1)
    pure (Value.bool (a.block==b.block&&a.off<b.off+lb*size&&b.off<a.off+la*size))
  |_,_=>pure (Value.bool false)) w=_
 have hz:(Go.sizeOf e).run P w=.ok i0.size w:=by simp[sizeOf,typeInfo,hi]
 by_cases h0:la=0∨lb=0∨i0.size=0
 ·simp[run_underlying ht,hz,h0]
 ·obtain ⟨ka,hka⟩:∃k,va.size=k+1:=⟨va.size-1,by omega⟩
  obtain ⟨kb,hkb⟩:∃k,vb.size=k+1:=⟨vb.size-1,by omega⟩
  rw[hka]at hsa;rw[hkb]at hsb hfb';by_cases hfa:w.frozen? a=true
  ·simp[run_underlying ht,hz,h0,hnb,hnb',frozen,noView,viewAt,mayBeOne,stringish,shape,Sem.run,hsa,hsb,hfa,hfb,hfb']
  ·have hfa:w.frozen? a=false:=by simpa using hfa
   by_cases hfe:w.frozen? {block:=a.block,off:=ka+1}=true
   ·simp[run_underlying ht,hz,h0,hnb,hnb',frozen,noView,viewAt,mayBeOne,stringish,shape,Sem.run,hsa,hsb,hfa,hfb,hfb',hfe]
   ·have hfe:w.frozen? {block:=a.block,off:=ka+1}=false:=by simpa using hfe
    simp[run_underlying ht,hz,h0,hnb,hnb',frozen,noView,viewAt,mayBeOne,stringish,shape,Sem.run,hsa,hsb,hfa,hfb,hfb',hfe]
end
end
section
section
variable {κ:Type} {El:κ→Type} {S:Sg κ El} {P:Program}
theorem j9 {α:Type} {L new:List α} {off j:Nat} (h:off+new.length≤L.length):(Go.splice L off new)[j]?=if off≤j∧j<off+new.length then new[j-off]? else L[j]?:=by
 unfold Go.splice;rw[←ybd];exact b0a L new off j h
theorem a2t (sgk:SgOk S) {w w':World} {I J I':Nat→Nat→Prop} {v:Value} {d:D κ El} (h:DR S w I J v d) (hp:a26 d=true) (H:∀b o,I b o→w'.cell? ⟨b,o,none⟩=w.cell? ⟨b,o,none⟩∧I' b o):DR S w' I' I' v d:=
 (h.relendL sgk (J':=I) (u6 hp)).mono H H
theorem a0n (sgk:SgOk S) {k:κ} {x:El k} {j:Nat} {d:D κ El} (h:(S.enc k x)[j]?=some d):a26 d=true:=sgk.plain k x d (yah h)
theorem c2r {w:World} {I J:Nat→Nat→Prop} {v:Value} {d:D κ El} (h:DR S w I J v d) (hp:a26 d=true):v.oneCell'=true:=
 (h.lone (by cases d<;>simp_all[a26,solid])).one
structure InsOk (P:Program) (f z E:Nat):Prop where
 shift:∀{w:World} {b n c i vb vo vc:Nat} {L vs:List Value} {t:TypeId},i<n→n+1≤c→n+1≤1073741824→vb≠b→w.heap[b]?=some (.cells L.toArray t (0,0))→L.length=c*z→vs.length=z→
  (∀j v,vs[j]?=some v→w.cell? ⟨vb,vo+j,none⟩=some v)→(∀v∈(L.drop (i*z)).take ((n-i)*z),v.oneCell'=true)→(∀v∈vs,v.oneCell'=true)→
  Calls P f #[.slice (some ⟨b,0,none⟩) n c,.int .i64 i,.slice (some ⟨vb,vo,none⟩) 1 vc] w fun e w'=>
   e=.returned (.slice (some ⟨b,0,none⟩) (n+1) c)∧w'=(w.drew.setRow b (Go.splice L ((i+1)*z) ((L.drop (i*z)).take ((n-i)*z))).toArray).setRow b (Go.splice (Go.splice L ((i+1)*z) ((L.drop (i*z)).take ((n-i)*z))) (i*z) vs).toArray
 room:∀{w:World} {b n c vb vo vc:Nat} {L vs:List Value} {t:TypeId},n+1≤c→n+1≤1073741824→w.heap[b]?=some (.cells L.toArray t (0,0))→L.length=c*z→vs.length=z→
  (∀j v,vs[j]?=some v→w.cell? ⟨vb,vo+j,none⟩=some v)→(∀v∈vs,v.oneCell'=true)→
  Calls P f #[.slice (some ⟨b,0,none⟩) n c,.int .i64 n,.slice (some ⟨vb,vo,none⟩) 1 vc] w fun e w'=>
   e=.returned (.slice (some ⟨b,0,none⟩) (n+1) c)∧w'=w.setRow b (Go.splice L (n*z) vs).toArray
 new:∀{w:World} {base:Option Addr} {n c vb vo vc:Nat} {olds vs:List Value},n≤c→c<n+1→n+1≤1073741824→vs.length=z→(base=none→n=0)→olds.length=n*z→
  (∀a,base=some a→∀j v,olds[j]?=some v→w.cell? (a.add j)=some v)→(∀j v,vs[j]?=some v→w.cell? ⟨vb,vo+j,none⟩=some v)→
  Calls P f #[.slice base n c,.int .i64 n,.slice (some ⟨vb,vo,none⟩) 1 vc] w fun e w'=>
   ∃cap zs,e=.returned (.slice (some ⟨w.heap.size,0,none⟩) (n+1) cap)∧w'=w.drew.alloc (.cells (olds++(vs++zs)).toArray E)∧n+1≤cap∧zs.length=(cap-(n+1))*z
 grow:∀{w:World} {b n c i vb vo vc:Nat} {L vs:List Value} {t:TypeId},i<n→n≤c→c<n+1→n+1≤1073741824→vb≠b→w.heap[b]?=some (.cells L.toArray t (0,0))→L.length=c*z→vs.length=z→
  (∀j v,vs[j]?=some v→w.cell? ⟨vb,vo+j,none⟩=some v)→(∀v∈(L.drop (i*z)).take ((n-i)*z),v.oneCell'=true)→(∀v∈vs,v.oneCell'=true)→
  Calls P f #[.slice (some ⟨b,0,none⟩) n c,.int .i64 i,.slice (some ⟨vb,vo,none⟩) 1 vc] w fun e w'=>
   ∃cap row,e=.returned (.slice (some ⟨w.heap.size,0,none⟩) (n+1) cap)∧n+1≤cap∧row.length=cap*z∧row.take (i*z)=L.take (i*z)∧
    w'.heap=(w.heap.push (.cells (Go.splice (Go.splice row (i*z) vs) ((i+1)*z) ((L.drop (i*z)).take ((n-i)*z))).toArray E))∧w'.os=w.os∧w'.output=w.output∧w'.tape=w.tape
theorem a6w {k:κ} {xs:List (El k)} {y:El k} {i:Nat} {L vs M:List Value} {Q:Value→D κ El→Prop} (sgk:SgOk S) (hi:i≤xs.length)
 (h1:∀(i:Nat) (hi:i<xs.length) (j:Nat) (d:D κ El),(S.enc k xs[i])[j]?=some d→∃v,L[i*S.sz k+j]?=some v∧Q v d)
 (h2:∀(j:Nat) (d:D κ El),(S.enc k y)[j]?=some d→∃v,vs[j]?=some v∧Q v d)
 (m1:∀p:Nat,p<i*S.sz k→M[p]?=L[p]?) (m2:∀j:Nat,j<S.sz k→M[i*S.sz k+j]?=vs[j]?) (m3:∀p:Nat,i*S.sz k≤p→p<xs.length*S.sz k→M[p+S.sz k]?=L[p]?) :
 ∀(i':Nat) (hi':i'<(xs.take i++y::xs.drop i).length) (j:Nat) (d:D κ El),(S.enc k (xs.take i++y::xs.drop i)[i'])[j]?=some d→∃v,M[i'*S.sz k+j]?=some v∧Q v d:=by
 intro i' hi' j d hj;have hj':j<S.sz k:=by have:=(zL hj);rwa [sgk.sz]at this
 have hl:(xs.take i).length=i:=by simp;omega
 by_cases hlt:i'<i
 ·have e:(xs.take i++y::xs.drop i)[i']=xs[i']'(by omega):=by rw[ybk (by omega)];simp
  rw[e]at hj;obtain ⟨v,a,b⟩:=h1 i' (by omega) j d hj;exact ⟨v,by rw[m1 _ (a0g hj' hlt)];exact a,b⟩
 ·by_cases heq:i'=i
  ·subst heq;have e:(xs.take i'++y::xs.drop i')[i']=y:=by rw[ybg (by omega)];simp[hl]
   rw[e]at hj;obtain ⟨v,a,b⟩:=h2 j d hj;exact ⟨v,by rw[m2 j hj'];exact a,b⟩
  ·obtain ⟨p,rfl⟩:∃p,i'=p+1:=⟨i'-1,by omega⟩
   have hp:p<xs.length:=by simp at hi';omega
   have e:(xs.take i++y::xs.drop i)[p+1]=xs[p]:=by
    rw[ybg (by omega)];have e2:p+1-(xs.take i).length=(p-i)+1:=by omega
    simp only[e2,List.getElem_cons_succ,List.getElem_drop];congr 1;omega
   rw[e]at hj;obtain ⟨v,a,b⟩:=h1 p hp j d hj;refine ⟨v,?_,b⟩;have:=m3 (p*S.sz k+j) (by have:=yal (S.sz k) (show i≤p by omega);omega) (a0g hj' hp);rw[←a,←this];congr 1;rw[yaJ];omega
theorem d03 (sgk:SgOk S) {f E:Nat} {fn:Func} {code:Code} (fok:FnOk P f fn code) (hmd:S.md f=.cons) {k:κ} (W:InsOk P f (S.sz k) E)
 {xs:List (El k)} {y:El k} {i:Nat} {ds:List (D κ El)} (hi:i≤xs.length) (hlim:xs.length+1≤1073741824) (hwl:WL ds [.lst k xs,.int .i64 (i:Int),.lst k [y]]) :
 Con P S f ds [] (.lst k (xs.take i++y::xs.drop i)) []:=by
 unfold Con;rw[hmd];intro _ k' xs' ds0 hds k2 xs2 hd w I J mb v0 vs hp ho ha;subst hds;cases hd
 have hw0:=hwl.2 0 _ _ rfl rfl;cases hw0 with
 |leaf _ _ hw0=>
 cases hw0
 have ha:=WL.args (cs':=[.int .i64 (i:Int),.lst k [y]]) ⟨by simpa using hwl.1,fun q d d' h1 h2=>hwl.2 (q+1) d d' (by simpa using h1) (by simpa using h2)⟩ ha;obtain ⟨base,c,rfl,hnc,hz⟩:=ho;obtain ⟨hvs,hav⟩:=ha;obtain ⟨u1,u2,rfl⟩:∃u1 u2,vs = #[u1,u2]:=by
  simp at hvs;exact ⟨vs[0],vs[1],by
   apply Array.ext
   ·simp[hvs]
   ·intro j h1 h2;simp at h2;rcases (show j=0∨j=1 by omega) with rfl|rfl<;>rfl⟩
 have hu1:u1=.int .i64 i:=(hav 0 u1 _ rfl rfl).int_inv;have hu2:=hav 1 u2 _ rfl rfl;subst hu1;obtain ⟨n,hn⟩:∃n,n=xs.length:=⟨_,rfl⟩
 have hpos:=sgk.pos k;cases hu2 with
 |lst vb vo vc _ _ cv hvcap hvc hvv=>
 obtain ⟨us,hus⟩:∃us,us=(List.range (S.sz k)).map (cv 0):=⟨_,rfl⟩
 have husl:us.length=S.sz k:=by rw[hus];simp
 have hug:∀j,j<S.sz k→us[j]?=some (cv 0 j):=fun j hj=>by rw[hus];simp[hj]
 have huc:∀j v,us[j]?=some v→w.cell? ⟨vb,vo+j,none⟩=some v:=fun j v hj=>by
  have hlt:=(zL hj)
  rw[husl]at hlt;rw[hug j hlt]at hj;cases hj
  have:=(hvc 0 j (by simp) hlt).1;simpa using this
 have huI:∀j,j<S.sz k→I vb (vo+j):=fun j hlt=>by have:=(hvc 0 j (by simp) hlt).2;simpa using this
 have hud:∀j d,(S.enc k y)[j]?=some d→∃v,us[j]?=some v∧DR S w I J v d:=fun j d hj=>by
  have hlt:=(zL hj)
  rw[sgk.sz]at hlt;exact ⟨_,hug j hlt,hvv 0 (by simp) j d hj⟩
 have hu1c:∀v∈us,v.oneCell'=true:=fun v hv=>by
  obtain ⟨j,hj⟩:=ybm hv;have hlt:=(zL hj)
  have hlt':j<(S.enc k y).length:=by rw[sgk.sz,←husl];exact hlt
  obtain ⟨v',e1,e2⟩:=hud j _ (yaa hlt');rw[hj]at e1;cases e1
  exact c2r e2 (sgk.plain k y _ (ybr hlt'))
 have hIw:∀b o,I b o→b<w.heap.size:=hp.ib;have hres:(xs.take i++y::xs.drop i).length=n+1:=by simp;omega
 unfold p8;rw[MuLone.run_callFunc_enter fok.at_ fok.name fok.body _ w];simp only;show Calls P f #[.slice base xs.length c,.int .i64 (i:Int),.slice (some ⟨vb,vo,none⟩) 1 vc] w _
 rcases hz with ⟨rfl,rfl⟩|⟨b,vals,t,rfl,rfl,hb,hvsz,hel⟩
 ·have hx0:xs=[]:=yaq (by omega);subst hx0;have hi0:i=0:=by simpa using hi
  subst hi0;have hnew:=W.new (w:=w) (base:=base) (n:=0) (c:=0) (vb:=vb) (vo:=vo) (vc:=vc) (olds:=[]) (vs:=us) (by omega) (by omega) (by omega) husl (fun _=>rfl) (by simp) (fun a _ j v hj=>by simp at hj) huc;refine hnew.mono (fun e w' he=>?_);obtain ⟨cap,zs,rfl,rfl,hcap,hzl⟩:=he;refine ⟨I,⟨by rw[World.size_alloc];show w.heap.size≤w.heap.size+1;omega,rfl,rfl,rfl,fun q hq _=>?_,fun _ _ h=>h,fun _ _ h=>.inl h,fun q o h=>by have:=hIw q o h;rw[World.size_alloc];show q<w.heap.size+1;omega⟩,
   some ⟨w.heap.size,0,none⟩,cap,by simp,by simp;omega,.inr ⟨w.heap.size,_,E,rfl,a0i w.drew _,?_,.inl (yan _),fun o h=>absurd (hIw _ _ h) (by omega),?_⟩⟩
  ·simp only[World.alloc];rw[ybz,yam (by show ¬q=w.heap.size;omega)];rfl
  ·simp[husl,hzl];obtain ⟨q,rfl⟩:∃q,cap=q+1:=⟨cap-1,by omega⟩
   rw[Nat.add_sub_cancel,yaJ];omega
  ·intro i' hi' j d hj;have:=a6w (L:=[]) (vs:=us) (M:=us++zs) (Q:=fun v d=>DR S (w.drew.alloc (.cells ([]++(us++zs)).toArray E)) I I v d) sgk (i:=0) (xs:=[]) (y:=y) (by simp) (fun i hi=>absurd hi (by simp))
    (fun j d hj=>by
     obtain ⟨v,a,b⟩:=hud j d hj;exact ⟨v,a,a2t sgk b (a0n sgk hj) (fun q o h=>⟨by
      have:=hIw q o h;simp only[World.cell?,World.alloc];rw[ybz,yam (by show ¬q=w.heap.size;omega)];rfl,h⟩)⟩)
    (fun p hp=>absurd hp (by omega)) (fun j hj=>by rw[Nat.zero_mul,yaK,yap (by omega)]) (fun p _ hp=>by simp at hp) i' hi' j d hj
   simpa using this
 ·have hbw:b<w.heap.size:=(yac.1 hb).1;have hbI:∀o,¬I b o:=fun o h=>(hp.jb b o (hp.ij b o h)).2 (by simp)
  have hne:vb≠b:=fun e=>by subst e;exact hbI _ (huI 0 hpos)
  obtain ⟨L,hL⟩:∃L,L=vals.toList:=⟨_,rfl⟩
  have hLa:vals=L.toArray:=by rw[hL]
  have hLl:L.length=c*S.sz k:=by rw[hL];simpa using hvsz
  rw[hLa]at hb;have hel':∀i (hi:i<xs.length) j d,(S.enc k xs[i])[j]?=some d→∃v,L[i*S.sz k+j]?=some v∧DR S w I J v d:=fun i hi j d hj=>by
   obtain ⟨v,a,e⟩:=hel i hi j d hj;exact ⟨v,by rw[hL];simpa using a,e⟩
  have hnL:n*S.sz k≤L.length:=by rw[hLl];exact yal _ (by omega)
  have hone:∀v∈L.take (n*S.sz k),v.oneCell'=true:=fun v hv=>by
   obtain ⟨p,hp'⟩:=ybm hv;have hlt:=(zL hp')
   simp only[ya1]at hlt;have h1:p / S.sz k<n:=(Nat.div_lt_iff_lt_mul hpos).2 (by omega);have h2:=Nat.mod_lt p hpos;have h3:p % S.sz k<(S.enc k (xs[p / S.sz k]'(by omega))).length:=by rw[sgk.sz];exact h2
   obtain ⟨v',a,e⟩:=hel' (p / S.sz k) (by omega) _ _ (yaa h3);rw[Nat.div_add_mod']at a;rw[yar,yat (by omega),a]at hp';cases hp'
   exact c2r e (sgk.plain k _ _ (ybr h3))
  have hC1:(L.drop (i*S.sz k)).take ((n-i)*S.sz k)=(L.take (n*S.sz k)).drop (i*S.sz k):=by
   rw[List.drop_take];congr 1;rw[Nat.sub_mul]
  have hone1:∀v∈(L.drop (i*S.sz k)).take ((n-i)*S.sz k),v.oneCell'=true:=fun v hv=>hone v (by rw[hC1]at hv;exact List.mem_of_mem_drop hv)
  have hin:i*S.sz k≤n*S.sz k:=yal _ (by omega);have hi1:(i+1)*S.sz k=i*S.sz k+S.sz k:=by rw[yaJ,ybI]
  have hn1:(n+1)*S.sz k=n*S.sz k+S.sz k:=by rw[yaJ,ybI]
  obtain ⟨C1,hC⟩:∃C1,C1=(L.drop (i*S.sz k)).take ((n-i)*S.sz k):=⟨_,rfl⟩
  have hC1l:C1.length=n*S.sz k-i*S.sz k:=by rw[hC,hC1];simp;omega
  have hC1g:∀q,q<n*S.sz k-i*S.sz k→C1[q]?=L[i*S.sz k+q]?:=fun q hq=>by rw[hC,hC1,ybt,yar,yat (by omega)]
  have inpl:∀(M:List Value) (w':World),M.length=L.length→(w'=w.setRow b M.toArray∨∃M0:Array Value,w'=(w.drew.setRow b M0).setRow b M.toArray)→n+1≤c→
   (∀p:Nat,p<i*S.sz k→M[p]?=L[p]?)→(∀j:Nat,j<S.sz k→M[i*S.sz k+j]?=us[j]?)→(∀p:Nat,i*S.sz k≤p→p<xs.length*S.sz k→M[p+S.sz k]?=L[p]?)→
   ∃I',GrowM [b] w w' I I'∧e0m S w' I' w.heap.size [b] k (xs.take i++y::xs.drop i) (.slice (some ⟨b,0,none⟩) (n+1) c):=by
   intro M w' hMl hw' hroom m1 m2 m3;have hheap:w'.heap[b]?=some (.cells M.toArray t (0,0)):=by
    rcases hw' with rfl|⟨M0,rfl⟩
    ·exact setRow_heap _ _ _ _ _ _ hb
    ·exact setRow_heap _ _ _ _ _ _ (setRow_heap w.drew _ _ _ _ _ hb)
   have hoth:∀q,q≠b→w'.heap[q]?=w.heap[q]?:=fun q hq=>by
    rcases hw' with rfl|⟨M0,rfl⟩
    ·exact setRow_other _ _ _ _ hq
    ·rw[setRow_other _ _ _ _ hq,setRow_other _ _ _ _ hq];rfl
   have hsz:w'.heap.size=w.heap.size:=by
    rcases hw' with rfl|⟨M0,rfl⟩<;>simp only[setRow_size]<;>rfl
   refine ⟨I,⟨by omega,by rcases hw' with rfl|⟨M0,rfl⟩<;>rfl,by rcases hw' with rfl|⟨M0,rfl⟩<;>rfl,by rcases hw' with rfl|⟨M0,rfl⟩<;>rfl,fun q hq hm=>hoth q (by simpa using hm),fun _ _ h=>h,fun _ _ h=>.inl h,fun q o h=>by have:=hIw q o h;omega⟩,
    some ⟨b,0,none⟩,c,by rw[hres],by omega,.inr ⟨b,_,t,rfl,hheap,by simp[hMl,hLl],.inr (by simp),hbI,?_⟩⟩
   intro i' hi' j d hj;have:=a6w (L:=L) (vs:=us) (M:=M) (Q:=fun v d=>DR S w' I I v d) sgk (by omega)
    (fun i hi j d hj=>by
     obtain ⟨v,a,e⟩:=hel' i hi j d hj;exact ⟨v,a,a2t sgk e (a0n sgk hj) (fun q o h=>⟨by simp only[World.cell?];rw[hoth q (fun e=>by subst e;exact hbI o h)],h⟩)⟩)
    (fun j d hj=>by
     obtain ⟨v,a,e⟩:=hud j d hj;exact ⟨v,a,a2t sgk e (a0n sgk hj) (fun q o h=>⟨by simp only[World.cell?];rw[hoth q (fun e=>by subst e;exact hbI o h)],h⟩)⟩) m1 m2 m3 i' hi' j d hj
   simpa using this
  have newb:∀(M:List Value) (cap:Nat) (w':World),M.length=cap*S.sz k→w'.heap=w.heap.push (.cells M.toArray E)→w'.os=w.os→w'.output=w.output→w'.tape=w.tape→n+1≤cap→
   (∀p:Nat,p<i*S.sz k→M[p]?=L[p]?)→(∀j:Nat,j<S.sz k→M[i*S.sz k+j]?=us[j]?)→(∀p:Nat,i*S.sz k≤p→p<xs.length*S.sz k→M[p+S.sz k]?=L[p]?)→
   ∃I',GrowM [b] w w' I I'∧e0m S w' I' w.heap.size [b] k (xs.take i++y::xs.drop i) (.slice (some ⟨w.heap.size,0,none⟩) (n+1) cap):=by
   intro M cap w' hMl hheap h1 h2 h3 hcap m1 m2 m3;have hoth:∀q,q<w.heap.size→w'.heap[q]?=w.heap[q]?:=fun q hq=>by rw[hheap,ybz,yam (by omega)]
   refine ⟨I,⟨by rw[hheap];simp,h1,h2,h3,fun q hq _=>hoth q hq,fun _ _ h=>h,fun _ _ h=>.inl h,fun q o h=>by have:=hIw q o h;rw[hheap];simp;omega⟩,
    some ⟨w.heap.size,0,none⟩,cap,by rw[hres],by omega,.inr ⟨w.heap.size,_,E,rfl,by rw[hheap];exact Array.getElem?_push_size,by simp[hMl],.inl (yan _),fun o h=>absurd (hIw _ _ h) (by omega),?_⟩⟩
   intro i' hi' j d hj;have:=a6w (L:=L) (vs:=us) (M:=M) (Q:=fun v d=>DR S w' I I v d) sgk (by omega)
    (fun i hi j d hj=>by
     obtain ⟨v,a,e⟩:=hel' i hi j d hj;exact ⟨v,a,a2t sgk e (a0n sgk hj) (fun q o h=>⟨by simp only[World.cell?];rw[hoth q (hIw q o h)],h⟩)⟩)
    (fun j d hj=>by
     obtain ⟨v,a,e⟩:=hud j d hj;exact ⟨v,a,a2t sgk e (a0n sgk hj) (fun q o h=>⟨by simp only[World.cell?];rw[hoth q (hIw q o h)],h⟩)⟩) m1 m2 m3 i' hi' j d hj
   simpa using this
  rw[←hn]at hi hlim hnc ⊢;by_cases hroom:n+1≤c
  ·have hn1c:(n+1)*S.sz k≤L.length:=by rw[hLl];exact yal _ hroom
   by_cases hlt:i<n
   ·refine (W.shift (vc:=vc) hlt hroom hlim hne hb hLl husl huc hone1 hu1c).mono (fun e w' he=>?_);obtain ⟨rfl,rfl⟩:=he;rw[←hC];have l1:(Go.splice L ((i+1)*S.sz k) C1).length=L.length:=length_splice _ _ _ (by omega);refine inpl _ _ ?_ (.inr ⟨_,rfl⟩) hroom ?_ ?_ ?_
    ·rw[length_splice _ _ _ (by omega),l1]
    ·intro p hp';rw[j9 (by omega),yam (by omega),j9 (by omega),yam (by omega)]
    ·intro j hj;rw[j9 (by omega),yat (by omega)];congr 1;omega
    ·intro p h1 h2;rw[←hn]at h2;rw[j9 (by omega),yam (by omega),j9 (by omega),yat (by omega),hC1g _ (by omega)];congr 1;omega
   ·have hie:i=n:=by omega
    subst hie;refine (W.room (vc:=vc) hroom hlim hb hLl husl huc hu1c).mono (fun e w' he=>?_);obtain ⟨rfl,rfl⟩:=he;refine inpl _ _ (length_splice _ _ _ (by omega)) (.inl rfl) hroom ?_ ?_ ?_
    ·intro p hp';rw[j9 (by omega),yam (by omega)]
    ·intro j hj;rw[j9 (by omega),yat (by omega)];congr 1;omega
    ·intro p h1 h2;rw[←hn]at h2;omega
  ·by_cases hlt:i<n
   ·refine (W.grow (vc:=vc) hlt hnc (by omega) hlim hne hb hLl husl huc hone1 hu1c).mono (fun e w' he=>?_);obtain ⟨cap,row,rfl,hcap,hrl,hrt,hheap,q1,q2,q3⟩:=he;rw[←hC]at hheap;have hrl':(n+1)*S.sz k≤row.length:=by rw[hrl];exact yal _ hcap
    have l1:(Go.splice row (i*S.sz k) us).length=row.length:=length_splice _ _ _ (by omega);refine newb _ cap w' ?_ hheap q1 q2 q3 hcap ?_ ?_ ?_
    ·rw[length_splice _ _ _ (by omega),l1,hrl]
    ·intro p hp';rw[j9 (by omega),yam (by omega),j9 (by omega),yam (by omega)];have e1:(row.take (i*S.sz k))[p]?=row[p]?:=by rw[yar,yat hp']
     have e2:(L.take (i*S.sz k))[p]?=L[p]?:=by rw[yar,yat hp']
     rw[←e1,hrt,e2]
    ·intro j hj;rw[j9 (by omega),yam (by omega),j9 (by omega),yat (by omega)];congr 1;omega
    ·intro p h1 h2;rw[←hn]at h2;rw[j9 (by omega),yat (by omega),hC1g _ (by omega)];congr 1;omega
   ·have hie:i=n:=by omega
    subst hie;refine (W.new (base:=some ⟨b,0,none⟩) (vc:=vc) (olds:=L.take (i*S.sz k)) hnc (by omega) hlim husl (fun h=>by cases h) (by simp;omega) (fun a ha j v hj=>?_) huc).mono (fun e w' he=>?_)
    ·cases ha
     rw[yar]at hj;split at hj
     ·rw[n9,yaK];simp only[World.cell?,hb];simpa using hj
     ·cases hj
    ·obtain ⟨cap,zs,rfl,rfl,hcap,hzl⟩:=he;obtain ⟨q,rfl⟩:∃q,cap=q+(i+1):=⟨cap-(i+1),by omega⟩
     rw[Nat.add_sub_cancel]at hzl;have hTl:(L.take (i*S.sz k)).length=i*S.sz k:=by simp;omega
     refine newb _ (q+(i+1)) _ ?_ rfl rfl rfl rfl hcap ?_ ?_ ?_
     ·simp only[yaD,hTl,husl,hzl];rw[yaJ,hi1];omega
     ·intro p hp';rw[yap (by omega),yar,yat hp']
     ·intro j hj;rw[yau (by omega),yap (by omega)];congr 1;omega
     ·intro p h1 h2;rw[←hn]at h2;omega
theorem a9h (sgk:SgOk S) {f E:Nat} {fn:Func} {code:Code} (fok:FnOk P f fn code) (hmd:S.md f=.cons) {k:κ} (W:InsOk P f (S.sz k) E)
 {xs vs r:List (El k)} {i:Int} {ds:List (D κ El)} (hwl:WL ds [.lst k xs,.int .i64 i,.lst k vs]) (hr:a6x xs i vs=some r):Con P S f ds [] (.lst k r) []:=by
 unfold a6x at hr;split at hr
 ·rename_i y;rw[b9]at hr;split at hr
  ·rename_i h;simp only[yab,yaf]at h;cases hr
   obtain ⟨n,rfl⟩:=Int.eq_ofNat_of_zero_le h.1.1;exact d03 sgk fok hmd W (i:=n) (by omega) h.2 hwl
  ·cases hr
 ·cases hr
end
end
section
section
variable {κ:Type} {El:κ→Type} {S:Sg κ El} {P:Program}
structure DelOk (P:Program) (f z:Nat):Prop where
 non:∀{w:World} {base:Option Addr} {n c i:Nat},n≤c→i≤n→Calls P f #[.slice base n c,.int .i64 i,.int .i64 i] w fun e w'=>e=.returned (.slice base n c)∧w'=w
 som:∀{w:World} {b n c i j:Nat} {L:List Value} {t:TypeId},i<j→j≤n→n≤c→w.heap[b]?=some (.cells L.toArray t (0,0))→L.length=c*z→(∀v∈(L.drop (j*z)).take ((n-j)*z),v.oneCell'=true)→
  Calls P f #[.slice (some ⟨b,0,none⟩) n c,.int .i64 i,.int .i64 j] w fun e w'=>
   e=.returned (.slice (some ⟨b,0,none⟩) (i+(n-j)) c)∧∃(M0:Array Value) (zs:List Value),zs.length=(j-i)*z∧w'=(w.drew.setRow b M0).setRow b (Go.splice (Go.splice L (i*z) ((L.drop (j*z)).take ((n-j)*z))) ((i+(n-j))*z) zs).toArray
theorem d02 (sgk:SgOk S) {f:Nat} {fn:Func} {code:Code} (fok:FnOk P f fn code) (hmd:S.md f=.cons) {k:κ} (W:DelOk P f (S.sz k))
 {xs:List (El k)} {i j:Nat} {ds:List (D κ El)} (hij:i≤j) (hj:j≤xs.length) (hwl:WL ds [.lst k xs,.int .i64 (i:Int),.int .i64 (j:Int)]) :
 Con P S f ds [] (.lst k (xs.take i++xs.drop j)) []:=by
 unfold Con;rw[hmd];intro _ k' xs' ds0 hds k2 xs2 hd w I J mb v0 vs hp ho ha;subst hds;cases hd
 have hw0:=hwl.2 0 _ _ rfl rfl;cases hw0 with
 |leaf _ _ hw0=>
 cases hw0
 have ha:=WL.args (cs':=[.int .i64 (i:Int),.int .i64 (j:Int)]) ⟨by simpa using hwl.1,fun q d d' h1 h2=>hwl.2 (q+1) d d' (by simpa using h1) (by simpa using h2)⟩ ha;obtain ⟨base,c,rfl,hnc,hz⟩:=ho;obtain ⟨hvs,hav⟩:=ha;obtain ⟨u1,u2,rfl⟩:∃u1 u2,vs = #[u1,u2]:=by
  simp at hvs;exact ⟨vs[0],vs[1],by
   apply Array.ext
   ·simp[hvs]
   ·intro j h1 h2;simp at h2;rcases (show j=0∨j=1 by omega) with rfl|rfl<;>rfl⟩
 have hu1:u1=.int .i64 i:=(hav 0 u1 _ rfl rfl).int_inv;have hu2:u2=.int .i64 j:=(hav 1 u2 _ rfl rfl).int_inv;subst hu1 hu2;obtain ⟨n,hn⟩:∃n,n=xs.length:=⟨_,rfl⟩
 have hpos:=sgk.pos k;have hIw:∀b o,I b o→b<w.heap.size:=hp.ib;have hres:(xs.take i++xs.drop j).length=i+(n-j):=by simp;omega
 unfold p8;rw[MuLone.run_callFunc_enter fok.at_ fok.name fok.body _ w];simp only;show Calls P f #[.slice base xs.length c,.int .i64 (i:Int),.int .i64 (j:Int)] w _
 by_cases heq:i=j
 ·subst heq;refine (W.non hnc hj).mono (fun e w' he=>?_);obtain ⟨rfl,rfl⟩:=he;have e:xs.take i++xs.drop i=xs:=by simp
  rw[e];refine ⟨I,⟨yan _,rfl,rfl,rfl,fun _ _ _=>rfl,fun _ _ h=>h,fun _ _ h=>.inl h,hIw⟩,base,c,rfl,hnc,?_⟩;rcases hz with ⟨h,_⟩|⟨b,vals,t,rfl,rfl,hb,hvsz,hel⟩
  ·exact .inl h
  ·have hbI:∀o,¬I b o:=fun o h=>(hp.jb b o (hp.ij b o h)).2 (by simp)
   refine .inr ⟨b,vals,t,rfl,hb,hvsz,.inr (by simp),hbI,fun q hq j d hj=>?_⟩;obtain ⟨v,a,e⟩:=hel q hq j d hj;exact ⟨v,a,a2t sgk e (a0n sgk hj) (fun _ _ h=>⟨rfl,h⟩)⟩
 ·have hlt:i<j:=by omega
  rcases hz with ⟨rfl,rfl⟩|⟨b,vals,t,rfl,rfl,hb,hvsz,hel⟩
  ·exfalso;omega
  ·have hbw:b<w.heap.size:=(yac.1 hb).1;have hbI:∀o,¬I b o:=fun o h=>(hp.jb b o (hp.ij b o h)).2 (by simp)
   obtain ⟨L,hL⟩:∃L,L=vals.toList:=⟨_,rfl⟩
   have hLa:vals=L.toArray:=by rw[hL]
   have hLl:L.length=c*S.sz k:=by rw[hL];simpa using hvsz
   rw[hLa]at hb;have hel':∀i (hi:i<xs.length) j d,(S.enc k xs[i])[j]?=some d→∃v,L[i*S.sz k+j]?=some v∧DR S w I J v d:=fun i hi j d hj=>by
    obtain ⟨v,a,e⟩:=hel i hi j d hj;exact ⟨v,by rw[hL];simpa using a,e⟩
   have hnL:n*S.sz k≤L.length:=by rw[hLl];exact yal _ (by omega)
   have hone:∀v∈L.take (n*S.sz k),v.oneCell'=true:=fun v hv=>by
    obtain ⟨p,hp'⟩:=ybm hv;have hlt:=(zL hp')
    simp only[ya1]at hlt;have h1:p / S.sz k<n:=(Nat.div_lt_iff_lt_mul hpos).2 (by omega);have h2:=Nat.mod_lt p hpos;have h3:p % S.sz k<(S.enc k (xs[p / S.sz k]'(by omega))).length:=by rw[sgk.sz];exact h2
    obtain ⟨v',a,e⟩:=hel' (p / S.sz k) (by omega) _ _ (yaa h3);rw[Nat.div_add_mod']at a;rw[yar,yat (by omega),a]at hp';cases hp'
    exact c2r e (sgk.plain k _ _ (ybr h3))
   have hjn:j*S.sz k≤n*S.sz k:=yal _ (by omega);have hC1:(L.drop (j*S.sz k)).take ((n-j)*S.sz k)=(L.take (n*S.sz k)).drop (j*S.sz k):=by
    rw[List.drop_take];congr 1;rw[Nat.sub_mul]
   have hone1:∀v∈(L.drop (j*S.sz k)).take ((n-j)*S.sz k),v.oneCell'=true:=fun v hv=>hone v (by rw[hC1]at hv;exact List.mem_of_mem_drop hv)
   obtain ⟨C1,hC⟩:∃C1,C1=(L.drop (j*S.sz k)).take ((n-j)*S.sz k):=⟨_,rfl⟩
   have hC1l:C1.length=n*S.sz k-j*S.sz k:=by rw[hC,hC1];simp;omega
   have hC1g:∀q,q<n*S.sz k-j*S.sz k→C1[q]?=L[j*S.sz k+q]?:=fun q hq=>by rw[hC,hC1,ybt,yar,yat (by omega)]
   have hij':i*S.sz k≤j*S.sz k:=yal _ (by omega);have hm:(i+(n-j))*S.sz k=i*S.sz k+(n*S.sz k-j*S.sz k):=by rw[yaJ,Nat.sub_mul]
   have hz2:(j-i)*S.sz k=j*S.sz k-i*S.sz k:=by rw[Nat.sub_mul]
   refine (W.som hlt hj hnc hb hLl (by rw[←hn];exact hone1)).mono (fun e w' he=>?_);obtain ⟨rfl,M0,zs,hzl,rfl⟩:=he;rw[←hn,←hC];have l1:(Go.splice L (i*S.sz k) C1).length=L.length:=length_splice _ _ _ (by omega);have l2:(Go.splice (Go.splice L (i*S.sz k) C1) ((i+(n-j))*S.sz k) zs).length=L.length:=by rw[length_splice _ _ _ (by omega),l1]
   generalize hM:Go.splice (Go.splice L (i*S.sz k) C1) ((i+(n-j))*S.sz k) zs=M at l2 ⊢;have hMg:∀p,p<(i+(n-j))*S.sz k→M[p]?=if p<i*S.sz k then L[p]? else L[p+(j*S.sz k-i*S.sz k)]?:=fun p hp=>by
    rw[←hM,j9 (by omega),yam (by omega),j9 (by omega)];by_cases h:p<i*S.sz k
    ·rw[yam (by omega),yat h]
    ·rw[yat (by omega),yam h,hC1g _ (by omega)];congr 1;omega
   have hheap:((w.drew.setRow b M0).setRow b M.toArray).heap[b]?=some (.cells M.toArray t (0,0)):=setRow_heap _ _ _ _ _ _ (setRow_heap w.drew _ _ _ _ _ hb);have hoth:∀q,q≠b→((w.drew.setRow b M0).setRow b M.toArray).heap[q]?=w.heap[q]?:=fun q hq=>by rw[setRow_other _ _ _ _ hq,setRow_other _ _ _ _ hq];rfl
   have hsz:((w.drew.setRow b M0).setRow b M.toArray).heap.size=w.heap.size:=by simp only[setRow_size];rfl
   refine ⟨I,⟨by omega,rfl,rfl,rfl,fun q hq hm=>hoth q (by simpa using hm),fun _ _ h=>h,fun _ _ h=>.inl h,fun q o h=>by have:=hIw q o h;omega⟩,
    some ⟨b,0,none⟩,c,by rw[hres],by omega,.inr ⟨b,_,t,rfl,hheap,by simp[l2,hLl],.inr (by simp),hbI,?_⟩⟩
   intro q hq s d hs;have hs':s<S.sz k:=by have:=(zL hs);rwa [sgk.sz]at this
   rw[hres]at hq;have hlt2:=a0g hs' hq;by_cases hqi:q<i
   ·have e:(xs.take i++xs.drop j)[q]'(by omega)=xs[q]'(by omega):=by rw[ybk (by simp;omega)];simp
    rw[e]at hs;obtain ⟨v,a,e2⟩:=hel' q (by omega) s d hs;refine ⟨v,?_,a2t sgk e2 (a0n sgk hs) (fun q o h=>⟨by simp only[World.cell?];rw[hoth q (fun e=>by subst e;exact hbI o h)],h⟩)⟩;rw[←a,ya6,hMg _ hlt2,yat (a0g hs' hqi)]
   ·have e:(xs.take i++xs.drop j)[q]'(by omega)=xs[q+(j-i)]'(by omega):=by
     have hl:(xs.take i).length=i:=by simp;omega
     rw[ybg (by omega)];simp only[hl,List.getElem_drop];congr 1;omega
    rw[e]at hs;obtain ⟨v,a,e2⟩:=hel' (q+(j-i)) (by omega) s d hs;refine ⟨v,?_,a2t sgk e2 (a0n sgk hs) (fun q o h=>⟨by simp only[World.cell?];rw[hoth q (fun e=>by subst e;exact hbI o h)],h⟩)⟩;have hqz:i*S.sz k≤q*S.sz k:=yal _ (by omega);rw[←a,ya6,hMg _ hlt2,yam (by omega)];congr 1;rw[yaJ,hz2];omega
theorem c5n (sgk:SgOk S) {f:Nat} {fn:Func} {code:Code} (fok:FnOk P f fn code) (hmd:S.md f=.cons) {k:κ} (W:DelOk P f (S.sz k))
 {xs r:List (El k)} {i j:Int} {ds:List (D κ El)} (hwl:WL ds [.lst k xs,.int .i64 i,.int .i64 j]) (hr:b3m xs i j=some r):Con P S f ds [] (.lst k r) []:=by
 unfold b3m at hr;rw[b9]at hr;split at hr
 ·rename_i h;simp only[yab,yaf]at h;cases hr
  obtain ⟨n,rfl⟩:=Int.eq_ofNat_of_zero_le h.1.1.1;obtain ⟨m,rfl⟩:=Int.eq_ofNat_of_zero_le (Int.le_trans h.1.1.1 h.1.1.2);exact d02 sgk fok hmd W (i:=n) (j:=m) (by omega) (by omega) hwl
 ·cases hr
end
end
section
def b9v (c:Nat):Bool:=decide (c<32)||(decide (127≤c)&&decide (c≤159))||decide (65535<c)
theorem a3c {c:Nat}:b9v c=true↔c<32∨(127≤c∧c≤159)∨65535<c:=by
 unfold b9v;simp only[yaW,yab,yaf];omega
set_option maxHeartbeats 2000000 in
theorem a8j {l:List UInt8} (hl:l≠[]):dcd l=if ((Lib.decodeL l).1=65533∧(Lib.decodeL l).2=1)∨b9v (Lib.decodeL l).1=true then (0,0) else Lib.decodeL l:=by
 cases l with
 |nil=>exact absurd rfl hl
 |cons a r=>
  rw[Lib.decodeL_N];have ha:=a.toNat_lt;simp only[a3c];rcases r with _|⟨b,_|⟨c,_|⟨d,r⟩⟩⟩
  ·simp only[List.getD_cons_zero,List.getD_cons_succ,List.getD_nil,yaC,yaA];obtain ⟨X,hX⟩:∃X,Lib.decodeN (0+1) a.toNat (0:UInt8).toNat (0:UInt8).toNat (0:UInt8).toNat=X:=⟨_,rfl⟩
   rw[hX];unfold Lib.decodeN at hX;unfold dcd;dsimp only;split at hX
   ·subst hX
    repeat' split
    all_goals first|with_reducible rfl|(exfalso;omega)
   ·rw[yam (by omega),yam (by omega),yam (by omega)]at hX;subst hX
    repeat' split
    all_goals first|with_reducible rfl|(exfalso;omega)
  ·simp only[List.getD_cons_zero,List.getD_cons_succ,List.getD_nil,yaC,yaA];have hb:=b.toNat_lt;obtain ⟨X,hX⟩:∃X,Lib.decodeN (0+1+1) a.toNat b.toNat (0:UInt8).toNat (0:UInt8).toNat=X:=⟨_,rfl⟩
   rw[hX];unfold Lib.decodeN at hX;unfold dcd;dsimp only
   repeat' split at hX
   all_goals subst hX
   all_goals dsimp only
   all_goals repeat' split
   all_goals first|with_reducible rfl|(exfalso;omega)|(simp only[yaV,and_true];omega)
  ·simp only[List.getD_cons_zero,List.getD_cons_succ,List.getD_nil,yaC,yaA];have hb:=b.toNat_lt;have hc:=c.toNat_lt;obtain ⟨X,hX⟩:∃X,Lib.decodeN (0+1+1+1) a.toNat b.toNat c.toNat (0:UInt8).toNat=X:=⟨_,rfl⟩
   rw[hX];unfold Lib.decodeN at hX;unfold dcd;dsimp only
   repeat' split at hX
   all_goals subst hX
   all_goals dsimp only
   all_goals repeat' split
   all_goals first|with_reducible rfl|(exfalso;omega)|(simp only[yaV,and_true];omega)
  ·simp only[List.getD_cons_zero,List.getD_cons_succ,List.getD_nil,yaC,yaA];have hb:=b.toNat_lt;have hc:=c.toNat_lt;have hd:=d.toNat_lt;obtain ⟨X,hX⟩:∃X,Lib.decodeN (r.length+1+1+1+1) a.toNat b.toNat c.toNat d.toNat=X:=⟨_,rfl⟩
   rw[hX];unfold Lib.decodeN at hX;unfold dcd;dsimp only
   repeat' split at hX
   all_goals subst hX
   all_goals dsimp only
   all_goals repeat' split
   all_goals first|with_reducible rfl|(exfalso;omega)|(simp only[yaV,and_true];omega)
def okN:Nat→List UInt8→Bool
 |0,_=>true
 |n+1,l=>if l=[] then true else if b9v (Lib.decodeL l).1 then false else okN n (l.drop (Lib.decodeL l).2)
theorem a18 {l:List UInt8} (hl:l≠[]):1≤(Lib.decodeL l).2∧(Lib.decodeL l).2≤l.length:=by
 cases l with
 |nil=>exact absurd rfl hl
 |cons a r=>
  rw[Lib.decodeL_N];unfold Lib.decodeN;have:1≤(a::r).length:=by simp
  repeat' split
  all_goals simp only
  all_goals omega
theorem d5d:∀(n:Nat) (l:List UInt8),b80 n l=(Lib.validGoD n l&&okN n l):=by
 intro n
 induction n with
 |zero=>intro l;rfl
 |succ n ih=>
  intro l;simp only[b80,Lib.validGoD,okN];by_cases hl:l=[]
  ·simp[hl]
  ·simp only[hl,ya5];rw[a8j hl];by_cases h1:(Lib.decodeL l).1=65533∧(Lib.decodeL l).2=1
   ·simp[h1]
   ·by_cases h2:b9v (Lib.decodeL l).1=true
    ·simp[h2]
    ·have:=a18 hl;have hne:¬(((Lib.decodeL l).1=65533∧(Lib.decodeL l).2=1)∨b9v (Lib.decodeL l).1=true):=fun h=>h.elim h1 h2
     rw[yam hne,yam (show ¬(Lib.decodeL l).2=0 by omega),yam h1,yam h2];exact ih _
theorem c69:∀(n m:Nat) (l:List UInt8),l.length≤n→l.length≤m→okN n l=okN m l:=by
 intro n
 induction n with
 |zero=>intro m l h1 h2;have:l=[]:=ya3.1 (by omega);subst this;cases m<;>simp[okN]
 |succ n ih=>
  intro m l h1 h2;by_cases hl:l=[]
  ·subst hl;cases m<;>simp[okN]
  ·have hp:=a18 hl;have:0<l.length:=List.length_pos_iff.2 hl;obtain ⟨m,rfl⟩:∃k,m=k+1:=⟨m-1,by omega⟩
   simp only[okN,hl,ya5];split
   ·rfl
   ·exact ih m _ (by rw[yaX];omega) (by rw[yaX];omega)
theorem c1b (xs:List (List UInt8)) (y sep:List UInt8):Lib.join (xs++[y]) sep=if xs=[] then y else Lib.join xs sep++(sep++y):=by
 cases xs with
 |nil=>simp[Lib.join_one]
 |cons x xs=>
  rw[List.cons_append,Lib.join_cons,Lib.join_cons];simp[Lib.joinTail]
def pcs (l:List UInt8) (acc:List (Nat×Nat)):List (List UInt8):=acc.map fun x=>(l.take x.2).drop x.1
def J (l:List UInt8) (acc:List (Nat×Nat)):List UInt8:=Lib.join (pcs l acc) [32]
theorem d5s (l:List UInt8):J l []=[]:=rfl
theorem b85 (l:List UInt8) (acc:List (Nat×Nat)) (a b:Nat):J l (acc++[(a,b)])=if acc=[] then (l.take b).drop a else J l acc++([32]++(l.take b).drop a):=by
 unfold J pcs;rw[List.map_append,List.map_singleton,c1b];simp only[List.map_eq_nil_iff]
theorem e12 {l:List UInt8}:∀{acc:List (Nat×Nat)},(∀x∈acc,x.1<x.2∧x.2≤l.length)→acc≠[]→J l acc≠[]:=by
 intro acc h hne;obtain ⟨x,r,rfl⟩:=List.exists_cons_of_ne_nil hne;have hx:=h x (by simp);unfold J pcs;rw[ya2,Lib.join_cons];intro e;have:=congrArg List.length e;simp only[yaD,yaX,ya1,yaA]at this;omega
theorem c0b {s:ByteArray} {l:List UInt8} (hl:s.data.toList=l) (p:Nat→Bool) (hp:∀c,p c=blk c):∀(f pos:Nat) (st:Option Nat) (acc:List (Nat×Nat)) (gap:Bool),
 s.size≤pos+f→pos≤s.size→b80 f (l.drop pos)=true→(∀a,st=some a→a<pos∧gap=false)→(st=none→gap=true∨acc=[])→(∀x∈acc,x.1<x.2∧x.2≤l.length)→
 J l (Lib.closeSpans s (Lib.spansFromP p s f pos st acc))=b0h f (l.drop pos) (match st with|some a=>J l (acc++[(a,pos)])|none=>J l acc) gap:=by
 have hsz:s.size=l.length:=by rw[Lib.size_eq,hl]
 intro f
 induction f with
 |zero=>
  intro pos st acc gap h1 h2 hv hs hn hacc;have:pos=s.size:=by omega
  subst this;simp only[Lib.spansFromP,b0h];cases st with
  |none=>rfl
  |some a=>rfl
 |succ f ih=>
  intro pos st acc gap h1 h2 hv hs hn hacc;by_cases hlt:pos<s.size
  ·have hne:l.drop pos≠[]:=by simp;omega
   have hdec:Lib.decodeL (l.drop pos)=Utf8.decode s pos:=by rw[←hl];exact Lib.decodeL_drop s pos
   have hpos:=a18 hne;rw[yaX]at hpos;have hv2:=hv;simp only[b80,hne,ya5]at hv2;have hd:=a8j hne;split at hd
   ·rw[hd]at hv2;simp at hv2
   ·rename_i hnb;have hz:¬(dcd (l.drop pos)).2=0:=by rw[hd];omega
    rw[yam hz,List.drop_drop,hd,hdec]at hv2;have hw:wid (l.drop pos)=(Utf8.decode s pos).2:=by unfold wid;rw[hd,hdec,yam (by rw[←hdec];omega)]
    rw[hdec]at hpos;obtain ⟨k,hk⟩:∃k,(Utf8.decode s pos).2=k:=⟨_,rfl⟩
    rw[b0h,yam hne,List.drop_drop,hw,hd,hdec];simp only[Lib.spansFromP,hlt,ybC,hp];rw[hk]at hpos hv2 ⊢;have htk:∀a,a≤pos→(l.take pos).drop a++(l.drop pos).take k=(l.take (pos+k)).drop a:=by
     intro a ha;rw[List.take_add,List.drop_append_of_le_length (by simp;omega)]
    cases hb:blk (Utf8.decode s pos).1 with
    |true=>
     simp only[ybC];cases st with
     |none=>exact ih (pos+k) none acc true (by omega) (by omega) hv2 (fun a h=>by cases h) (fun _=>.inl rfl) hacc
     |some a=>
      have:=(hs a rfl).1;exact ih (pos+k) none (acc++[(a,pos)]) true (by omega) (by omega) hv2 (fun a h=>by cases h) (fun _=>.inl rfl) (fun x hx=>by
       rcases yaN.1 hx with h|h
       ·exact hacc x h
       ·simp only[ybj]at h;subst h;exact ⟨this,by simp only;omega⟩)
    |false=>
     simp only[yay,ya5];cases st with
     |some a=>
      obtain ⟨ha,hg⟩:=hs a rfl;subst hg;rw[ih (pos+k) (some a) acc false (by omega) (by omega) hv2 (fun b h=>by cases h;exact ⟨by omega,rfl⟩) (fun h=>by cases h) hacc];simp only[ybv,yay,ya5];congr 1;rw[b85,b85];split
      ·exact (htk a (by omega)).symm
      ·rw[←htk a (by omega)];simp
     |none=>
      rw[ih (pos+k) (some pos) acc false (by omega) (by omega) hv2 (fun b h=>by cases h;exact ⟨by omega,rfl⟩) (fun h=>by cases h) hacc];congr 1;dsimp only;rw[b85];have e:=htk pos (yan _);rw[@List.drop_eq_nil_of_le _ (l.take pos) _ (by simp;omega),ybp]at e;rcases hn rfl with hg|hacc0
      ·subst hg;by_cases h0:acc=[]
       ·subst h0;simp[d5s,e]
       ·have:=e12 hacc h0;have hb2:(J l acc==[])=false:=by simpa using this
        simp[h0,hb2,e]
      ·subst hacc0;simp[d5s,e]
  ·have:pos=s.size:=by omega
   subst this;have hnil:l.drop s.size=[]:=by rw[hsz];simp
   rw[Lib.spansFromP_end _ _ _ _ _ _ hlt,b0h,yat hnil];cases st with
   |none=>rfl
   |some a=>rfl
theorem b7c {s:ByteArray} {p:Nat→Bool} (hp:∀c,p c=blk c) (hv:vld s.data.toList=true):Lib.join ((Lib.goFieldsP p s).map (·.data.toList)) [32]=cln s.data.toList:=by
 have h:=c0b (s:=s) rfl p hp s.size 0 none [] false (by omega) (by omega) (by rw[List.drop_zero,Lib.size_eq];exact hv) (fun a h=>by cases h) (fun _=>.inr rfl) (fun x h=>by cases h);rw[List.drop_zero]at h;have hc:cln s.data.toList=b0h s.size s.data.toList [] false:=by unfold cln;rw[Lib.size_eq]
 rw[hc];refine Eq.trans ?_ h;unfold J pcs Lib.goFieldsP Lib.spansOfP;rw[List.map_map];congr 1;refine List.map_congr_left (fun x _=>?_);show (s.extract x.1 x.2).data.toList=(s.data.toList.take x.2).drop x.1
 rw[Lib.extract_data,List.drop_take]
theorem c4f (p:Nat→Bool) (s:ByteArray):∀(f pos:Nat) (st:Option Nat) (acc:List (Nat×Nat)),(Lib.spansFromP p s f pos st acc).1.length≤acc.length+f:=by
 intro f
 induction f with
 |zero=>intro pos st acc;exact yan _
 |succ f ih=>
  intro pos st acc;unfold Lib.spansFromP;split
  ·split
   ·cases st with
    |none=>exact yaQ (ih _ _ _) (by omega)
    |some a=>exact yaQ (ih _ _ _) (by simp;omega)
   ·cases st with
    |none=>exact yaQ (ih _ _ _) (by omega)
    |some a=>exact yaQ (ih _ _ _) (by omega)
  ·simp
theorem b7i (p:Nat→Bool) (s:ByteArray):(Lib.goFieldsP p s).length≤s.size+1:=by
 have:=c4f p s s.size 0 none [];unfold Lib.goFieldsP Lib.spansOfP Lib.closeSpans;rw[yaT];split
 ·rw[yaD];simp at this ⊢;omega
 ·simp at this;omega
theorem c5k:∀(n:Nat) (l out:List UInt8) (gap:Bool),(b0h n l out gap).length≤out.length+2*l.length:=by
 intro n
 induction n with
 |zero=>intro l out gap;simp[b0h]
 |succ n ih=>
  intro l out gap;rw[b0h];split
  ·omega
  ·have hw:1≤wid l:=by unfold wid;split<;>omega
   have hl:0<l.length:=List.length_pos_iff.2 (by assumption);split
   ·have:=ih (l.drop (wid l)) out true;rw[yaX]at this;omega
   ·have:=ih (l.drop (wid l)) ((if gap&&!(out==[]) then out++[32] else out)++l.take (wid l)) false;rw[yaX]at this;have h2:(if gap&&!(out==[]) then out++[32] else out).length≤out.length+1:=by split<;>simp
    simp only[yaD,ya1]at this;omega
theorem d00 (s:ByteArray):(cln s.data.toList).length≤2*s.size:=by
 have:=c5k s.data.toList.length s.data.toList [] false;rw[Lib.size_eq];simpa[cln]using this
end
end Go.Proofs.YteaknldbhmocpaaGreatDoor.Ev
namespace Go.Proofs
open Go.Shelf
def Tryz.laysValid_ren:Go.Shelf.Ren:=⟨fun|196=>231|259=>280|n=>n,fun|9=>9|4=>4|3=>3|5=>5|12=>12|119=>257|0=>0|46=>110|139=>260|138=>259|53=>166|n=>n,fun|3=>1|4=>2|n=>n⟩
theorem Tryz.laysValid:Go.Proofs.Lays.n196 Tryz.prog Tryz.laysValid_ren:={
 mixed:=by kernel_rfl
 f196:=Tryz.func231.trans (congrArg some (by kernel_rfl))
 f259:=Tryz.func280.trans (congrArg some (by kernel_rfl))
 t0:=Tryz.underlying0
 a0:=Tryz.isAgg0
 z0:=Tryz.sizeOf0
 v0:=Tryz.zeroValue0
 t3:=Tryz.underlying3
 a3:=Tryz.isAgg3
 z3:=Tryz.sizeOf3
 v3:=Tryz.zeroValue3
 t4:=Tryz.underlying4
 a4:=Tryz.isAgg4
 z4:=Tryz.sizeOf4
 v4:=Tryz.zeroValue4
 t5:=Tryz.underlying5
 a5:=Tryz.isAgg5
 z5:=Tryz.sizeOf5
 v5:=Tryz.zeroValue5
 t9:=Tryz.underlying9
 a9:=Tryz.isAgg9
 z9:=Tryz.sizeOf9
 v9:=Tryz.zeroValue9
 t12:=Tryz.underlying12
 a12:=Tryz.isAgg12
 z12:=Tryz.sizeOf12
 v12:=Tryz.zeroValue12
 t46:=Tryz.underlying110
 a46:=Tryz.isAgg110
 z46:=Tryz.sizeOf110
 v46:=Tryz.zeroValue110
 t53:=Tryz.underlying166
 a53:=Tryz.isAgg166
 z53:=Tryz.sizeOf166
 v53:=Tryz.zeroValue166
 t119:=Tryz.underlying257
 a119:=Tryz.isAgg257
 z119:=Tryz.sizeOf257
 t138:=Tryz.underlying259
 a138:=Tryz.isAgg259
 z138:=Tryz.sizeOf259
 v138:=Tryz.zeroValue259
 t139:=Tryz.underlying260
 a139:=Tryz.isAgg260
 z139:=Tryz.sizeOf260
 v139:=Tryz.zeroValue260
 g3:=by kernel_rfl
 g4:=by kernel_rfl}
def Tryz.lays156_ren:Go.Shelf.Ren:=⟨fun|156=>281|165=>302|166=>303|169=>304|240=>318|241=>319|276=>327|277=>328|n=>n,fun|31=>46|9=>9|3=>3|4=>4|0=>0|20=>20|72=>279|76=>282|70=>277|37=>226|75=>281|127=>298|164=>302|5=>5|80=>284|n=>n,fun|n=>n⟩
theorem Tryz.lays156:Go.Proofs.Lays.n156 Tryz.prog Tryz.lays156_ren:={
 mixed:=by kernel_rfl
 f156:=Tryz.func281.trans (congrArg some (by kernel_rfl))
 f165:=Tryz.func302.trans (congrArg some (by kernel_rfl))
 f166:=Tryz.func303.trans (congrArg some (by kernel_rfl))
 f169:=Tryz.func304.trans (congrArg some (by kernel_rfl))
 f240:=Tryz.func318.trans (congrArg some (by kernel_rfl))
 f241:=Tryz.func319.trans (congrArg some (by kernel_rfl))
 f276:=Tryz.func327.trans (congrArg some (by kernel_rfl))
 f277:=Tryz.func328.trans (congrArg some (by kernel_rfl))
 t0:=Tryz.underlying0
 a0:=Tryz.isAgg0
 z0:=Tryz.sizeOf0
 v0:=Tryz.zeroValue0
 t3:=Tryz.underlying3
 a3:=Tryz.isAgg3
 z3:=Tryz.sizeOf3
 v3:=Tryz.zeroValue3
 t4:=Tryz.underlying4
 a4:=Tryz.isAgg4
 z4:=Tryz.sizeOf4
 v4:=Tryz.zeroValue4
 t9:=Tryz.underlying9
 a9:=Tryz.isAgg9
 z9:=Tryz.sizeOf9
 v9:=Tryz.zeroValue9
 t20:=Tryz.underlying20
 a20:=Tryz.isAgg20
 z20:=Tryz.sizeOf20
 v20:=Tryz.zeroValue20
 t31:=Tryz.underlying46
 a31:=Tryz.isAgg46
 z31:=Tryz.sizeOf46
 v31:=Tryz.zeroValue46
 t37:=Tryz.underlying226
 a37:=Tryz.isAgg226
 z37:=Tryz.sizeOf226
 v37:=Tryz.zeroValue226
 t70:=Tryz.underlying277
 a70:=Tryz.isAgg277
 z70:=Tryz.sizeOf277
 v70:=Tryz.zeroValue277
 t72:=Tryz.underlying279
 a72:=Tryz.isAgg279
 z72:=Tryz.sizeOf279
 v72:=Tryz.zeroValue279
 t75:=Tryz.underlying281
 a75:=Tryz.isAgg281
 z75:=Tryz.sizeOf281
 v75:=Tryz.zeroValue281
 t76:=Tryz.underlying282
 a76:=Tryz.isAgg282
 z76:=Tryz.sizeOf282
 v76:=Tryz.zeroValue282
 t127:=Tryz.underlying298
 a127:=Tryz.isAgg298
 z127:=Tryz.sizeOf298
 v127:=Tryz.zeroValue298
 t164:=Tryz.underlying302
 a164:=Tryz.isAgg302
 z164:=Tryz.sizeOf302
 v164:=Tryz.zeroValue302}
theorem Tryz.Builder_Extra_156:Builder.Extra Tryz.prog Tryz.lays156_ren:={
 sizeBuilder:=by kernel_rfl
 liesBuilder:=by kernel_rfl
 t5:=Tryz.underlying5
 a5:=Tryz.isAgg5
 z5:=Tryz.sizeOf5
 v5:=Tryz.zeroValue5
 infoByte:=by kernel_rfl
 cellsByte:=by kernel_rfl
 sizeByte:=by kernel_rfl
 neB5:=by decide}
open Go.RowKit in
theorem Tryz.strings_Join (bk o c:Nat) (xs:List ByteArray) (sep:ByteArray) (w:World) (hcells:∀(j:Nat) x,xs[j]?=some x→w.cell? ⟨bk,o+j,none⟩=some (.string x)) (hbk:bk<w.heap.size) (hN:xs.length≤140737488355328) (hcap:xs.length≤c) (hlen:(Lib.join (xs.map (·.data.toList)) sep.data.toList).length≤140737488355328) :
 Calls Tryz.prog 281 #[.slice (some ⟨bk,o,none⟩) xs.length c,.string sep] w fun e w'=>e=.returned (.string ⟨(Lib.join (xs.map (·.data.toList)) sep.data.toList).toArray⟩)∧Below w.heap.size w w':=Any.strings_Join Tryz.lays156 Tryz.Builder_Extra_156 bk o c xs sep w hcells hbk hN hcap hlen
def Tryz.lays229_ren:Go.Shelf.Ren:=⟨fun|229=>282|n=>n,fun|9=>9|40=>265|31=>46|152=>285|3=>3|0=>0|4=>4|21=>21|154=>287|n=>n,fun|n=>n⟩
theorem Tryz.lays229:Go.Proofs.Lays.n229 Tryz.prog Tryz.lays229_ren:={
 mixed:=by kernel_rfl
 f229:=Tryz.func282.trans (congrArg some (by kernel_rfl))
 t0:=Tryz.underlying0
 a0:=Tryz.isAgg0
 z0:=Tryz.sizeOf0
 v0:=Tryz.zeroValue0
 t3:=Tryz.underlying3
 a3:=Tryz.isAgg3
 z3:=Tryz.sizeOf3
 v3:=Tryz.zeroValue3
 t4:=Tryz.underlying4
 a4:=Tryz.isAgg4
 z4:=Tryz.sizeOf4
 v4:=Tryz.zeroValue4
 t9:=Tryz.underlying9
 a9:=Tryz.isAgg9
 z9:=Tryz.sizeOf9
 v9:=Tryz.zeroValue9
 t21:=Tryz.underlying21
 a21:=Tryz.isAgg21
 z21:=Tryz.sizeOf21
 v21:=Tryz.zeroValue21
 t31:=Tryz.underlying46
 a31:=Tryz.isAgg46
 z31:=Tryz.sizeOf46
 v31:=Tryz.zeroValue46
 t40:=Tryz.underlying265
 a40:=Tryz.isAgg265
 z40:=Tryz.sizeOf265
 v40:=Tryz.zeroValue265
 t152:=Tryz.underlying285
 a152:=Tryz.isAgg285
 z152:=Tryz.sizeOf285
 v152:=Tryz.zeroValue285
 t154:=Tryz.underlying287
 a154:=Tryz.isAgg287
 z154:=Tryz.sizeOf287
 v154:=Tryz.zeroValue287}
open Go.RowKit Go.Lib in
theorem Tryz.strings_FieldsFunc_runes (g:Nat) (lb:Array Value) (eg:∀args w,(callFunc g args).run Tryz.prog w=.ok (.enter g args) w) (p:Nat→Bool) (s:ByteArray) (w:World) (hs:s.size≤4294967296) (hp:PredAtRunes Tryz.prog g lb p w) :
 Calls Tryz.prog 282 #[.string s,.func (.func g) #[] lb] w fun e w'=>∃A,e=.returned (.slice (some ⟨A,0,none⟩) (Lib.goFieldsP p s).length (Lib.goFieldsP p s).length)∧w.heap.size≤A∧
  w'.ownsRow w.heap.size 9 1 (.slice (some ⟨A,0,none⟩) (Lib.goFieldsP p s).length (Lib.goFieldsP p s).length) (Lib.goFieldsP p s).length ((Lib.goFieldsP p s).map Value.string)∧Below w.heap.size w w':=Any.strings_FieldsFunc_runes Tryz.lays229 g lb eg p s w hs hp (by kernel_rfl) (by kernel_rfl)
open Go.RowKit in
theorem Tryz.strings_Join_none (a:Option Addr) (c:Nat) (sep:ByteArray) (w:World) :
 Calls Tryz.prog 281 #[.slice a 0 c,.string sep] w fun e w'=>e=.returned (.string ⟨#[]⟩)∧w'=w:=Any.strings_Join_none Tryz.lays156 Tryz.Builder_Extra_156 a c sep w
end Go.Proofs
namespace Go.Proofs.YteaknldbhmocpaaGreatDoor
open Go Ev
open Go.Lib Go.RowKit
theorem c3k {X:Ending} (b:Bool) {b':Bool} (h:X=.returned (.bool b)) (e:b=b'):X=.returned (.bool b'):=e▸h
set_option maxHeartbeats 4000000 in
set_option maxRecDepth 1000000 in
theorem b8z (s:ByteArray) (w:World) (hs:s.size≤1073741824) (hT:Lib.Utf8Tabs 1 2 w) :
 Calls Tryz.prog 159 #[.string s] w fun e w'=>e=.returned (.bool (vld s.data.toList))∧Below w.heap.size w w':=by
 have cV:Calls Tryz.prog 231 #[.string s] w _:=Any.utf8_ValidString Tryz.laysValid s w (by omega) hT;have hvl:vld s.data.toList=(Lib.validD s.data.toList&&okN s.size s.data.toList):=by rw[Lib.size_eq];exact d5d _ _
 rw[hvl];clear hvl;generalize Lib.validD s.data.toList=V at cV ⊢;cases V with
 |false=>
  rw[ybv]
  go_enter Tryz.func159,Tryz.ntmps159
  go_wp2_with (go_at_call 231;refine cV.mono ?_;rintro e w' ⟨rfl,hb⟩)
  go_ret
  exact ⟨rfl,hb⟩
 |true=>
  rw[ybh]
  go_enter Tryz.func159,Tryz.ntmps159
  go_wp2_with (go_at_call 231;refine cV.mono ?_;rintro e w' ⟨rfl,hb⟩)
  go_loopg [4] (s.size+1) (fun gk s4 wx=>∃pos:Nat,wx.heap[w'.heap.size]?=some (.stringIter s pos)∧Below w.heap.size w wx∧
   okN gk (s.data.toList.drop pos)=okN s.size s.data.toList∧s.size≤pos+gk∧pos≤s.size)
  case atStart=>
   refine ⟨0,World.iter_heap w' s 0,hb.alloc hb.size _,?_,by omega,by omega⟩;rw[List.drop_zero];exact c69 _ _ _ (by rw[←Lib.size_eq];omega) (by rw[←Lib.size_eq];omega)
  case round=>
   obtain ⟨pos,hit,hbw,hok,hfu,hps⟩:=hrel;have hdec:Lib.decodeL (s.data.toList.drop pos)=Utf8.decode s pos:=Lib.decodeL_drop s pos;by_cases hlt:pos<s.size
   ·obtain ⟨g',rfl⟩:∃g',gk=g'+1:=⟨gk-1,by omega⟩
    have hnx:∀ty,(Instr.next (.pointer (some ⟨w'.heap.size,0,none⟩)) true ty).run Tryz.prog wr=_:=fun ty=>Lib.run_next_any_at wr w'.heap.size s pos ty hit hlt
    have hne:s.data.toList.drop pos≠[]:=by rw[Ne,List.drop_eq_nil_iff,←Lib.size_eq];omega
    have hwd:=a18 hne;rw[hdec,yaX,←Lib.size_eq]at hwd;simp only[okN,hne,ya5,hdec,List.drop_drop]at hok;obtain ⟨R,hR⟩:∃R,(Utf8.decode s pos).1=R:=⟨_,rfl⟩
    obtain ⟨K,hK⟩:∃K,(Utf8.decode s pos).2=K:=⟨_,rfl⟩
    rw[hR,hK]at hnx hok;rw[hK]at hwd;have hit2:=Lib.iterAt_heap wr w'.heap.size s pos (pos+K) hit;have hbw2:=Lib.below_iterAt hbw (k:=w'.heap.size) hb.size s (pos+K);by_cases h1:R<32
    ·have hz:(R:Int)<32:=by omega
     have hb1:b9v R=true:=a3c.2 (.inl h1);rw[yat hb1]at hok
     go_wp2
     go_ret
     first|exact ⟨rfl,hbw2⟩|exact ⟨c3k false rfl hok,hbw2⟩
    ·have hz:¬(R:Int)<32:=by omega
     by_cases h2:127≤R
     ·have hz2:(127:Int)≤(R:Int):=by omega
      by_cases h3:R≤159
      ·have hz3:(R:Int)≤159:=by omega
       have hb1:b9v R=true:=a3c.2 (.inr (.inl ⟨h2,h3⟩));rw[yat hb1]at hok
       go_wp2
       go_ret
       first|exact ⟨rfl,hbw2⟩|exact ⟨c3k false rfl hok,hbw2⟩
      ·have hz3:¬(R:Int)≤159:=by omega
       by_cases h4:65535<R
       ·have hz4:(65535:Int)<(R:Int):=by omega
        have hb1:b9v R=true:=a3c.2 (.inr (.inr h4));rw[yat hb1]at hok
        go_wp2
        go_ret
        first|exact ⟨rfl,hbw2⟩|exact ⟨c3k false rfl hok,hbw2⟩
       ·have hz4:¬(65535:Int)<(R:Int):=by omega
        have hb1:¬b9v R=true:=fun h=>by rw[a3c]at h;omega
        rw[yam hb1]at hok
        go_wp2
        go_roundg g'
        case measure=>omega
        case rel=>exact ⟨pos+K,hit2,hbw2,hok,by omega,by omega⟩
     ·have hz2:¬(127:Int)≤(R:Int):=by omega
      have hz4:¬(65535:Int)<(R:Int):=by omega
      have hb1:¬b9v R=true:=fun h=>by rw[a3c]at h;omega
      rw[yam hb1]at hok
      go_wp2
      go_roundg g'
      case measure=>omega
      case rel=>exact ⟨pos+K,hit2,hbw2,hok,by omega,by omega⟩
   ·have:pos=s.size:=by omega
    subst this;have hnx:∀ty,(Instr.next (.pointer (some ⟨w'.heap.size,0,none⟩)) true ty).run Tryz.prog wr=_:=fun ty=>Lib.run_next_end_at wr w'.heap.size s s.size ty hit hlt
    have hnil:s.data.toList.drop s.size=[]:=by rw[Lib.size_eq];simp
    have hok2:okN s.size s.data.toList=true:=by rw[←hok,hnil];cases gk<;>simp[okN]
    go_wp2
    go_ret
    first|exact ⟨rfl,hbw⟩|exact ⟨c3k true rfl hok2.symm,hbw⟩
set_option maxRecDepth 1000000 in
theorem b65 (R:Nat) (hR:R≤1114111) (w:World):Calls Tryz.prog 283 #[.int .i32 (R:Int)] w fun e w'=>e=.returned (.bool (blk R))∧∃q,w'=w.drewN q:=by
 by_cases h1:R=32
 ·subst h1
  go_enter Tryz.func283,Tryz.ntmps283
  go_wp2
  go_ret
  exact ⟨rfl,0,rfl⟩
 ·have z1:¬(R:Int)=32:=by omega
  by_cases h2:R=160
  ·subst h2
   go_enter Tryz.func283,Tryz.ntmps283
   go_wp2
   go_ret
   exact ⟨rfl,0,rfl⟩
  ·have z2:¬(R:Int)=160:=by omega
   have hb:blk R=false:=by unfold blk;simp[h1,h2]
   go_enter Tryz.func283,Tryz.ntmps283
   go_wp2
   go_ret
   exact ⟨c3k ((R:Int)==32||(R:Int)==160) rfl (by rw[hb,yaM];exact ⟨by simp;omega,by simp;omega⟩),0,rfl⟩
set_option maxHeartbeats 4000000 in
set_option maxRecDepth 1000000 in
theorem b7b (s:ByteArray) (w:World) (hs:s.size≤1073741824) (hv:vld s.data.toList=true) :
 Calls Tryz.prog 236 #[.string s] w fun e w'=>e=.returned (.string ⟨(cln s.data.toList).toArray⟩)∧Below w.heap.size w w':=by
 have eg:∀args w,(callFunc 283 args).run Tryz.prog w=.ok (.enter 283 args) w:=enters_of Tryz.func283 kr rfl;have hp:PredAtRunes Tryz.prog 283 #[] blk w:=fun W x hx hb=>by
  exact b65 x hx W
 have cF:=Tryz.strings_FieldsFunc_runes 283 #[] eg blk s w (by omega) hp;have hj:=b7c (s:=s) (p:=blk) (fun _=>rfl) hv;have hlen:(cln s.data.toList).length≤2*s.size:=d00 s;obtain ⟨Fs,hFs⟩:∃Fs,Lib.goFieldsP blk s=Fs:=⟨_,rfl⟩
 have hfl:=b7i blk s;rw[hFs]at hj cF hfl;have cJ:∀A W,Below w.heap.size w W→W.ownsRow w.heap.size 9 1 (.slice (some ⟨A,0,none⟩) Fs.length Fs.length) Fs.length (Fs.map Value.string)→
  Calls Tryz.prog 281 #[.slice (some ⟨A,0,none⟩) Fs.length Fs.length,.string ⟨#[32]⟩] W fun e w'=>e=.returned (.string ⟨(cln s.data.toList).toArray⟩)∧Below w.heap.size w w':=by
  intro A W hb hrow;by_cases h0:Fs=[]
  ·subst h0;have:=Tryz.strings_Join_none (some ⟨A,0,none⟩) 0 ⟨#[32]⟩ W;refine this.mono ?_;rintro e w' ⟨rfl,rfl⟩;rw[←hj];exact ⟨rfl,hb⟩
  ·obtain ⟨-,h|⟨g,cap,cur,hv2,hbg,hh,hn,hmx,hcs,hct⟩⟩:=hrow
   ·exact absurd (ya3.1 h.2) h0
   ·injection hv2 with e1 e2 e3;injection e1 with e1;injection e1 with e1;subst e1;have hj2:(Lib.join (Fs.map (·.data.toList)) (⟨#[32]⟩:ByteArray).data.toList)=cln s.data.toList:=hj;have:=Tryz.strings_Join A 0 Fs.length Fs ⟨#[32]⟩ W (fun j x hx=>by
     rw[ybG]at hct;have hj3:j<Fs.length:=(zL hx)
     have e4:cur.toList[j]?=some (Value.string x):=by
      rw[←List.getElem?_take_of_lt hj3,hct,yaY,hx];rfl
     rw[yao]at e4;rw[yaK];simp only[World.cell?,hh];exact e4) (yac.1 hh).1 (by omega) (yan _) (by rw[hj2];omega)
    refine this.mono ?_;rintro e w' ⟨rfl,hb2⟩;rw[hj2];exact ⟨rfl,hb.trans (hb2.mono hb.size)⟩
 clear hj hlen hFs hfl
 go_enter Tryz.func236,Tryz.ntmps236
 go_wp2_with (first|(go_at_call 282;refine cF.mono ?_;rintro e w' ⟨A,rfl,hA,hrow,hb⟩)|(go_at_call 281;refine (cJ A _ hb hrow).mono ?_;rintro e w'' ⟨rfl,hb2⟩))
 go_ret
 exact ⟨rfl,hb2⟩
end Go.Proofs.YteaknldbhmocpaaGreatDoor
namespace Go.Proofs
open Go.Shelf
def Tryz.lays189_ren:Go.Shelf.Ren:=⟨fun|189=>34|125=>74|257=>73|128=>143|129=>144|294=>134|295=>135|296=>136|297=>137|298=>138|299=>139|216=>140|300=>141|301=>142|328=>204|329=>205|330=>206|331=>207|332=>208|215=>209|343=>265|n=>n,fun|28=>28|3=>3|46=>110|0=>0|51=>164|53=>166|4=>4|183=>156|182=>155|131=>161|5=>5|9=>9|218=>208|222=>212|228=>248|229=>185|n=>n,fun|n=>n⟩
theorem Tryz.lays189:Go.Proofs.Lays.n189 Tryz.prog Tryz.lays189_ren:={
 mixed:=by kernel_rfl
 f125:=Tryz.func74.trans (congrArg some (by kernel_rfl))
 f128:=Tryz.func143.trans (congrArg some (by kernel_rfl))
 f129:=Tryz.func144.trans (congrArg some (by kernel_rfl))
 f189:=Tryz.func34.trans (congrArg some (by kernel_rfl))
 f215:=Tryz.func209.trans (congrArg some (by kernel_rfl))
 f216:=Tryz.func140.trans (congrArg some (by kernel_rfl))
 f257:=Tryz.func73.trans (congrArg some (by kernel_rfl))
 f294:=Tryz.func134.trans (congrArg some (by kernel_rfl))
 f295:=Tryz.func135.trans (congrArg some (by kernel_rfl))
 f296:=Tryz.func136.trans (congrArg some (by kernel_rfl))
 f297:=Tryz.func137.trans (congrArg some (by kernel_rfl))
 f298:=Tryz.func138.trans (congrArg some (by kernel_rfl))
 f299:=Tryz.func139.trans (congrArg some (by kernel_rfl))
 f300:=Tryz.func141.trans (congrArg some (by kernel_rfl))
 f301:=Tryz.func142.trans (congrArg some (by kernel_rfl))
 f328:=Tryz.func204.trans (congrArg some (by kernel_rfl))
 f329:=Tryz.func205.trans (congrArg some (by kernel_rfl))
 f330:=Tryz.func206.trans (congrArg some (by kernel_rfl))
 f331:=Tryz.func207.trans (congrArg some (by kernel_rfl))
 f332:=Tryz.func208.trans (congrArg some (by kernel_rfl))
 f343:=Tryz.func265.trans (congrArg some (by kernel_rfl))
 t0:=Tryz.underlying0
 a0:=Tryz.isAgg0
 z0:=Tryz.sizeOf0
 v0:=Tryz.zeroValue0
 t3:=Tryz.underlying3
 a3:=Tryz.isAgg3
 z3:=Tryz.sizeOf3
 v3:=Tryz.zeroValue3
 t4:=Tryz.underlying4
 a4:=Tryz.isAgg4
 z4:=Tryz.sizeOf4
 v4:=Tryz.zeroValue4
 t5:=Tryz.underlying5
 a5:=Tryz.isAgg5
 z5:=Tryz.sizeOf5
 v5:=Tryz.zeroValue5
 t9:=Tryz.underlying9
 a9:=Tryz.isAgg9
 z9:=Tryz.sizeOf9
 v9:=Tryz.zeroValue9
 t28:=Tryz.underlying28
 a28:=Tryz.isAgg28
 z28:=Tryz.sizeOf28
 v28:=Tryz.zeroValue28
 t46:=Tryz.underlying110
 a46:=Tryz.isAgg110
 z46:=Tryz.sizeOf110
 v46:=Tryz.zeroValue110
 t51:=Tryz.underlying164
 a51:=Tryz.isAgg164
 z51:=Tryz.sizeOf164
 v51:=Tryz.zeroValue164
 t53:=Tryz.underlying166
 a53:=Tryz.isAgg166
 z53:=Tryz.sizeOf166
 v53:=Tryz.zeroValue166
 t131:=Tryz.underlying161
 a131:=Tryz.isAgg161
 z131:=Tryz.sizeOf161
 v131:=Tryz.zeroValue161
 t182:=Tryz.underlying155
 a182:=Tryz.isAgg155
 z182:=Tryz.sizeOf155
 v182:=Tryz.zeroValue155
 t183:=Tryz.underlying156
 a183:=Tryz.isAgg156
 z183:=Tryz.sizeOf156
 v183:=Tryz.zeroValue156
 t218:=Tryz.underlying208
 a218:=Tryz.isAgg208
 z218:=Tryz.sizeOf208
 v218:=Tryz.zeroValue208
 t222:=Tryz.underlying212
 a222:=Tryz.isAgg212
 z222:=Tryz.sizeOf212
 v222:=Tryz.zeroValue212
 t228:=Tryz.underlying248
 a228:=Tryz.isAgg248
 z228:=Tryz.sizeOf248
 v228:=Tryz.zeroValue248
 t229:=Tryz.underlying185
 a229:=Tryz.isAgg185
 z229:=Tryz.sizeOf185
 v229:=Tryz.zeroValue185}
def Tryz.laysNm220_ren:Go.Shelf.Ren:=⟨fun|20=>35|n=>n,fun|22=>28|3=>3|4=>4|0=>0|n=>n,fun|n=>n⟩
theorem Tryz.laysNm220:Go.Proofs.Lays2.n20 Tryz.prog Tryz.laysNm220_ren:={
 mixed:=by kernel_rfl
 f20:=Tryz.func35.trans (congrArg some (by kernel_rfl))
 t0:=Tryz.underlying0
 a0:=Tryz.isAgg0
 z0:=Tryz.sizeOf0
 v0:=Tryz.zeroValue0
 t3:=Tryz.underlying3
 a3:=Tryz.isAgg3
 z3:=Tryz.sizeOf3
 v3:=Tryz.zeroValue3
 t4:=Tryz.underlying4
 a4:=Tryz.isAgg4
 z4:=Tryz.sizeOf4
 v4:=Tryz.zeroValue4
 t22:=Tryz.underlying28
 a22:=Tryz.isAgg28
 z22:=Tryz.sizeOf28
 v22:=Tryz.zeroValue28
 i3:=by kernel_rfl}
end Go.Proofs
namespace Go.Proofs.YteaknldbhmocpaaGreatDoor
open Go Ev
section
open Go.Sort
set_option maxRecDepth 100000
theorem b2s {w:World} {I J:Nat→Nat→Prop} {xs:List Int} {blk:Nat} {vals:Array Value} {t:TypeId} (hb:w.heap[blk]?=some (.cells vals t (0,0)))
 (hc:∀i (hi:i<xs.length) j d,(sg.enc Kd.ki64 xs[i])[j]?=some d→∃v,vals[i*sg.sz Kd.ki64+j]?=some v∧DR sg w I J v d):∀i (hi:i<xs.length),vals[i]?=some (.int .i64 xs[i]):=by
 intro i hi;obtain ⟨v,h1,h2⟩:=hc i hi 0 (.int .i64 xs[i]) rfl;rw[h2.int_inv]at h1;have h1:vals[i*1+0]?=_:=h1;rw[ybG,yaU]at h1;exact h1
theorem b2r {w:World} {xs:List Int} {blk:Nat} {vals:Array Value} {t:TypeId} (hb:w.heap[blk]?=some (.cells vals t (0,0))) (hc:∀i (hi:i<xs.length),vals[i]?=some (.int .i64 xs[i])) :
 Holds (Value.int .i64) w blk 0 xs.toArray:=by
 intro j hj;have hj:j<xs.length:=by simpa using hj
 refine ⟨?_,?_⟩
 ·simp only[World.cell?,hb,yaK,hc j hj];simp[hj]
 ·simp[World.frozen?,hb]
theorem c3l {w:World} {I J:Nat→Nat→Prop} {ys:List Int} {blk q:Nat} {vals:Array Value} {t:TypeId} {os:Array Obj} (hp:Pre sg w I J [blk]) (hb:w.heap[blk]?=some (.cells vals t (0,0))) (hy:ys.length≤vals.size) :
 GrowM [blk] w (grow (putRow (Value.int .i64) (Sort.ahead w q) blk 0 ys.toArray) os) I I∧
 ∃vals',(grow (putRow (Value.int .i64) (Sort.ahead w q) blk 0 ys.toArray) os).heap[blk]?=some (.cells vals' t (0,0))∧vals'.size=vals.size∧∀i (hi:i<ys.length),vals'[i]?=some (.int .i64 ys[i]):=by
 have hlt:blk<w.heap.size:=(yac.1 hb).1;have hh:(grow (putRow (Value.int .i64) (Sort.ahead w q) blk 0 ys.toArray) os).heap=w.heap.modify blk (onCells (putCells (Value.int .i64) 0 ys.toArray))++os:=rfl;have hsz:(w.heap.modify blk (onCells (putCells (Value.int .i64) 0 ys.toArray))).size=w.heap.size:=by simp
 have hget:∀b,b<w.heap.size→(grow (putRow (Value.int .i64) (Sort.ahead w q) blk 0 ys.toArray) os).heap[b]?=if blk=b then (w.heap[b]?).map (onCells (putCells (Value.int .i64) 0 ys.toArray)) else w.heap[b]?:=by
  intro b hb;rw[hh,ybb (by rw[hsz];exact hb),Array.getElem?_modify]
 refine ⟨⟨?_,rfl,rfl,rfl,fun b h1 h2=>?_,fun _ _ h=>h,fun _ _ h=>.inl h,fun b o h=>?_⟩,putCells (Value.int .i64) 0 ys.toArray vals,?_,?_,?_⟩
 ·rw[hh,Array.size_append,hsz];omega
 ·rw[hget b h1,yam (fun e=>h2 (by simp[e]))]
 ·have:=hp.ib b o h;rw[hh,Array.size_append,hsz];omega
 ·rw[hget blk hlt,yat rfl,hb];rfl
 ·simp[putCells]
 ·intro i hi;unfold putCells;rw[Array.getElem?_mapIdx,yaj (by omega)];simp[hi]
theorem b1m {mb:List Nat} {w:World} {I:Nat→Nat→Prop} (h:∀b o,I b o→b<w.heap.size):GrowM mb w w I I:=⟨yan _,rfl,rfl,rfl,fun _ _ _=>rfl,fun _ _ h=>h,fun _ _ h=>.inl h,h⟩
theorem b49 {w:World} {I J:Nat→Nat→Prop} {vs:Array Value} (h:a86 sg w I J vs []):vs = #[]:=by
 have h1:vs.size=0:=h.1;exact Array.eq_empty_of_size_eq_zero h1
theorem e0u:fnB Tryz.prog 34 Tryz.f34 []=true:=kr
theorem c0f:∀ds a r,b9b.dec ds=some a→c8r a=some r→Con Tryz.prog sg 34 ds [] (c87.enc r) []:=by
 intro ds a r hd hf;obtain ⟨code,fok,-,-⟩:=j5 Tryz.func34 e0u;have hac:f9 b9b:=f9.cons (d7.lst _) f9.nil;have hds:=hac ds a hd;have hmd:sg.md 34=.inpl:=kr;unfold Con;rw[hmd];obtain ⟨zs,u⟩:=a;have hds:WL ds [.lst .ki64 zs]:=hds;have hf:(bif decide (zs.length≤LIM) then some (zs.mergeSort fun x y=>decide (x≤y)) else none)=some r:=hf;intro _ k xs ds0 he xs' hr w I J mb v0 vs hp ho hargs;subst he;have hr:(D.lst Kd.ki64 r:DD)=D.lst k xs':=hr;cases hr
 have hw0:=hds.2 0 _ _ rfl rfl;cases hw0 with
 |leaf _ _ hw0=>
 cases hw0
 have hargs:=WL.args (cs':=[]) ⟨by simpa using hds.1,fun q d d' h1 h2=>by simp at h2⟩ hargs;have:=b49 hargs;subst this;cases hlim:decide (zs.length≤LIM) with
 |false=>rw[hlim]at hf;cases hf
 |true=>
  rw[hlim]at hf;have hl:=yaw hlim;unfold LIM at hl;have hf:some (zs.mergeSort fun x y=>decide (x≤y))=some r:=hf;cases hf
  have hlen:=List.length_mergeSort (le:=fun x y:Int=>decide (x≤y)) zs;unfold p8;rw[show (#[v0]++(#[]:Array Value)) = #[v0] from rfl,MuLone.run_callFunc_enter fok.at_ fok.name fok.body _ w];simp only;obtain ⟨base,cap,rfl,hcap,ho⟩:=ho;rcases ho with ⟨rfl,rfl⟩|⟨blk,vals,t,rfl,rfl,hb,hv,hc⟩
  ·have hz:zs=[]:=ya3.1 (by omega);subst hz;have h:=Any.slices_Sort_int_none Tryz.lays189 base 0 w;refine h.mono (fun e w' he=>?_);obtain ⟨rfl,rfl⟩:=he;exact ⟨rfl,hlen,I,b1m hp.ib,base,0,by rw[List.mergeSort_nil],by simp,.inl ⟨rfl,rfl⟩⟩
  ·have hc2:=b2s hb hc;have hv:vals.size=cap*1:=hv;have h:=Any.slices_Sort_int Tryz.lays189 blk 0 cap zs w (b2r hb hc2) (yac.1 hb).1 (by omega);refine h.mono (fun e w' he=>?_);obtain ⟨rfl,n,os,rfl⟩:=he;obtain ⟨g,vals',h1,h2,h3⟩:=c3l (q:=n) (os:=os) (ys:=zs.mergeSort fun x y=>decide (x≤y)) hp hb (by omega);refine ⟨rfl,hlen,I,g,some ⟨blk,0,none⟩,cap,by rw[hlen],by omega,.inr ⟨blk,vals',t,rfl,rfl,h1,by rw[h2];exact hv,?_⟩⟩;intro i hi j d hd;cases j with
   |zero=>
    have hd:some (D.int .i64 (zs.mergeSort fun x y=>decide (x≤y))[i]:DD)=some d:=hd;cases hd
    refine ⟨.int .i64 (zs.mergeSort fun x y=>decide (x≤y))[i],?_,.int _ _⟩;show vals'[i*1+0]?=_
    rw[ybG,yaU];exact h3 i hi
   |succ j=>
    have hd:(none:Option DD)=some d:=hd;cases hd
theorem e0v:fnB Tryz.prog 35 Tryz.f35 [4,9]=true:=kr
theorem b3g:∀ds a r,b9a.dec ds=some a→c8q a=some r→Con Tryz.prog sg 35 ds [] (c86.enc r) []:=by
 intro ds a r hd hf;obtain ⟨code,fok,-,-⟩:=j5 Tryz.func35 e0v;have hac:f9 b9a:=f9.cons (d7.lst _) f9.nil;have hds:=hac ds a hd;have hmd:sg.md 35=.cons:=kr;unfold Con;rw[hmd];obtain ⟨zs,u⟩:=a;have hds:WL ds [.lst .ki64 zs]:=hds;have hf:(bif decide (zs.length≤LIM) then some (Go.Lib.compact zs) else none)=some r:=hf;intro _ k xs ds0 he k' xs' hr w I J mb v0 vs hp ho hargs;subst he;have hr:(D.lst Kd.ki64 r:DD)=D.lst k' xs':=hr;cases hr
 have hw0:=hds.2 0 _ _ rfl rfl;cases hw0 with
 |leaf _ _ hw0=>
 cases hw0
 have hargs:=WL.args (cs':=[]) ⟨by simpa using hds.1,fun q d d' h1 h2=>by simp at h2⟩ hargs;have:=b49 hargs;subst this;cases hlim:decide (zs.length≤LIM) with
 |false=>rw[hlim]at hf;cases hf
 |true=>
  rw[hlim]at hf;have hl:=yaw hlim;unfold LIM at hl;have hf:some (Go.Lib.compact zs)=some r:=hf;cases hf
  have hlen:=Go.Lib.compact_length_le zs;unfold p8;rw[show (#[v0]++(#[]:Array Value)) = #[v0] from rfl,MuLone.run_callFunc_enter fok.at_ fok.name fok.body _ w];simp only;obtain ⟨base,cap,rfl,hcap,ho⟩:=ho;rcases ho with ⟨rfl,rfl⟩|⟨blk,vals,t,rfl,rfl,hb,hv,hc⟩
  ·have hz:zs=[]:=ya3.1 (by omega);subst hz;have h:=Any.slices_Compact_int_empty Tryz.laysNm220 base 0 w;refine h.mono (fun e w' he=>?_);obtain ⟨rfl,rfl⟩:=he;exact ⟨I,b1m hp.ib,base,0,rfl,by simp[Go.Lib.compact,Go.Lib.compactUpTo],.inl rfl⟩
  ·have hc2:=b2s hb hc;have hv:vals.size=cap*1:=hv;have h:=Any.slices_Compact_int Tryz.laysNm220 blk 0 cap zs w (b2r hb hc2) (by omega) hcap;refine h.mono (fun e w' he=>?_);obtain ⟨rfl,n,rfl⟩:=he;have e0:∀W:World,W=grow W #[]:=fun W=>by unfold grow;simp
   rw[e0 (putRow _ _ _ _ _)];obtain ⟨g,vals',h1,h2,h3⟩:=c3l (q:=n) (os:=#[]) (ys:=Go.Lib.compact zs++List.replicate (zs.length-(Go.Lib.compact zs).length) 0) hp hb (by simp;omega);refine ⟨I,g,some ⟨blk,0,none⟩,cap,rfl,by omega,.inr ⟨blk,vals',t,rfl,h1,by rw[h2];exact hv,.inr (by simp),fun o hI=>?_,?_⟩⟩
   ·exact absurd (by simp) (hp.jb blk o (hp.ij blk o hI)).2
   ·intro i hi j d hd;cases j with
    |zero=>
     have hd:some (D.int .i64 (Go.Lib.compact zs)[i]:DD)=some d:=hd;cases hd
     refine ⟨.int .i64 (Go.Lib.compact zs)[i],?_,.int _ _⟩;show vals'[i*1+0]?=_
     rw[ybG,yaU];have:=h3 i (by simp;omega);rw[ybk hi]at this;exact this
    |succ j=>
     have hd:(none:Option DD)=some d:=hd;cases hd
end
section
theorem a4g:∃i0 z,Tryz.prog.info? 61=some i0∧i0.zero=some z∧z.cells.size=10∧i0.size=10∧i0.bytes≤128:=by
 have h:(match Tryz.prog.info? 61 with|some i=>(match i.zero with|some z=>Nat.beq z.cells.size 10&&Nat.beq i.size 10&&Nat.ble i.bytes 128|none=>false)|none=>false)=true:=kr;split at h
 ·rename_i i hi;split at h
  ·rename_i z hz;simp only[yab]at h;exact ⟨i,z,hi,hz,ya0 h.1.1,ya0 h.1.2,yaF h.2⟩
  ·cases h
 ·cases h
set_option maxHeartbeats 4000000 in
set_option maxRecDepth 100000 in
theorem a71 {w:World} {b n c i vb vo vc:Nat} {L vs:List Value} {t:TypeId} (hi:i<n) (hroom:n+1≤c) (hlim:n+1≤1073741824) (hvb:vb≠b)
 (hb:w.heap[b]?=some (.cells L.toArray t (0,0))) (hL:L.length=c*10) (hvl:vs.length=10)
 (hvs:∀j v,vs[j]?=some v→w.cell? ⟨vb,vo+j,none⟩=some v) (h1:∀v∈(L.drop (i*10)).take ((n-i)*10),v.oneCell'=true) (h2:∀v∈vs,v.oneCell'=true) :
 Calls Tryz.prog 121 #[.slice (some ⟨b,0,none⟩) n c,.int .i64 i,.slice (some ⟨vb,vo,none⟩) 1 vc] w fun e w'=>
  e=.returned (.slice (some ⟨b,0,none⟩) (n+1) c)∧w'=(w.drew.setRow b (Go.splice L ((i+1)*10) ((L.drop (i*10)).take ((n-i)*10))).toArray).setRow b (Go.splice (Go.splice L ((i+1)*10) ((L.drop (i*10)).take ((n-i)*10))) (i*10) vs).toArray:=by
 obtain ⟨i0,z0,hi0,hz0,hzs,hsz,hby⟩:=a4g;have hz2:¬((i:Int)=(n:Int)):=by omega
 have hva:∃va ta fa,w.heap[vb]?=some (.cells va ta fa)∧0<va.size:=by
  have h:=hvs 0 _ (yaa (by omega));unfold World.cell? at h;split at h
  ·rename_i c0 t0 f0 hc0;exact ⟨c0,t0,f0,hc0,by have:=(yac.1 h).1;omega⟩
  ·cases h
 obtain ⟨va,ta,fa,hva,hva0⟩:=hva;have hov:∀lb cb,(callFunc 188 #[.slice (some ⟨vb,vo,none⟩) 1 vc,.slice (some ⟨b,(i+1)*10,none⟩) lb cb]).run Tryz.prog w=.ok (.value (.bool false)) w:=fun lb cb=>by
  rw[run_callFunc_extern Tryz.func188 kr kr kr (e:=Extern.SlicesOverlaps.overlaps #[22,22] #[4]) kr,
   a0s Tryz.underlying22 hi0 (a:=⟨vb,vo,none⟩) (b:=⟨b,(i+1)*10,none⟩) hvb hva hva0 hb (by simp only[ybf];omega)]
  rfl
 have hLn:(n+1)*10≤L.length:=by rw[hL];exact yal _ hroom
 obtain ⟨C1,hC1⟩:∃C1,C1=(L.drop (i*10)).take ((n-i)*10):=⟨_,rfl⟩
 have hC1l:C1.length=(n-i)*10:=by rw[hC1];simp;omega
 obtain ⟨M1,hM1⟩:∃M1,M1=Go.splice L ((i+1)*10) C1:=⟨_,rfl⟩
 have hM1l:M1.length=L.length:=by rw[hM1];exact length_splice _ _ _ (by omega)
 rw[←hC1,←hM1];have hcp1:∀ty dc sc,(Builtin.copy_ #[22,22] ty #[.slice (some ⟨b,(i+1)*10,none⟩) (n-i) dc,.slice (some ⟨b,i*10,none⟩) (n+1-i) sc]).run Tryz.prog w.drew=.ok (goInt ((n-i:Nat):Int)) (w.drew.setRow b M1.toArray):=fun ty dc sc=>by
  have hmin:Nat.min (n+1-i) (n-i)=n-i:=by show min _ _=_;omega
  have:=m9 (P:=Tryz.prog) (w:=w.drew) (sT:=22) (ty:=ty) (dCap:=dc) (sCap:=sc) (dLen:=n-i) (sLen:=n+1-i) (o:=(i+1)*10) (a:=⟨b,i*10,none⟩) Tryz.underlying22 hi0 hsz hb (cs:=C1) (by rw[hmin];exact hC1l)
   (fun j v hj=>by
    rw[Addr.add_lit];show w.cell? _=_
    simp only[World.cell?,hb];rw[hC1,yar]at hj;split at hj
    ·simpa using hj
    ·cases hj) (by omega) (by rw[hC1];exact h1)
  rw[hmin,←hM1]at this;exact this
 have hcp2:∀(W:World),W=(w.drew.setRow b M1.toArray)→∀ty dc,(Builtin.copy_ #[22,22] ty #[.slice (some ⟨b,i*10,none⟩) (n+1-i) dc,.slice (some ⟨vb,vo,none⟩) 1 vc]).run Tryz.prog W=.ok (goInt 1) (W.setRow b (Go.splice M1 (i*10) vs).toArray):=fun W hW ty dc=>by
  have hmin:Nat.min 1 (n+1-i)=1:=by show min _ _=_;omega
  have:=m9 (P:=Tryz.prog) (w:=W) (sT:=22) (ty:=ty) (dCap:=dc) (sCap:=vc) (dLen:=n+1-i) (sLen:=1) (o:=i*10) (a:=⟨vb,vo,none⟩) Tryz.underlying22 hi0 hsz (g:=b) (t:=t) (L:=M1) (by rw[hW];exact setRow_heap _ _ _ _ _ _ hb) (cs:=vs) (by rw[hmin];omega)
   (fun j v hj=>by
    rw[Addr.add_lit,hW,cell_setRow_other _ _ _ _ hvb];exact hvs j v hj) (by omega) h2
  rw[hmin]at this;exact this
 have hw1:IntKind.i64.wrap ((i:Int)+1)=(i:Int)+1:=by rw[IntKind.wrap_i64];omega
 have hb1:(0:Int)≤(i:Int)+1:=by omega
 have hin:i≤n:=by omega
 have htn:((i:Int)+1).toNat=i+1:=by omega
 have hb2:¬(c=i+1):=by omega
 have hb3:(i:Int)≤(n:Int)+1:=by omega
 have hb4:¬(c=i):=by omega
 have mixed:Tryz.prog.follows .mixedOrders=true:=kr;clear hC1 hM1 hC1l hM1l h1 h2 hvs hL
 go_enter Tryz.func121,Tryz.ntmps121
 go_wp2_with (simp only[hov])
 go_region_law_o (refine a0f rfl _ _ 22 22 rfl _ _ (by simp[Act.eval,Act.put]) (by simp[Act.eval,Act.put]) (hcp1 _ _ _) ?_)
 go_wp2_with (at_builtin;refine a7t rfl _ _ 22 22 rfl _ _ rfl rfl (hcp2 _ rfl _ _) ?_)
 go_ret
 exact ⟨rfl,rfl⟩
theorem a8b {i0:TypeInfo} {k c:Nat} (h:c<k) (hk:k≤1073741824) (hby:i0.bytes≤128):Builtin.nextslicecap k c*i0.bytes≤281474976710656:=
 growslice_fits h (yaQ (ybE hk hby) (by decide))
set_option maxHeartbeats 4000000 in
set_option maxRecDepth 100000 in
theorem a9p {w:World} {b n c vb vo vc:Nat} {L vs:List Value} {t:TypeId} (hroom:n+1≤c) (hlim:n+1≤1073741824)
 (hb:w.heap[b]?=some (.cells L.toArray t (0,0))) (hL:L.length=c*10) (hvl:vs.length=10)
 (hvs:∀j v,vs[j]?=some v→w.cell? ⟨vb,vo+j,none⟩=some v) (h2:∀v∈vs,v.oneCell'=true) :
 Calls Tryz.prog 121 #[.slice (some ⟨b,0,none⟩) n c,.int .i64 n,.slice (some ⟨vb,vo,none⟩) 1 vc] w fun e w'=>
  e=.returned (.slice (some ⟨b,0,none⟩) (n+1) c)∧w'=w.setRow b (Go.splice L (n*10) vs).toArray:=by
 obtain ⟨i0,z0,hi0,hz0,hzs,hsz,hby⟩:=a4g;have hLn:(n+1)*10≤L.length:=by rw[hL];exact yal _ hroom
 have hf:=run_firstCells_some (P:=Tryz.prog) w i0.size 1 ⟨vb,vo,none⟩ 1 vc vs (by omega) (fun j v hj=>by rw[Addr.add_lit];exact hvs j v hj);have hap:∀ty,(Builtin.append_ #[22,22] ty #[.slice (some ⟨b,0,none⟩) n c,.slice (some ⟨vb,vo,none⟩) 1 vc]).run Tryz.prog w=.ok (.slice (some ⟨b,0,none⟩) (n+1) c) (w.setRow b (Go.splice L (n*10) vs).toArray):=fun ty=>by
  have:=s9 (P:=Tryz.prog) (w:=w) (ty:=ty) (ts:=#[22,22]) rfl rfl Tryz.underlying22 Tryz.underlying22 hi0 hf hroom hb (by simp only[ybf];rw[hsz];omega) h2;rw[hsz]at this;simpa[Go.splice]using this
 go_enter Tryz.func121,Tryz.ntmps121
 go_wp2_with (at_builtin;refine n7 rfl _ _ _ _ rfl _ _ rfl rfl (hap _) ?_)
 all_goals (go_ret;exact ⟨rfl,rfl⟩)
set_option maxHeartbeats 4000000 in
set_option maxRecDepth 100000 in
theorem b1s {w:World} {base:Option Addr} {n c vb vo vc:Nat} {olds vs:List Value} (hnc:n≤c) (hroom:c<n+1) (hlim:n+1≤1073741824) (hvl:vs.length=10)
 (hnil:base=none→n=0) (hol:olds.length=n*10) (hos:∀a,base=some a→∀j v,olds[j]?=some v→w.cell? (a.add j)=some v)
 (hvs:∀j v,vs[j]?=some v→w.cell? ⟨vb,vo+j,none⟩=some v) :
 Calls Tryz.prog 121 #[.slice base n c,.int .i64 n,.slice (some ⟨vb,vo,none⟩) 1 vc] w fun e w'=>
  ∃cap zs,e=.returned (.slice (some ⟨w.heap.size,0,none⟩) (n+1) cap)∧w'=w.drew.alloc (.cells (olds++(vs++zs)).toArray 61)∧n+1≤cap∧zs.length=(cap-(n+1))*10:=by
 obtain ⟨i0,z0,hi0,hz0,hzs,hsz,hby⟩:=a4g;have hf:=run_firstCells_some (P:=Tryz.prog) w.drew i0.size 1 ⟨vb,vo,none⟩ 1 vc vs (by omega) (fun j v hj=>by rw[Addr.add_lit];exact hvs j v hj);have hold:(Builtin.firstCells i0.size n (.slice base n c)).run Tryz.prog w.drew=.ok olds.toArray w.drew:=by
  cases base with
  |none=>
   have h0:=hnil rfl;subst h0;rw[ya3.1 (by omega:olds.length=0)];exact run_firstCells_none w.drew _ 0 0 c
  |some a=>exact run_firstCells_some w.drew _ n a n c olds (by rw[hsz];omega) (fun j v hj=>hos a rfl j v hj)
 have hap:∀ty,(Builtin.append_ #[22,22] ty #[.slice base n c,.slice (some ⟨vb,vo,none⟩) 1 vc]).run Tryz.prog w=_:=fun ty=>
  t6 (P:=Tryz.prog) (w:=w) (ty:=ty) (ts:=#[22,22]) rfl rfl Tryz.underlying22 Tryz.underlying22 hi0 hz0 hf hold hroom (by omega) (a8b hroom hlim hby)
 have hge:=p6 w (n+1) c 61;obtain ⟨G,hG⟩:∃G,G=grownCap w (n+1) c 61:=⟨_,rfl⟩
 obtain ⟨zs,hzs'⟩:∃zs,zs=(Builtin.zeroCells z0.cells (G-(n+1))).toList:=⟨_,rfl⟩
 rw[←hG]at hap hge;rw[←hzs']at hap;have hzl:zs.length=(G-(n+1))*10:=by rw[hzs',yaL,size_zeroCells,hzs]
 clear hG hzs'
 go_enter Tryz.func121,Tryz.ntmps121
 cases base with
 |none=>
  have h0:=hnil rfl;subst h0
  go_wp2_with (at_builtin;refine n7 rfl _ _ _ _ rfl _ _ rfl rfl (hap _) ?_)
  all_goals (go_ret;first|exact ⟨_,_,rfl,rfl,hge,hzl⟩|exact ⟨_,rfl,_,rfl,hge,hzl⟩)
 |some a=>
  obtain ⟨ab,ao,asp⟩:=a
  go_wp2_with (at_builtin;refine n7 rfl _ _ _ _ rfl _ _ rfl rfl (hap _) ?_)
  all_goals (go_ret;first|exact ⟨_,_,rfl,rfl,hge,hzl⟩|exact ⟨_,rfl,_,rfl,hge,hzl⟩)
set_option maxHeartbeats 4000000 in
set_option maxRecDepth 100000 in
theorem a9o {w:World} {b n c i vb vo vc:Nat} {L vs:List Value} {t:TypeId} (hi:i<n) (hnc:n≤c) (hroom:c<n+1) (hlim:n+1≤1073741824) (hvb:vb≠b)
 (hb:w.heap[b]?=some (.cells L.toArray t (0,0))) (hL:L.length=c*10) (hvl:vs.length=10)
 (hvs:∀j v,vs[j]?=some v→w.cell? ⟨vb,vo+j,none⟩=some v) (h1:∀v∈(L.drop (i*10)).take ((n-i)*10),v.oneCell'=true) (h2:∀v∈vs,v.oneCell'=true) :
 Calls Tryz.prog 121 #[.slice (some ⟨b,0,none⟩) n c,.int .i64 i,.slice (some ⟨vb,vo,none⟩) 1 vc] w fun e w'=>
  ∃cap row,e=.returned (.slice (some ⟨w.heap.size,0,none⟩) (n+1) cap)∧n+1≤cap∧row.length=cap*10∧row.take (i*10)=L.take (i*10)∧
   w'.heap=(w.heap.push (.cells (Go.splice (Go.splice row (i*10) vs) ((i+1)*10) ((L.drop (i*10)).take ((n-i)*10))).toArray 61))∧w'.os=w.os∧w'.output=w.output∧w'.tape=w.tape:=by
 obtain ⟨i0,z0,hi0,hz0,hzs,hsz,hby⟩:=a4g;have hz2:¬((i:Int)=(n:Int)):=by omega
 have hz3:(c:Int)<(n:Int)+1:=by omega
 have hLn:n*10≤L.length:=by rw[hL];exact yal _ hnc
 have hbw:b<w.heap.size:=(yac.1 hb).1;have hvw:vb<w.heap.size:=by
  have h:=hvs 0 _ (yaa (by omega));unfold World.cell? at h;split at h
  ·rename_i c0 t0 f0 hc0;exact (yac.1 hc0).1
  ·cases h
 have hkk:(n:Int)+1-(i:Int)=((n+1-i:Nat):Int):=by omega
 have hik:i+(n+1-i)=n+1:=by omega
 have hTl:(L.take (i*10)).length=i*10:=by simp;omega
 have hold:(Builtin.firstCells i0.size i (.slice (some ⟨b,0,none⟩) i c)).run Tryz.prog w.drew=.ok (L.take (i*10)).toArray w.drew:=by
  refine run_firstCells_some w.drew _ i ⟨b,0,none⟩ i c (L.take (i*10)) (by rw[hsz];exact hTl) (fun j v hj=>?_);rw[Addr.add_lit,yaK];show w.cell? _=_
  simp only[World.cell?,hb];rw[yar]at hj;split at hj
  ·simpa using hj
  ·cases hj
 have hrz:∀ty,(Builtin.append_ #[22,3] ty #[.slice (some ⟨b,0,none⟩) i c,.int .i64 ((n:Int)+1-(i:Int))]).run Tryz.prog w =
  .ok (.slice (some ⟨w.heap.size,0,none⟩) (n+1) (grownCap w (n+1) c 61)) (w.drew.alloc (.cells ((L.take (i*10)).toArray++Builtin.zeroCells z0.cells (n+1-i)++Builtin.zeroCells z0.cells (grownCap w (n+1) c 61-(n+1))) 61)):=fun ty=>by
  have h:=Lib.run_append_grow_zeros w 22 3 ty 61 i0 _ .i64 .i64 Tryz.underlying22 Tryz.underlying3 hi0 hz0 (some ⟨b,0,none⟩) i c _ hold (n+1-i) (by omega) (by omega) (by omega) (by omega)
   (yaQ (ybE (show n+1-i≤1073741824 by omega) hby) (by decide)) (by rw[hik];exact a8b hroom hlim hby)
  rw[hik]at h;rw[hkk];exact h
 have hge:=p6 w (n+1) c 61;obtain ⟨G,hG⟩:∃G,G=grownCap w (n+1) c 61:=⟨_,rfl⟩
 rw[←hG]at hrz hge;have hG63:G≤9223372036854775807:=by
  have:=grownCap_le_maxLen w (n+1) c 61 (by unfold maxLen;omega);rw[←hG]at this;unfold maxLen at this;omega
 obtain ⟨R,hR⟩:∃R:List Value,R=L.take (i*10)++((Builtin.zeroCells z0.cells (n+1-i)).toList++(Builtin.zeroCells z0.cells (G-(n+1))).toList):=⟨_,rfl⟩
 have hRl:R.length=G*10:=by
  rw[hR];simp only[yaD,yaL,size_zeroCells,hzs,hTl];rw[←yaJ,←yaJ];congr 1;omega
 have hRt:R.take (i*10)=L.take (i*10):=by rw[hR,List.take_append_of_le_length (by omega),ybF (by omega)]
 have hRe:(L.take (i*10)).toArray++Builtin.zeroCells z0.cells (n+1-i)++Builtin.zeroCells z0.cells (G-(n+1))=R.toArray:=by
  rw[hR];apply Array.ext';simp
 rw[hRe]at hrz;obtain ⟨C1,hC1⟩:∃C1,C1=(L.drop (i*10)).take ((n-i)*10):=⟨_,rfl⟩
 have hC1l:C1.length=(n-i)*10:=by rw[hC1];simp;omega
 have hGn:(n+1)*10≤R.length:=by rw[hRl];exact yal _ hge
 obtain ⟨M1,hM1⟩:∃M1,M1=Go.splice R (i*10) vs:=⟨_,rfl⟩
 have hM1l:M1.length=R.length:=by rw[hM1];exact length_splice _ _ _ (by omega)
 rw[←hC1];obtain ⟨gb,hgb⟩:∃gb,gb=w.heap.size:=⟨_,rfl⟩
 have hnew:∀W:World,W.heap=w.heap.push (.cells R.toArray 61)→W.heap[gb]?=some (.cells R.toArray 61 (0,0)):=fun W hW=>by rw[hW,hgb];simp
 have hpast:∀W:World,W.heap=w.heap.push (.cells R.toArray 61)→∀k,k<w.heap.size→W.heap[k]?=w.heap[k]?:=fun W hW k hk=>by rw[hW,ybc hk];simp[hk]
 have hcpA:∀(W:World),W.heap=w.heap.push (.cells R.toArray 61)→∀ty dc,(Builtin.copy_ #[22,22] ty #[.slice (some ⟨gb,i*10,none⟩) (n+1-i) dc,.slice (some ⟨vb,vo,none⟩) 1 vc]).run Tryz.prog W=.ok (goInt 1) (W.setRow gb M1.toArray):=fun W hW ty dc=>by
  have hmin:Nat.min 1 (n+1-i)=1:=by show min _ _=_;omega
  have:=m9 (P:=Tryz.prog) (w:=W) (sT:=22) (ty:=ty) (dCap:=dc) (sCap:=vc) (dLen:=n+1-i) (sLen:=1) (o:=i*10) (a:=⟨vb,vo,none⟩) Tryz.underlying22 hi0 hsz (g:=gb) (t:=61) (L:=R) (hnew W hW) (cs:=vs) (by rw[hmin];omega)
   (fun j v hj=>by
    rw[Addr.add_lit];unfold World.cell?;rw[show W.heap[(⟨vb,vo+j,none⟩:Addr).block]?=w.heap[vb]? from hpast W hW vb hvw];exact hvs j v hj) (by omega) h2
  rw[hmin,←hM1]at this;exact this
 have hcpB:∀(W W0:World),W0.heap=w.heap.push (.cells R.toArray 61)→W.heap=(W0.setRow gb M1.toArray).heap→∀ty dc sc,(Builtin.copy_ #[22,22] ty #[.slice (some ⟨gb,(i+1)*10,none⟩) (n-i) dc,.slice (some ⟨b,i*10,none⟩) (n-i) sc]).run Tryz.prog W=.ok (goInt ((n-i:Nat):Int)) (W.setRow gb (Go.splice M1 ((i+1)*10) C1).toArray):=fun W W0 hW0 hW ty dc sc=>by
  have hmin:Nat.min (n-i) (n-i)=n-i:=by show min _ _=_;omega
  have:=m9 (P:=Tryz.prog) (w:=W) (sT:=22) (ty:=ty) (dCap:=dc) (sCap:=sc) (dLen:=n-i) (sLen:=n-i) (o:=(i+1)*10) (a:=⟨b,i*10,none⟩) Tryz.underlying22 hi0 hsz (g:=gb) (t:=61) (L:=M1) (by rw[hW];exact setRow_heap _ _ _ _ _ _ (hnew W0 hW0)) (cs:=C1) (by rw[hmin];exact hC1l)
   (fun j v hj=>by
    rw[Addr.add_lit];unfold World.cell?;have e:W.heap[(⟨b,i*10+j,none⟩:Addr).block]?=w.heap[b]?:=by
     show W.heap[b]?=_
     rw[hW,setRow_other _ _ _ _ (by omega),hpast W0 hW0 b hbw]
    rw[e,hb];rw[hC1,yar]at hj;split at hj
    ·simpa using hj
    ·cases hj) (by omega) (by rw[hC1];exact h1)
  rw[hmin]at this;exact this
 have hw1:IntKind.i64.wrap ((i:Int)+1)=(i:Int)+1:=by rw[IntKind.wrap_i64];omega
 have hb1:(0:Int)≤(i:Int)+1:=by omega
 have hin:i≤n:=by omega
 have htn:((i:Int)+1).toNat=i+1:=by omega
 have hb3:(i:Int)≤(n:Int):=by omega
 have hGi:¬(G=i):=by omega
 have hGim:¬(G=i+1):=by omega
 have hci:¬(c=i):=by omega
 have hmixed:Tryz.prog.follows .mixedOrders=true:=kr;have mixed:=hmixed;have hfin:∀W W0:World,W0.heap=w.heap.push (.cells R.toArray 61)→W.heap=(W0.setRow gb M1.toArray).heap→(W.setRow gb (Go.splice M1 ((i+1)*10) C1).toArray).heap=w.heap.push (.cells (Go.splice M1 ((i+1)*10) C1).toArray 61):=fun W W0 hW0 hW=>by
  have h1:W.heap[gb]?=some (.cells M1.toArray 61 (0,0)):=by rw[hW];exact setRow_heap _ _ _ _ _ _ (hnew W0 hW0)
  have hsz0:W.heap.size=w.heap.size+1:=by rw[hW,setRow_size,hW0];simp
  apply Array.ext_getElem?;intro k;by_cases hk:k=gb
  ·subst hk;rw[setRow_heap _ _ _ _ _ _ h1,hgb];simp
  ·rw[setRow_other _ _ _ _ hk];by_cases hk2:k<w.heap.size
   ·rw[hW,setRow_other _ _ _ _ hk,hpast W0 hW0 k hk2,ybc hk2];simp[hk2]
   ·rw[yaZ (by omega),yaZ (by simp;omega)]
 have hMM:Go.splice (Go.splice R (i*10) vs) ((i+1)*10) C1=Go.splice M1 ((i+1)*10) C1:=by rw[hM1]
 subst hgb;have hcpA':=hcpA ((w.alloc (.cells R.toArray 61)).drew) rfl;clear hkk hcpA hik hold hG hR hRe hC1 hM1 hC1l hM1l h1 h2 hvs hL hTl
 go_enter Tryz.func121,Tryz.ntmps121
 go_wp2_with (at_builtin;refine n7 rfl _ _ _ _ rfl _ _ rfl rfl (hrz _) ?_)
 go_region_law_o (refine a0f rfl _ _ 22 22 rfl (.slice (some ⟨w.heap.size,(i+1)*10,none⟩) (n-i) (G-(i+1))) (.slice (some ⟨b,i*10,none⟩) (n-i) (c-i)) (by simp[Act.eval,Act.put]) (by simp[Act.eval,Act.put]) (hcpB (((w.alloc (.cells R.toArray 61)).drew.setRow w.heap.size M1.toArray).drew) (w.drew.alloc (.cells R.toArray 61)) rfl rfl 3 (G-(i+1)) (c-i)) ?_)
 go_wp2
 go_ret
 refine ⟨G,R,rfl,hge,hRl,hRt,?_,rfl,rfl,rfl⟩;rw[hMM];exact hfin _ (w.drew.alloc (.cells R.toArray 61)) rfl rfl
end
section
theorem a4h:∃i0 z,Tryz.prog.info? 79=some i0∧i0.zero=some z∧z.cells.size=6∧i0.size=6∧i0.bytes≤128:=by
 have h:(match Tryz.prog.info? 79 with|some i=>(match i.zero with|some z=>Nat.beq z.cells.size 6&&Nat.beq i.size 6&&Nat.ble i.bytes 128|none=>false)|none=>false)=true:=kr;split at h
 ·rename_i i hi;split at h
  ·rename_i z hz;simp only[yab]at h;exact ⟨i,z,hi,hz,ya0 h.1.1,ya0 h.1.2,yaF h.2⟩
  ·cases h
 ·cases h
set_option maxHeartbeats 4000000 in
set_option maxRecDepth 100000 in
theorem a73 {w:World} {b n c i vb vo vc:Nat} {L vs:List Value} {t:TypeId} (hi:i<n) (hroom:n+1≤c) (hlim:n+1≤1073741824) (hvb:vb≠b)
 (hb:w.heap[b]?=some (.cells L.toArray t (0,0))) (hL:L.length=c*6) (hvl:vs.length=6)
 (hvs:∀j v,vs[j]?=some v→w.cell? ⟨vb,vo+j,none⟩=some v) (h1:∀v∈(L.drop (i*6)).take ((n-i)*6),v.oneCell'=true) (h2:∀v∈vs,v.oneCell'=true) :
 Calls Tryz.prog 201 #[.slice (some ⟨b,0,none⟩) n c,.int .i64 i,.slice (some ⟨vb,vo,none⟩) 1 vc] w fun e w'=>
  e=.returned (.slice (some ⟨b,0,none⟩) (n+1) c)∧w'=(w.drew.setRow b (Go.splice L ((i+1)*6) ((L.drop (i*6)).take ((n-i)*6))).toArray).setRow b (Go.splice (Go.splice L ((i+1)*6) ((L.drop (i*6)).take ((n-i)*6))) (i*6) vs).toArray:=by
 obtain ⟨i0,z0,hi0,hz0,hzs,hsz,hby⟩:=a4h;have hz2:¬((i:Int)=(n:Int)):=by omega
 have hva:∃va ta fa,w.heap[vb]?=some (.cells va ta fa)∧0<va.size:=by
  have h:=hvs 0 _ (yaa (by omega));unfold World.cell? at h;split at h
  ·rename_i c0 t0 f0 hc0;exact ⟨c0,t0,f0,hc0,by have:=(yac.1 h).1;omega⟩
  ·cases h
 obtain ⟨va,ta,fa,hva,hva0⟩:=hva;have hov:∀lb cb,(callFunc 262 #[.slice (some ⟨vb,vo,none⟩) 1 vc,.slice (some ⟨b,(i+1)*6,none⟩) lb cb]).run Tryz.prog w=.ok (.value (.bool false)) w:=fun lb cb=>by
  rw[run_callFunc_extern Tryz.func262 kr kr kr (e:=Extern.SlicesOverlaps.overlaps #[24,24] #[4]) kr,
   a0s Tryz.underlying24 hi0 (a:=⟨vb,vo,none⟩) (b:=⟨b,(i+1)*6,none⟩) hvb hva hva0 hb (by simp only[ybf];omega)]
  rfl
 have hLn:(n+1)*6≤L.length:=by rw[hL];exact yal _ hroom
 obtain ⟨C1,hC1⟩:∃C1,C1=(L.drop (i*6)).take ((n-i)*6):=⟨_,rfl⟩
 have hC1l:C1.length=(n-i)*6:=by rw[hC1];simp;omega
 obtain ⟨M1,hM1⟩:∃M1,M1=Go.splice L ((i+1)*6) C1:=⟨_,rfl⟩
 have hM1l:M1.length=L.length:=by rw[hM1];exact length_splice _ _ _ (by omega)
 rw[←hC1,←hM1];have hcp1:∀ty dc sc,(Builtin.copy_ #[24,24] ty #[.slice (some ⟨b,(i+1)*6,none⟩) (n-i) dc,.slice (some ⟨b,i*6,none⟩) (n+1-i) sc]).run Tryz.prog w.drew=.ok (goInt ((n-i:Nat):Int)) (w.drew.setRow b M1.toArray):=fun ty dc sc=>by
  have hmin:Nat.min (n+1-i) (n-i)=n-i:=by show min _ _=_;omega
  have:=m9 (P:=Tryz.prog) (w:=w.drew) (sT:=24) (ty:=ty) (dCap:=dc) (sCap:=sc) (dLen:=n-i) (sLen:=n+1-i) (o:=(i+1)*6) (a:=⟨b,i*6,none⟩) Tryz.underlying24 hi0 hsz hb (cs:=C1) (by rw[hmin];exact hC1l)
   (fun j v hj=>by
    rw[Addr.add_lit];show w.cell? _=_
    simp only[World.cell?,hb];rw[hC1,yar]at hj;split at hj
    ·simpa using hj
    ·cases hj) (by omega) (by rw[hC1];exact h1)
  rw[hmin,←hM1]at this;exact this
 have hcp2:∀(W:World),W=(w.drew.setRow b M1.toArray)→∀ty dc,(Builtin.copy_ #[24,24] ty #[.slice (some ⟨b,i*6,none⟩) (n+1-i) dc,.slice (some ⟨vb,vo,none⟩) 1 vc]).run Tryz.prog W=.ok (goInt 1) (W.setRow b (Go.splice M1 (i*6) vs).toArray):=fun W hW ty dc=>by
  have hmin:Nat.min 1 (n+1-i)=1:=by show min _ _=_;omega
  have:=m9 (P:=Tryz.prog) (w:=W) (sT:=24) (ty:=ty) (dCap:=dc) (sCap:=vc) (dLen:=n+1-i) (sLen:=1) (o:=i*6) (a:=⟨vb,vo,none⟩) Tryz.underlying24 hi0 hsz (g:=b) (t:=t) (L:=M1) (by rw[hW];exact setRow_heap _ _ _ _ _ _ hb) (cs:=vs) (by rw[hmin];omega)
   (fun j v hj=>by
    rw[Addr.add_lit,hW,cell_setRow_other _ _ _ _ hvb];exact hvs j v hj) (by omega) h2
  rw[hmin]at this;exact this
 have hw1:IntKind.i64.wrap ((i:Int)+1)=(i:Int)+1:=by rw[IntKind.wrap_i64];omega
 have hb1:(0:Int)≤(i:Int)+1:=by omega
 have hin:i≤n:=by omega
 have htn:((i:Int)+1).toNat=i+1:=by omega
 have hb2:¬(c=i+1):=by omega
 have hb3:(i:Int)≤(n:Int)+1:=by omega
 have hb4:¬(c=i):=by omega
 have mixed:Tryz.prog.follows .mixedOrders=true:=kr;clear hC1 hM1 hC1l hM1l h1 h2 hvs hL
 go_enter Tryz.func201,Tryz.ntmps201
 go_wp2_with (simp only[hov])
 go_region_law_o (refine a0f rfl _ _ 24 24 rfl _ _ (by simp[Act.eval,Act.put]) (by simp[Act.eval,Act.put]) (hcp1 _ _ _) ?_)
 go_wp2_with (at_builtin;refine a7t rfl _ _ 24 24 rfl _ _ rfl rfl (hcp2 _ rfl _ _) ?_)
 go_ret
 exact ⟨rfl,rfl⟩
theorem a8c {i0:TypeInfo} {k c:Nat} (h:c<k) (hk:k≤1073741824) (hby:i0.bytes≤128):Builtin.nextslicecap k c*i0.bytes≤281474976710656:=
 growslice_fits h (yaQ (ybE hk hby) (by decide))
set_option maxHeartbeats 4000000 in
set_option maxRecDepth 100000 in
theorem a9r {w:World} {b n c vb vo vc:Nat} {L vs:List Value} {t:TypeId} (hroom:n+1≤c) (hlim:n+1≤1073741824)
 (hb:w.heap[b]?=some (.cells L.toArray t (0,0))) (hL:L.length=c*6) (hvl:vs.length=6)
 (hvs:∀j v,vs[j]?=some v→w.cell? ⟨vb,vo+j,none⟩=some v) (h2:∀v∈vs,v.oneCell'=true) :
 Calls Tryz.prog 201 #[.slice (some ⟨b,0,none⟩) n c,.int .i64 n,.slice (some ⟨vb,vo,none⟩) 1 vc] w fun e w'=>
  e=.returned (.slice (some ⟨b,0,none⟩) (n+1) c)∧w'=w.setRow b (Go.splice L (n*6) vs).toArray:=by
 obtain ⟨i0,z0,hi0,hz0,hzs,hsz,hby⟩:=a4h;have hLn:(n+1)*6≤L.length:=by rw[hL];exact yal _ hroom
 have hf:=run_firstCells_some (P:=Tryz.prog) w i0.size 1 ⟨vb,vo,none⟩ 1 vc vs (by omega) (fun j v hj=>by rw[Addr.add_lit];exact hvs j v hj);have hap:∀ty,(Builtin.append_ #[24,24] ty #[.slice (some ⟨b,0,none⟩) n c,.slice (some ⟨vb,vo,none⟩) 1 vc]).run Tryz.prog w=.ok (.slice (some ⟨b,0,none⟩) (n+1) c) (w.setRow b (Go.splice L (n*6) vs).toArray):=fun ty=>by
  have:=s9 (P:=Tryz.prog) (w:=w) (ty:=ty) (ts:=#[24,24]) rfl rfl Tryz.underlying24 Tryz.underlying24 hi0 hf hroom hb (by simp only[ybf];rw[hsz];omega) h2;rw[hsz]at this;simpa[Go.splice]using this
 go_enter Tryz.func201,Tryz.ntmps201
 go_wp2_with (at_builtin;refine n7 rfl _ _ _ _ rfl _ _ rfl rfl (hap _) ?_)
 all_goals (go_ret;exact ⟨rfl,rfl⟩)
set_option maxHeartbeats 4000000 in
set_option maxRecDepth 100000 in
theorem b1t {w:World} {base:Option Addr} {n c vb vo vc:Nat} {olds vs:List Value} (hnc:n≤c) (hroom:c<n+1) (hlim:n+1≤1073741824) (hvl:vs.length=6)
 (hnil:base=none→n=0) (hol:olds.length=n*6) (hos:∀a,base=some a→∀j v,olds[j]?=some v→w.cell? (a.add j)=some v)
 (hvs:∀j v,vs[j]?=some v→w.cell? ⟨vb,vo+j,none⟩=some v) :
 Calls Tryz.prog 201 #[.slice base n c,.int .i64 n,.slice (some ⟨vb,vo,none⟩) 1 vc] w fun e w'=>
  ∃cap zs,e=.returned (.slice (some ⟨w.heap.size,0,none⟩) (n+1) cap)∧w'=w.drew.alloc (.cells (olds++(vs++zs)).toArray 79)∧n+1≤cap∧zs.length=(cap-(n+1))*6:=by
 obtain ⟨i0,z0,hi0,hz0,hzs,hsz,hby⟩:=a4h;have hf:=run_firstCells_some (P:=Tryz.prog) w.drew i0.size 1 ⟨vb,vo,none⟩ 1 vc vs (by omega) (fun j v hj=>by rw[Addr.add_lit];exact hvs j v hj);have hold:(Builtin.firstCells i0.size n (.slice base n c)).run Tryz.prog w.drew=.ok olds.toArray w.drew:=by
  cases base with
  |none=>
   have h0:=hnil rfl;subst h0;rw[ya3.1 (by omega:olds.length=0)];exact run_firstCells_none w.drew _ 0 0 c
  |some a=>exact run_firstCells_some w.drew _ n a n c olds (by rw[hsz];omega) (fun j v hj=>hos a rfl j v hj)
 have hap:∀ty,(Builtin.append_ #[24,24] ty #[.slice base n c,.slice (some ⟨vb,vo,none⟩) 1 vc]).run Tryz.prog w=_:=fun ty=>
  t6 (P:=Tryz.prog) (w:=w) (ty:=ty) (ts:=#[24,24]) rfl rfl Tryz.underlying24 Tryz.underlying24 hi0 hz0 hf hold hroom (by omega) (a8c hroom hlim hby)
 have hge:=p6 w (n+1) c 79;obtain ⟨G,hG⟩:∃G,G=grownCap w (n+1) c 79:=⟨_,rfl⟩
 obtain ⟨zs,hzs'⟩:∃zs,zs=(Builtin.zeroCells z0.cells (G-(n+1))).toList:=⟨_,rfl⟩
 rw[←hG]at hap hge;rw[←hzs']at hap;have hzl:zs.length=(G-(n+1))*6:=by rw[hzs',yaL,size_zeroCells,hzs]
 clear hG hzs'
 go_enter Tryz.func201,Tryz.ntmps201
 cases base with
 |none=>
  have h0:=hnil rfl;subst h0
  go_wp2_with (at_builtin;refine n7 rfl _ _ _ _ rfl _ _ rfl rfl (hap _) ?_)
  all_goals (go_ret;first|exact ⟨_,_,rfl,rfl,hge,hzl⟩|exact ⟨_,rfl,_,rfl,hge,hzl⟩)
 |some a=>
  obtain ⟨ab,ao,asp⟩:=a
  go_wp2_with (at_builtin;refine n7 rfl _ _ _ _ rfl _ _ rfl rfl (hap _) ?_)
  all_goals (go_ret;first|exact ⟨_,_,rfl,rfl,hge,hzl⟩|exact ⟨_,rfl,_,rfl,hge,hzl⟩)
set_option maxHeartbeats 4000000 in
set_option maxRecDepth 100000 in
theorem a9q {w:World} {b n c i vb vo vc:Nat} {L vs:List Value} {t:TypeId} (hi:i<n) (hnc:n≤c) (hroom:c<n+1) (hlim:n+1≤1073741824) (hvb:vb≠b)
 (hb:w.heap[b]?=some (.cells L.toArray t (0,0))) (hL:L.length=c*6) (hvl:vs.length=6)
 (hvs:∀j v,vs[j]?=some v→w.cell? ⟨vb,vo+j,none⟩=some v) (h1:∀v∈(L.drop (i*6)).take ((n-i)*6),v.oneCell'=true) (h2:∀v∈vs,v.oneCell'=true) :
 Calls Tryz.prog 201 #[.slice (some ⟨b,0,none⟩) n c,.int .i64 i,.slice (some ⟨vb,vo,none⟩) 1 vc] w fun e w'=>
  ∃cap row,e=.returned (.slice (some ⟨w.heap.size,0,none⟩) (n+1) cap)∧n+1≤cap∧row.length=cap*6∧row.take (i*6)=L.take (i*6)∧
   w'.heap=(w.heap.push (.cells (Go.splice (Go.splice row (i*6) vs) ((i+1)*6) ((L.drop (i*6)).take ((n-i)*6))).toArray 79))∧w'.os=w.os∧w'.output=w.output∧w'.tape=w.tape:=by
 obtain ⟨i0,z0,hi0,hz0,hzs,hsz,hby⟩:=a4h;have hz2:¬((i:Int)=(n:Int)):=by omega
 have hz3:(c:Int)<(n:Int)+1:=by omega
 have hLn:n*6≤L.length:=by rw[hL];exact yal _ hnc
 have hbw:b<w.heap.size:=(yac.1 hb).1;have hvw:vb<w.heap.size:=by
  have h:=hvs 0 _ (yaa (by omega));unfold World.cell? at h;split at h
  ·rename_i c0 t0 f0 hc0;exact (yac.1 hc0).1
  ·cases h
 have hkk:(n:Int)+1-(i:Int)=((n+1-i:Nat):Int):=by omega
 have hik:i+(n+1-i)=n+1:=by omega
 have hTl:(L.take (i*6)).length=i*6:=by simp;omega
 have hold:(Builtin.firstCells i0.size i (.slice (some ⟨b,0,none⟩) i c)).run Tryz.prog w.drew=.ok (L.take (i*6)).toArray w.drew:=by
  refine run_firstCells_some w.drew _ i ⟨b,0,none⟩ i c (L.take (i*6)) (by rw[hsz];exact hTl) (fun j v hj=>?_);rw[Addr.add_lit,yaK];show w.cell? _=_
  simp only[World.cell?,hb];rw[yar]at hj;split at hj
  ·simpa using hj
  ·cases hj
 have hrz:∀ty,(Builtin.append_ #[24,3] ty #[.slice (some ⟨b,0,none⟩) i c,.int .i64 ((n:Int)+1-(i:Int))]).run Tryz.prog w =
  .ok (.slice (some ⟨w.heap.size,0,none⟩) (n+1) (grownCap w (n+1) c 79)) (w.drew.alloc (.cells ((L.take (i*6)).toArray++Builtin.zeroCells z0.cells (n+1-i)++Builtin.zeroCells z0.cells (grownCap w (n+1) c 79-(n+1))) 79)):=fun ty=>by
  have h:=Lib.run_append_grow_zeros w 24 3 ty 79 i0 _ .i64 .i64 Tryz.underlying24 Tryz.underlying3 hi0 hz0 (some ⟨b,0,none⟩) i c _ hold (n+1-i) (by omega) (by omega) (by omega) (by omega)
   (yaQ (ybE (show n+1-i≤1073741824 by omega) hby) (by decide)) (by rw[hik];exact a8c hroom hlim hby)
  rw[hik]at h;rw[hkk];exact h
 have hge:=p6 w (n+1) c 79;obtain ⟨G,hG⟩:∃G,G=grownCap w (n+1) c 79:=⟨_,rfl⟩
 rw[←hG]at hrz hge;have hG63:G≤9223372036854775807:=by
  have:=grownCap_le_maxLen w (n+1) c 79 (by unfold maxLen;omega);rw[←hG]at this;unfold maxLen at this;omega
 obtain ⟨R,hR⟩:∃R:List Value,R=L.take (i*6)++((Builtin.zeroCells z0.cells (n+1-i)).toList++(Builtin.zeroCells z0.cells (G-(n+1))).toList):=⟨_,rfl⟩
 have hRl:R.length=G*6:=by
  rw[hR];simp only[yaD,yaL,size_zeroCells,hzs,hTl];rw[←yaJ,←yaJ];congr 1;omega
 have hRt:R.take (i*6)=L.take (i*6):=by rw[hR,List.take_append_of_le_length (by omega),ybF (by omega)]
 have hRe:(L.take (i*6)).toArray++Builtin.zeroCells z0.cells (n+1-i)++Builtin.zeroCells z0.cells (G-(n+1))=R.toArray:=by
  rw[hR];apply Array.ext';simp
 rw[hRe]at hrz;obtain ⟨C1,hC1⟩:∃C1,C1=(L.drop (i*6)).take ((n-i)*6):=⟨_,rfl⟩
 have hC1l:C1.length=(n-i)*6:=by rw[hC1];simp;omega
 have hGn:(n+1)*6≤R.length:=by rw[hRl];exact yal _ hge
 obtain ⟨M1,hM1⟩:∃M1,M1=Go.splice R (i*6) vs:=⟨_,rfl⟩
 have hM1l:M1.length=R.length:=by rw[hM1];exact length_splice _ _ _ (by omega)
 rw[←hC1];obtain ⟨gb,hgb⟩:∃gb,gb=w.heap.size:=⟨_,rfl⟩
 have hnew:∀W:World,W.heap=w.heap.push (.cells R.toArray 79)→W.heap[gb]?=some (.cells R.toArray 79 (0,0)):=fun W hW=>by rw[hW,hgb];simp
 have hpast:∀W:World,W.heap=w.heap.push (.cells R.toArray 79)→∀k,k<w.heap.size→W.heap[k]?=w.heap[k]?:=fun W hW k hk=>by rw[hW,ybc hk];simp[hk]
 have hcpA:∀(W:World),W.heap=w.heap.push (.cells R.toArray 79)→∀ty dc,(Builtin.copy_ #[24,24] ty #[.slice (some ⟨gb,i*6,none⟩) (n+1-i) dc,.slice (some ⟨vb,vo,none⟩) 1 vc]).run Tryz.prog W=.ok (goInt 1) (W.setRow gb M1.toArray):=fun W hW ty dc=>by
  have hmin:Nat.min 1 (n+1-i)=1:=by show min _ _=_;omega
  have:=m9 (P:=Tryz.prog) (w:=W) (sT:=24) (ty:=ty) (dCap:=dc) (sCap:=vc) (dLen:=n+1-i) (sLen:=1) (o:=i*6) (a:=⟨vb,vo,none⟩) Tryz.underlying24 hi0 hsz (g:=gb) (t:=79) (L:=R) (hnew W hW) (cs:=vs) (by rw[hmin];omega)
   (fun j v hj=>by
    rw[Addr.add_lit];unfold World.cell?;rw[show W.heap[(⟨vb,vo+j,none⟩:Addr).block]?=w.heap[vb]? from hpast W hW vb hvw];exact hvs j v hj) (by omega) h2
  rw[hmin,←hM1]at this;exact this
 have hcpB:∀(W W0:World),W0.heap=w.heap.push (.cells R.toArray 79)→W.heap=(W0.setRow gb M1.toArray).heap→∀ty dc sc,(Builtin.copy_ #[24,24] ty #[.slice (some ⟨gb,(i+1)*6,none⟩) (n-i) dc,.slice (some ⟨b,i*6,none⟩) (n-i) sc]).run Tryz.prog W=.ok (goInt ((n-i:Nat):Int)) (W.setRow gb (Go.splice M1 ((i+1)*6) C1).toArray):=fun W W0 hW0 hW ty dc sc=>by
  have hmin:Nat.min (n-i) (n-i)=n-i:=by show min _ _=_;omega
  have:=m9 (P:=Tryz.prog) (w:=W) (sT:=24) (ty:=ty) (dCap:=dc) (sCap:=sc) (dLen:=n-i) (sLen:=n-i) (o:=(i+1)*6) (a:=⟨b,i*6,none⟩) Tryz.underlying24 hi0 hsz (g:=gb) (t:=79) (L:=M1) (by rw[hW];exact setRow_heap _ _ _ _ _ _ (hnew W0 hW0)) (cs:=C1) (by rw[hmin];exact hC1l)
   (fun j v hj=>by
    rw[Addr.add_lit];unfold World.cell?;have e:W.heap[(⟨b,i*6+j,none⟩:Addr).block]?=w.heap[b]?:=by
     show W.heap[b]?=_
     rw[hW,setRow_other _ _ _ _ (by omega),hpast W0 hW0 b hbw]
    rw[e,hb];rw[hC1,yar]at hj;split at hj
    ·simpa using hj
    ·cases hj) (by omega) (by rw[hC1];exact h1)
  rw[hmin]at this;exact this
 have hw1:IntKind.i64.wrap ((i:Int)+1)=(i:Int)+1:=by rw[IntKind.wrap_i64];omega
 have hb1:(0:Int)≤(i:Int)+1:=by omega
 have hin:i≤n:=by omega
 have htn:((i:Int)+1).toNat=i+1:=by omega
 have hb3:(i:Int)≤(n:Int):=by omega
 have hGi:¬(G=i):=by omega
 have hGim:¬(G=i+1):=by omega
 have hci:¬(c=i):=by omega
 have hmixed:Tryz.prog.follows .mixedOrders=true:=kr;have mixed:=hmixed;have hfin:∀W W0:World,W0.heap=w.heap.push (.cells R.toArray 79)→W.heap=(W0.setRow gb M1.toArray).heap→(W.setRow gb (Go.splice M1 ((i+1)*6) C1).toArray).heap=w.heap.push (.cells (Go.splice M1 ((i+1)*6) C1).toArray 79):=fun W W0 hW0 hW=>by
  have h1:W.heap[gb]?=some (.cells M1.toArray 79 (0,0)):=by rw[hW];exact setRow_heap _ _ _ _ _ _ (hnew W0 hW0)
  have hsz0:W.heap.size=w.heap.size+1:=by rw[hW,setRow_size,hW0];simp
  apply Array.ext_getElem?;intro k;by_cases hk:k=gb
  ·subst hk;rw[setRow_heap _ _ _ _ _ _ h1,hgb];simp
  ·rw[setRow_other _ _ _ _ hk];by_cases hk2:k<w.heap.size
   ·rw[hW,setRow_other _ _ _ _ hk,hpast W0 hW0 k hk2,ybc hk2];simp[hk2]
   ·rw[yaZ (by omega),yaZ (by simp;omega)]
 have hMM:Go.splice (Go.splice R (i*6) vs) ((i+1)*6) C1=Go.splice M1 ((i+1)*6) C1:=by rw[hM1]
 subst hgb;have hcpA':=hcpA ((w.alloc (.cells R.toArray 79)).drew) rfl;clear hkk hcpA hik hold hG hR hRe hC1 hM1 hC1l hM1l h1 h2 hvs hL hTl
 go_enter Tryz.func201,Tryz.ntmps201
 go_wp2_with (at_builtin;refine n7 rfl _ _ _ _ rfl _ _ rfl rfl (hrz _) ?_)
 go_region_law_o (refine a0f rfl _ _ 24 24 rfl (.slice (some ⟨w.heap.size,(i+1)*6,none⟩) (n-i) (G-(i+1))) (.slice (some ⟨b,i*6,none⟩) (n-i) (c-i)) (by simp[Act.eval,Act.put]) (by simp[Act.eval,Act.put]) (hcpB (((w.alloc (.cells R.toArray 79)).drew.setRow w.heap.size M1.toArray).drew) (w.drew.alloc (.cells R.toArray 79)) rfl rfl 3 (G-(i+1)) (c-i)) ?_)
 go_wp2
 go_ret
 refine ⟨G,R,rfl,hge,hRl,hRt,?_,rfl,rfl,rfl⟩;rw[hMM];exact hfin _ (w.drew.alloc (.cells R.toArray 79)) rfl rfl
end
section
theorem a2b:∃i0 z,Tryz.prog.info? 77=some i0∧i0.zero=some z∧z.cells.size=6∧i0.size=6∧i0.bytes≤128:=by
 have h:(match Tryz.prog.info? 77 with|some i=>(match i.zero with|some z=>Nat.beq z.cells.size 6&&Nat.beq i.size 6&&Nat.ble i.bytes 128|none=>false)|none=>false)=true:=kr;split at h
 ·rename_i i hi;split at h
  ·rename_i z hz;simp only[yab]at h;exact ⟨i,z,hi,hz,ya0 h.1.1,ya0 h.1.2,yaF h.2⟩
  ·cases h
 ·cases h
set_option maxHeartbeats 4000000 in
set_option maxRecDepth 100000 in
theorem a5q {w:World} {b n c i vb vo vc:Nat} {L vs:List Value} {t:TypeId} (hi:i<n) (hroom:n+1≤c) (hlim:n+1≤1073741824) (hvb:vb≠b)
 (hb:w.heap[b]?=some (.cells L.toArray t (0,0))) (hL:L.length=c*6) (hvl:vs.length=6)
 (hvs:∀j v,vs[j]?=some v→w.cell? ⟨vb,vo+j,none⟩=some v) (h1:∀v∈(L.drop (i*6)).take ((n-i)*6),v.oneCell'=true) (h2:∀v∈vs,v.oneCell'=true) :
 Calls Tryz.prog 249 #[.slice (some ⟨b,0,none⟩) n c,.int .i64 i,.slice (some ⟨vb,vo,none⟩) 1 vc] w fun e w'=>
  e=.returned (.slice (some ⟨b,0,none⟩) (n+1) c)∧w'=(w.drew.setRow b (Go.splice L ((i+1)*6) ((L.drop (i*6)).take ((n-i)*6))).toArray).setRow b (Go.splice (Go.splice L ((i+1)*6) ((L.drop (i*6)).take ((n-i)*6))) (i*6) vs).toArray:=by
 obtain ⟨i0,z0,hi0,hz0,hzs,hsz,hby⟩:=a2b;have hz2:¬((i:Int)=(n:Int)):=by omega
 have hva:∃va ta fa,w.heap[vb]?=some (.cells va ta fa)∧0<va.size:=by
  have h:=hvs 0 _ (yaa (by omega));unfold World.cell? at h;split at h
  ·rename_i c0 t0 f0 hc0;exact ⟨c0,t0,f0,hc0,by have:=(yac.1 h).1;omega⟩
  ·cases h
 obtain ⟨va,ta,fa,hva,hva0⟩:=hva;have hov:∀lb cb,(callFunc 284 #[.slice (some ⟨vb,vo,none⟩) 1 vc,.slice (some ⟨b,(i+1)*6,none⟩) lb cb]).run Tryz.prog w=.ok (.value (.bool false)) w:=fun lb cb=>by
  rw[run_callFunc_extern Tryz.func284 kr kr kr (e:=Extern.SlicesOverlaps.overlaps #[23,23] #[4]) kr,
   a0s Tryz.underlying23 hi0 (a:=⟨vb,vo,none⟩) (b:=⟨b,(i+1)*6,none⟩) hvb hva hva0 hb (by simp only[ybf];omega)]
  rfl
 have hLn:(n+1)*6≤L.length:=by rw[hL];exact yal _ hroom
 obtain ⟨C1,hC1⟩:∃C1,C1=(L.drop (i*6)).take ((n-i)*6):=⟨_,rfl⟩
 have hC1l:C1.length=(n-i)*6:=by rw[hC1];simp;omega
 obtain ⟨M1,hM1⟩:∃M1,M1=Go.splice L ((i+1)*6) C1:=⟨_,rfl⟩
 have hM1l:M1.length=L.length:=by rw[hM1];exact length_splice _ _ _ (by omega)
 rw[←hC1,←hM1];have hcp1:∀ty dc sc,(Builtin.copy_ #[23,23] ty #[.slice (some ⟨b,(i+1)*6,none⟩) (n-i) dc,.slice (some ⟨b,i*6,none⟩) (n+1-i) sc]).run Tryz.prog w.drew=.ok (goInt ((n-i:Nat):Int)) (w.drew.setRow b M1.toArray):=fun ty dc sc=>by
  have hmin:Nat.min (n+1-i) (n-i)=n-i:=by show min _ _=_;omega
  have:=m9 (P:=Tryz.prog) (w:=w.drew) (sT:=23) (ty:=ty) (dCap:=dc) (sCap:=sc) (dLen:=n-i) (sLen:=n+1-i) (o:=(i+1)*6) (a:=⟨b,i*6,none⟩) Tryz.underlying23 hi0 hsz hb (cs:=C1) (by rw[hmin];exact hC1l)
   (fun j v hj=>by
    rw[Addr.add_lit];show w.cell? _=_
    simp only[World.cell?,hb];rw[hC1,yar]at hj;split at hj
    ·simpa using hj
    ·cases hj) (by omega) (by rw[hC1];exact h1)
  rw[hmin,←hM1]at this;exact this
 have hcp2:∀(W:World),W=(w.drew.setRow b M1.toArray)→∀ty dc,(Builtin.copy_ #[23,23] ty #[.slice (some ⟨b,i*6,none⟩) (n+1-i) dc,.slice (some ⟨vb,vo,none⟩) 1 vc]).run Tryz.prog W=.ok (goInt 1) (W.setRow b (Go.splice M1 (i*6) vs).toArray):=fun W hW ty dc=>by
  have hmin:Nat.min 1 (n+1-i)=1:=by show min _ _=_;omega
  have:=m9 (P:=Tryz.prog) (w:=W) (sT:=23) (ty:=ty) (dCap:=dc) (sCap:=vc) (dLen:=n+1-i) (sLen:=1) (o:=i*6) (a:=⟨vb,vo,none⟩) Tryz.underlying23 hi0 hsz (g:=b) (t:=t) (L:=M1) (by rw[hW];exact setRow_heap _ _ _ _ _ _ hb) (cs:=vs) (by rw[hmin];omega)
   (fun j v hj=>by
    rw[Addr.add_lit,hW,cell_setRow_other _ _ _ _ hvb];exact hvs j v hj) (by omega) h2
  rw[hmin]at this;exact this
 have hw1:IntKind.i64.wrap ((i:Int)+1)=(i:Int)+1:=by rw[IntKind.wrap_i64];omega
 have hb1:(0:Int)≤(i:Int)+1:=by omega
 have hin:i≤n:=by omega
 have htn:((i:Int)+1).toNat=i+1:=by omega
 have hb2:¬(c=i+1):=by omega
 have hb3:(i:Int)≤(n:Int)+1:=by omega
 have hb4:¬(c=i):=by omega
 have mixed:Tryz.prog.follows .mixedOrders=true:=kr;clear hC1 hM1 hC1l hM1l h1 h2 hvs hL
 go_enter Tryz.func249,Tryz.ntmps249
 go_wp2_with (simp only[hov])
 go_region_law_o (refine a0f rfl _ _ 23 23 rfl _ _ (by simp[Act.eval,Act.put]) (by simp[Act.eval,Act.put]) (hcp1 _ _ _) ?_)
 go_wp2_with (at_builtin;refine a7t rfl _ _ 23 23 rfl _ _ rfl rfl (hcp2 _ rfl _ _) ?_)
 go_ret
 exact ⟨rfl,rfl⟩
theorem a5e {i0:TypeInfo} {k c:Nat} (h:c<k) (hk:k≤1073741824) (hby:i0.bytes≤128):Builtin.nextslicecap k c*i0.bytes≤281474976710656:=
 growslice_fits h (yaQ (ybE hk hby) (by decide))
set_option maxHeartbeats 4000000 in
set_option maxRecDepth 100000 in
theorem a6v {w:World} {b n c vb vo vc:Nat} {L vs:List Value} {t:TypeId} (hroom:n+1≤c) (hlim:n+1≤1073741824)
 (hb:w.heap[b]?=some (.cells L.toArray t (0,0))) (hL:L.length=c*6) (hvl:vs.length=6)
 (hvs:∀j v,vs[j]?=some v→w.cell? ⟨vb,vo+j,none⟩=some v) (h2:∀v∈vs,v.oneCell'=true) :
 Calls Tryz.prog 249 #[.slice (some ⟨b,0,none⟩) n c,.int .i64 n,.slice (some ⟨vb,vo,none⟩) 1 vc] w fun e w'=>
  e=.returned (.slice (some ⟨b,0,none⟩) (n+1) c)∧w'=w.setRow b (Go.splice L (n*6) vs).toArray:=by
 obtain ⟨i0,z0,hi0,hz0,hzs,hsz,hby⟩:=a2b;have hLn:(n+1)*6≤L.length:=by rw[hL];exact yal _ hroom
 have hf:=run_firstCells_some (P:=Tryz.prog) w i0.size 1 ⟨vb,vo,none⟩ 1 vc vs (by omega) (fun j v hj=>by rw[Addr.add_lit];exact hvs j v hj);have hap:∀ty,(Builtin.append_ #[23,23] ty #[.slice (some ⟨b,0,none⟩) n c,.slice (some ⟨vb,vo,none⟩) 1 vc]).run Tryz.prog w=.ok (.slice (some ⟨b,0,none⟩) (n+1) c) (w.setRow b (Go.splice L (n*6) vs).toArray):=fun ty=>by
  have:=s9 (P:=Tryz.prog) (w:=w) (ty:=ty) (ts:=#[23,23]) rfl rfl Tryz.underlying23 Tryz.underlying23 hi0 hf hroom hb (by simp only[ybf];rw[hsz];omega) h2;rw[hsz]at this;simpa[Go.splice]using this
 go_enter Tryz.func249,Tryz.ntmps249
 go_wp2_with (at_builtin;refine n7 rfl _ _ _ _ rfl _ _ rfl rfl (hap _) ?_)
 all_goals (go_ret;exact ⟨rfl,rfl⟩)
set_option maxHeartbeats 4000000 in
set_option maxRecDepth 100000 in
theorem a74 {w:World} {base:Option Addr} {n c vb vo vc:Nat} {olds vs:List Value} (hnc:n≤c) (hroom:c<n+1) (hlim:n+1≤1073741824) (hvl:vs.length=6)
 (hnil:base=none→n=0) (hol:olds.length=n*6) (hos:∀a,base=some a→∀j v,olds[j]?=some v→w.cell? (a.add j)=some v)
 (hvs:∀j v,vs[j]?=some v→w.cell? ⟨vb,vo+j,none⟩=some v) :
 Calls Tryz.prog 249 #[.slice base n c,.int .i64 n,.slice (some ⟨vb,vo,none⟩) 1 vc] w fun e w'=>
  ∃cap zs,e=.returned (.slice (some ⟨w.heap.size,0,none⟩) (n+1) cap)∧w'=w.drew.alloc (.cells (olds++(vs++zs)).toArray 77)∧n+1≤cap∧zs.length=(cap-(n+1))*6:=by
 obtain ⟨i0,z0,hi0,hz0,hzs,hsz,hby⟩:=a2b;have hf:=run_firstCells_some (P:=Tryz.prog) w.drew i0.size 1 ⟨vb,vo,none⟩ 1 vc vs (by omega) (fun j v hj=>by rw[Addr.add_lit];exact hvs j v hj);have hold:(Builtin.firstCells i0.size n (.slice base n c)).run Tryz.prog w.drew=.ok olds.toArray w.drew:=by
  cases base with
  |none=>
   have h0:=hnil rfl;subst h0;rw[ya3.1 (by omega:olds.length=0)];exact run_firstCells_none w.drew _ 0 0 c
  |some a=>exact run_firstCells_some w.drew _ n a n c olds (by rw[hsz];omega) (fun j v hj=>hos a rfl j v hj)
 have hap:∀ty,(Builtin.append_ #[23,23] ty #[.slice base n c,.slice (some ⟨vb,vo,none⟩) 1 vc]).run Tryz.prog w=_:=fun ty=>
  t6 (P:=Tryz.prog) (w:=w) (ty:=ty) (ts:=#[23,23]) rfl rfl Tryz.underlying23 Tryz.underlying23 hi0 hz0 hf hold hroom (by omega) (a5e hroom hlim hby)
 have hge:=p6 w (n+1) c 77;obtain ⟨G,hG⟩:∃G,G=grownCap w (n+1) c 77:=⟨_,rfl⟩
 obtain ⟨zs,hzs'⟩:∃zs,zs=(Builtin.zeroCells z0.cells (G-(n+1))).toList:=⟨_,rfl⟩
 rw[←hG]at hap hge;rw[←hzs']at hap;have hzl:zs.length=(G-(n+1))*6:=by rw[hzs',yaL,size_zeroCells,hzs]
 clear hG hzs'
 go_enter Tryz.func249,Tryz.ntmps249
 cases base with
 |none=>
  have h0:=hnil rfl;subst h0
  go_wp2_with (at_builtin;refine n7 rfl _ _ _ _ rfl _ _ rfl rfl (hap _) ?_)
  all_goals (go_ret;first|exact ⟨_,_,rfl,rfl,hge,hzl⟩|exact ⟨_,rfl,_,rfl,hge,hzl⟩)
 |some a=>
  obtain ⟨ab,ao,asp⟩:=a
  go_wp2_with (at_builtin;refine n7 rfl _ _ _ _ rfl _ _ rfl rfl (hap _) ?_)
  all_goals (go_ret;first|exact ⟨_,_,rfl,rfl,hge,hzl⟩|exact ⟨_,rfl,_,rfl,hge,hzl⟩)
set_option maxHeartbeats 4000000 in
set_option maxRecDepth 100000 in
theorem a6u {w:World} {b n c i vb vo vc:Nat} {L vs:List Value} {t:TypeId} (hi:i<n) (hnc:n≤c) (hroom:c<n+1) (hlim:n+1≤1073741824) (hvb:vb≠b)
 (hb:w.heap[b]?=some (.cells L.toArray t (0,0))) (hL:L.length=c*6) (hvl:vs.length=6)
 (hvs:∀j v,vs[j]?=some v→w.cell? ⟨vb,vo+j,none⟩=some v) (h1:∀v∈(L.drop (i*6)).take ((n-i)*6),v.oneCell'=true) (h2:∀v∈vs,v.oneCell'=true) :
 Calls Tryz.prog 249 #[.slice (some ⟨b,0,none⟩) n c,.int .i64 i,.slice (some ⟨vb,vo,none⟩) 1 vc] w fun e w'=>
  ∃cap row,e=.returned (.slice (some ⟨w.heap.size,0,none⟩) (n+1) cap)∧n+1≤cap∧row.length=cap*6∧row.take (i*6)=L.take (i*6)∧
   w'.heap=(w.heap.push (.cells (Go.splice (Go.splice row (i*6) vs) ((i+1)*6) ((L.drop (i*6)).take ((n-i)*6))).toArray 77))∧w'.os=w.os∧w'.output=w.output∧w'.tape=w.tape:=by
 obtain ⟨i0,z0,hi0,hz0,hzs,hsz,hby⟩:=a2b;have hz2:¬((i:Int)=(n:Int)):=by omega
 have hz3:(c:Int)<(n:Int)+1:=by omega
 have hLn:n*6≤L.length:=by rw[hL];exact yal _ hnc
 have hbw:b<w.heap.size:=(yac.1 hb).1;have hvw:vb<w.heap.size:=by
  have h:=hvs 0 _ (yaa (by omega));unfold World.cell? at h;split at h
  ·rename_i c0 t0 f0 hc0;exact (yac.1 hc0).1
  ·cases h
 have hkk:(n:Int)+1-(i:Int)=((n+1-i:Nat):Int):=by omega
 have hik:i+(n+1-i)=n+1:=by omega
 have hTl:(L.take (i*6)).length=i*6:=by simp;omega
 have hold:(Builtin.firstCells i0.size i (.slice (some ⟨b,0,none⟩) i c)).run Tryz.prog w.drew=.ok (L.take (i*6)).toArray w.drew:=by
  refine run_firstCells_some w.drew _ i ⟨b,0,none⟩ i c (L.take (i*6)) (by rw[hsz];exact hTl) (fun j v hj=>?_);rw[Addr.add_lit,yaK];show w.cell? _=_
  simp only[World.cell?,hb];rw[yar]at hj;split at hj
  ·simpa using hj
  ·cases hj
 have hrz:∀ty,(Builtin.append_ #[23,3] ty #[.slice (some ⟨b,0,none⟩) i c,.int .i64 ((n:Int)+1-(i:Int))]).run Tryz.prog w =
  .ok (.slice (some ⟨w.heap.size,0,none⟩) (n+1) (grownCap w (n+1) c 77)) (w.drew.alloc (.cells ((L.take (i*6)).toArray++Builtin.zeroCells z0.cells (n+1-i)++Builtin.zeroCells z0.cells (grownCap w (n+1) c 77-(n+1))) 77)):=fun ty=>by
  have h:=Lib.run_append_grow_zeros w 23 3 ty 77 i0 _ .i64 .i64 Tryz.underlying23 Tryz.underlying3 hi0 hz0 (some ⟨b,0,none⟩) i c _ hold (n+1-i) (by omega) (by omega) (by omega) (by omega)
   (yaQ (ybE (show n+1-i≤1073741824 by omega) hby) (by decide)) (by rw[hik];exact a5e hroom hlim hby)
  rw[hik]at h;rw[hkk];exact h
 have hge:=p6 w (n+1) c 77;obtain ⟨G,hG⟩:∃G,G=grownCap w (n+1) c 77:=⟨_,rfl⟩
 rw[←hG]at hrz hge;have hG63:G≤9223372036854775807:=by
  have:=grownCap_le_maxLen w (n+1) c 77 (by unfold maxLen;omega);rw[←hG]at this;unfold maxLen at this;omega
 obtain ⟨R,hR⟩:∃R:List Value,R=L.take (i*6)++((Builtin.zeroCells z0.cells (n+1-i)).toList++(Builtin.zeroCells z0.cells (G-(n+1))).toList):=⟨_,rfl⟩
 have hRl:R.length=G*6:=by
  rw[hR];simp only[yaD,yaL,size_zeroCells,hzs,hTl];rw[←yaJ,←yaJ];congr 1;omega
 have hRt:R.take (i*6)=L.take (i*6):=by rw[hR,List.take_append_of_le_length (by omega),ybF (by omega)]
 have hRe:(L.take (i*6)).toArray++Builtin.zeroCells z0.cells (n+1-i)++Builtin.zeroCells z0.cells (G-(n+1))=R.toArray:=by
  rw[hR];apply Array.ext';simp
 rw[hRe]at hrz;obtain ⟨C1,hC1⟩:∃C1,C1=(L.drop (i*6)).take ((n-i)*6):=⟨_,rfl⟩
 have hC1l:C1.length=(n-i)*6:=by rw[hC1];simp;omega
 have hGn:(n+1)*6≤R.length:=by rw[hRl];exact yal _ hge
 obtain ⟨M1,hM1⟩:∃M1,M1=Go.splice R (i*6) vs:=⟨_,rfl⟩
 have hM1l:M1.length=R.length:=by rw[hM1];exact length_splice _ _ _ (by omega)
 rw[←hC1];obtain ⟨gb,hgb⟩:∃gb,gb=w.heap.size:=⟨_,rfl⟩
 have hnew:∀W:World,W.heap=w.heap.push (.cells R.toArray 77)→W.heap[gb]?=some (.cells R.toArray 77 (0,0)):=fun W hW=>by rw[hW,hgb];simp
 have hpast:∀W:World,W.heap=w.heap.push (.cells R.toArray 77)→∀k,k<w.heap.size→W.heap[k]?=w.heap[k]?:=fun W hW k hk=>by rw[hW,ybc hk];simp[hk]
 have hcpA:∀(W:World),W.heap=w.heap.push (.cells R.toArray 77)→∀ty dc,(Builtin.copy_ #[23,23] ty #[.slice (some ⟨gb,i*6,none⟩) (n+1-i) dc,.slice (some ⟨vb,vo,none⟩) 1 vc]).run Tryz.prog W=.ok (goInt 1) (W.setRow gb M1.toArray):=fun W hW ty dc=>by
  have hmin:Nat.min 1 (n+1-i)=1:=by show min _ _=_;omega
  have:=m9 (P:=Tryz.prog) (w:=W) (sT:=23) (ty:=ty) (dCap:=dc) (sCap:=vc) (dLen:=n+1-i) (sLen:=1) (o:=i*6) (a:=⟨vb,vo,none⟩) Tryz.underlying23 hi0 hsz (g:=gb) (t:=77) (L:=R) (hnew W hW) (cs:=vs) (by rw[hmin];omega)
   (fun j v hj=>by
    rw[Addr.add_lit];unfold World.cell?;rw[show W.heap[(⟨vb,vo+j,none⟩:Addr).block]?=w.heap[vb]? from hpast W hW vb hvw];exact hvs j v hj) (by omega) h2
  rw[hmin,←hM1]at this;exact this
 have hcpB:∀(W W0:World),W0.heap=w.heap.push (.cells R.toArray 77)→W.heap=(W0.setRow gb M1.toArray).heap→∀ty dc sc,(Builtin.copy_ #[23,23] ty #[.slice (some ⟨gb,(i+1)*6,none⟩) (n-i) dc,.slice (some ⟨b,i*6,none⟩) (n-i) sc]).run Tryz.prog W=.ok (goInt ((n-i:Nat):Int)) (W.setRow gb (Go.splice M1 ((i+1)*6) C1).toArray):=fun W W0 hW0 hW ty dc sc=>by
  have hmin:Nat.min (n-i) (n-i)=n-i:=by show min _ _=_;omega
  have:=m9 (P:=Tryz.prog) (w:=W) (sT:=23) (ty:=ty) (dCap:=dc) (sCap:=sc) (dLen:=n-i) (sLen:=n-i) (o:=(i+1)*6) (a:=⟨b,i*6,none⟩) Tryz.underlying23 hi0 hsz (g:=gb) (t:=77) (L:=M1) (by rw[hW];exact setRow_heap _ _ _ _ _ _ (hnew W0 hW0)) (cs:=C1) (by rw[hmin];exact hC1l)
   (fun j v hj=>by
    rw[Addr.add_lit];unfold World.cell?;have e:W.heap[(⟨b,i*6+j,none⟩:Addr).block]?=w.heap[b]?:=by
     show W.heap[b]?=_
     rw[hW,setRow_other _ _ _ _ (by omega),hpast W0 hW0 b hbw]
    rw[e,hb];rw[hC1,yar]at hj;split at hj
    ·simpa using hj
    ·cases hj) (by omega) (by rw[hC1];exact h1)
  rw[hmin]at this;exact this
 have hw1:IntKind.i64.wrap ((i:Int)+1)=(i:Int)+1:=by rw[IntKind.wrap_i64];omega
 have hb1:(0:Int)≤(i:Int)+1:=by omega
 have hin:i≤n:=by omega
 have htn:((i:Int)+1).toNat=i+1:=by omega
 have hb3:(i:Int)≤(n:Int):=by omega
 have hGi:¬(G=i):=by omega
 have hGim:¬(G=i+1):=by omega
 have hci:¬(c=i):=by omega
 have hmixed:Tryz.prog.follows .mixedOrders=true:=kr;have mixed:=hmixed;have hfin:∀W W0:World,W0.heap=w.heap.push (.cells R.toArray 77)→W.heap=(W0.setRow gb M1.toArray).heap→(W.setRow gb (Go.splice M1 ((i+1)*6) C1).toArray).heap=w.heap.push (.cells (Go.splice M1 ((i+1)*6) C1).toArray 77):=fun W W0 hW0 hW=>by
  have h1:W.heap[gb]?=some (.cells M1.toArray 77 (0,0)):=by rw[hW];exact setRow_heap _ _ _ _ _ _ (hnew W0 hW0)
  have hsz0:W.heap.size=w.heap.size+1:=by rw[hW,setRow_size,hW0];simp
  apply Array.ext_getElem?;intro k;by_cases hk:k=gb
  ·subst hk;rw[setRow_heap _ _ _ _ _ _ h1,hgb];simp
  ·rw[setRow_other _ _ _ _ hk];by_cases hk2:k<w.heap.size
   ·rw[hW,setRow_other _ _ _ _ hk,hpast W0 hW0 k hk2,ybc hk2];simp[hk2]
   ·rw[yaZ (by omega),yaZ (by simp;omega)]
 have hMM:Go.splice (Go.splice R (i*6) vs) ((i+1)*6) C1=Go.splice M1 ((i+1)*6) C1:=by rw[hM1]
 subst hgb;have hcpA':=hcpA ((w.alloc (.cells R.toArray 77)).drew) rfl;clear hkk hcpA hik hold hG hR hRe hC1 hM1 hC1l hM1l h1 h2 hvs hL hTl
 go_enter Tryz.func249,Tryz.ntmps249
 go_wp2_with (at_builtin;refine n7 rfl _ _ _ _ rfl _ _ rfl rfl (hrz _) ?_)
 go_region_law_o (refine a0f rfl _ _ 23 23 rfl (.slice (some ⟨w.heap.size,(i+1)*6,none⟩) (n-i) (G-(i+1))) (.slice (some ⟨b,i*6,none⟩) (n-i) (c-i)) (by simp[Act.eval,Act.put]) (by simp[Act.eval,Act.put]) (hcpB (((w.alloc (.cells R.toArray 77)).drew.setRow w.heap.size M1.toArray).drew) (w.drew.alloc (.cells R.toArray 77)) rfl rfl 3 (G-(i+1)) (c-i)) ?_)
 go_wp2
 go_ret
 refine ⟨G,R,rfl,hge,hRl,hRt,?_,rfl,rfl,rfl⟩;rw[hMM];exact hfin _ (w.drew.alloc (.cells R.toArray 77)) rfl rfl
end
section
theorem b7f:∃i0 z,Tryz.prog.info? 79=some i0∧i0.zero=some z∧z.cells.size=6∧i0.size=6∧∀v∈z.cells,v.oneCell'=true:=by
 have h:(match Tryz.prog.info? 79 with|some i=>(match i.zero with|some z=>Nat.beq z.cells.size 6&&Nat.beq i.size 6&&z.cells.toList.all (·.oneCell')|none=>false)|none=>false)=true:=kr;split at h
 ·rename_i i hi;split at h
  ·rename_i z hz;simp only[yab]at h;exact ⟨i,z,hi,hz,ya0 h.1.1,ya0 h.1.2,fun v hv=>yai.1 h.2 v (by simpa using hv)⟩
  ·cases h
 ·cases h
set_option maxHeartbeats 4000000 in
set_option maxRecDepth 100000 in
theorem a9j {w:World} {base:Option Addr} {n c i:Nat} (hnc:n≤c) (hi:i≤n) :
 Calls Tryz.prog 313 #[.slice base n c,.int .i64 i,.int .i64 i] w fun e w'=>e=.returned (.slice base n c)∧w'=w:=by
 cases base with
 |none=>
  go_enter Tryz.func313,Tryz.ntmps313
  go_wp2
  all_goals (go_ret;exact ⟨rfl,rfl⟩)
 |some a=>
  obtain ⟨ab,ao,asp⟩:=a
  go_enter Tryz.func313,Tryz.ntmps313
  go_wp2
  all_goals (go_ret;exact ⟨rfl,rfl⟩)
set_option maxHeartbeats 4000000 in
set_option maxRecDepth 100000 in
theorem a9k {w:World} {b n c i j:Nat} {L:List Value} {t:TypeId} (hij:i<j) (hj:j≤n) (hnc:n≤c)
 (hb:w.heap[b]?=some (.cells L.toArray t (0,0))) (hL:L.length=c*6) (h1:∀v∈(L.drop (j*6)).take ((n-j)*6),v.oneCell'=true) :
 Calls Tryz.prog 313 #[.slice (some ⟨b,0,none⟩) n c,.int .i64 i,.int .i64 j] w fun e w'=>
  e=.returned (.slice (some ⟨b,0,none⟩) (i+(n-j)) c)∧∃(M0:Array Value) (zs:List Value),zs.length=(j-i)*6∧w'=(w.drew.setRow b M0).setRow b (Go.splice (Go.splice L (i*6) ((L.drop (j*6)).take ((n-j)*6))) ((i+(n-j))*6) zs).toArray:=by
 obtain ⟨i0,z0,hi0,hz0,hzs,hsz,hz1⟩:=b7f;have hLn:n*6≤L.length:=by rw[hL];exact yal _ hnc
 obtain ⟨C1,hC1⟩:∃C1,C1=(L.drop (j*6)).take ((n-j)*6):=⟨_,rfl⟩
 have hC1l:C1.length=(n-j)*6:=by rw[hC1];simp;omega
 obtain ⟨M1,hM1⟩:∃M1,M1=Go.splice L (i*6) C1:=⟨_,rfl⟩
 have hM1l:M1.length=L.length:=by rw[hM1];exact length_splice _ _ _ (by omega)
 rw[←hC1,←hM1];obtain ⟨A,hA,hsrc⟩:∃A:Addr,(if c=j then some (⟨b,0,none⟩:Addr) else some ⟨b,j*6,none⟩)=some A∧∀q v,C1[q]?=some v→w.drew.cell? (A.add q)=some v:=by
  by_cases h:c=j
  ·refine ⟨⟨b,0,none⟩,by simp[h],fun q v hq=>?_⟩;have:=(zL hq)
   omega
  ·refine ⟨⟨b,j*6,none⟩,by simp[h],fun q v hq=>?_⟩;rw[Addr.add_lit];show w.cell? _=_
   simp only[World.cell?,hb];rw[hC1,yar]at hq;split at hq
   ·simpa using hq
   ·cases hq
 have hf:∀xc,(Builtin.firstCells i0.size (n-j) (.slice (some A) (n-j) xc)).run Tryz.prog w.drew=.ok C1.toArray w.drew:=fun xc=>run_firstCells_some (P:=Tryz.prog) w.drew i0.size (n-j) A (n-j) xc C1 (by rw[hsz];exact hC1l) hsrc
 have hone:∀v∈C1,v.oneCell'=true:=by rw[hC1];exact h1
 have hap:∀ty xc,(Builtin.append_ #[24,24] ty #[.slice (some ⟨b,0,none⟩) i c,.slice (some A) (n-j) xc]).run Tryz.prog w.drew=.ok (.slice (some ⟨b,0,none⟩) (i+(n-j)) c) (w.drew.setRow b M1.toArray):=fun ty xc=>by
  have:=s9 (P:=Tryz.prog) (w:=w.drew) (ty:=ty) (ts:=#[24,24]) rfl rfl Tryz.underlying24 Tryz.underlying24 hi0 (hf xc) (sLen:=i) (sCap:=c) (by omega) hb (by simp only[ybf];rw[hsz];omega) hone;rw[hsz]at this;rw[hM1];simpa[Go.splice]using this
 obtain ⟨zs,hzs'⟩:∃zs,zs=(Builtin.zeroCells z0.cells (j-i)).toList:=⟨_,rfl⟩
 have hzl:zs.length=(j-i)*6:=by rw[hzs',yaL,Go.size_zeroCells,hzs]
 have hcl:∀ty cc,(Builtin.clear_ #[24] ty #[.slice (some ⟨b,(i+(n-j))*6,none⟩) (n-(i+(n-j))) cc]).run Tryz.prog (w.drew.setRow b M1.toArray)=.ok (.tuple #[]) ((w.drew.setRow b M1.toArray).setRow b (Go.splice M1 ((i+(n-j))*6) zs).toArray):=fun ty cc=>by
  have e:n-(i+(n-j))=j-i:=by omega
  rw[e,hzs'];exact b4p (P:=Tryz.prog) (w:=w.drew.setRow b M1.toArray) Tryz.underlying24 hi0 hz0 (by omega) (setRow_heap _ _ _ _ _ _ hb) (by rw[hzs];omega) hz1
 have hic:i≤c:=by omega
 have hjc:j≤c:=by omega
 have mixed:Tryz.prog.follows .mixedOrders=true:=kr;clear hC1 hM1 hC1l hM1l h1 hL hf hone hzs'
 go_enter Tryz.func313,Tryz.ntmps313
 go_wp2_with fail
 go_region_law_o (refine b8v rfl (.tmp 22) (.tmp 25) 24 24 rfl (.slice (some ⟨b,0,none⟩) i c) (.slice (some A) (n-j) (c-j)) (by simp[Act.eval,Act.put]) (by simp[Act.eval,Act.put]) (hap _ _) ?_)
 go_wp2
 go_ret
 exact ⟨rfl,_,zs,hzl,rfl⟩
end
end Go.Proofs.YteaknldbhmocpaaGreatDoor
namespace Go.Proofs
open Go.Shelf
def Tryz.laysM171_ren:Go.Shelf.Ren:=⟨fun|171=>46|243=>94|246=>158|283=>227|284=>228|285=>229|286=>230|129=>144|317=>276|318=>277|319=>278|320=>279|337=>300|338=>301|n=>n,fun|3=>3|9=>9|2=>2|4=>4|171=>224|0=>0|53=>166|37=>226|5=>5|173=>227|212=>254|51=>164|20=>20|213=>255|46=>110|232=>296|233=>297|n=>n,fun|17=>0|18=>4|19=>5|n=>n⟩
theorem Tryz.laysM171:Go.Proofs.LaysM.n171 Tryz.prog Tryz.laysM171_ren:={
 mixed:=by kernel_rfl
 f129:=Tryz.func144.trans (congrArg some (by kernel_rfl))
 f171:=Tryz.func46.trans (congrArg some (by kernel_rfl))
 f243:=Tryz.func94.trans (congrArg some (by kernel_rfl))
 f246:=Tryz.func158.trans (congrArg some (by kernel_rfl))
 f283:=Tryz.func227.trans (congrArg some (by kernel_rfl))
 f284:=Tryz.func228.trans (congrArg some (by kernel_rfl))
 f285:=Tryz.func229.trans (congrArg some (by kernel_rfl))
 f286:=Tryz.func230.trans (congrArg some (by kernel_rfl))
 f317:=Tryz.func276.trans (congrArg some (by kernel_rfl))
 f318:=Tryz.func277.trans (congrArg some (by kernel_rfl))
 f319:=Tryz.func278.trans (congrArg some (by kernel_rfl))
 f320:=Tryz.func279.trans (congrArg some (by kernel_rfl))
 f337:=Tryz.func300.trans (congrArg some (by kernel_rfl))
 f338:=Tryz.func301.trans (congrArg some (by kernel_rfl))
 t0:=Tryz.underlying0
 a0:=Tryz.isAgg0
 z0:=Tryz.sizeOf0
 v0:=Tryz.zeroValue0
 t2:=Tryz.underlying2
 a2:=Tryz.isAgg2
 z2:=Tryz.sizeOf2
 v2:=Tryz.zeroValue2
 t3:=Tryz.underlying3
 a3:=Tryz.isAgg3
 z3:=Tryz.sizeOf3
 v3:=Tryz.zeroValue3
 t4:=Tryz.underlying4
 a4:=Tryz.isAgg4
 z4:=Tryz.sizeOf4
 v4:=Tryz.zeroValue4
 t5:=Tryz.underlying5
 a5:=Tryz.isAgg5
 z5:=Tryz.sizeOf5
 v5:=Tryz.zeroValue5
 t9:=Tryz.underlying9
 a9:=Tryz.isAgg9
 z9:=Tryz.sizeOf9
 v9:=Tryz.zeroValue9
 t20:=Tryz.underlying20
 a20:=Tryz.isAgg20
 z20:=Tryz.sizeOf20
 v20:=Tryz.zeroValue20
 t37:=Tryz.underlying226
 a37:=Tryz.isAgg226
 z37:=Tryz.sizeOf226
 v37:=Tryz.zeroValue226
 t46:=Tryz.underlying110
 a46:=Tryz.isAgg110
 z46:=Tryz.sizeOf110
 v46:=Tryz.zeroValue110
 t51:=Tryz.underlying164
 a51:=Tryz.isAgg164
 z51:=Tryz.sizeOf164
 v51:=Tryz.zeroValue164
 t53:=Tryz.underlying166
 a53:=Tryz.isAgg166
 z53:=Tryz.sizeOf166
 v53:=Tryz.zeroValue166
 t171:=Tryz.underlying224
 a171:=Tryz.isAgg224
 z171:=Tryz.sizeOf224
 v171:=Tryz.zeroValue224
 t173:=Tryz.underlying227
 a173:=Tryz.isAgg227
 z173:=Tryz.sizeOf227
 v173:=Tryz.zeroValue227
 t212:=Tryz.underlying254
 a212:=Tryz.isAgg254
 z212:=Tryz.sizeOf254
 v212:=Tryz.zeroValue254
 t213:=Tryz.underlying255
 a213:=Tryz.isAgg255
 z213:=Tryz.sizeOf255
 t232:=Tryz.underlying296
 a232:=Tryz.isAgg296
 z232:=Tryz.sizeOf296
 v232:=Tryz.zeroValue296
 t233:=Tryz.underlying297
 a233:=Tryz.isAgg297
 z233:=Tryz.sizeOf297
 v233:=Tryz.zeroValue297
 g17:=by kernel_rfl
 g18:=by kernel_rfl
 g19:=by kernel_rfl
 i0:=by kernel_rfl
 i2:=by kernel_rfl
 i3:=by kernel_rfl
 i4:=by kernel_rfl
 i5:=by kernel_rfl
 i9:=by kernel_rfl
 i20:=by kernel_rfl
 i37:=by kernel_rfl
 i46:=by kernel_rfl
 i51:=by kernel_rfl
 i53:=by kernel_rfl
 i171:=by kernel_rfl
 i173:=by kernel_rfl
 i212:=by kernel_rfl
 i232:=by kernel_rfl
 i233:=by kernel_rfl
 m17:=by kernel_rfl
 m18:=by kernel_rfl
 m19:=by kernel_rfl}
open Go.RowKit Go.Sort Go.Lib in
theorem Tryz.qbf (n:Int) (h0 : -9223372036854775808≤n) (h1:n≤9223372036854775807) (w:World) (htab:Lib.TabIs Tryz.prog w "internal/strconv.uint64pow10" .u64 Lib.pow10Tab) :
 Calls Tryz.prog 46 #[.int .i64 n] w fun e w'=>e=.returned (.string ⟨(Lib.itoa n).toArray⟩)∧∃k os,w'=grow (w.drewN k) os:=Any.strconv_Itoa Tryz.laysM171 n h0 h1 w htab
end Go.Proofs
