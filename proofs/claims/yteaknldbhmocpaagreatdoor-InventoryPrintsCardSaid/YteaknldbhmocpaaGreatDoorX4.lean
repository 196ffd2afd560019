/- InventoryPrints: a part of the proof of the given statement, which is proved without conditions. -/
import Derived.Test.YteaknldbhmocpaaGreatDoorX3
import Derived.Sort.Defs
import Derived.Lib.Small
import Derived.Lib.BitFns
import Derived.Lib.DecodeN
import Derived.Lib.SlicesCompact
import Derived.KernelRfl
import Derived.Test.YteaknldbhmocpaaGreatDoorProg
import Derived.Shelf.RegionOpenPlain
import Derived.WalkKit
import Derived.Lib.Walk
import Derived.Lib.AppendZerosOnto
import Derived.Lib.AppendZeros
import Derived.Laws.Externs
import Derived.Laws.CopyOwn
import Derived.Deep.RegionLaw
import Derived.Lib.TrimUEq
import Derived.Lib.ValidU
import Derived.Lib.FieldsP
import Derived.Lib.Join
import Derived.Shelf.Strings.OnBuilder
import Derived.Shelf.Strings.FieldsFuncAny
import Derived.Shelf.Unicode.ValidAny
import Derived.Ground.NamesProg
import Derived.Ground.Names2Prog
import Derived.WalkMore
import Derived.Below
import Derived.Laws.RangeString
import Derived.Laws.Runes
import Derived.LoopTactic
import Derived.Deep.LoopGhost
import Derived.Shelf.Sort.Plain
import Derived.Shelf.Slices.CompactI
import Derived.Shelf.Slices.In.SortNone
import Derived.Lib.RowBridge
import Derived.Test.YteaknldbhmocpaaGreatDoorTie
import Derived.Shelf.LaysM
import Derived.Shelf.Strconv.Itoa3
import Derived.Lib.AppendIntMem
import Derived.Laws.BitsLemmas
set_option linter.all false
namespace Go.Proofs.YteaknldbhmocpaaGreatDoor.Ev
open Go
def a27 {α:Type} (s:List α) (i:Int) (v:List α):Option (List α):=
 match v with
 | [y]=>bif decide (0≤i)&&decide (i≤(s.length:Int))&&decide (s.length+1≤1073741824) then some (s.take i.toNat++y::s.drop i.toNat) else none
 |_=>none
def a7p {α:Type} (s:List α) (i j:Int):Option (List α):=
 bif decide (0≤i)&&decide (i≤j)&&decide (j≤(s.length:Int))&&decide (s.length≤1073741824) then some (s.take i.toNat++s.drop j.toNat) else none
def dcd:List UInt8→Nat×Nat
 | []=>(0,0)
 |a::r=>
  if 32≤a.toNat∧a.toNat<127 then (a.toNat,1)
  else if 194≤a.toNat∧a.toNat<224 then
   (match r with
   |b::_=>if (128≤b.toNat∧b.toNat<192)∧160≤(a.toNat-192)*64+b.toNat-128 then ((a.toNat-192)*64+b.toNat-128,2) else (0,0)
   | []=>(0,0))
  else if 224≤a.toNat∧a.toNat<240 then
   (match r with
   |b::c::_=>
    if ((128≤b.toNat∧b.toNat<192)∧(128≤c.toNat∧c.toNat<192))∧2048≤(a.toNat-224)*4096+(b.toNat-128)*64+c.toNat-128∧
     ((a.toNat-224)*4096+(b.toNat-128)*64+c.toNat-128<55296∨57343<(a.toNat-224)*4096+(b.toNat-128)*64+c.toNat-128) then
     ((a.toNat-224)*4096+(b.toNat-128)*64+c.toNat-128,3) else (0,0)
   |_=>(0,0))
  else (0,0)
def b8i:Nat→List UInt8→Bool
 |0,_=>true
 |n+1,l=>if l=[] then true else if (dcd l).2=0 then false else b8i n (l.drop (dcd l).2)
def vld (s:List UInt8):Bool:=b8i s.length s
def wid (l:List UInt8):Nat:=if (dcd l).2<1 then 1 else (dcd l).2
def blk (c:Nat):Bool:=c==32||c==160
def b1t:Nat→List UInt8→List UInt8→Bool→List UInt8
 |0,_,out,_=>out
 |n+1,l,out,gap=>if l=[] then out else
  if blk (dcd l).1 then b1t n (l.drop (wid l)) out true
  else b1t n (l.drop (wid l)) ((if gap&&!(out==[]) then out++[32] else out)++l.take (wid l)) false
def cln (s:List UInt8):List UInt8:=b1t s.length s [] false
end Go.Proofs.YteaknldbhmocpaaGreatDoor.Ev
namespace Go.Proofs.YteaknldbhmocpaaGreatDoor
open Ev
open Go (IntKind)
section
set_option maxRecDepth 100000
structure Problem where
 Kind:Int
 Index:Int
 Tag:List UInt8
 Code:Int
structure MapS where
 key:Int
 val:List UInt8
structure Custody where
 State:Int
 Branch:Int
 Who:Int
 To:Int
structure Item where
 ID:Int
 Record:Int
 Branch:Int
 Kind:Int
 Price:Int
 Call:List UInt8
 Custody:Custody
structure Loan where
 Item:Int
 Patron:Int
 Out:Int
 Due:Int
 Renewals:Int
 Recalled:Bool
structure MapI where
 key:Int
 val:Int
structure Hold where
 ID:Int
 Patron:Int
 Record:Int
 Item:Int
 Pickup:Int
 Placed:Int
 State:Int
 Got:Int
 Until:Int
 Asleep:Int
 Rank:Int
structure Move where
 Day:Int
 Item:Int
 Kind:Int
 Branch:Int
 Who:Int
structure Patron where
 ID:Int
 Kind:Int
 Branch:Int
 Until:Int
 Stopped:Bool
 Name:List UInt8
structure Charge where
 ID:Int
 Patron:Int
 Item:Int
 Day:Int
 Kind:Int
 Amount:Int
 Paid:Int
structure Rule where
 Patron:Int
 Item:Int
 Branch:Int
 Days:Int
 Renewals:Int
 Fine:Int
 Grace:Int
 MaxFine:Int
 Loans:Int
 Shelf:Int
 Recall:Int
 Fixed:Int
 Rank:Int
structure Utf8_acceptRange where
 lo:Int
 hi:Int
inductive Kd where
 |kProblem
 |kMapS
 |kstr
 |ki64
 |kItem
 |kLoan
 |kMapI
 |kHold
 |kMove
 |kPatron
 |kCharge
 |kRule
 |kbool
 |ku64
 |ku8
 |kUtf8_acceptRange
 |ku16
abbrev El:Kd→Type
 |.kProblem=>Problem
 |.kMapS=>MapS
 |.kstr=>List UInt8
 |.ki64=>Int
 |.kItem=>Item
 |.kLoan=>Loan
 |.kMapI=>MapI
 |.kHold=>Hold
 |.kMove=>Move
 |.kPatron=>Patron
 |.kCharge=>Charge
 |.kRule=>Rule
 |.kbool=>Bool
 |.ku64=>Int
 |.ku8=>Int
 |.kUtf8_acceptRange=>Utf8_acceptRange
 |.ku16=>Int
abbrev DD:=D Kd El
abbrev Sm (R:Type):=r7 Kd El R
abbrev c08 {α β:Type} (ta:List (Nat×Nat×Kd)) (se ss bs az:List Nat) (fc:FC Kd El α) [FCC fc] (step:α→Option (α⊕β)) (oc:OC Kd El β):LD Kd El α β:=⟨ta,se,ss,bs,az,fc,step,oc⟩
instance:KdEq Kd where
 dec:=fun a b=>match a,b with
  |.kProblem,.kProblem=>some ⟨rfl⟩
  |.kMapS,.kMapS=>some ⟨rfl⟩
  |.kstr,.kstr=>some ⟨rfl⟩
  |.ki64,.ki64=>some ⟨rfl⟩
  |.kItem,.kItem=>some ⟨rfl⟩
  |.kLoan,.kLoan=>some ⟨rfl⟩
  |.kMapI,.kMapI=>some ⟨rfl⟩
  |.kHold,.kHold=>some ⟨rfl⟩
  |.kMove,.kMove=>some ⟨rfl⟩
  |.kPatron,.kPatron=>some ⟨rfl⟩
  |.kCharge,.kCharge=>some ⟨rfl⟩
  |.kRule,.kRule=>some ⟨rfl⟩
  |.kbool,.kbool=>some ⟨rfl⟩
  |.ku64,.ku64=>some ⟨rfl⟩
  |.ku8,.ku8=>some ⟨rfl⟩
  |.kUtf8_acceptRange,.kUtf8_acceptRange=>some ⟨rfl⟩
  |.ku16,.ku16=>some ⟨rfl⟩
  |_,_=>none
abbrev wr (k:IntKind) (n:Int):Int:=IntKind.wrap k n
def a7s (x:Problem):List DD:=[.int .i64 x.Kind,.int .i64 x.Index,.str x.Tag,.int .u8 x.Code]
def a0m:CC Kd El Problem:=(CC.cons (Cod.int .i64) (CC.cons (Cod.int .i64) (CC.cons Cod.str (CC.cons (Cod.int .u8) CC.nil)))).iso a7s (fun p=>⟨p.1,p.2.1,p.2.2.1,p.2.2.2.1⟩)
def b4e (x:MapS):List DD:=[.int .i64 x.key,.str x.val]
def a7j:CC Kd El MapS:=(CC.cons (Cod.int .i64) (CC.cons Cod.str CC.nil)).iso b4e (fun p=>⟨p.1,p.2.1⟩)
def a7r (x:Custody):List DD:=[.int .i64 x.State,.int .i64 x.Branch,.int .i64 x.Who,.int .i64 x.To]
def a38:CC Kd El Custody:=(CC.cons (Cod.int .i64) (CC.cons (Cod.int .i64) (CC.cons (Cod.int .i64) (CC.cons (Cod.int .i64) CC.nil)))).iso a7r (fun p=>⟨p.1,p.2.1,p.2.2.1,p.2.2.2.1⟩)
def b4b (x:Item):List DD:=[.int .i64 x.ID,.int .i64 x.Record,.int .i64 x.Branch,.int .i64 x.Kind,.int .i64 x.Price,.str x.Call,.int .i64 x.Custody.State,.int .i64 x.Custody.Branch,.int .i64 x.Custody.Who,.int .i64 x.Custody.To]
def a7g:CC Kd El Item:=(CC.cons (Cod.int .i64) (CC.cons (Cod.int .i64) (CC.cons (Cod.int .i64) (CC.cons (Cod.int .i64) (CC.cons (Cod.int .i64) (CC.cons Cod.str (CC.cons (Cod.int .i64) (CC.cons (Cod.int .i64) (CC.cons (Cod.int .i64) (CC.cons (Cod.int .i64) CC.nil)))))))))).iso b4b (fun p=>⟨p.1,p.2.1,p.2.2.1,p.2.2.2.1,p.2.2.2.2.1,p.2.2.2.2.2.1,⟨p.2.2.2.2.2.2.1,p.2.2.2.2.2.2.2.1,p.2.2.2.2.2.2.2.2.1,p.2.2.2.2.2.2.2.2.2.1⟩⟩)
def b4c (x:Loan):List DD:=[.int .i64 x.Item,.int .i64 x.Patron,.int .i64 x.Out,.int .i64 x.Due,.int .i64 x.Renewals,.bool x.Recalled]
def a7h:CC Kd El Loan:=(CC.cons (Cod.int .i64) (CC.cons (Cod.int .i64) (CC.cons (Cod.int .i64) (CC.cons (Cod.int .i64) (CC.cons (Cod.int .i64) (CC.cons Cod.bool CC.nil)))))).iso b4c (fun p=>⟨p.1,p.2.1,p.2.2.1,p.2.2.2.1,p.2.2.2.2.1,p.2.2.2.2.2.1⟩)
def b4d (x:MapI):List DD:=[.int .i64 x.key,.int .i64 x.val]
def a7i:CC Kd El MapI:=(CC.cons (Cod.int .i64) (CC.cons (Cod.int .i64) CC.nil)).iso b4d (fun p=>⟨p.1,p.2.1⟩)
def b4a (x:Hold):List DD:=[.int .i64 x.ID,.int .i64 x.Patron,.int .i64 x.Record,.int .i64 x.Item,.int .i64 x.Pickup,.int .i64 x.Placed,.int .i64 x.State,.int .i64 x.Got,.int .i64 x.Until,.int .i64 x.Asleep,.int .i64 x.Rank]
def a7f:CC Kd El Hold:=(CC.cons (Cod.int .i64) (CC.cons (Cod.int .i64) (CC.cons (Cod.int .i64) (CC.cons (Cod.int .i64) (CC.cons (Cod.int .i64) (CC.cons (Cod.int .i64) (CC.cons (Cod.int .i64) (CC.cons (Cod.int .i64) (CC.cons (Cod.int .i64) (CC.cons (Cod.int .i64) (CC.cons (Cod.int .i64) CC.nil))))))))))).iso b4a (fun p=>⟨p.1,p.2.1,p.2.2.1,p.2.2.2.1,p.2.2.2.2.1,p.2.2.2.2.2.1,p.2.2.2.2.2.2.1,p.2.2.2.2.2.2.2.1,p.2.2.2.2.2.2.2.2.1,p.2.2.2.2.2.2.2.2.2.1,p.2.2.2.2.2.2.2.2.2.2.1⟩)
def b4f (x:Move):List DD:=[.int .i64 x.Day,.int .i64 x.Item,.int .i64 x.Kind,.int .i64 x.Branch,.int .i64 x.Who]
def a7k:CC Kd El Move:=(CC.cons (Cod.int .i64) (CC.cons (Cod.int .i64) (CC.cons (Cod.int .i64) (CC.cons (Cod.int .i64) (CC.cons (Cod.int .i64) CC.nil))))).iso b4f (fun p=>⟨p.1,p.2.1,p.2.2.1,p.2.2.2.1,p.2.2.2.2.1⟩)
def a90 (x:Patron):List DD:=[.int .i64 x.ID,.int .i64 x.Kind,.int .i64 x.Branch,.int .i64 x.Until,.bool x.Stopped,.str x.Name]
def a2p:CC Kd El Patron:=(CC.cons (Cod.int .i64) (CC.cons (Cod.int .i64) (CC.cons (Cod.int .i64) (CC.cons (Cod.int .i64) (CC.cons Cod.bool (CC.cons Cod.str CC.nil)))))).iso a90 (fun p=>⟨p.1,p.2.1,p.2.2.1,p.2.2.2.1,p.2.2.2.2.1,p.2.2.2.2.2.1⟩)
def a9z (x:Charge):List DD:=[.int .i64 x.ID,.int .i64 x.Patron,.int .i64 x.Item,.int .i64 x.Day,.int .i64 x.Kind,.int .i64 x.Amount,.int .i64 x.Paid]
def a2o:CC Kd El Charge:=(CC.cons (Cod.int .i64) (CC.cons (Cod.int .i64) (CC.cons (Cod.int .i64) (CC.cons (Cod.int .i64) (CC.cons (Cod.int .i64) (CC.cons (Cod.int .i64) (CC.cons (Cod.int .i64) CC.nil))))))).iso a9z (fun p=>⟨p.1,p.2.1,p.2.2.1,p.2.2.2.1,p.2.2.2.2.1,p.2.2.2.2.2.1,p.2.2.2.2.2.2.1⟩)
def b4g (x:Rule):List DD:=[.int .i64 x.Patron,.int .i64 x.Item,.int .i64 x.Branch,.int .i64 x.Days,.int .i64 x.Renewals,.int .i64 x.Fine,.int .i64 x.Grace,.int .i64 x.MaxFine,.int .i64 x.Loans,.int .i64 x.Shelf,.int .i64 x.Recall,.int .i64 x.Fixed,.int .i64 x.Rank]
def a7l:CC Kd El Rule:=(CC.cons (Cod.int .i64) (CC.cons (Cod.int .i64) (CC.cons (Cod.int .i64) (CC.cons (Cod.int .i64) (CC.cons (Cod.int .i64) (CC.cons (Cod.int .i64) (CC.cons (Cod.int .i64) (CC.cons (Cod.int .i64) (CC.cons (Cod.int .i64) (CC.cons (Cod.int .i64) (CC.cons (Cod.int .i64) (CC.cons (Cod.int .i64) (CC.cons (Cod.int .i64) CC.nil))))))))))))).iso b4g (fun p=>⟨p.1,p.2.1,p.2.2.1,p.2.2.2.1,p.2.2.2.2.1,p.2.2.2.2.2.1,p.2.2.2.2.2.2.1,p.2.2.2.2.2.2.2.1,p.2.2.2.2.2.2.2.2.1,p.2.2.2.2.2.2.2.2.2.1,p.2.2.2.2.2.2.2.2.2.2.1,p.2.2.2.2.2.2.2.2.2.2.2.1,p.2.2.2.2.2.2.2.2.2.2.2.2.1⟩)
def a0r (x:Utf8_acceptRange):List DD:=[.int .u8 x.lo,.int .u8 x.hi]
def l8:CC Kd El Utf8_acceptRange:=(CC.cons (Cod.int .u8) (CC.cons (Cod.int .u8) CC.nil)).iso a0r (fun p=>⟨p.1,p.2.1⟩)
def ccK:(k:Kd)→CC Kd El (El k)
 |.kProblem=>a0m
 |.kMapS=>a7j
 |.kstr=>CC.one Cod.str
 |.ki64=>CC.one (Cod.int .i64)
 |.kItem=>a7g
 |.kLoan=>a7h
 |.kMapI=>a7i
 |.kHold=>a7f
 |.kMove=>a7k
 |.kPatron=>a2p
 |.kCharge=>a2o
 |.kRule=>a7l
 |.kbool=>CC.one Cod.bool
 |.ku64=>CC.one (Cod.int .u64)
 |.ku8=>CC.one (Cod.int .u8)
 |.kUtf8_acceptRange=>l8
 |.ku16=>CC.one (Cod.int .u16)
def c2n:Kd→Nat
 |.kProblem=>4
 |.kMapS=>2
 |.kstr=>1
 |.ki64=>1
 |.kItem=>10
 |.kLoan=>6
 |.kMapI=>2
 |.kHold=>11
 |.kMove=>5
 |.kPatron=>6
 |.kCharge=>7
 |.kRule=>13
 |.kbool=>1
 |.ku64=>1
 |.ku8=>1
 |.kUtf8_acceptRange=>2
 |.ku16=>1
def c2m (t:Nat):Option Kd:=bif Nat.beq t 321 then some .kMapI else bif Nat.beq t 319 then some .kMapS else bif Nat.beq t 312 then some .ku8 else bif Nat.beq t 311 then some .ku8 else bif Nat.beq t 261 then some .ku16 else bif Nat.beq t 259 then some .kUtf8_acceptRange else bif Nat.beq t 208 then some .ku64 else bif Nat.beq t 166 then some .ku64 else bif Nat.beq t 155 then some .ki64 else bif Nat.beq t 110 then some .ku64 else bif Nat.beq t 87 then some .kMove else bif Nat.beq t 85 then some .kRule else bif Nat.beq t 83 then some .kCharge else bif Nat.beq t 81 then some .kHold else bif Nat.beq t 79 then some .kLoan else bif Nat.beq t 77 then some .kPatron else bif Nat.beq t 61 then some .kItem else bif Nat.beq t 57 then some .kProblem else bif Nat.beq t 42 then some .ki64 else bif Nat.beq t 12 then some .ku64 else bif Nat.beq t 11 then some .kstr else bif Nat.beq t 10 then some .kstr else bif Nat.beq t 9 then some .kstr else bif Nat.beq t 6 then some .ku8 else bif Nat.beq t 5 then some .ku8 else bif Nat.beq t 4 then some .kbool else bif Nat.beq t 3 then some .ki64 else bif Nat.beq t 2 then some .ki64 else none
def b6:List Int:=(List.range 20).map fun i=>((10 ^ i:Nat):Int)
def c8:List Int:=(List.range 256).map fun c=>(Go.Lib.firstT c:Int)
def c4:List Utf8_acceptRange:=(List.range 16).map fun i=>⟨(Go.Lib.accLo i:Int),(Go.Lib.accHi i:Int)⟩
def n7:List Int:=[0,32770,41316,42344,6160,8268,8320,8704,16,4112,32784,49152,0]
def a85 (t:Nat):Option ((k:Kd)×List (El k)):=bif Nat.beq t 3 then some ⟨.ku16,n7⟩ else bif Nat.beq t 2 then some ⟨.kUtf8_acceptRange,c4⟩ else bif Nat.beq t 1 then some ⟨.ku8,c8⟩ else bif Nat.beq t 0 then some ⟨.ku64,b6⟩ else none
def c2p (f:Nat):Md:=bif Nat.beq f 324 then .inpl else bif Nat.beq f 312 then .inpl else bif Nat.beq f 294 then .fresh else bif Nat.beq f 292 then .inpl else bif Nat.beq f 266 then .fresh else bif Nat.beq f 256 then .fresh else bif Nat.beq f 212 then .mut else bif Nat.beq f 134 then .inpl else bif Nat.beq f 127 then .mut else bif Nat.beq f 124 then .mut else bif Nat.beq f 123 then .mut else bif Nat.beq f 79 then .mut else bif Nat.beq f 77 then .mut else bif Nat.beq f 76 then .newb else bif Nat.beq f 73 then .inpl else bif Nat.beq f 34 then .inpl else bif Nat.beq f 30 then .nmap else bif Nat.beq f 313 then .cons else bif Nat.beq f 250 then .fresh else bif Nat.beq f 249 then .cons else bif Nat.beq f 202 then .fresh else bif Nat.beq f 201 then .cons else bif Nat.beq f 190 then .fresh else bif Nat.beq f 122 then .fresh else bif Nat.beq f 121 then .cons else bif Nat.beq f 70 then .fresh else bif Nat.beq f 35 then .cons else .data
def b9j (t:Nat):Bool:=Nat.beq t 59||(Nat.beq t 57||(false))
def b7m:MpK Kd El:=c1v .kMapS MapS.key MapS.val (fun k v=>⟨k,v⟩)
def b7l:MpK Kd El:=c1u .kMapI MapI.key MapI.val (fun k v=>⟨k,v⟩)
def c0e (t:Nat):Option (MpK Kd El):=bif Nat.beq t 88 then some b7m else bif Nat.beq t 62 then some b7l else none
def c2l (f:Nat):Option Kd:=bif Nat.beq f 324 then some .kHold else bif Nat.beq f 313 then some .kLoan else bif Nat.beq f 312 then some .kHold else bif Nat.beq f 292 then some .kHold else bif Nat.beq f 249 then some .kPatron else bif Nat.beq f 201 then some .kLoan else bif Nat.beq f 134 then some .ki64 else bif Nat.beq f 121 then some .kItem else bif Nat.beq f 73 then some .ki64 else bif Nat.beq f 35 then some .ki64 else bif Nat.beq f 34 then some .ki64 else none
def c1t (n:Nat):Bool:=Nat.beq n 0
def sg:Sg Kd El:=⟨fun k=>(ccK k).enc,fun k=>(ccK k).dec,c2n,c2m,a85,c2p,b9j,c0e,c2l,c1t⟩
abbrev ZC:=CC Kd El
abbrev ZF:=FC Kd El
abbrev ZD:=Cod Kd El
abbrev Zi:ZD Int:=Cod.int .i64
abbrev Zb:ZD Bool:=Cod.bool
abbrev Zl (k:Kd):ZD (List (El k)):=Cod.lst k
abbrev Zn:ZC Unit:=CC.nil
abbrev Zz:ZF Unit:=FC.nil
section
variable {α β:Type}
abbrev Zc:ZD α→ZC β→ZC (α×β):=CC.cons
abbrev Zs:Nat→ZD α→ZF β→ZF (α×β):=FC.slot
end
end
section
def qk (s:List Item) (i:Int) (v:List Item):Option (List Item):=a27 s i v
def qi (s:List Patron) (i:Int) (v:List Patron):Option (List Patron):=a27 s i v
def qg (s:List Loan) (i:Int) (v:List Loan):Option (List Loan):=a27 s i v
def qq (s:List Loan) (i j:Int):Option (List Loan):=a7p s i j
def qh (s:List Int):Option (List Int):=bif decide (s.length≤LIM) then some (Go.Lib.compact s) else none
@[inline] def b14:Nat→Nat→List UInt8→List UInt8|0,_,a=>a|f+1,u,a=>bif decide (u<10) then UInt8.ofNat (48+u)::a else b14 f (u / 10) (UInt8.ofNat (48+u % 10)::a)
def qf (n:Int):Option (List UInt8):=bif decide (-9223372036854775808≤n)&&decide (n≤9223372036854775807) then some (bif decide (n<0) then 45::b14 20 n.natAbs [] else b14 20 n.natAbs []) else none
def qp (s:List UInt8):Option Bool:=bif decide (s.length≤LIM) then some (vld s) else none
def qr (s:List UInt8):Option (List UInt8):=bif decide (s.length≤LIM)&&vld s then some (cln s) else none
end
section
set_option maxRecDepth 100000
def qe:Option Bool:=some true
def b0k:((List Problem)×Int×Int×(List (List UInt8))×(List MapS)×Unit)→Option (((List Problem)×Int×Int×(List (List UInt8))×(List MapS)×Unit)⊕(((List (List UInt8))×Unit))):=fun (v,v1,v2,l,l3,_)=>
 bif decide (v2<v1) then match a92 v v2 with|some x =>let k (name:List UInt8):Option (((List Problem)×Int×Int×(List (List UInt8))×(List MapS)×Unit)⊕(((List (List UInt8))×Unit))):=bif decide (name.length+([32]).length≤LIM) then match qf x.Index with|some r4 =>bif decide ((name++([32])).length+r4.length≤LIM) then bif decide (l.length+([(name++([32]))++r4]:List (List UInt8)).length≤LIM) then some (.inl (v,v1,wr .i64 (v2+1),l++([(name++([32]))++r4]:List (List UInt8)),l3,())) else none else none|none =>none else none;bif !((a47 MapS.key x.Kind l3).isSome) then k ([63]) else k (b0c MapS.key MapS.val l3 x.Kind)|none =>none else some (.inr ((l,())))
def qa (l:List Problem):Option (List (List UInt8)):=
 match a0i b0k (l,(l.length:Int),0,([]:List (List UInt8)),a3j MapS.key 4 (⟨4,[116,119,105,99,101]⟩:MapS) (a3j MapS.key 3 (⟨3,[117,110,107,110,111,119,110]⟩:MapS) (a3j MapS.key 2 (⟨2,[102,111,117,110,100]⟩:MapS) (a3j MapS.key 1 (⟨1,[109,105,115,115,105,110,103]⟩:MapS) ([]:List MapS)))),()) with|some ((l5,_)) =>some l5|none =>none
def b0m:(Int×(List UInt8)×(List UInt8)×Unit)→Option ((Int×(List UInt8)×(List UInt8)×Unit)⊕(((List UInt8)×(List UInt8)×Unit))):=fun (n,sign,s,_)=>
 bif !(n==0) then let k (d:Int):Option ((Int×(List UInt8)×(List UInt8)×Unit)⊕(((List UInt8)×(List UInt8)×Unit))):=bif decide (0≤(d:Int))&&(decide ((d:Int)≤wr .i64 (d+1))&&decide (wr .i64 (d+1)≤(([48,49,50,51,52,53,54,55,56,57]:List UInt8).length:Int))) then bif decide (((([48,49,50,51,52,53,54,55,56,57]:List UInt8).take (wr .i64 (d+1)).toNat).drop (d:Int).toNat).length+s.length≤LIM) then some (.inl (wr .i64 (n.tdiv 10),sign,((([48,49,50,51,52,53,54,55,56,57]:List UInt8).take (wr .i64 (d+1)).toNat).drop (d:Int).toNat)++s,())) else none else none;bif decide (n.tmod 10<0) then k (wr .i64 (0-(n.tmod 10))) else k (n.tmod 10) else some (.inr ((sign,s,())))
def qc (n:Int):Option (List UInt8):=
 bif n==0 then some ([48]) else let k (sign:List UInt8):Option (List UInt8):=match a0i b0m (n,sign,[],()) with|some ((sign1,s,_)) =>bif decide (sign1.length+s.length≤LIM) then some (sign1++s) else none|none =>none;bif decide (n<0) then k ([45]) else k ([])
def b0n:((List Problem)×Int×(List (List UInt8))×Unit)→Option (((List Problem)×Int×(List (List UInt8))×Unit)⊕(((List (List UInt8))×Unit))):=fun (l,i,l1,_)=>
 bif decide (i<(l.length:Int)) then match a92 l i with|some x =>let k (word4:List UInt8):Option (((List Problem)×Int×(List (List UInt8))×Unit)⊕(((List (List UInt8))×Unit))):=bif decide (word4.length+([32]).length≤LIM) then match a92 l i with|some x5 =>(match qc x5.Index with|some r6 =>bif decide ((word4++([32])).length+r6.length≤LIM) then bif decide (l1.length+([(word4++([32]))++r6]:List (List UInt8)).length≤LIM) then some (.inl (l,wr .i64 (i+1),l1++([(word4++([32]))++r6]:List (List UInt8)),())) else none else none|none =>none)|none =>none else none;bif x.Kind==1 then k ([109,105,115,115,105,110,103]) else bif x.Kind==2 then k ([102,111,117,110,100]) else bif x.Kind==3 then k ([117,110,107,110,111,119,110]) else bif x.Kind==4 then k ([116,119,105,99,101]) else k ([63])|none =>none else some (.inr ((l1,())))
def qd (l:List Problem):Option (List (List UInt8)):=
 match a0i b0n (l,0,([]:List (List UInt8)),()) with|some ((l7,_)) =>some l7|none =>none
def b0l:((List (List UInt8))×(List (List UInt8))×Int×Unit)→Option (((List (List UInt8))×(List (List UInt8))×Int×Unit)⊕((Unit)⊕(Bool×Unit))):=fun (a,b,i,_)=>
 bif decide (i<(a.length:Int)) then match a92 a i with|some x =>(match a92 b i with|some x6 =>bif !(x==x6) then some (.inr (.inr (false,()))) else some (.inl (a,b,wr .i64 (i+1),()))|none =>none)|none =>none else some (.inr (.inl (())))
def qb (l:List Problem):Option Bool:=
 bif decide (60<(l.length:Int)) then match qe with|some r1 =>some r1|none =>none else match qa l with|some r3 =>(match qd l with|some r5 =>(bif !((r3.length:Int)==(r5.length:Int)) then some false else match a0i b0l (r3,r5,0,()) with|some (.inl (_)) =>(match qe with|some r8 =>some r8|none =>none)|some (.inr (v,_)) =>some v|none =>none)|none =>none)|none =>none
def qo (s:List Int):Option (List Int):=
 bif decide (([]:List Int).length+s.length≤LIM) then some (([])++s) else none
def qn (s:List Item):Option (List Item):=
 bif decide (([]:List Item).length+s.length≤LIM) then some (([])++s) else none
def ql (s:List Move):Option (List Move):=
 bif decide (([]:List Move).length+s.length≤LIM) then some (([])++s) else none
def qm (s:List Loan):Option (List Loan):=
 bif decide (([]:List Loan).length+s.length≤LIM) then some (([])++s) else none
def qj (s:List Patron):Option (List Patron):=
 bif decide (([]:List Patron).length+s.length≤LIM) then some (([])++s) else none
end
section
set_option maxRecDepth 100000
open Go
theorem a1z:c6 a0m:=c6.iso (c6.cons (b8.int _) (c6.cons (b8.int _) (c6.cons b8.str (c6.cons (b8.int _) c6.nil)))) (fun _=>rfl)
theorem a57:c6 a7j:=c6.iso (c6.cons (b8.int _) (c6.cons b8.str c6.nil)) (fun _=>rfl)
theorem a50:c6 a38:=c6.iso (c6.cons (b8.int _) (c6.cons (b8.int _) (c6.cons (b8.int _) (c6.cons (b8.int _) c6.nil)))) (fun _=>rfl)
theorem a54:c6 a7g:=c6.iso (c6.cons (b8.int _) (c6.cons (b8.int _) (c6.cons (b8.int _) (c6.cons (b8.int _) (c6.cons (b8.int _) (c6.cons b8.str (c6.cons (b8.int _) (c6.cons (b8.int _) (c6.cons (b8.int _) (c6.cons (b8.int _) c6.nil)))))))))) (fun _=>rfl)
theorem a55:c6 a7h:=c6.iso (c6.cons (b8.int _) (c6.cons (b8.int _) (c6.cons (b8.int _) (c6.cons (b8.int _) (c6.cons (b8.int _) (c6.cons b8.bool c6.nil)))))) (fun _=>rfl)
theorem a56:c6 a7i:=c6.iso (c6.cons (b8.int _) (c6.cons (b8.int _) c6.nil)) (fun _=>rfl)
theorem a52:c6 a7f:=c6.iso (c6.cons (b8.int _) (c6.cons (b8.int _) (c6.cons (b8.int _) (c6.cons (b8.int _) (c6.cons (b8.int _) (c6.cons (b8.int _) (c6.cons (b8.int _) (c6.cons (b8.int _) (c6.cons (b8.int _) (c6.cons (b8.int _) (c6.cons (b8.int _) c6.nil))))))))))) (fun _=>rfl)
theorem a58:c6 a7k:=c6.iso (c6.cons (b8.int _) (c6.cons (b8.int _) (c6.cons (b8.int _) (c6.cons (b8.int _) (c6.cons (b8.int _) c6.nil))))) (fun _=>rfl)
theorem a2r:c6 a2p:=c6.iso (c6.cons (b8.int _) (c6.cons (b8.int _) (c6.cons (b8.int _) (c6.cons (b8.int _) (c6.cons b8.bool (c6.cons b8.str c6.nil)))))) (fun _=>rfl)
theorem a2q:c6 a2o:=c6.iso (c6.cons (b8.int _) (c6.cons (b8.int _) (c6.cons (b8.int _) (c6.cons (b8.int _) (c6.cons (b8.int _) (c6.cons (b8.int _) (c6.cons (b8.int _) c6.nil))))))) (fun _=>rfl)
theorem a59:c6 a7l:=c6.iso (c6.cons (b8.int _) (c6.cons (b8.int _) (c6.cons (b8.int _) (c6.cons (b8.int _) (c6.cons (b8.int _) (c6.cons (b8.int _) (c6.cons (b8.int _) (c6.cons (b8.int _) (c6.cons (b8.int _) (c6.cons (b8.int _) (c6.cons (b8.int _) (c6.cons (b8.int _) (c6.cons (b8.int _) c6.nil))))))))))))) (fun _=>rfl)
theorem p7:c6 l8:=c6.iso (c6.cons (b8.int _) (c6.cons (b8.int _) c6.nil)) (fun _=>rfl)
instance:CCC a0m:=⟨a1z⟩
instance:CCC a7j:=⟨a57⟩
instance:CCC a38:=⟨a50⟩
instance:CCC a7g:=⟨a54⟩
instance:CCC a7h:=⟨a55⟩
instance:CCC a7i:=⟨a56⟩
instance:CCC a7f:=⟨a52⟩
instance:CCC a7k:=⟨a58⟩
instance:CCC a2p:=⟨a2r⟩
instance:CCC a2o:=⟨a2q⟩
instance:CCC a7l:=⟨a59⟩
instance:CCC l8:=⟨p7⟩
end
section
set_option maxRecDepth 100000
abbrev b8o:ZC (Unit):=Zn
abbrev b0o:ZD (Bool):=Zb
def b9u (a:Unit):Option (Bool):=qe
abbrev c0s {R:Type}:Sm R:=a0x b8o b0o b9u
abbrev b3s:ZC (Int×Unit):=Zc Zi Zn
abbrev b46:ZD ((List UInt8)):=Cod.str
def b9v (a:Int×Unit):Option ((List UInt8)):=qf a.1
abbrev b5z {R:Type}:Sm R:=a0x b3s b46 b9v
abbrev b57:ZC ((List Problem)×Unit):=Zc (Zl .kProblem) Zn
abbrev c0i:ZD ((List (List UInt8))):=(Zl .kstr)
abbrev b5w {R:Type}:Sm R:=a0x b57 c0i (fun a=>qa a.1)
def b6j {R:Type}:Nat→Sm R:=cl 46 b5z c0
abbrev b2i:=c08 [(4,4,Kd.kstr)] [] [3,4,11,12,13] [] [4,9] (FC.arr 3 9 (FC.arr 4 4 (Zs 11 (Zl .kProblem) (Zs 12 Zi (Zs 13 Zi (FC.own 4 Kd.kstr false (FC.map 9 Kd.kMapS Zz))))))) b0k (.x 0 [4] [] [4] (FC.arr 4 4 (FC.own 4 Kd.kstr false Zz)))
def a89 {R:Type}:Lp Kd El R:=lp 4 b2i.sem l0
abbrev b5x {R:Type}:Sm R:=a0x b3s b46 (fun a=>qc a.1)
def b6l {R:Type}:Nat→Sm R:=c0
abbrev b2k:=c08 [] [] [0,3,4] [] [] (Zs 0 Zi (Zs 3 Cod.str (Zs 4 Cod.str Zz))) b0m (.x 0 [3,4] [] [] (Zs 3 Cod.str (Zs 4 Cod.str Zz)))
def a9b {R:Type}:Lp Kd El R:=lp 7 b2k.sem l0
abbrev b5y {R:Type}:Sm R:=a0x b57 c0i (fun a=>qd a.1)
def b6m {R:Type}:Nat→Sm R:=cl 47 b5x c0
abbrev b2l:=c08 [(3,3,Kd.kstr)] [] [0,3,4] [] [3] (Zs 0 (Zl .kProblem) (FC.arr 3 3 (Zs 4 Zi (FC.own 3 Kd.kstr false Zz)))) b0n (.x 0 [3] [] [3] (FC.arr 3 3 (FC.own 3 Kd.kstr false Zz)))
def a9c {R:Type}:Lp Kd El R:=lp 3 b2l.sem l0
abbrev b8n:ZC ((List Problem)×Unit):=b57
abbrev c10:ZD (Bool):=b0o
def b9t (a:(List Problem)×Unit):Option (Bool):=qb a.1
abbrev c0r {R:Type}:Sm R:=a0x b8n c10 b9t
def b6k {R:Type}:Nat→Sm R:=cl 9 c0s (cl 19 b5w (cl 20 b5y c0))
abbrev b2j:=c08 [] [] [3,4,5] [] [] (Zs 3 (Zl .kstr) (Zs 4 (Zl .kstr) (Zs 5 Zi Zz))) b0l (.xs 0 [] [] [] Zz (.r [2] [] [] (Zs 2 Zb Zz)))
def a9a {R:Type}:Lp Kd El R:=lp 7 b2j.sem l0
abbrev b3t:ZC ((List Int)×Unit):=Zc (Zl .ki64) Zn
abbrev b7r:ZD ((List Int)):=(Zl .ki64)
def b9x (a:(List Int)×Unit):Option ((List Int)):=qh a.1
abbrev c0u {R:Type}:Sm R:=a0x b3t b7r b9x
abbrev c1i:ZC ((List Int)×Unit):=b3t
abbrev c15:ZD ((List Int)):=b7r
def c1r (a:(List Int)×Unit):Option ((List Int)):=qo a.1
abbrev b54 {R:Type}:Sm R:=a0x c1i c15 c1r
abbrev b6a:ZC ((List Item)×Int×(List Item)×Unit):=Zc (Zl .kItem) (Zc Zi (Zc (Zl .kItem) Zn))
abbrev b7t:ZD ((List Item)):=(Zl .kItem)
def b9z (a:(List Item)×Int×(List Item)×Unit):Option ((List Item)):=qk a.1 a.2.1 a.2.2.1
abbrev c0w {R:Type}:Sm R:=a0x b6a b7t b9z
abbrev c1h:ZC ((List Item)×Unit):=Zc (Zl .kItem) Zn
abbrev c14:ZD ((List Item)):=b7t
def c1q (a:(List Item)×Unit):Option ((List Item)):=qn a.1
abbrev b53 {R:Type}:Sm R:=a0x c1h c14 c1q
abbrev b3u:ZC ((List UInt8)×Unit):=Zc Cod.str Zn
abbrev c0j:ZD (Bool):=b0o
def b90 (a:(List UInt8)×Unit):Option (Bool):=qp a.1
abbrev c0x {R:Type}:Sm R:=a0x b3u c0j b90
abbrev c1f:ZC ((List Move)×Unit):=Zc (Zl .kMove) Zn
abbrev c12:ZD ((List Move)):=(Zl .kMove)
def c1o (a:(List Move)×Unit):Option ((List Move)):=ql a.1
abbrev b51 {R:Type}:Sm R:=a0x c1f c12 c1o
abbrev b58:ZC ((List Loan)×Int×(List Loan)×Unit):=Zc (Zl .kLoan) (Zc Zi (Zc (Zl .kLoan) Zn))
abbrev b47:ZD ((List Loan)):=(Zl .kLoan)
def b9w (a:(List Loan)×Int×(List Loan)×Unit):Option ((List Loan)):=qg a.1 a.2.1 a.2.2.1
abbrev c0t {R:Type}:Sm R:=a0x b58 b47 b9w
abbrev c1g:ZC ((List Loan)×Unit):=Zc (Zl .kLoan) Zn
abbrev c13:ZD ((List Loan)):=b47
def c1p (a:(List Loan)×Unit):Option ((List Loan)):=qm a.1
abbrev b52 {R:Type}:Sm R:=a0x c1g c13 c1p
abbrev b6c:ZC ((List UInt8)×Unit):=b3u
abbrev c0l:ZD ((List UInt8)):=b46
def b92 (a:(List UInt8)×Unit):Option ((List UInt8)):=qr a.1
abbrev c0z {R:Type}:Sm R:=a0x b6c c0l b92
abbrev b59:ZC ((List Patron)×Int×(List Patron)×Unit):=Zc (Zl .kPatron) (Zc Zi (Zc (Zl .kPatron) Zn))
abbrev b7s:ZD ((List Patron)):=(Zl .kPatron)
def b9y (a:(List Patron)×Int×(List Patron)×Unit):Option ((List Patron)):=qi a.1 a.2.1 a.2.2.1
abbrev c0v {R:Type}:Sm R:=a0x b59 b7s b9y
abbrev c1e:ZC ((List Patron)×Unit):=Zc (Zl .kPatron) Zn
abbrev c11:ZD ((List Patron)):=b7s
def c1n (a:(List Patron)×Unit):Option ((List Patron)):=qj a.1
abbrev b50 {R:Type}:Sm R:=a0x c1e c11 c1n
abbrev b6b:ZC ((List Loan)×Int×Int×Unit):=Zc (Zl .kLoan) (Zc Zi (Zc Zi Zn))
abbrev c0k:ZD ((List Loan)):=b47
def b91 (a:(List Loan)×Int×Int×Unit):Option ((List Loan)):=qq a.1 a.2.1 a.2.2.1
abbrev c0y {R:Type}:Sm R:=a0x b6b c0k b91
end
section
set_option maxRecDepth 100000
open Go
theorem b8w:∀k,c6 (ccK k)
 |.kProblem=>a1z
 |.kMapS=>a57
 |.kstr=>c6.one b8.str
 |.ki64=>c6.one (b8.int _)
 |.kItem=>a54
 |.kLoan=>a55
 |.kMapI=>a56
 |.kHold=>a52
 |.kMove=>a58
 |.kPatron=>a2r
 |.kCharge=>a2q
 |.kRule=>a59
 |.kbool=>c6.one b8.bool
 |.ku64=>c6.one (b8.int _)
 |.ku8=>c6.one (b8.int _)
 |.kUtf8_acceptRange=>p7
 |.ku16=>c6.one (b8.int _)
theorem c2r:SgOk sg:=b74 (cc:=ccK) (fun _=>rfl) (fun _=>rfl) b8w (by intro k x;cases k<;>rfl) (by intro k x;cases k<;>rfl) (by intro k;cases k<;>decide)
theorem eok:∀t,b9j t=true→EqOk Tryz.prog t:=a82 kr (a82 kr (b6v))
theorem mok:∀t M,c0e t=some M→b3j Tryz.prog sg t M:=a9d (b40 (kt:=3) (et:=9) kr kr kr (fun _ _=>rfl) (fun _ _=>rfl) (fun _=>rfl)) (a9d (b4z (kt:=3) (et:=3) kr kr kr (fun _ _=>rfl) (fun _ _=>rfl) (fun _=>rfl)) (b7n))
theorem good:GoodP Tryz.prog sg:=⟨c2q kr kr,c2r,eok,mok⟩
end
end Go.Proofs.YteaknldbhmocpaaGreatDoor
namespace Go.Proofs.YteaknldbhmocpaaGreatDoor.Ev
open Go
section
section
variable {P:Program} {w:World}
theorem f9 {dT sT ty elem:TypeId} {i0:TypeInfo} {g o dLen dCap sLen sCap z:Nat} {a:Addr} {L cs:List Value} {t:TypeId} (hu:P.underlying dT=some (.slice elem)) (hi:P.info? elem=some i0) (hz:i0.size=z)
 (hg:w.heap[g]?=some (.cells L.toArray t (0,0))) (hn:cs.length=Nat.min sLen dLen*z) (hsrc:∀j v,cs[j]?=some v→w.cell? (a.add j)=some v) (hfit:o+cs.length≤L.length) (h1:∀v∈cs,v.oneCell'=true) :
 (Builtin.copy_ #[dT,sT] ty #[.slice (some ⟨g,o,none⟩) dLen dCap,.slice (some a) sLen sCap]).run P w=.ok (goInt (Nat.min sLen dLen)) (w.setRow g (Go.splice L o cs).toArray):=by
 have hl:=run_firstCells_some (P:=P) w z (Nat.min sLen dLen) a sLen sCap cs hn hsrc;have hst:=run_storeCells_at P g o t cs 0 L.toArray w hg (by simpa using hfit) h1;simp only[yaO]at hst;subst hz;simp[Builtin.copy_,run_underlying hu,Builtin.lenOf,sizeOf,typeInfo,hi,hl,hst,Go.splice]
theorem a3t {ops:Array Oper} {rest:List Oper} {o:Oper} {a:Act} {Q:Exit→Act→World→Prop} (hgd:o.guard=none) (d s:Operand) (t t':TypeId)
 (ho:o.op=.call {callee:=.builtin .copy,args:=#[d,s],argTypes:=#[t,t']}) (v u:Value) (hd:a.eval d=v) (hs:a.eval s=u) {v':Value} {w':World}
 (hr:(Builtin.copy_ #[t,t'] o.type #[v,u]).run P w=.ok v' w') (h:wpList P ops Q rest (a.put o.dst v') w'):wpList P ops Q (o::rest) a w:=
 wpList_plain hgd fun _ hK=>by
  unfold Oper.wp execOp;simp only[ho,resolve,invoke,builtin,Sem.run_bind,Sem.run_pure,Result.andThen_ok,List.map_toArray,yaS,List.map_nil,hd,hs,hr];exact hK _ _ h
theorem o6 {ops:Array Oper} {o:Oper} {a:Act} {K:Act→World→Prop} {Q:Exit→Act→World→Prop} {E:Prop}
 (hg:o.guard=none) (d x:Operand) (dT sT:TypeId) (hop:o.op=Op.call {callee:=Callee.builtin Builtin.copy,args:=#[d,x],argTypes:=#[dT,sT]})
 (v u:Value) (hd:a.eval d=v) (hx:a.eval x=u) {v':Value} {w':World} (hr:(Builtin.copy_ #[dT,sT] o.type #[v,u]).run P w=.ok v' w') (hK:K (a.put o.dst v') w') :
 if Region.wanted o (yielded ops a.tmps)=true then Oper.wp P o a w K Q else E:=by
 have hw:Region.wanted o (yielded ops a.tmps)=true:=by simp[Region.wanted,hg]
 rw[yar hw];unfold Oper.wp;simp[execOp,hop,resolve,invoke,builtin,hd,hx,hr,Result.andThen];exact hK
theorem b0u {ops:Array Oper} {o:Oper} {a:Act} {K:Act→World→Prop} {Q:Exit→Act→World→Prop} {E:Prop}
 (hg:o.guard=none) (d x:Operand) (dT sT:TypeId) (hop:o.op=Op.call {callee:=Callee.builtin Builtin.append,args:=#[d,x],argTypes:=#[dT,sT]})
 (v u:Value) (hd:a.eval d=v) (hx:a.eval x=u) {v':Value} {w':World} (hr:(Builtin.append_ #[dT,sT] o.type #[v,u]).run P w=.ok v' w') (hK:K (a.put o.dst v') w') :
 if Region.wanted o (yielded ops a.tmps)=true then Oper.wp P o a w K Q else E:=by
 have hw:Region.wanted o (yielded ops a.tmps)=true:=by simp[Region.wanted,hg]
 rw[yar hw];unfold Oper.wp;simp[execOp,hop,resolve,invoke,builtin,hd,hx,hr,Result.andThen];exact hK
theorem g5 {ops:Array Oper} {rest:List Oper} {o:Oper} {a:Act} {Q:Exit→Act→World→Prop} (hgd:o.guard=none) (s x:Operand) (t tn:TypeId)
 (ho:o.op=.call {callee:=.builtin .append,args:=#[s,x],argTypes:=#[t,tn]}) (vs vx:Value) (hs:a.eval s=vs) (hx:a.eval x=vx)
 {v':Value} {w':World} (hr:(Builtin.append_ #[t,tn] o.type #[vs,vx]).run P w=.ok v' w') (h:wpList P ops Q rest (a.put o.dst v') w'):wpList P ops Q (o::rest) a w:=
 Lib.wpList_append_run w hgd s x t tn ho vs vx hs hx v' w' hr h
theorem a8g {t e ty:TypeId} {i0:TypeInfo} {z0:Value} {b o n c:Nat} {L:List Value} {tt:TypeId} (ht:P.underlying t=some (.slice e)) (hi:P.info? e=some i0) (hz:i0.zero=some z0)
 (hn:0<n) (hb:w.heap[b]?=some (.cells L.toArray tt (0,0))) (hfit:o+n*z0.cells.size≤L.length) (h1:∀v∈z0.cells,v.oneCell'=true) :
 (Builtin.clear_ #[t] ty #[.slice (some ⟨b,o,none⟩) n c]).run P w=.ok (.tuple #[]) (w.setRow b (Go.splice L o (Builtin.zeroCells z0.cells n).toList).toArray):=by
 have hl:(Builtin.zeroCells z0.cells n).toList.length=n*z0.cells.size:=by rw[yaC,Go.size_zeroCells]
 have hst:=run_storeCells_at P b o tt (Builtin.zeroCells z0.cells n).toList 0 L.toArray w hb (by rw[hl];simpa using hfit) (fun v hv=>by
  simp only[Builtin.zeroCells,Array.toList_map,yaX,Array.toList_range,List.mem_range]at hv;obtain ⟨q,hq,rfl⟩:=hv;have hp:0<z0.cells.size:=Nat.pos_of_ne_zero (fun h=>by rw[h]at hq;omega);rw[getElem!_pos z0.cells _ (Nat.mod_lt _ hp)];exact h1 _ (Array.getElem_mem _))
 simp only[yaO]at hst;obtain ⟨m,rfl⟩:∃m,n=m+1:=⟨n-1,by omega⟩
 simp only[ya6]at hst;simp[Builtin.clear_,run_underlying ht,sizeOf,typeInfo,zeroValue,hi,hz,hst,Go.splice]
theorem s5 {tS tR e:TypeId} {i0:TypeInfo} (ht:P.underlying tS=some (.slice e)) (hi:P.info? e=some i0) {a b:Addr} {la ca lb cb:Nat} (hne:a.block≠b.block)
 {va vb:Array Value} {ta tb:TypeId} {fa:Nat×Nat} (ha:w.heap[a.block]?=some (.cells va ta fa)) (ha0:0<va.size) (hb:w.heap[b.block]?=some (.cells vb tb (0,0))) (hb0:0<vb.size) :
 (Extern.SlicesOverlaps.overlaps #[tS,tS] #[tR] #[.slice (some a) la ca,.slice (some b) lb cb]).run P w=.ok (.bool false) w:=by
 have hnb:(a.block != b.block)=true:=by simpa using hne
 have hnb':(a.block==b.block)=false:=by simpa using hne
 have hsa:w.shape? a.block=some (ta,va.size):=by simp[World.shape?,ha]
 have hsb:w.shape? b.block=some (tb,vb.size):=by simp[World.shape?,hb]
 have hfb:w.frozen? b=false:=by simp[World.frozen?,hb]
 have hfb':w.frozen? {block:=b.block,off:=vb.size}=false:=by simp[World.frozen?,hb]
 change Sem.run P (α:=Value) (do
  let some t:=(#[tS,tS]:Array TypeId)[0]?|stuck "slices.overlaps: no parameter types"
  let .slice elem ←underlying t|stuck "slices.overlaps: slice type expected"
  let size ←sizeOf elem
  match (some a:Option Addr),(some b:Option Addr) with
  |some a,some b=>
   if la=0∨lb=0∨size=0 then pure (Value.bool false)
   else if a.block != b.block&&(←frozen a)&&(←frozen b) then unsupported .addressObserved
   else do
    if a.block != b.block then do
     noView a;noView b
     if ←mayBeOne a b then return Value.bool ((←choose (.extern "sameAddr.stringBytes" 2))==1)
    pure (Value.bool (a.block==b.block&&a.off<b.off+lb*size&&b.off<a.off+la*size))
  |_,_=>pure (Value.bool false)) w=_
 have hz:(Go.sizeOf e).run P w=.ok i0.size w:=by simp[sizeOf,typeInfo,hi]
 by_cases h0:la=0∨lb=0∨i0.size=0
 ·simp[run_underlying ht,hz,h0]
 ·obtain ⟨ka,hka⟩:∃k,va.size=k+1:=⟨va.size-1,by omega⟩
  obtain ⟨kb,hkb⟩:∃k,vb.size=k+1:=⟨vb.size-1,by omega⟩
  rw[hka]at hsa;rw[hkb]at hsb hfb';by_cases hfa:w.frozen? a=true
  ·simp[run_underlying ht,hz,h0,hnb,hnb',frozen,noView,viewAt,mayBeOne,stringish,shape,Sem.run,hsa,hsb,hfa,hfb,hfb']
  ·have hfa:w.frozen? a=false:=by simpa using hfa
   by_cases hfe:w.frozen? {block:=a.block,off:=ka+1}=true
   ·simp[run_underlying ht,hz,h0,hnb,hnb',frozen,noView,viewAt,mayBeOne,stringish,shape,Sem.run,hsa,hsb,hfa,hfb,hfb',hfe]
   ·have hfe:w.frozen? {block:=a.block,off:=ka+1}=false:=by simpa using hfe
    simp[run_underlying ht,hz,h0,hnb,hnb',frozen,noView,viewAt,mayBeOne,stringish,shape,Sem.run,hsa,hsb,hfa,hfb,hfb',hfe]
end
end
section
section
variable {κ:Type} {El:κ→Type} {S:Sg κ El} {P:Program}
theorem d8 {α:Type} {L new:List α} {off j:Nat} (h:off+new.length≤L.length):(Go.splice L off new)[j]?=if off≤j∧j<off+new.length then new[j-off]? else L[j]?:=by
 unfold Go.splice;rw[←ya6];exact a5j L new off j h
theorem a0a (sgk:SgOk S) {w w':World} {I J I':Nat→Nat→Prop} {v:Value} {d:D κ El} (h:DR S w I J v d) (hp:a0g d=true) (H:∀b o,I b o→w'.cell? ⟨b,o,none⟩=w.cell? ⟨b,o,none⟩∧I' b o):DR S w' I' I' v d:=
 (h.relendL sgk (J':=I) (m0 hp)).mono H H
theorem q8 (sgk:SgOk S) {k:κ} {x:El k} {j:Nat} {d:D κ El} (h:(S.enc k x)[j]?=some d):a0g d=true:=sgk.plain k x d (yaj h)
theorem b20 {w:World} {I J:Nat→Nat→Prop} {v:Value} {d:D κ El} (h:DR S w I J v d) (hp:a0g d=true):v.oneCell'=true:=
 (h.lone (by cases d<;>simp_all[a0g,solid])).one
structure InsOk (P:Program) (f z E:Nat):Prop where
 shift:∀{w:World} {b n c i vb vo vc:Nat} {L vs:List Value} {t:TypeId},i<n→n+1≤c→n+1≤1073741824→vb≠b→w.heap[b]?=some (.cells L.toArray t (0,0))→L.length=c*z→vs.length=z→
  (∀j v,vs[j]?=some v→w.cell? ⟨vb,vo+j,none⟩=some v)→(∀v∈(L.drop (i*z)).take ((n-i)*z),v.oneCell'=true)→(∀v∈vs,v.oneCell'=true)→
  Calls P f #[.slice (some ⟨b,0,none⟩) n c,.int .i64 i,.slice (some ⟨vb,vo,none⟩) 1 vc] w fun e w'=>
   e=.returned (.slice (some ⟨b,0,none⟩) (n+1) c)∧w'=(w.drew.setRow b (Go.splice L ((i+1)*z) ((L.drop (i*z)).take ((n-i)*z))).toArray).setRow b (Go.splice (Go.splice L ((i+1)*z) ((L.drop (i*z)).take ((n-i)*z))) (i*z) vs).toArray
 room:∀{w:World} {b n c vb vo vc:Nat} {L vs:List Value} {t:TypeId},n+1≤c→n+1≤1073741824→w.heap[b]?=some (.cells L.toArray t (0,0))→L.length=c*z→vs.length=z→
  (∀j v,vs[j]?=some v→w.cell? ⟨vb,vo+j,none⟩=some v)→(∀v∈vs,v.oneCell'=true)→
  Calls P f #[.slice (some ⟨b,0,none⟩) n c,.int .i64 n,.slice (some ⟨vb,vo,none⟩) 1 vc] w fun e w'=>
   e=.returned (.slice (some ⟨b,0,none⟩) (n+1) c)∧w'=w.setRow b (Go.splice L (n*z) vs).toArray
 new:∀{w:World} {base:Option Addr} {n c vb vo vc:Nat} {olds vs:List Value},n≤c→c<n+1→n+1≤1073741824→vs.length=z→(base=none→n=0)→olds.length=n*z→
  (∀a,base=some a→∀j v,olds[j]?=some v→w.cell? (a.add j)=some v)→(∀j v,vs[j]?=some v→w.cell? ⟨vb,vo+j,none⟩=some v)→
  Calls P f #[.slice base n c,.int .i64 n,.slice (some ⟨vb,vo,none⟩) 1 vc] w fun e w'=>
   ∃cap zs,e=.returned (.slice (some ⟨w.heap.size,0,none⟩) (n+1) cap)∧w'=w.drew.alloc (.cells (olds++(vs++zs)).toArray E)∧n+1≤cap∧zs.length=(cap-(n+1))*z
 grow:∀{w:World} {b n c i vb vo vc:Nat} {L vs:List Value} {t:TypeId},i<n→n≤c→c<n+1→n+1≤1073741824→vb≠b→w.heap[b]?=some (.cells L.toArray t (0,0))→L.length=c*z→vs.length=z→
  (∀j v,vs[j]?=some v→w.cell? ⟨vb,vo+j,none⟩=some v)→(∀v∈(L.drop (i*z)).take ((n-i)*z),v.oneCell'=true)→(∀v∈vs,v.oneCell'=true)→
  Calls P f #[.slice (some ⟨b,0,none⟩) n c,.int .i64 i,.slice (some ⟨vb,vo,none⟩) 1 vc] w fun e w'=>
   ∃cap row,e=.returned (.slice (some ⟨w.heap.size,0,none⟩) (n+1) cap)∧n+1≤cap∧row.length=cap*z∧row.take (i*z)=L.take (i*z)∧
    w'.heap=(w.heap.push (.cells (Go.splice (Go.splice row (i*z) vs) ((i+1)*z) ((L.drop (i*z)).take ((n-i)*z))).toArray E))∧w'.os=w.os∧w'.output=w.output∧w'.tape=w.tape
theorem a26 {k:κ} {xs:List (El k)} {y:El k} {i:Nat} {L vs M:List Value} {Q:Value→D κ El→Prop} (sgk:SgOk S) (hi:i≤xs.length)
 (h1:∀(i:Nat) (hi:i<xs.length) (j:Nat) (d:D κ El),(S.enc k xs[i])[j]?=some d→∃v,L[i*S.sz k+j]?=some v∧Q v d)
 (h2:∀(j:Nat) (d:D κ El),(S.enc k y)[j]?=some d→∃v,vs[j]?=some v∧Q v d)
 (m1:∀p:Nat,p<i*S.sz k→M[p]?=L[p]?) (m2:∀j:Nat,j<S.sz k→M[i*S.sz k+j]?=vs[j]?) (m3:∀p:Nat,i*S.sz k≤p→p<xs.length*S.sz k→M[p+S.sz k]?=L[p]?) :
 ∀(i':Nat) (hi':i'<(xs.take i++y::xs.drop i).length) (j:Nat) (d:D κ El),(S.enc k (xs.take i++y::xs.drop i)[i'])[j]?=some d→∃v,M[i'*S.sz k+j]?=some v∧Q v d:=by
 intro i' hi' j d hj;have hj':j<S.sz k:=by have:=(zL hj);rwa [sgk.sz]at this
 have hl:(xs.take i).length=i:=by simp;omega
 by_cases hlt:i'<i
 ·have e:(xs.take i++y::xs.drop i)[i']=xs[i']'(by omega):=by rw[ya4 (by omega)];simp
  rw[e]at hj;obtain ⟨v,a,b⟩:=h1 i' (by omega) j d hj;exact ⟨v,by rw[m1 _ (o7 hj' hlt)];exact a,b⟩
 ·by_cases heq:i'=i
  ·subst heq;have e:(xs.take i'++y::xs.drop i')[i']=y:=by rw[ya3 (by omega)];simp[hl]
   rw[e]at hj;obtain ⟨v,a,b⟩:=h2 j d hj;exact ⟨v,by rw[m2 j hj'];exact a,b⟩
  ·obtain ⟨p,rfl⟩:∃p,i'=p+1:=⟨i'-1,by omega⟩
   have hp:p<xs.length:=by simp at hi';omega
   have e:(xs.take i++y::xs.drop i)[p+1]=xs[p]:=by
    rw[ya3 (by omega)];have e2:p+1-(xs.take i).length=(p-i)+1:=by omega
    simp only[e2,List.getElem_cons_succ,List.getElem_drop];congr 1;omega
   rw[e]at hj;obtain ⟨v,a,b⟩:=h1 p hp j d hj;refine ⟨v,?_,b⟩;have:=m3 (p*S.sz k+j) (by have:=yai (S.sz k) (show i≤p by omega);omega) (o7 hj' hp);rw[←a,←this];congr 1;rw[yaB];omega
theorem b6q (sgk:SgOk S) {f E:Nat} {fn:Func} {code:Code} (fok:FnOk P f fn code) (hmd:S.md f=.cons) {k:κ} (W:InsOk P f (S.sz k) E)
 {xs:List (El k)} {y:El k} {i:Nat} {ds:List (D κ El)} (hi:i≤xs.length) (hlim:xs.length+1≤1073741824) (hwl:WL ds [.lst k xs,.int .i64 (i:Int),.lst k [y]]) :
 Con P S f ds [] (.lst k (xs.take i++y::xs.drop i)) []:=by
 unfold Con;rw[hmd];intro _ k' xs' ds0 hds k2 xs2 hd w I J mb v0 vs hp ho ha;subst hds;cases hd
 have hw0:=hwl.2 0 _ _ rfl rfl;cases hw0 with
 |leaf _ _ hw0=>
 cases hw0
 have ha:=WL.args (cs':=[.int .i64 (i:Int),.lst k [y]]) ⟨by simpa using hwl.1,fun q d d' h1 h2=>hwl.2 (q+1) d d' (by simpa using h1) (by simpa using h2)⟩ ha;obtain ⟨base,c,rfl,hnc,hz⟩:=ho;obtain ⟨hvs,hav⟩:=ha;obtain ⟨u1,u2,rfl⟩:∃u1 u2,vs = #[u1,u2]:=by
  simp at hvs;exact ⟨vs[0],vs[1],by
   apply Array.ext
   ·simp[hvs]
   ·intro j h1 h2;simp at h2;rcases (show j=0∨j=1 by omega) with rfl|rfl<;>rfl⟩
 have hu1:u1=.int .i64 i:=(hav 0 u1 _ rfl rfl).int_inv;have hu2:=hav 1 u2 _ rfl rfl;subst hu1;obtain ⟨n,hn⟩:∃n,n=xs.length:=⟨_,rfl⟩
 have hpos:=sgk.pos k;cases hu2 with
 |lst vb vo vc _ _ cv hvcap hvc hvv=>
 obtain ⟨us,hus⟩:∃us,us=(List.range (S.sz k)).map (cv 0):=⟨_,rfl⟩
 have husl:us.length=S.sz k:=by rw[hus];simp
 have hug:∀j,j<S.sz k→us[j]?=some (cv 0 j):=fun j hj=>by rw[hus];simp[hj]
 have huc:∀j v,us[j]?=some v→w.cell? ⟨vb,vo+j,none⟩=some v:=fun j v hj=>by
  have hlt:=(zL hj)
  rw[husl]at hlt;rw[hug j hlt]at hj;cases hj
  have:=(hvc 0 j (by simp) hlt).1;simpa using this
 have huI:∀j,j<S.sz k→I vb (vo+j):=fun j hlt=>by have:=(hvc 0 j (by simp) hlt).2;simpa using this
 have hud:∀j d,(S.enc k y)[j]?=some d→∃v,us[j]?=some v∧DR S w I J v d:=fun j d hj=>by
  have hlt:=(zL hj)
  rw[sgk.sz]at hlt;exact ⟨_,hug j hlt,hvv 0 (by simp) j d hj⟩
 have hu1c:∀v∈us,v.oneCell'=true:=fun v hv=>by
  obtain ⟨j,hj⟩:=ybc hv;have hlt:=(zL hj)
  have hlt':j<(S.enc k y).length:=by rw[sgk.sz,←husl];exact hlt
  obtain ⟨v',e1,e2⟩:=hud j _ (yaa hlt');rw[hj]at e1;cases e1
  exact b20 e2 (sgk.plain k y _ (ybl hlt'))
 have hIw:∀b o,I b o→b<w.heap.size:=hp.ib;have hres:(xs.take i++y::xs.drop i).length=n+1:=by simp;omega
 unfold k7;rw[MuLone.run_callFunc_enter fok.at_ fok.name fok.body _ w];simp only;show Calls P f #[.slice base xs.length c,.int .i64 (i:Int),.slice (some ⟨vb,vo,none⟩) 1 vc] w _
 rcases hz with ⟨rfl,rfl⟩|⟨b,vals,t,rfl,rfl,hb,hvsz,hel⟩
 ·have hx0:xs=[]:=yap (by omega);subst hx0;have hi0:i=0:=by simpa using hi
  subst hi0;have hnew:=W.new (w:=w) (base:=base) (n:=0) (c:=0) (vb:=vb) (vo:=vo) (vc:=vc) (olds:=[]) (vs:=us) (by omega) (by omega) (by omega) husl (fun _=>rfl) (by simp) (fun a _ j v hj=>by simp at hj) huc;refine hnew.mono (fun e w' he=>?_);obtain ⟨cap,zs,rfl,rfl,hcap,hzl⟩:=he;refine ⟨I,⟨by rw[World.size_alloc];show w.heap.size≤w.heap.size+1;omega,rfl,rfl,rfl,fun q hq _=>?_,fun _ _ h=>h,fun _ _ h=>.inl h,fun q o h=>by have:=hIw q o h;rw[World.size_alloc];show q<w.heap.size+1;omega⟩,
   some ⟨w.heap.size,0,none⟩,cap,by simp,by simp;omega,.inr ⟨w.heap.size,_,E,rfl,p5 w.drew _,?_,.inl (yam _),fun o h=>absurd (hIw _ _ h) (by omega),?_⟩⟩
  ·simp only[World.alloc];rw[ybi,yak (by show ¬q=w.heap.size;omega)];rfl
  ·simp[husl,hzl];obtain ⟨q,rfl⟩:∃q,cap=q+1:=⟨cap-1,by omega⟩
   rw[Nat.add_sub_cancel,yaB];omega
  ·intro i' hi' j d hj;have:=a26 (L:=[]) (vs:=us) (M:=us++zs) (Q:=fun v d=>DR S (w.drew.alloc (.cells ([]++(us++zs)).toArray E)) I I v d) sgk (i:=0) (xs:=[]) (y:=y) (by simp) (fun i hi=>absurd hi (by simp))
    (fun j d hj=>by
     obtain ⟨v,a,b⟩:=hud j d hj;exact ⟨v,a,a0a sgk b (q8 sgk hj) (fun q o h=>⟨by
      have:=hIw q o h;simp only[World.cell?,World.alloc];rw[ybi,yak (by show ¬q=w.heap.size;omega)];rfl,h⟩)⟩)
    (fun p hp=>absurd hp (by omega)) (fun j hj=>by rw[Nat.zero_mul,yaD,yan (by omega)]) (fun p _ hp=>by simp at hp) i' hi' j d hj
   simpa using this
 ·have hbw:b<w.heap.size:=(yac.1 hb).1;have hbI:∀o,¬I b o:=fun o h=>(hp.jb b o (hp.ij b o h)).2 (by simp)
  have hne:vb≠b:=fun e=>by subst e;exact hbI _ (huI 0 hpos)
  obtain ⟨L,hL⟩:∃L,L=vals.toList:=⟨_,rfl⟩
  have hLa:vals=L.toArray:=by rw[hL]
  have hLl:L.length=c*S.sz k:=by rw[hL];simpa using hvsz
  rw[hLa]at hb;have hel':∀i (hi:i<xs.length) j d,(S.enc k xs[i])[j]?=some d→∃v,L[i*S.sz k+j]?=some v∧DR S w I J v d:=fun i hi j d hj=>by
   obtain ⟨v,a,e⟩:=hel i hi j d hj;exact ⟨v,by rw[hL];simpa using a,e⟩
  have hnL:n*S.sz k≤L.length:=by rw[hLl];exact yai _ (by omega)
  have hone:∀v∈L.take (n*S.sz k),v.oneCell'=true:=fun v hv=>by
   obtain ⟨p,hp'⟩:=ybc hv;have hlt:=(zL hp')
   simp only[yba]at hlt;have h1:p / S.sz k<n:=(ybb hpos).2 (by omega);have h2:=Nat.mod_lt p hpos;have h3:p % S.sz k<(S.enc k (xs[p / S.sz k]'(by omega))).length:=by rw[sgk.sz];exact h2
   obtain ⟨v',a,e⟩:=hel' (p / S.sz k) (by omega) _ _ (yaa h3);rw[Nat.div_add_mod']at a;rw[yao,yar (by omega),a]at hp';cases hp'
   exact b20 e (sgk.plain k _ _ (ybl h3))
  have hC1:(L.drop (i*S.sz k)).take ((n-i)*S.sz k)=(L.take (n*S.sz k)).drop (i*S.sz k):=by
   rw[List.drop_take];congr 1;rw[Nat.sub_mul]
  have hone1:∀v∈(L.drop (i*S.sz k)).take ((n-i)*S.sz k),v.oneCell'=true:=fun v hv=>hone v (by rw[hC1]at hv;exact List.mem_of_mem_drop hv)
  have hin:i*S.sz k≤n*S.sz k:=yai _ (by omega);have hi1:(i+1)*S.sz k=i*S.sz k+S.sz k:=by rw[yaB,ybp]
  have hn1:(n+1)*S.sz k=n*S.sz k+S.sz k:=by rw[yaB,ybp]
  obtain ⟨C1,hC⟩:∃C1,C1=(L.drop (i*S.sz k)).take ((n-i)*S.sz k):=⟨_,rfl⟩
  have hC1l:C1.length=n*S.sz k-i*S.sz k:=by rw[hC,hC1];simp;omega
  have hC1g:∀q,q<n*S.sz k-i*S.sz k→C1[q]?=L[i*S.sz k+q]?:=fun q hq=>by rw[hC,hC1,ybo,yao,yar (by omega)]
  have inpl:∀(M:List Value) (w':World),M.length=L.length→(w'=w.setRow b M.toArray∨∃M0:Array Value,w'=(w.drew.setRow b M0).setRow b M.toArray)→n+1≤c→
   (∀p:Nat,p<i*S.sz k→M[p]?=L[p]?)→(∀j:Nat,j<S.sz k→M[i*S.sz k+j]?=us[j]?)→(∀p:Nat,i*S.sz k≤p→p<xs.length*S.sz k→M[p+S.sz k]?=L[p]?)→
   ∃I',GrowM [b] w w' I I'∧c1d S w' I' w.heap.size [b] k (xs.take i++y::xs.drop i) (.slice (some ⟨b,0,none⟩) (n+1) c):=by
   intro M w' hMl hw' hroom m1 m2 m3;have hheap:w'.heap[b]?=some (.cells M.toArray t (0,0)):=by
    rcases hw' with rfl|⟨M0,rfl⟩
    ·exact setRow_heap _ _ _ _ _ _ hb
    ·exact setRow_heap _ _ _ _ _ _ (setRow_heap w.drew _ _ _ _ _ hb)
   have hoth:∀q,q≠b→w'.heap[q]?=w.heap[q]?:=fun q hq=>by
    rcases hw' with rfl|⟨M0,rfl⟩
    ·exact setRow_other _ _ _ _ hq
    ·rw[setRow_other _ _ _ _ hq,setRow_other _ _ _ _ hq];rfl
   have hsz:w'.heap.size=w.heap.size:=by
    rcases hw' with rfl|⟨M0,rfl⟩<;>simp only[setRow_size]<;>rfl
   refine ⟨I,⟨by omega,by rcases hw' with rfl|⟨M0,rfl⟩<;>rfl,by rcases hw' with rfl|⟨M0,rfl⟩<;>rfl,by rcases hw' with rfl|⟨M0,rfl⟩<;>rfl,fun q hq hm=>hoth q (by simpa using hm),fun _ _ h=>h,fun _ _ h=>.inl h,fun q o h=>by have:=hIw q o h;omega⟩,
    some ⟨b,0,none⟩,c,by rw[hres],by omega,.inr ⟨b,_,t,rfl,hheap,by simp[hMl,hLl],.inr (by simp),hbI,?_⟩⟩
   intro i' hi' j d hj;have:=a26 (L:=L) (vs:=us) (M:=M) (Q:=fun v d=>DR S w' I I v d) sgk (by omega)
    (fun i hi j d hj=>by
     obtain ⟨v,a,e⟩:=hel' i hi j d hj;exact ⟨v,a,a0a sgk e (q8 sgk hj) (fun q o h=>⟨by simp only[World.cell?];rw[hoth q (fun e=>by subst e;exact hbI o h)],h⟩)⟩)
    (fun j d hj=>by
     obtain ⟨v,a,e⟩:=hud j d hj;exact ⟨v,a,a0a sgk e (q8 sgk hj) (fun q o h=>⟨by simp only[World.cell?];rw[hoth q (fun e=>by subst e;exact hbI o h)],h⟩)⟩) m1 m2 m3 i' hi' j d hj
   simpa using this
  have newb:∀(M:List Value) (cap:Nat) (w':World),M.length=cap*S.sz k→w'.heap=w.heap.push (.cells M.toArray E)→w'.os=w.os→w'.output=w.output→w'.tape=w.tape→n+1≤cap→
   (∀p:Nat,p<i*S.sz k→M[p]?=L[p]?)→(∀j:Nat,j<S.sz k→M[i*S.sz k+j]?=us[j]?)→(∀p:Nat,i*S.sz k≤p→p<xs.length*S.sz k→M[p+S.sz k]?=L[p]?)→
   ∃I',GrowM [b] w w' I I'∧c1d S w' I' w.heap.size [b] k (xs.take i++y::xs.drop i) (.slice (some ⟨w.heap.size,0,none⟩) (n+1) cap):=by
   intro M cap w' hMl hheap h1 h2 h3 hcap m1 m2 m3;have hoth:∀q,q<w.heap.size→w'.heap[q]?=w.heap[q]?:=fun q hq=>by rw[hheap,ybi,yak (by omega)]
   refine ⟨I,⟨by rw[hheap];simp,h1,h2,h3,fun q hq _=>hoth q hq,fun _ _ h=>h,fun _ _ h=>.inl h,fun q o h=>by have:=hIw q o h;rw[hheap];simp;omega⟩,
    some ⟨w.heap.size,0,none⟩,cap,by rw[hres],by omega,.inr ⟨w.heap.size,_,E,rfl,by rw[hheap];exact Array.getElem?_push_size,by simp[hMl],.inl (yam _),fun o h=>absurd (hIw _ _ h) (by omega),?_⟩⟩
   intro i' hi' j d hj;have:=a26 (L:=L) (vs:=us) (M:=M) (Q:=fun v d=>DR S w' I I v d) sgk (by omega)
    (fun i hi j d hj=>by
     obtain ⟨v,a,e⟩:=hel' i hi j d hj;exact ⟨v,a,a0a sgk e (q8 sgk hj) (fun q o h=>⟨by simp only[World.cell?];rw[hoth q (hIw q o h)],h⟩)⟩)
    (fun j d hj=>by
     obtain ⟨v,a,e⟩:=hud j d hj;exact ⟨v,a,a0a sgk e (q8 sgk hj) (fun q o h=>⟨by simp only[World.cell?];rw[hoth q (hIw q o h)],h⟩)⟩) m1 m2 m3 i' hi' j d hj
   simpa using this
  rw[←hn]at hi hlim hnc ⊢;by_cases hroom:n+1≤c
  ·have hn1c:(n+1)*S.sz k≤L.length:=by rw[hLl];exact yai _ hroom
   by_cases hlt:i<n
   ·refine (W.shift (vc:=vc) hlt hroom hlim hne hb hLl husl huc hone1 hu1c).mono (fun e w' he=>?_);obtain ⟨rfl,rfl⟩:=he;rw[←hC];have l1:(Go.splice L ((i+1)*S.sz k) C1).length=L.length:=length_splice _ _ _ (by omega);refine inpl _ _ ?_ (.inr ⟨_,rfl⟩) hroom ?_ ?_ ?_
    ·rw[length_splice _ _ _ (by omega),l1]
    ·intro p hp';rw[d8 (by omega),yak (by omega),d8 (by omega),yak (by omega)]
    ·intro j hj;rw[d8 (by omega),yar (by omega)];congr 1;omega
    ·intro p h1 h2;rw[←hn]at h2;rw[d8 (by omega),yak (by omega),d8 (by omega),yar (by omega),hC1g _ (by omega)];congr 1;omega
   ·have hie:i=n:=by omega
    subst hie;refine (W.room (vc:=vc) hroom hlim hb hLl husl huc hu1c).mono (fun e w' he=>?_);obtain ⟨rfl,rfl⟩:=he;refine inpl _ _ (length_splice _ _ _ (by omega)) (.inl rfl) hroom ?_ ?_ ?_
    ·intro p hp';rw[d8 (by omega),yak (by omega)]
    ·intro j hj;rw[d8 (by omega),yar (by omega)];congr 1;omega
    ·intro p h1 h2;rw[←hn]at h2;omega
  ·by_cases hlt:i<n
   ·refine (W.grow (vc:=vc) hlt hnc (by omega) hlim hne hb hLl husl huc hone1 hu1c).mono (fun e w' he=>?_);obtain ⟨cap,row,rfl,hcap,hrl,hrt,hheap,q1,q2,q3⟩:=he;rw[←hC]at hheap;have hrl':(n+1)*S.sz k≤row.length:=by rw[hrl];exact yai _ hcap
    have l1:(Go.splice row (i*S.sz k) us).length=row.length:=length_splice _ _ _ (by omega);refine newb _ cap w' ?_ hheap q1 q2 q3 hcap ?_ ?_ ?_
    ·rw[length_splice _ _ _ (by omega),l1,hrl]
    ·intro p hp';rw[d8 (by omega),yak (by omega),d8 (by omega),yak (by omega)];have e1:(row.take (i*S.sz k))[p]?=row[p]?:=by rw[yao,yar hp']
     have e2:(L.take (i*S.sz k))[p]?=L[p]?:=by rw[yao,yar hp']
     rw[←e1,hrt,e2]
    ·intro j hj;rw[d8 (by omega),yak (by omega),d8 (by omega),yar (by omega)];congr 1;omega
    ·intro p h1 h2;rw[←hn]at h2;rw[d8 (by omega),yar (by omega),hC1g _ (by omega)];congr 1;omega
   ·have hie:i=n:=by omega
    subst hie;refine (W.new (base:=some ⟨b,0,none⟩) (vc:=vc) (olds:=L.take (i*S.sz k)) hnc (by omega) hlim husl (fun h=>by cases h) (by simp;omega) (fun a ha j v hj=>?_) huc).mono (fun e w' he=>?_)
    ·cases ha
     rw[yao]at hj;split at hj
     ·rw[g8,yaD];simp only[World.cell?,hb];simpa using hj
     ·cases hj
    ·obtain ⟨cap,zs,rfl,rfl,hcap,hzl⟩:=he;obtain ⟨q,rfl⟩:∃q,cap=q+(i+1):=⟨cap-(i+1),by omega⟩
     rw[Nat.add_sub_cancel]at hzl;have hTl:(L.take (i*S.sz k)).length=i*S.sz k:=by simp;omega
     refine newb _ (q+(i+1)) _ ?_ rfl rfl rfl rfl hcap ?_ ?_ ?_
     ·simp only[yaI,hTl,husl,hzl];rw[yaB,hi1];omega
     ·intro p hp';rw[yan (by omega),yao,yar hp']
     ·intro j hj;rw[yat (by omega),yan (by omega)];congr 1;omega
     ·intro p h1 h2;rw[←hn]at h2;omega
theorem a4y (sgk:SgOk S) {f E:Nat} {fn:Func} {code:Code} (fok:FnOk P f fn code) (hmd:S.md f=.cons) {k:κ} (W:InsOk P f (S.sz k) E)
 {xs vs r:List (El k)} {i:Int} {ds:List (D κ El)} (hwl:WL ds [.lst k xs,.int .i64 i,.lst k vs]) (hr:a27 xs i vs=some r):Con P S f ds [] (.lst k r) []:=by
 unfold a27 at hr;split at hr
 ·rename_i y;rw[a7]at hr;split at hr
  ·rename_i h;simp only[yab,yae]at h;cases hr
   obtain ⟨n,rfl⟩:=Int.eq_ofNat_of_zero_le h.1.1;exact b6q sgk fok hmd W (i:=n) (by omega) h.2 hwl
  ·cases hr
 ·cases hr
end
end
section
section
variable {κ:Type} {El:κ→Type} {S:Sg κ El} {P:Program}
structure DelOk (P:Program) (f z:Nat):Prop where
 non:∀{w:World} {base:Option Addr} {n c i:Nat},n≤c→i≤n→Calls P f #[.slice base n c,.int .i64 i,.int .i64 i] w fun e w'=>e=.returned (.slice base n c)∧w'=w
 som:∀{w:World} {b n c i j:Nat} {L:List Value} {t:TypeId},i<j→j≤n→n≤c→w.heap[b]?=some (.cells L.toArray t (0,0))→L.length=c*z→(∀v∈(L.drop (j*z)).take ((n-j)*z),v.oneCell'=true)→
  Calls P f #[.slice (some ⟨b,0,none⟩) n c,.int .i64 i,.int .i64 j] w fun e w'=>
   e=.returned (.slice (some ⟨b,0,none⟩) (i+(n-j)) c)∧∃(M0:Array Value) (zs:List Value),zs.length=(j-i)*z∧w'=(w.drew.setRow b M0).setRow b (Go.splice (Go.splice L (i*z) ((L.drop (j*z)).take ((n-j)*z))) ((i+(n-j))*z) zs).toArray
theorem b6p (sgk:SgOk S) {f:Nat} {fn:Func} {code:Code} (fok:FnOk P f fn code) (hmd:S.md f=.cons) {k:κ} (W:DelOk P f (S.sz k))
 {xs:List (El k)} {i j:Nat} {ds:List (D κ El)} (hij:i≤j) (hj:j≤xs.length) (hwl:WL ds [.lst k xs,.int .i64 (i:Int),.int .i64 (j:Int)]) :
 Con P S f ds [] (.lst k (xs.take i++xs.drop j)) []:=by
 unfold Con;rw[hmd];intro _ k' xs' ds0 hds k2 xs2 hd w I J mb v0 vs hp ho ha;subst hds;cases hd
 have hw0:=hwl.2 0 _ _ rfl rfl;cases hw0 with
 |leaf _ _ hw0=>
 cases hw0
 have ha:=WL.args (cs':=[.int .i64 (i:Int),.int .i64 (j:Int)]) ⟨by simpa using hwl.1,fun q d d' h1 h2=>hwl.2 (q+1) d d' (by simpa using h1) (by simpa using h2)⟩ ha;obtain ⟨base,c,rfl,hnc,hz⟩:=ho;obtain ⟨hvs,hav⟩:=ha;obtain ⟨u1,u2,rfl⟩:∃u1 u2,vs = #[u1,u2]:=by
  simp at hvs;exact ⟨vs[0],vs[1],by
   apply Array.ext
   ·simp[hvs]
   ·intro j h1 h2;simp at h2;rcases (show j=0∨j=1 by omega) with rfl|rfl<;>rfl⟩
 have hu1:u1=.int .i64 i:=(hav 0 u1 _ rfl rfl).int_inv;have hu2:u2=.int .i64 j:=(hav 1 u2 _ rfl rfl).int_inv;subst hu1 hu2;obtain ⟨n,hn⟩:∃n,n=xs.length:=⟨_,rfl⟩
 have hpos:=sgk.pos k;have hIw:∀b o,I b o→b<w.heap.size:=hp.ib;have hres:(xs.take i++xs.drop j).length=i+(n-j):=by simp;omega
 unfold k7;rw[MuLone.run_callFunc_enter fok.at_ fok.name fok.body _ w];simp only;show Calls P f #[.slice base xs.length c,.int .i64 (i:Int),.int .i64 (j:Int)] w _
 by_cases heq:i=j
 ·subst heq;refine (W.non hnc hj).mono (fun e w' he=>?_);obtain ⟨rfl,rfl⟩:=he;have e:xs.take i++xs.drop i=xs:=by simp
  rw[e];refine ⟨I,⟨yam _,rfl,rfl,rfl,fun _ _ _=>rfl,fun _ _ h=>h,fun _ _ h=>.inl h,hIw⟩,base,c,rfl,hnc,?_⟩;rcases hz with ⟨h,_⟩|⟨b,vals,t,rfl,rfl,hb,hvsz,hel⟩
  ·exact .inl h
  ·have hbI:∀o,¬I b o:=fun o h=>(hp.jb b o (hp.ij b o h)).2 (by simp)
   refine .inr ⟨b,vals,t,rfl,hb,hvsz,.inr (by simp),hbI,fun q hq j d hj=>?_⟩;obtain ⟨v,a,e⟩:=hel q hq j d hj;exact ⟨v,a,a0a sgk e (q8 sgk hj) (fun _ _ h=>⟨rfl,h⟩)⟩
 ·have hlt:i<j:=by omega
  rcases hz with ⟨rfl,rfl⟩|⟨b,vals,t,rfl,rfl,hb,hvsz,hel⟩
  ·exfalso;omega
  ·have hbw:b<w.heap.size:=(yac.1 hb).1;have hbI:∀o,¬I b o:=fun o h=>(hp.jb b o (hp.ij b o h)).2 (by simp)
   obtain ⟨L,hL⟩:∃L,L=vals.toList:=⟨_,rfl⟩
   have hLa:vals=L.toArray:=by rw[hL]
   have hLl:L.length=c*S.sz k:=by rw[hL];simpa using hvsz
   rw[hLa]at hb;have hel':∀i (hi:i<xs.length) j d,(S.enc k xs[i])[j]?=some d→∃v,L[i*S.sz k+j]?=some v∧DR S w I J v d:=fun i hi j d hj=>by
    obtain ⟨v,a,e⟩:=hel i hi j d hj;exact ⟨v,by rw[hL];simpa using a,e⟩
   have hnL:n*S.sz k≤L.length:=by rw[hLl];exact yai _ (by omega)
   have hone:∀v∈L.take (n*S.sz k),v.oneCell'=true:=fun v hv=>by
    obtain ⟨p,hp'⟩:=ybc hv;have hlt:=(zL hp')
    simp only[yba]at hlt;have h1:p / S.sz k<n:=(ybb hpos).2 (by omega);have h2:=Nat.mod_lt p hpos;have h3:p % S.sz k<(S.enc k (xs[p / S.sz k]'(by omega))).length:=by rw[sgk.sz];exact h2
    obtain ⟨v',a,e⟩:=hel' (p / S.sz k) (by omega) _ _ (yaa h3);rw[Nat.div_add_mod']at a;rw[yao,yar (by omega),a]at hp';cases hp'
    exact b20 e (sgk.plain k _ _ (ybl h3))
   have hjn:j*S.sz k≤n*S.sz k:=yai _ (by omega);have hC1:(L.drop (j*S.sz k)).take ((n-j)*S.sz k)=(L.take (n*S.sz k)).drop (j*S.sz k):=by
    rw[List.drop_take];congr 1;rw[Nat.sub_mul]
   have hone1:∀v∈(L.drop (j*S.sz k)).take ((n-j)*S.sz k),v.oneCell'=true:=fun v hv=>hone v (by rw[hC1]at hv;exact List.mem_of_mem_drop hv)
   obtain ⟨C1,hC⟩:∃C1,C1=(L.drop (j*S.sz k)).take ((n-j)*S.sz k):=⟨_,rfl⟩
   have hC1l:C1.length=n*S.sz k-j*S.sz k:=by rw[hC,hC1];simp;omega
   have hC1g:∀q,q<n*S.sz k-j*S.sz k→C1[q]?=L[j*S.sz k+q]?:=fun q hq=>by rw[hC,hC1,ybo,yao,yar (by omega)]
   have hij':i*S.sz k≤j*S.sz k:=yai _ (by omega);have hm:(i+(n-j))*S.sz k=i*S.sz k+(n*S.sz k-j*S.sz k):=by rw[yaB,Nat.sub_mul]
   have hz2:(j-i)*S.sz k=j*S.sz k-i*S.sz k:=by rw[Nat.sub_mul]
   refine (W.som hlt hj hnc hb hLl (by rw[←hn];exact hone1)).mono (fun e w' he=>?_);obtain ⟨rfl,M0,zs,hzl,rfl⟩:=he;rw[←hn,←hC];have l1:(Go.splice L (i*S.sz k) C1).length=L.length:=length_splice _ _ _ (by omega);have l2:(Go.splice (Go.splice L (i*S.sz k) C1) ((i+(n-j))*S.sz k) zs).length=L.length:=by rw[length_splice _ _ _ (by omega),l1]
   generalize hM:Go.splice (Go.splice L (i*S.sz k) C1) ((i+(n-j))*S.sz k) zs=M at l2 ⊢;have hMg:∀p,p<(i+(n-j))*S.sz k→M[p]?=if p<i*S.sz k then L[p]? else L[p+(j*S.sz k-i*S.sz k)]?:=fun p hp=>by
    rw[←hM,d8 (by omega),yak (by omega),d8 (by omega)];by_cases h:p<i*S.sz k
    ·rw[yak (by omega),yar h]
    ·rw[yar (by omega),yak h,hC1g _ (by omega)];congr 1;omega
   have hheap:((w.drew.setRow b M0).setRow b M.toArray).heap[b]?=some (.cells M.toArray t (0,0)):=setRow_heap _ _ _ _ _ _ (setRow_heap w.drew _ _ _ _ _ hb);have hoth:∀q,q≠b→((w.drew.setRow b M0).setRow b M.toArray).heap[q]?=w.heap[q]?:=fun q hq=>by rw[setRow_other _ _ _ _ hq,setRow_other _ _ _ _ hq];rfl
   have hsz:((w.drew.setRow b M0).setRow b M.toArray).heap.size=w.heap.size:=by simp only[setRow_size];rfl
   refine ⟨I,⟨by omega,rfl,rfl,rfl,fun q hq hm=>hoth q (by simpa using hm),fun _ _ h=>h,fun _ _ h=>.inl h,fun q o h=>by have:=hIw q o h;omega⟩,
    some ⟨b,0,none⟩,c,by rw[hres],by omega,.inr ⟨b,_,t,rfl,hheap,by simp[l2,hLl],.inr (by simp),hbI,?_⟩⟩
   intro q hq s d hs;have hs':s<S.sz k:=by have:=(zL hs);rwa [sgk.sz]at this
   rw[hres]at hq;have hlt2:=o7 hs' hq;by_cases hqi:q<i
   ·have e:(xs.take i++xs.drop j)[q]'(by omega)=xs[q]'(by omega):=by rw[ya4 (by simp;omega)];simp
    rw[e]at hs;obtain ⟨v,a,e2⟩:=hel' q (by omega) s d hs;refine ⟨v,?_,a0a sgk e2 (q8 sgk hs) (fun q o h=>⟨by simp only[World.cell?];rw[hoth q (fun e=>by subst e;exact hbI o h)],h⟩)⟩;rw[←a,yaU,hMg _ hlt2,yar (o7 hs' hqi)]
   ·have e:(xs.take i++xs.drop j)[q]'(by omega)=xs[q+(j-i)]'(by omega):=by
     have hl:(xs.take i).length=i:=by simp;omega
     rw[ya3 (by omega)];simp only[hl,List.getElem_drop];congr 1;omega
    rw[e]at hs;obtain ⟨v,a,e2⟩:=hel' (q+(j-i)) (by omega) s d hs;refine ⟨v,?_,a0a sgk e2 (q8 sgk hs) (fun q o h=>⟨by simp only[World.cell?];rw[hoth q (fun e=>by subst e;exact hbI o h)],h⟩)⟩;have hqz:i*S.sz k≤q*S.sz k:=yai _ (by omega);rw[←a,yaU,hMg _ hlt2,yak (by omega)];congr 1;rw[yaB,hz2];omega
theorem b37 (sgk:SgOk S) {f:Nat} {fn:Func} {code:Code} (fok:FnOk P f fn code) (hmd:S.md f=.cons) {k:κ} (W:DelOk P f (S.sz k))
 {xs r:List (El k)} {i j:Int} {ds:List (D κ El)} (hwl:WL ds [.lst k xs,.int .i64 i,.int .i64 j]) (hr:a7p xs i j=some r):Con P S f ds [] (.lst k r) []:=by
 unfold a7p at hr;rw[a7]at hr;split at hr
 ·rename_i h;simp only[yab,yae]at h;cases hr
  obtain ⟨n,rfl⟩:=Int.eq_ofNat_of_zero_le h.1.1.1;obtain ⟨m,rfl⟩:=Int.eq_ofNat_of_zero_le (Int.le_trans h.1.1.1 h.1.1.2);exact b6p sgk fok hmd W (i:=n) (j:=m) (by omega) (by omega) hwl
 ·cases hr
end
end
section
def b1f (c:Nat):Bool:=decide (c<32)||(decide (127≤c)&&decide (c≤159))||decide (65535<c)
theorem a0k {c:Nat}:b1f c=true↔c<32∨(127≤c∧c≤159)∨65535<c:=by
 unfold b1f;simp only[ya8,yab,yae];omega
set_option maxHeartbeats 2000000 in
theorem a4e {l:List UInt8} (hl:l≠[]):dcd l=if ((Lib.decodeL l).1=65533∧(Lib.decodeL l).2=1)∨b1f (Lib.decodeL l).1=true then (0,0) else Lib.decodeL l:=by
 cases l with
 |nil=>exact absurd rfl hl
 |cons a r=>
  rw[Lib.decodeL_N];have ha:=a.toNat_lt;simp only[a0k];rcases r with _|⟨b,_|⟨c,_|⟨d,r⟩⟩⟩
  ·simp only[List.getD_cons_zero,List.getD_cons_succ,List.getD_nil,yaw,yaE];obtain ⟨X,hX⟩:∃X,Lib.decodeN (0+1) a.toNat (0:UInt8).toNat (0:UInt8).toNat (0:UInt8).toNat=X:=⟨_,rfl⟩
   rw[hX];unfold Lib.decodeN at hX;unfold dcd;dsimp only;split at hX
   ·subst hX
    repeat' split
    all_goals first|with_reducible rfl|(exfalso;omega)
   ·rw[yak (by omega),yak (by omega),yak (by omega)]at hX;subst hX
    repeat' split
    all_goals first|with_reducible rfl|(exfalso;omega)
  ·simp only[List.getD_cons_zero,List.getD_cons_succ,List.getD_nil,yaw,yaE];have hb:=b.toNat_lt;obtain ⟨X,hX⟩:∃X,Lib.decodeN (0+1+1) a.toNat b.toNat (0:UInt8).toNat (0:UInt8).toNat=X:=⟨_,rfl⟩
   rw[hX];unfold Lib.decodeN at hX;unfold dcd;dsimp only
   repeat' split at hX
   all_goals subst hX
   all_goals dsimp only
   all_goals repeat' split
   all_goals first|with_reducible rfl|(exfalso;omega)|(simp only[yaR,and_true];omega)
  ·simp only[List.getD_cons_zero,List.getD_cons_succ,List.getD_nil,yaw,yaE];have hb:=b.toNat_lt;have hc:=c.toNat_lt;obtain ⟨X,hX⟩:∃X,Lib.decodeN (0+1+1+1) a.toNat b.toNat c.toNat (0:UInt8).toNat=X:=⟨_,rfl⟩
   rw[hX];unfold Lib.decodeN at hX;unfold dcd;dsimp only
   repeat' split at hX
   all_goals subst hX
   all_goals dsimp only
   all_goals repeat' split
   all_goals first|with_reducible rfl|(exfalso;omega)|(simp only[yaR,and_true];omega)
  ·simp only[List.getD_cons_zero,List.getD_cons_succ,List.getD_nil,yaw,yaE];have hb:=b.toNat_lt;have hc:=c.toNat_lt;have hd:=d.toNat_lt;obtain ⟨X,hX⟩:∃X,Lib.decodeN (r.length+1+1+1+1) a.toNat b.toNat c.toNat d.toNat=X:=⟨_,rfl⟩
   rw[hX];unfold Lib.decodeN at hX;unfold dcd;dsimp only
   repeat' split at hX
   all_goals subst hX
   all_goals dsimp only
   all_goals repeat' split
   all_goals first|with_reducible rfl|(exfalso;omega)|(simp only[yaR,and_true];omega)
def okN:Nat→List UInt8→Bool
 |0,_=>true
 |n+1,l=>if l=[] then true else if b1f (Lib.decodeL l).1 then false else okN n (l.drop (Lib.decodeL l).2)
theorem x8 {l:List UInt8} (hl:l≠[]):1≤(Lib.decodeL l).2∧(Lib.decodeL l).2≤l.length:=by
 cases l with
 |nil=>exact absurd rfl hl
 |cons a r=>
  rw[Lib.decodeL_N];unfold Lib.decodeN;have:1≤(a::r).length:=by simp
  repeat' split
  all_goals simp only
  all_goals omega
theorem b78:∀(n:Nat) (l:List UInt8),b8i n l=(Lib.validGoD n l&&okN n l):=by
 intro n
 induction n with
 |zero=>intro l;rfl
 |succ n ih=>
  intro l;simp only[b8i,Lib.validGoD,okN];by_cases hl:l=[]
  ·simp[hl]
  ·simp only[hl,ybd];rw[a4e hl];by_cases h1:(Lib.decodeL l).1=65533∧(Lib.decodeL l).2=1
   ·simp[h1]
   ·by_cases h2:b1f (Lib.decodeL l).1=true
    ·simp[h2]
    ·have:=x8 hl;have hne:¬(((Lib.decodeL l).1=65533∧(Lib.decodeL l).2=1)∨b1f (Lib.decodeL l).1=true):=fun h=>h.elim h1 h2
     rw[yak hne,yak (show ¬(Lib.decodeL l).2=0 by omega),yak h1,yak h2];exact ih _
theorem b41:∀(n m:Nat) (l:List UInt8),l.length≤n→l.length≤m→okN n l=okN m l:=by
 intro n
 induction n with
 |zero=>intro m l h1 h2;have:l=[]:=yaV.1 (by omega);subst this;cases m<;>simp[okN]
 |succ n ih=>
  intro m l h1 h2;by_cases hl:l=[]
  ·subst hl;cases m<;>simp[okN]
  ·have hp:=x8 hl;have:0<l.length:=List.length_pos_iff.2 hl;obtain ⟨m,rfl⟩:∃k,m=k+1:=⟨m-1,by omega⟩
   simp only[okN,hl,ybd];split
   ·rfl
   ·exact ih m _ (by rw[yaY];omega) (by rw[yaY];omega)
theorem b2f (xs:List (List UInt8)) (y sep:List UInt8):Lib.join (xs++[y]) sep=if xs=[] then y else Lib.join xs sep++(sep++y):=by
 cases xs with
 |nil=>simp[Lib.join_one]
 |cons x xs=>
  rw[List.cons_append,Lib.join_cons,Lib.join_cons];simp[Lib.joinTail]
def pcs (l:List UInt8) (acc:List (Nat×Nat)):List (List UInt8):=acc.map fun x=>(l.take x.2).drop x.1
def J (l:List UInt8) (acc:List (Nat×Nat)):List UInt8:=Lib.join (pcs l acc) [32]
theorem b8l (l:List UInt8):J l []=[]:=rfl
theorem b02 (l:List UInt8) (acc:List (Nat×Nat)) (a b:Nat):J l (acc++[(a,b)])=if acc=[] then (l.take b).drop a else J l acc++([32]++(l.take b).drop a):=by
 unfold J pcs;rw[List.map_append,List.map_singleton,b2f];simp only[List.map_eq_nil_iff]
theorem c2f {l:List UInt8}:∀{acc:List (Nat×Nat)},(∀x∈acc,x.1<x.2∧x.2≤l.length)→acc≠[]→J l acc≠[]:=by
 intro acc h hne;obtain ⟨x,r,rfl⟩:=List.exists_cons_of_ne_nil hne;have hx:=h x (by simp);unfold J pcs;rw[yaS,Lib.join_cons];intro e;have:=congrArg List.length e;simp only[yaI,yaY,yba,yaE]at this;omega
theorem b1u {s:ByteArray} {l:List UInt8} (hl:s.data.toList=l) (p:Nat→Bool) (hp:∀c,p c=blk c):∀(f pos:Nat) (st:Option Nat) (acc:List (Nat×Nat)) (gap:Bool),
 s.size≤pos+f→pos≤s.size→b8i f (l.drop pos)=true→(∀a,st=some a→a<pos∧gap=false)→(st=none→gap=true∨acc=[])→(∀x∈acc,x.1<x.2∧x.2≤l.length)→
 J l (Lib.closeSpans s (Lib.spansFromP p s f pos st acc))=b1t f (l.drop pos) (match st with|some a=>J l (acc++[(a,pos)])|none=>J l acc) gap:=by
 have hsz:s.size=l.length:=by rw[Lib.size_eq,hl]
 intro f
 induction f with
 |zero=>
  intro pos st acc gap h1 h2 hv hs hn hacc;have:pos=s.size:=by omega
  subst this;simp only[Lib.spansFromP,b1t];cases st with
  |none=>rfl
  |some a=>rfl
 |succ f ih=>
  intro pos st acc gap h1 h2 hv hs hn hacc;by_cases hlt:pos<s.size
  ·have hne:l.drop pos≠[]:=by simp;omega
   have hdec:Lib.decodeL (l.drop pos)=Utf8.decode s pos:=by rw[←hl];exact Lib.decodeL_drop s pos
   have hpos:=x8 hne;rw[yaY]at hpos;have hv2:=hv;simp only[b8i,hne,ybd]at hv2;have hd:=a4e hne;split at hd
   ·rw[hd]at hv2;simp at hv2
   ·rename_i hnb;have hz:¬(dcd (l.drop pos)).2=0:=by rw[hd];omega
    rw[yak hz,List.drop_drop,hd,hdec]at hv2;have hw:wid (l.drop pos)=(Utf8.decode s pos).2:=by unfold wid;rw[hd,hdec,yak (by rw[←hdec];omega)]
    rw[hdec]at hpos;obtain ⟨k,hk⟩:∃k,(Utf8.decode s pos).2=k:=⟨_,rfl⟩
    rw[b1t,yak hne,List.drop_drop,hw,hd,hdec];simp only[Lib.spansFromP,hlt,if_true,hp];rw[hk]at hpos hv2 ⊢;have htk:∀a,a≤pos→(l.take pos).drop a++(l.drop pos).take k=(l.take (pos+k)).drop a:=by
     intro a ha;rw[List.take_add,List.drop_append_of_le_length (by simp;omega)]
    cases hb:blk (Utf8.decode s pos).1 with
    |true=>
     simp only[if_true];cases st with
     |none=>exact ih (pos+k) none acc true (by omega) (by omega) hv2 (fun a h=>by cases h) (fun _=>.inl rfl) hacc
     |some a=>
      have:=(hs a rfl).1;exact ih (pos+k) none (acc++[(a,pos)]) true (by omega) (by omega) hv2 (fun a h=>by cases h) (fun _=>.inl rfl) (fun x hx=>by
       rcases yaG.1 hx with h|h
       ·exact hacc x h
       ·simp only[ya5]at h;subst h;exact ⟨this,by simp only;omega⟩)
    |false=>
     simp only[yaT,ybd];cases st with
     |some a=>
      obtain ⟨ha,hg⟩:=hs a rfl;subst hg;rw[ih (pos+k) (some a) acc false (by omega) (by omega) hv2 (fun b h=>by cases h;exact ⟨by omega,rfl⟩) (fun h=>by cases h) hacc];simp only[Bool.false_and,yaT,ybd];congr 1;rw[b02,b02];split
      ·exact (htk a (by omega)).symm
      ·rw[←htk a (by omega)];simp
     |none=>
      rw[ih (pos+k) (some pos) acc false (by omega) (by omega) hv2 (fun b h=>by cases h;exact ⟨by omega,rfl⟩) (fun h=>by cases h) hacc];congr 1;dsimp only;rw[b02];have e:=htk pos (yam _);rw[@List.drop_eq_nil_of_le _ (l.take pos) _ (by simp;omega),List.nil_append]at e;rcases hn rfl with hg|hacc0
      ·subst hg;by_cases h0:acc=[]
       ·subst h0;simp[b8l,e]
       ·have:=c2f hacc h0;have hb2:(J l acc==[])=false:=by simpa using this
        simp[h0,hb2,e]
      ·subst hacc0;simp[b8l,e]
  ·have:pos=s.size:=by omega
   subst this;have hnil:l.drop s.size=[]:=by rw[hsz];simp
   rw[Lib.spansFromP_end _ _ _ _ _ _ hlt,b1t,yar hnil];cases st with
   |none=>rfl
   |some a=>rfl
theorem a9v {s:ByteArray} {p:Nat→Bool} (hp:∀c,p c=blk c) (hv:vld s.data.toList=true):Lib.join ((Lib.goFieldsP p s).map (·.data.toList)) [32]=cln s.data.toList:=by
 have h:=b1u (s:=s) rfl p hp s.size 0 none [] false (by omega) (by omega) (by rw[List.drop_zero,Lib.size_eq];exact hv) (fun a h=>by cases h) (fun _=>.inr rfl) (fun x h=>by cases h);rw[List.drop_zero]at h;have hc:cln s.data.toList=b1t s.size s.data.toList [] false:=by unfold cln;rw[Lib.size_eq]
 rw[hc];refine Eq.trans ?_ h;unfold J pcs Lib.goFieldsP Lib.spansOfP;rw[List.map_map];congr 1;refine List.map_congr_left (fun x _=>?_);show (s.extract x.1 x.2).data.toList=(s.data.toList.take x.2).drop x.1
 rw[Lib.extract_data,List.drop_take]
theorem b3b (p:Nat→Bool) (s:ByteArray):∀(f pos:Nat) (st:Option Nat) (acc:List (Nat×Nat)),(Lib.spansFromP p s f pos st acc).1.length≤acc.length+f:=by
 intro f
 induction f with
 |zero=>intro pos st acc;exact yam _
 |succ f ih=>
  intro pos st acc;unfold Lib.spansFromP;split
  ·split
   ·cases st with
    |none=>exact yaN (ih _ _ _) (by omega)
    |some a=>exact yaN (ih _ _ _) (by simp;omega)
   ·cases st with
    |none=>exact yaN (ih _ _ _) (by omega)
    |some a=>exact yaN (ih _ _ _) (by omega)
  ·simp
theorem a91 (p:Nat→Bool) (s:ByteArray):(Lib.goFieldsP p s).length≤s.size+1:=by
 have:=b3b p s s.size 0 none [];unfold Lib.goFieldsP Lib.spansOfP Lib.closeSpans;rw[List.length_map];split
 ·rw[yaI];simp at this ⊢;omega
 ·simp at this;omega
theorem b36:∀(n:Nat) (l out:List UInt8) (gap:Bool),(b1t n l out gap).length≤out.length+2*l.length:=by
 intro n
 induction n with
 |zero=>intro l out gap;simp[b1t]
 |succ n ih=>
  intro l out gap;rw[b1t];split
  ·omega
  ·have hw:1≤wid l:=by unfold wid;split<;>omega
   have hl:0<l.length:=List.length_pos_iff.2 (by assumption);split
   ·have:=ih (l.drop (wid l)) out true;rw[yaY]at this;omega
   ·have:=ih (l.drop (wid l)) ((if gap&&!(out==[]) then out++[32] else out)++l.take (wid l)) false;rw[yaY]at this;have h2:(if gap&&!(out==[]) then out++[32] else out).length≤out.length+1:=by split<;>simp
    simp only[yaI,yba]at this;omega
theorem b6o (s:ByteArray):(cln s.data.toList).length≤2*s.size:=by
 have:=b36 s.data.toList.length s.data.toList [] false;rw[Lib.size_eq];simpa[cln]using this
end
end Go.Proofs.YteaknldbhmocpaaGreatDoor.Ev
namespace Go.Proofs
open Go.Shelf
def Tryz.laysValid_ren:Go.Shelf.Ren:=⟨fun|196=>231|259=>280|n=>n,fun|9=>9|4=>4|3=>3|5=>5|12=>12|119=>257|0=>0|46=>110|139=>260|138=>259|53=>166|n=>n,fun|3=>1|4=>2|n=>n⟩
theorem Tryz.laysValid:Go.Proofs.Lays.n196 Tryz.prog Tryz.laysValid_ren:={
 mixed:=by kernel_rfl
 f196:=Tryz.func231.trans (congrArg some (by kernel_rfl))
 f259:=Tryz.func280.trans (congrArg some (by kernel_rfl))
 t0:=Tryz.underlying0
 a0:=Tryz.isAgg0
 z0:=Tryz.sizeOf0
 v0:=Tryz.zeroValue0
 t3:=Tryz.underlying3
 a3:=Tryz.isAgg3
 z3:=Tryz.sizeOf3
 v3:=Tryz.zeroValue3
 t4:=Tryz.underlying4
 a4:=Tryz.isAgg4
 z4:=Tryz.sizeOf4
 v4:=Tryz.zeroValue4
 t5:=Tryz.underlying5
 a5:=Tryz.isAgg5
 z5:=Tryz.sizeOf5
 v5:=Tryz.zeroValue5
 t9:=Tryz.underlying9
 a9:=Tryz.isAgg9
 z9:=Tryz.sizeOf9
 v9:=Tryz.zeroValue9
 t12:=Tryz.underlying12
 a12:=Tryz.isAgg12
 z12:=Tryz.sizeOf12
 v12:=Tryz.zeroValue12
 t46:=Tryz.underlying110
 a46:=Tryz.isAgg110
 z46:=Tryz.sizeOf110
 v46:=Tryz.zeroValue110
 t53:=Tryz.underlying166
 a53:=Tryz.isAgg166
 z53:=Tryz.sizeOf166
 v53:=Tryz.zeroValue166
 t119:=Tryz.underlying257
 a119:=Tryz.isAgg257
 z119:=Tryz.sizeOf257
 t138:=Tryz.underlying259
 a138:=Tryz.isAgg259
 z138:=Tryz.sizeOf259
 v138:=Tryz.zeroValue259
 t139:=Tryz.underlying260
 a139:=Tryz.isAgg260
 z139:=Tryz.sizeOf260
 v139:=Tryz.zeroValue260
 g3:=by kernel_rfl
 g4:=by kernel_rfl}
def Tryz.lays156_ren:Go.Shelf.Ren:=⟨fun|156=>281|165=>302|166=>303|169=>304|240=>318|241=>319|276=>327|277=>328|n=>n,fun|31=>46|9=>9|3=>3|4=>4|0=>0|20=>20|72=>279|76=>282|70=>277|37=>226|75=>281|127=>298|164=>302|5=>5|80=>284|n=>n,fun|n=>n⟩
theorem Tryz.lays156:Go.Proofs.Lays.n156 Tryz.prog Tryz.lays156_ren:={
 mixed:=by kernel_rfl
 f156:=Tryz.func281.trans (congrArg some (by kernel_rfl))
 f165:=Tryz.func302.trans (congrArg some (by kernel_rfl))
 f166:=Tryz.func303.trans (congrArg some (by kernel_rfl))
 f169:=Tryz.func304.trans (congrArg some (by kernel_rfl))
 f240:=Tryz.func318.trans (congrArg some (by kernel_rfl))
 f241:=Tryz.func319.trans (congrArg some (by kernel_rfl))
 f276:=Tryz.func327.trans (congrArg some (by kernel_rfl))
 f277:=Tryz.func328.trans (congrArg some (by kernel_rfl))
 t0:=Tryz.underlying0
 a0:=Tryz.isAgg0
 z0:=Tryz.sizeOf0
 v0:=Tryz.zeroValue0
 t3:=Tryz.underlying3
 a3:=Tryz.isAgg3
 z3:=Tryz.sizeOf3
 v3:=Tryz.zeroValue3
 t4:=Tryz.underlying4
 a4:=Tryz.isAgg4
 z4:=Tryz.sizeOf4
 v4:=Tryz.zeroValue4
 t9:=Tryz.underlying9
 a9:=Tryz.isAgg9
 z9:=Tryz.sizeOf9
 v9:=Tryz.zeroValue9
 t20:=Tryz.underlying20
 a20:=Tryz.isAgg20
 z20:=Tryz.sizeOf20
 v20:=Tryz.zeroValue20
 t31:=Tryz.underlying46
 a31:=Tryz.isAgg46
 z31:=Tryz.sizeOf46
 v31:=Tryz.zeroValue46
 t37:=Tryz.underlying226
 a37:=Tryz.isAgg226
 z37:=Tryz.sizeOf226
 v37:=Tryz.zeroValue226
 t70:=Tryz.underlying277
 a70:=Tryz.isAgg277
 z70:=Tryz.sizeOf277
 v70:=Tryz.zeroValue277
 t72:=Tryz.underlying279
 a72:=Tryz.isAgg279
 z72:=Tryz.sizeOf279
 v72:=Tryz.zeroValue279
 t75:=Tryz.underlying281
 a75:=Tryz.isAgg281
 z75:=Tryz.sizeOf281
 v75:=Tryz.zeroValue281
 t76:=Tryz.underlying282
 a76:=Tryz.isAgg282
 z76:=Tryz.sizeOf282
 v76:=Tryz.zeroValue282
 t127:=Tryz.underlying298
 a127:=Tryz.isAgg298
 z127:=Tryz.sizeOf298
 v127:=Tryz.zeroValue298
 t164:=Tryz.underlying302
 a164:=Tryz.isAgg302
 z164:=Tryz.sizeOf302
 v164:=Tryz.zeroValue302}
theorem Tryz.Builder_Extra_156:Builder.Extra Tryz.prog Tryz.lays156_ren:={
 sizeBuilder:=by kernel_rfl
 liesBuilder:=by kernel_rfl
 t5:=Tryz.underlying5
 a5:=Tryz.isAgg5
 z5:=Tryz.sizeOf5
 v5:=Tryz.zeroValue5
 infoByte:=by kernel_rfl
 cellsByte:=by kernel_rfl
 sizeByte:=by kernel_rfl
 neB5:=by decide}
open Go.RowKit in
theorem Tryz.strings_Join (bk o c:Nat) (xs:List ByteArray) (sep:ByteArray) (w:World) (hcells:∀(j:Nat) x,xs[j]?=some x→w.cell? ⟨bk,o+j,none⟩=some (.string x)) (hbk:bk<w.heap.size) (hN:xs.length≤140737488355328) (hcap:xs.length≤c) (hlen:(Lib.join (xs.map (·.data.toList)) sep.data.toList).length≤140737488355328) :
 Calls Tryz.prog 281 #[.slice (some ⟨bk,o,none⟩) xs.length c,.string sep] w fun e w'=>e=.returned (.string ⟨(Lib.join (xs.map (·.data.toList)) sep.data.toList).toArray⟩)∧Below w.heap.size w w':=Any.strings_Join Tryz.lays156 Tryz.Builder_Extra_156 bk o c xs sep w hcells hbk hN hcap hlen
def Tryz.lays229_ren:Go.Shelf.Ren:=⟨fun|229=>282|n=>n,fun|9=>9|40=>265|31=>46|152=>285|3=>3|0=>0|4=>4|21=>21|154=>287|n=>n,fun|n=>n⟩
theorem Tryz.lays229:Go.Proofs.Lays.n229 Tryz.prog Tryz.lays229_ren:={
 mixed:=by kernel_rfl
 f229:=Tryz.func282.trans (congrArg some (by kernel_rfl))
 t0:=Tryz.underlying0
 a0:=Tryz.isAgg0
 z0:=Tryz.sizeOf0
 v0:=Tryz.zeroValue0
 t3:=Tryz.underlying3
 a3:=Tryz.isAgg3
 z3:=Tryz.sizeOf3
 v3:=Tryz.zeroValue3
 t4:=Tryz.underlying4
 a4:=Tryz.isAgg4
 z4:=Tryz.sizeOf4
 v4:=Tryz.zeroValue4
 t9:=Tryz.underlying9
 a9:=Tryz.isAgg9
 z9:=Tryz.sizeOf9
 v9:=Tryz.zeroValue9
 t21:=Tryz.underlying21
 a21:=Tryz.isAgg21
 z21:=Tryz.sizeOf21
 v21:=Tryz.zeroValue21
 t31:=Tryz.underlying46
 a31:=Tryz.isAgg46
 z31:=Tryz.sizeOf46
 v31:=Tryz.zeroValue46
 t40:=Tryz.underlying265
 a40:=Tryz.isAgg265
 z40:=Tryz.sizeOf265
 v40:=Tryz.zeroValue265
 t152:=Tryz.underlying285
 a152:=Tryz.isAgg285
 z152:=Tryz.sizeOf285
 v152:=Tryz.zeroValue285
 t154:=Tryz.underlying287
 a154:=Tryz.isAgg287
 z154:=Tryz.sizeOf287
 v154:=Tryz.zeroValue287}
open Go.RowKit Go.Lib in
theorem Tryz.strings_FieldsFunc_runes (g:Nat) (lb:Array Value) (eg:∀args w,(callFunc g args).run Tryz.prog w=.ok (.enter g args) w) (p:Nat→Bool) (s:ByteArray) (w:World) (hs:s.size≤4294967296) (hp:PredAtRunes Tryz.prog g lb p w) :
 Calls Tryz.prog 282 #[.string s,.func (.func g) #[] lb] w fun e w'=>∃A,e=.returned (.slice (some ⟨A,0,none⟩) (Lib.goFieldsP p s).length (Lib.goFieldsP p s).length)∧w.heap.size≤A∧
  w'.ownsRow w.heap.size 9 1 (.slice (some ⟨A,0,none⟩) (Lib.goFieldsP p s).length (Lib.goFieldsP p s).length) (Lib.goFieldsP p s).length ((Lib.goFieldsP p s).map Value.string)∧Below w.heap.size w w':=Any.strings_FieldsFunc_runes Tryz.lays229 g lb eg p s w hs hp (by kernel_rfl) (by kernel_rfl)
open Go.RowKit in
theorem Tryz.strings_Join_none (a:Option Addr) (c:Nat) (sep:ByteArray) (w:World) :
 Calls Tryz.prog 281 #[.slice a 0 c,.string sep] w fun e w'=>e=.returned (.string ⟨#[]⟩)∧w'=w:=Any.strings_Join_none Tryz.lays156 Tryz.Builder_Extra_156 a c sep w
end Go.Proofs
namespace Go.Proofs.YteaknldbhmocpaaGreatDoor
open Go Ev
open Go.Lib Go.RowKit
theorem b26 {X:Ending} (b:Bool) {b':Bool} (h:X=.returned (.bool b)) (e:b=b'):X=.returned (.bool b'):=e▸h
set_option maxHeartbeats 4000000 in
set_option maxRecDepth 1000000 in
theorem b0x (s:ByteArray) (w:World) (hs:s.size≤1073741824) (hT:Lib.Utf8Tabs 1 2 w) :
 Calls Tryz.prog 159 #[.string s] w fun e w'=>e=.returned (.bool (vld s.data.toList))∧Below w.heap.size w w':=by
 have cV:Calls Tryz.prog 231 #[.string s] w _:=Any.utf8_ValidString Tryz.laysValid s w (by omega) hT;have hvl:vld s.data.toList=(Lib.validD s.data.toList&&okN s.size s.data.toList):=by rw[Lib.size_eq];exact b78 _ _
 rw[hvl];clear hvl;generalize Lib.validD s.data.toList=V at cV ⊢;cases V with
 |false=>
  rw[Bool.false_and]
  go_enter Tryz.func159,Tryz.ntmps159
  go_wp2_with (go_at_call 231;refine cV.mono ?_;rintro e w' ⟨rfl,hb⟩)
  go_ret
  exact ⟨rfl,hb⟩
 |true=>
  rw[Bool.true_and]
  go_enter Tryz.func159,Tryz.ntmps159
  go_wp2_with (go_at_call 231;refine cV.mono ?_;rintro e w' ⟨rfl,hb⟩)
  go_loopg [4] (s.size+1) (fun gk s4 wx=>∃pos:Nat,wx.heap[w'.heap.size]?=some (.stringIter s pos)∧Below w.heap.size w wx∧
   okN gk (s.data.toList.drop pos)=okN s.size s.data.toList∧s.size≤pos+gk∧pos≤s.size)
  case atStart=>
   refine ⟨0,World.iter_heap w' s 0,hb.alloc hb.size _,?_,by omega,by omega⟩;rw[List.drop_zero];exact b41 _ _ _ (by rw[←Lib.size_eq];omega) (by rw[←Lib.size_eq];omega)
  case round=>
   obtain ⟨pos,hit,hbw,hok,hfu,hps⟩:=hrel;have hdec:Lib.decodeL (s.data.toList.drop pos)=Utf8.decode s pos:=Lib.decodeL_drop s pos;by_cases hlt:pos<s.size
   ·obtain ⟨g',rfl⟩:∃g',gk=g'+1:=⟨gk-1,by omega⟩
    have hnx:∀ty,(Instr.next (.pointer (some ⟨w'.heap.size,0,none⟩)) true ty).run Tryz.prog wr=_:=fun ty=>Lib.run_next_any_at wr w'.heap.size s pos ty hit hlt
    have hne:s.data.toList.drop pos≠[]:=by rw[Ne,List.drop_eq_nil_iff,←Lib.size_eq];omega
    have hwd:=x8 hne;rw[hdec,yaY,←Lib.size_eq]at hwd;simp only[okN,hne,ybd,hdec,List.drop_drop]at hok;obtain ⟨R,hR⟩:∃R,(Utf8.decode s pos).1=R:=⟨_,rfl⟩
    obtain ⟨K,hK⟩:∃K,(Utf8.decode s pos).2=K:=⟨_,rfl⟩
    rw[hR,hK]at hnx hok;rw[hK]at hwd;have hit2:=Lib.iterAt_heap wr w'.heap.size s pos (pos+K) hit;have hbw2:=Lib.below_iterAt hbw (k:=w'.heap.size) hb.size s (pos+K);by_cases h1:R<32
    ·have hz:(R:Int)<32:=by omega
     have hb1:b1f R=true:=a0k.2 (.inl h1);rw[yar hb1]at hok
     go_wp2
     go_ret
     first|exact ⟨rfl,hbw2⟩|exact ⟨b26 false rfl hok,hbw2⟩
    ·have hz:¬(R:Int)<32:=by omega
     by_cases h2:127≤R
     ·have hz2:(127:Int)≤(R:Int):=by omega
      by_cases h3:R≤159
      ·have hz3:(R:Int)≤159:=by omega
       have hb1:b1f R=true:=a0k.2 (.inr (.inl ⟨h2,h3⟩));rw[yar hb1]at hok
       go_wp2
       go_ret
       first|exact ⟨rfl,hbw2⟩|exact ⟨b26 false rfl hok,hbw2⟩
      ·have hz3:¬(R:Int)≤159:=by omega
       by_cases h4:65535<R
       ·have hz4:(65535:Int)<(R:Int):=by omega
        have hb1:b1f R=true:=a0k.2 (.inr (.inr h4));rw[yar hb1]at hok
        go_wp2
        go_ret
        first|exact ⟨rfl,hbw2⟩|exact ⟨b26 false rfl hok,hbw2⟩
       ·have hz4:¬(65535:Int)<(R:Int):=by omega
        have hb1:¬b1f R=true:=fun h=>by rw[a0k]at h;omega
        rw[yak hb1]at hok
        go_wp2
        go_roundg g'
        case measure=>omega
        case rel=>exact ⟨pos+K,hit2,hbw2,hok,by omega,by omega⟩
     ·have hz2:¬(127:Int)≤(R:Int):=by omega
      have hz4:¬(65535:Int)<(R:Int):=by omega
      have hb1:¬b1f R=true:=fun h=>by rw[a0k]at h;omega
      rw[yak hb1]at hok
      go_wp2
      go_roundg g'
      case measure=>omega
      case rel=>exact ⟨pos+K,hit2,hbw2,hok,by omega,by omega⟩
   ·have:pos=s.size:=by omega
    subst this;have hnx:∀ty,(Instr.next (.pointer (some ⟨w'.heap.size,0,none⟩)) true ty).run Tryz.prog wr=_:=fun ty=>Lib.run_next_end_at wr w'.heap.size s s.size ty hit hlt
    have hnil:s.data.toList.drop s.size=[]:=by rw[Lib.size_eq];simp
    have hok2:okN s.size s.data.toList=true:=by rw[←hok,hnil];cases gk<;>simp[okN]
    go_wp2
    go_ret
    first|exact ⟨rfl,hbw⟩|exact ⟨b26 true rfl hok2.symm,hbw⟩
set_option maxRecDepth 1000000 in
theorem a9o (R:Nat) (hR:R≤1114111) (w:World):Calls Tryz.prog 283 #[.int .i32 (R:Int)] w fun e w'=>e=.returned (.bool (blk R))∧∃q,w'=w.drewN q:=by
 by_cases h1:R=32
 ·subst h1
  go_enter Tryz.func283,Tryz.ntmps283
  go_wp2
  go_ret
  exact ⟨rfl,0,rfl⟩
 ·have z1:¬(R:Int)=32:=by omega
  by_cases h2:R=160
  ·subst h2
   go_enter Tryz.func283,Tryz.ntmps283
   go_wp2
   go_ret
   exact ⟨rfl,0,rfl⟩
  ·have z2:¬(R:Int)=160:=by omega
   have hb:blk R=false:=by unfold blk;simp[h1,h2]
   go_enter Tryz.func283,Tryz.ntmps283
   go_wp2
   go_ret
   exact ⟨b26 ((R:Int)==32||(R:Int)==160) rfl (by rw[hb,Bool.or_eq_false_iff];exact ⟨by simp;omega,by simp;omega⟩),0,rfl⟩
set_option maxHeartbeats 4000000 in
set_option maxRecDepth 1000000 in
theorem a9u (s:ByteArray) (w:World) (hs:s.size≤1073741824) (hv:vld s.data.toList=true) :
 Calls Tryz.prog 236 #[.string s] w fun e w'=>e=.returned (.string ⟨(cln s.data.toList).toArray⟩)∧Below w.heap.size w w':=by
 have eg:∀args w,(callFunc 283 args).run Tryz.prog w=.ok (.enter 283 args) w:=enters_of Tryz.func283 kr rfl;have hp:PredAtRunes Tryz.prog 283 #[] blk w:=fun W x hx hb=>by
  exact a9o x hx W
 have cF:=Tryz.strings_FieldsFunc_runes 283 #[] eg blk s w (by omega) hp;have hj:=a9v (s:=s) (p:=blk) (fun _=>rfl) hv;have hlen:(cln s.data.toList).length≤2*s.size:=b6o s;obtain ⟨Fs,hFs⟩:∃Fs,Lib.goFieldsP blk s=Fs:=⟨_,rfl⟩
 have hfl:=a91 blk s;rw[hFs]at hj cF hfl;have cJ:∀A W,Below w.heap.size w W→W.ownsRow w.heap.size 9 1 (.slice (some ⟨A,0,none⟩) Fs.length Fs.length) Fs.length (Fs.map Value.string)→
  Calls Tryz.prog 281 #[.slice (some ⟨A,0,none⟩) Fs.length Fs.length,.string ⟨#[32]⟩] W fun e w'=>e=.returned (.string ⟨(cln s.data.toList).toArray⟩)∧Below w.heap.size w w':=by
  intro A W hb hrow;by_cases h0:Fs=[]
  ·subst h0;have:=Tryz.strings_Join_none (some ⟨A,0,none⟩) 0 ⟨#[32]⟩ W;refine this.mono ?_;rintro e w' ⟨rfl,rfl⟩;rw[←hj];exact ⟨rfl,hb⟩
  ·obtain ⟨-,h|⟨g,cap,cur,hv2,hbg,hh,hn,hmx,hcs,hct⟩⟩:=hrow
   ·exact absurd (yaV.1 h.2) h0
   ·injection hv2 with e1 e2 e3;injection e1 with e1;injection e1 with e1;subst e1;have hj2:(Lib.join (Fs.map (·.data.toList)) (⟨#[32]⟩:ByteArray).data.toList)=cln s.data.toList:=hj;have:=Tryz.strings_Join A 0 Fs.length Fs ⟨#[32]⟩ W (fun j x hx=>by
     rw[ybt]at hct;have hj3:j<Fs.length:=(zL hx)
     have e4:cur.toList[j]?=some (Value.string x):=by
      rw[←List.getElem?_take_of_lt hj3,hct,yaM,hx];rfl
     rw[yal]at e4;rw[yaD];simp only[World.cell?,hh];exact e4) (yac.1 hh).1 (by omega) (yam _) (by rw[hj2];omega)
    refine this.mono ?_;rintro e w' ⟨rfl,hb2⟩;rw[hj2];exact ⟨rfl,hb.trans (hb2.mono hb.size)⟩
 clear hj hlen hFs hfl
 go_enter Tryz.func236,Tryz.ntmps236
 go_wp2_with (first|(go_at_call 282;refine cF.mono ?_;rintro e w' ⟨A,rfl,hA,hrow,hb⟩)|(go_at_call 281;refine (cJ A _ hb hrow).mono ?_;rintro e w'' ⟨rfl,hb2⟩))
 go_ret
 exact ⟨rfl,hb2⟩
end Go.Proofs.YteaknldbhmocpaaGreatDoor
namespace Go.Proofs
open Go.Shelf
def Tryz.laysNm220_ren:Go.Shelf.Ren:=⟨fun|20=>35|n=>n,fun|22=>28|3=>3|4=>4|0=>0|n=>n,fun|n=>n⟩
theorem Tryz.laysNm220:Go.Proofs.Lays2.n20 Tryz.prog Tryz.laysNm220_ren:={
 mixed:=by kernel_rfl
 f20:=Tryz.func35.trans (congrArg some (by kernel_rfl))
 t0:=Tryz.underlying0
 a0:=Tryz.isAgg0
 z0:=Tryz.sizeOf0
 v0:=Tryz.zeroValue0
 t3:=Tryz.underlying3
 a3:=Tryz.isAgg3
 z3:=Tryz.sizeOf3
 v3:=Tryz.zeroValue3
 t4:=Tryz.underlying4
 a4:=Tryz.isAgg4
 z4:=Tryz.sizeOf4
 v4:=Tryz.zeroValue4
 t22:=Tryz.underlying28
 a22:=Tryz.isAgg28
 z22:=Tryz.sizeOf28
 v22:=Tryz.zeroValue28
 i3:=by kernel_rfl}
end Go.Proofs
namespace Go.Proofs.YteaknldbhmocpaaGreatDoor
open Go Ev
section
open Go.Sort
set_option maxRecDepth 100000
theorem b28 {w:World} {I J:Nat→Nat→Prop} {xs:List Int} {blk:Nat} {vals:Array Value} {t:TypeId} (hb:w.heap[blk]?=some (.cells vals t (0,0)))
 (hc:∀i (hi:i<xs.length) j d,(sg.enc Kd.ki64 xs[i])[j]?=some d→∃v,vals[i*sg.sz Kd.ki64+j]?=some v∧DR sg w I J v d):∀i (hi:i<xs.length),vals[i]?=some (.int .i64 xs[i]):=by
 intro i hi;obtain ⟨v,h1,h2⟩:=hc i hi 0 (.int .i64 xs[i]) rfl;rw[h2.int_inv]at h1;have h1:vals[i*1+0]?=_:=h1;rw[ybt,yaO]at h1;exact h1
theorem b27 {w:World} {xs:List Int} {blk:Nat} {vals:Array Value} {t:TypeId} (hb:w.heap[blk]?=some (.cells vals t (0,0))) (hc:∀i (hi:i<xs.length),vals[i]?=some (.int .i64 xs[i])) :
 Holds (Value.int .i64) w blk 0 xs.toArray:=by
 intro j hj;have hj:j<xs.length:=by simpa using hj
 refine ⟨?_,?_⟩
 ·simp only[World.cell?,hb,yaD,hc j hj];simp[hj]
 ·simp[World.frozen?,hb]
theorem b7u {w:World} {I J:Nat→Nat→Prop} {ys:List Int} {blk q:Nat} {vals:Array Value} {t:TypeId} {os:Array Obj} (hp:Pre sg w I J [blk]) (hb:w.heap[blk]?=some (.cells vals t (0,0))) (hy:ys.length≤vals.size) :
 GrowM [blk] w (grow (putRow (Value.int .i64) (Sort.ahead w q) blk 0 ys.toArray) os) I I∧
 ∃vals',(grow (putRow (Value.int .i64) (Sort.ahead w q) blk 0 ys.toArray) os).heap[blk]?=some (.cells vals' t (0,0))∧vals'.size=vals.size∧∀i (hi:i<ys.length),vals'[i]?=some (.int .i64 ys[i]):=by
 have hlt:blk<w.heap.size:=(yac.1 hb).1;have hh:(grow (putRow (Value.int .i64) (Sort.ahead w q) blk 0 ys.toArray) os).heap=w.heap.modify blk (onCells (putCells (Value.int .i64) 0 ys.toArray))++os:=rfl;have hsz:(w.heap.modify blk (onCells (putCells (Value.int .i64) 0 ys.toArray))).size=w.heap.size:=by simp
 have hget:∀b,b<w.heap.size→(grow (putRow (Value.int .i64) (Sort.ahead w q) blk 0 ys.toArray) os).heap[b]?=if blk=b then (w.heap[b]?).map (onCells (putCells (Value.int .i64) 0 ys.toArray)) else w.heap[b]?:=by
  intro b hb;rw[hh,yaZ (by rw[hsz];exact hb),Array.getElem?_modify]
 refine ⟨⟨?_,rfl,rfl,rfl,fun b h1 h2=>?_,fun _ _ h=>h,fun _ _ h=>.inl h,fun b o h=>?_⟩,putCells (Value.int .i64) 0 ys.toArray vals,?_,?_,?_⟩
 ·rw[hh,Array.size_append,hsz];omega
 ·rw[hget b h1,yak (fun e=>h2 (by simp[e]))]
 ·have:=hp.ib b o h;rw[hh,Array.size_append,hsz];omega
 ·rw[hget blk hlt,yar rfl,hb];rfl
 ·simp[putCells]
 ·intro i hi;unfold putCells;rw[Array.getElem?_mapIdx,yaf (by omega)];simp[hi]
theorem b2c {mb:List Nat} {w:World} {I:Nat→Nat→Prop} (h:∀b o,I b o→b<w.heap.size):GrowM mb w w I I:=⟨yam _,rfl,rfl,rfl,fun _ _ _=>rfl,fun _ _ h=>h,fun _ _ h=>.inl h,h⟩
theorem b30 {w:World} {I J:Nat→Nat→Prop} {vs:Array Value} (h:a4p sg w I J vs []):vs = #[]:=by
 have h1:vs.size=0:=h.1;exact Array.eq_empty_of_size_eq_zero h1
theorem c1k:fnB Tryz.prog 35 Tryz.f35 [4,9]=true:=kr
theorem b86:∀ds a r,b3t.dec ds=some a→b9x a=some r→Con Tryz.prog sg 35 ds [] (b7r.enc r) []:=by
 intro ds a r hd hf;obtain ⟨code,fok,-,-⟩:=e7 Tryz.func35 c1k;have hac:c6 b3t:=c6.cons (b8.lst _) c6.nil;have hds:=hac ds a hd;have hmd:sg.md 35=.cons:=kr;unfold Con;rw[hmd];obtain ⟨zs,u⟩:=a;have hds:WL ds [.lst .ki64 zs]:=hds;have hf:(bif decide (zs.length≤LIM) then some (Go.Lib.compact zs) else none)=some r:=hf;intro _ k xs ds0 he k' xs' hr w I J mb v0 vs hp ho hargs;subst he;have hr:(D.lst Kd.ki64 r:DD)=D.lst k' xs':=hr;cases hr
 have hw0:=hds.2 0 _ _ rfl rfl;cases hw0 with
 |leaf _ _ hw0=>
 cases hw0
 have hargs:=WL.args (cs':=[]) ⟨by simpa using hds.1,fun q d d' h1 h2=>by simp at h2⟩ hargs;have:=b30 hargs;subst this;cases hlim:decide (zs.length≤LIM) with
 |false=>rw[hlim]at hf;cases hf
 |true=>
  rw[hlim]at hf;have hl:=ya7 hlim;unfold LIM at hl;have hf:some (Go.Lib.compact zs)=some r:=hf;cases hf
  have hlen:=Go.Lib.compact_length_le zs;unfold k7;rw[show (#[v0]++(#[]:Array Value)) = #[v0] from rfl,MuLone.run_callFunc_enter fok.at_ fok.name fok.body _ w];simp only;obtain ⟨base,cap,rfl,hcap,ho⟩:=ho;rcases ho with ⟨rfl,rfl⟩|⟨blk,vals,t,rfl,rfl,hb,hv,hc⟩
  ·have hz:zs=[]:=yaV.1 (by omega);subst hz;have h:=Any.slices_Compact_int_empty Tryz.laysNm220 base 0 w;refine h.mono (fun e w' he=>?_);obtain ⟨rfl,rfl⟩:=he;exact ⟨I,b2c hp.ib,base,0,rfl,by simp[Go.Lib.compact,Go.Lib.compactUpTo],.inl rfl⟩
  ·have hc2:=b28 hb hc;have hv:vals.size=cap*1:=hv;have h:=Any.slices_Compact_int Tryz.laysNm220 blk 0 cap zs w (b27 hb hc2) (by omega) hcap;refine h.mono (fun e w' he=>?_);obtain ⟨rfl,n,rfl⟩:=he;have e0:∀W:World,W=grow W #[]:=fun W=>by unfold grow;simp
   rw[e0 (putRow _ _ _ _ _)];obtain ⟨g,vals',h1,h2,h3⟩:=b7u (q:=n) (os:=#[]) (ys:=Go.Lib.compact zs++List.replicate (zs.length-(Go.Lib.compact zs).length) 0) hp hb (by simp;omega);refine ⟨I,g,some ⟨blk,0,none⟩,cap,rfl,by omega,.inr ⟨blk,vals',t,rfl,h1,by rw[h2];exact hv,.inr (by simp),fun o hI=>?_,?_⟩⟩
   ·exact absurd (by simp) (hp.jb blk o (hp.ij blk o hI)).2
   ·intro i hi j d hd;cases j with
    |zero=>
     have hd:some (D.int .i64 (Go.Lib.compact zs)[i]:DD)=some d:=hd;cases hd
     refine ⟨.int .i64 (Go.Lib.compact zs)[i],?_,.int _ _⟩;show vals'[i*1+0]?=_
     rw[ybt,yaO];have:=h3 i (by simp;omega);rw[ya4 hi]at this;exact this
    |succ j=>
     have hd:(none:Option DD)=some d:=hd;cases hd
end
section
theorem a1e:∃i0 z,Tryz.prog.info? 61=some i0∧i0.zero=some z∧z.cells.size=10∧i0.size=10∧i0.bytes≤128:=by
 have h:(match Tryz.prog.info? 61 with|some i=>(match i.zero with|some z=>Nat.beq z.cells.size 10&&Nat.beq i.size 10&&Nat.ble i.bytes 128|none=>false)|none=>false)=true:=kr;split at h
 ·rename_i i hi;split at h
  ·rename_i z hz;simp only[yab]at h;exact ⟨i,z,hi,hz,yaQ h.1.1,yaQ h.1.2,yax h.2⟩
  ·cases h
 ·cases h
set_option maxHeartbeats 4000000 in
set_option maxRecDepth 100000 in
theorem a3y {w:World} {b n c i vb vo vc:Nat} {L vs:List Value} {t:TypeId} (hi:i<n) (hroom:n+1≤c) (hlim:n+1≤1073741824) (hvb:vb≠b)
 (hb:w.heap[b]?=some (.cells L.toArray t (0,0))) (hL:L.length=c*10) (hvl:vs.length=10)
 (hvs:∀j v,vs[j]?=some v→w.cell? ⟨vb,vo+j,none⟩=some v) (h1:∀v∈(L.drop (i*10)).take ((n-i)*10),v.oneCell'=true) (h2:∀v∈vs,v.oneCell'=true) :
 Calls Tryz.prog 121 #[.slice (some ⟨b,0,none⟩) n c,.int .i64 i,.slice (some ⟨vb,vo,none⟩) 1 vc] w fun e w'=>
  e=.returned (.slice (some ⟨b,0,none⟩) (n+1) c)∧w'=(w.drew.setRow b (Go.splice L ((i+1)*10) ((L.drop (i*10)).take ((n-i)*10))).toArray).setRow b (Go.splice (Go.splice L ((i+1)*10) ((L.drop (i*10)).take ((n-i)*10))) (i*10) vs).toArray:=by
 obtain ⟨i0,z0,hi0,hz0,hzs,hsz,hby⟩:=a1e;have hz2:¬((i:Int)=(n:Int)):=by omega
 have hva:∃va ta fa,w.heap[vb]?=some (.cells va ta fa)∧0<va.size:=by
  have h:=hvs 0 _ (yaa (by omega));unfold World.cell? at h;split at h
  ·rename_i c0 t0 f0 hc0;exact ⟨c0,t0,f0,hc0,by have:=(yac.1 h).1;omega⟩
  ·cases h
 obtain ⟨va,ta,fa,hva,hva0⟩:=hva;have hov:∀lb cb,(callFunc 188 #[.slice (some ⟨vb,vo,none⟩) 1 vc,.slice (some ⟨b,(i+1)*10,none⟩) lb cb]).run Tryz.prog w=.ok (.value (.bool false)) w:=fun lb cb=>by
  rw[run_callFunc_extern Tryz.func188 kr kr kr (e:=Extern.SlicesOverlaps.overlaps #[22,22] #[4]) kr,
   s5 Tryz.underlying22 hi0 (a:=⟨vb,vo,none⟩) (b:=⟨b,(i+1)*10,none⟩) hvb hva hva0 hb (by simp only[ya2];omega)]
  rfl
 have hLn:(n+1)*10≤L.length:=by rw[hL];exact yai _ hroom
 obtain ⟨C1,hC1⟩:∃C1,C1=(L.drop (i*10)).take ((n-i)*10):=⟨_,rfl⟩
 have hC1l:C1.length=(n-i)*10:=by rw[hC1];simp;omega
 obtain ⟨M1,hM1⟩:∃M1,M1=Go.splice L ((i+1)*10) C1:=⟨_,rfl⟩
 have hM1l:M1.length=L.length:=by rw[hM1];exact length_splice _ _ _ (by omega)
 rw[←hC1,←hM1];have hcp1:∀ty dc sc,(Builtin.copy_ #[22,22] ty #[.slice (some ⟨b,(i+1)*10,none⟩) (n-i) dc,.slice (some ⟨b,i*10,none⟩) (n+1-i) sc]).run Tryz.prog w.drew=.ok (goInt ((n-i:Nat):Int)) (w.drew.setRow b M1.toArray):=fun ty dc sc=>by
  have hmin:Nat.min (n+1-i) (n-i)=n-i:=by show min _ _=_;omega
  have:=f9 (P:=Tryz.prog) (w:=w.drew) (sT:=22) (ty:=ty) (dCap:=dc) (sCap:=sc) (dLen:=n-i) (sLen:=n+1-i) (o:=(i+1)*10) (a:=⟨b,i*10,none⟩) Tryz.underlying22 hi0 hsz hb (cs:=C1) (by rw[hmin];exact hC1l)
   (fun j v hj=>by
    rw[Addr.add_lit];show w.cell? _=_
    simp only[World.cell?,hb];rw[hC1,yao]at hj;split at hj
    ·simpa using hj
    ·cases hj) (by omega) (by rw[hC1];exact h1)
  rw[hmin,←hM1]at this;exact this
 have hcp2:∀(W:World),W=(w.drew.setRow b M1.toArray)→∀ty dc,(Builtin.copy_ #[22,22] ty #[.slice (some ⟨b,i*10,none⟩) (n+1-i) dc,.slice (some ⟨vb,vo,none⟩) 1 vc]).run Tryz.prog W=.ok (goInt 1) (W.setRow b (Go.splice M1 (i*10) vs).toArray):=fun W hW ty dc=>by
  have hmin:Nat.min 1 (n+1-i)=1:=by show min _ _=_;omega
  have:=f9 (P:=Tryz.prog) (w:=W) (sT:=22) (ty:=ty) (dCap:=dc) (sCap:=vc) (dLen:=n+1-i) (sLen:=1) (o:=i*10) (a:=⟨vb,vo,none⟩) Tryz.underlying22 hi0 hsz (g:=b) (t:=t) (L:=M1) (by rw[hW];exact setRow_heap _ _ _ _ _ _ hb) (cs:=vs) (by rw[hmin];omega)
   (fun j v hj=>by
    rw[Addr.add_lit,hW,cell_setRow_other _ _ _ _ hvb];exact hvs j v hj) (by omega) h2
  rw[hmin]at this;exact this
 have hw1:IntKind.i64.wrap ((i:Int)+1)=(i:Int)+1:=by rw[IntKind.wrap_i64];omega
 have hb1:(0:Int)≤(i:Int)+1:=by omega
 have hin:i≤n:=by omega
 have htn:((i:Int)+1).toNat=i+1:=by omega
 have hb2:¬(c=i+1):=by omega
 have hb3:(i:Int)≤(n:Int)+1:=by omega
 have hb4:¬(c=i):=by omega
 have mixed:Tryz.prog.follows .mixedOrders=true:=kr;clear hC1 hM1 hC1l hM1l h1 h2 hvs hL
 go_enter Tryz.func121,Tryz.ntmps121
 go_wp2_with (simp only[hov])
 go_region_law_o (refine o6 rfl _ _ 22 22 rfl _ _ (by simp[Act.eval,Act.put]) (by simp[Act.eval,Act.put]) (hcp1 _ _ _) ?_)
 go_wp2_with (at_builtin;refine a3t rfl _ _ 22 22 rfl _ _ rfl rfl (hcp2 _ rfl _ _) ?_)
 go_ret
 exact ⟨rfl,rfl⟩
theorem a35 {i0:TypeInfo} {k c:Nat} (h:c<k) (hk:k≤1073741824) (hby:i0.bytes≤128):Builtin.nextslicecap k c*i0.bytes≤281474976710656:=
 growslice_fits h (yaN (ybm hk hby) (by decide))
set_option maxHeartbeats 4000000 in
set_option maxRecDepth 100000 in
theorem a49 {w:World} {b n c vb vo vc:Nat} {L vs:List Value} {t:TypeId} (hroom:n+1≤c) (hlim:n+1≤1073741824)
 (hb:w.heap[b]?=some (.cells L.toArray t (0,0))) (hL:L.length=c*10) (hvl:vs.length=10)
 (hvs:∀j v,vs[j]?=some v→w.cell? ⟨vb,vo+j,none⟩=some v) (h2:∀v∈vs,v.oneCell'=true) :
 Calls Tryz.prog 121 #[.slice (some ⟨b,0,none⟩) n c,.int .i64 n,.slice (some ⟨vb,vo,none⟩) 1 vc] w fun e w'=>
  e=.returned (.slice (some ⟨b,0,none⟩) (n+1) c)∧w'=w.setRow b (Go.splice L (n*10) vs).toArray:=by
 obtain ⟨i0,z0,hi0,hz0,hzs,hsz,hby⟩:=a1e;have hLn:(n+1)*10≤L.length:=by rw[hL];exact yai _ hroom
 have hf:=run_firstCells_some (P:=Tryz.prog) w i0.size 1 ⟨vb,vo,none⟩ 1 vc vs (by omega) (fun j v hj=>by rw[Addr.add_lit];exact hvs j v hj);have hap:∀ty,(Builtin.append_ #[22,22] ty #[.slice (some ⟨b,0,none⟩) n c,.slice (some ⟨vb,vo,none⟩) 1 vc]).run Tryz.prog w=.ok (.slice (some ⟨b,0,none⟩) (n+1) c) (w.setRow b (Go.splice L (n*10) vs).toArray):=fun ty=>by
  have:=k9 (P:=Tryz.prog) (w:=w) (ty:=ty) (ts:=#[22,22]) rfl rfl Tryz.underlying22 Tryz.underlying22 hi0 hf hroom hb (by simp only[ya2];rw[hsz];omega) h2;rw[hsz]at this;simpa[Go.splice]using this
 go_enter Tryz.func121,Tryz.ntmps121
 go_wp2_with (at_builtin;refine g5 rfl _ _ _ _ rfl _ _ rfl rfl (hap _) ?_)
 all_goals (go_ret;exact ⟨rfl,rfl⟩)
set_option maxHeartbeats 4000000 in
set_option maxRecDepth 100000 in
theorem a6m {w:World} {base:Option Addr} {n c vb vo vc:Nat} {olds vs:List Value} (hnc:n≤c) (hroom:c<n+1) (hlim:n+1≤1073741824) (hvl:vs.length=10)
 (hnil:base=none→n=0) (hol:olds.length=n*10) (hos:∀a,base=some a→∀j v,olds[j]?=some v→w.cell? (a.add j)=some v)
 (hvs:∀j v,vs[j]?=some v→w.cell? ⟨vb,vo+j,none⟩=some v) :
 Calls Tryz.prog 121 #[.slice base n c,.int .i64 n,.slice (some ⟨vb,vo,none⟩) 1 vc] w fun e w'=>
  ∃cap zs,e=.returned (.slice (some ⟨w.heap.size,0,none⟩) (n+1) cap)∧w'=w.drew.alloc (.cells (olds++(vs++zs)).toArray 61)∧n+1≤cap∧zs.length=(cap-(n+1))*10:=by
 obtain ⟨i0,z0,hi0,hz0,hzs,hsz,hby⟩:=a1e;have hf:=run_firstCells_some (P:=Tryz.prog) w.drew i0.size 1 ⟨vb,vo,none⟩ 1 vc vs (by omega) (fun j v hj=>by rw[Addr.add_lit];exact hvs j v hj);have hold:(Builtin.firstCells i0.size n (.slice base n c)).run Tryz.prog w.drew=.ok olds.toArray w.drew:=by
  cases base with
  |none=>
   have h0:=hnil rfl;subst h0;rw[yaV.1 (by omega:olds.length=0)];exact run_firstCells_none w.drew _ 0 0 c
  |some a=>exact run_firstCells_some w.drew _ n a n c olds (by rw[hsz];omega) (fun j v hj=>hos a rfl j v hj)
 have hap:∀ty,(Builtin.append_ #[22,22] ty #[.slice base n c,.slice (some ⟨vb,vo,none⟩) 1 vc]).run Tryz.prog w=_:=fun ty=>
  l4 (P:=Tryz.prog) (w:=w) (ty:=ty) (ts:=#[22,22]) rfl rfl Tryz.underlying22 Tryz.underlying22 hi0 hz0 hf hold hroom (by omega) (a35 hroom hlim hby)
 have hge:=j9 w (n+1) c 61;obtain ⟨G,hG⟩:∃G,G=grownCap w (n+1) c 61:=⟨_,rfl⟩
 obtain ⟨zs,hzs'⟩:∃zs,zs=(Builtin.zeroCells z0.cells (G-(n+1))).toList:=⟨_,rfl⟩
 rw[←hG]at hap hge;rw[←hzs']at hap;have hzl:zs.length=(G-(n+1))*10:=by rw[hzs',yaC,size_zeroCells,hzs]
 clear hG hzs'
 go_enter Tryz.func121,Tryz.ntmps121
 cases base with
 |none=>
  have h0:=hnil rfl;subst h0
  go_wp2_with (at_builtin;refine g5 rfl _ _ _ _ rfl _ _ rfl rfl (hap _) ?_)
  all_goals (go_ret;first|exact ⟨_,_,rfl,rfl,hge,hzl⟩|exact ⟨_,rfl,_,rfl,hge,hzl⟩)
 |some a=>
  obtain ⟨ab,ao,asp⟩:=a
  go_wp2_with (at_builtin;refine g5 rfl _ _ _ _ rfl _ _ rfl rfl (hap _) ?_)
  all_goals (go_ret;first|exact ⟨_,_,rfl,rfl,hge,hzl⟩|exact ⟨_,rfl,_,rfl,hge,hzl⟩)
set_option maxHeartbeats 4000000 in
set_option maxRecDepth 100000 in
theorem a48 {w:World} {b n c i vb vo vc:Nat} {L vs:List Value} {t:TypeId} (hi:i<n) (hnc:n≤c) (hroom:c<n+1) (hlim:n+1≤1073741824) (hvb:vb≠b)
 (hb:w.heap[b]?=some (.cells L.toArray t (0,0))) (hL:L.length=c*10) (hvl:vs.length=10)
 (hvs:∀j v,vs[j]?=some v→w.cell? ⟨vb,vo+j,none⟩=some v) (h1:∀v∈(L.drop (i*10)).take ((n-i)*10),v.oneCell'=true) (h2:∀v∈vs,v.oneCell'=true) :
 Calls Tryz.prog 121 #[.slice (some ⟨b,0,none⟩) n c,.int .i64 i,.slice (some ⟨vb,vo,none⟩) 1 vc] w fun e w'=>
  ∃cap row,e=.returned (.slice (some ⟨w.heap.size,0,none⟩) (n+1) cap)∧n+1≤cap∧row.length=cap*10∧row.take (i*10)=L.take (i*10)∧
   w'.heap=(w.heap.push (.cells (Go.splice (Go.splice row (i*10) vs) ((i+1)*10) ((L.drop (i*10)).take ((n-i)*10))).toArray 61))∧w'.os=w.os∧w'.output=w.output∧w'.tape=w.tape:=by
 obtain ⟨i0,z0,hi0,hz0,hzs,hsz,hby⟩:=a1e;have hz2:¬((i:Int)=(n:Int)):=by omega
 have hz3:(c:Int)<(n:Int)+1:=by omega
 have hLn:n*10≤L.length:=by rw[hL];exact yai _ hnc
 have hbw:b<w.heap.size:=(yac.1 hb).1;have hvw:vb<w.heap.size:=by
  have h:=hvs 0 _ (yaa (by omega));unfold World.cell? at h;split at h
  ·rename_i c0 t0 f0 hc0;exact (yac.1 hc0).1
  ·cases h
 have hkk:(n:Int)+1-(i:Int)=((n+1-i:Nat):Int):=by omega
 have hik:i+(n+1-i)=n+1:=by omega
 have hTl:(L.take (i*10)).length=i*10:=by simp;omega
 have hold:(Builtin.firstCells i0.size i (.slice (some ⟨b,0,none⟩) i c)).run Tryz.prog w.drew=.ok (L.take (i*10)).toArray w.drew:=by
  refine run_firstCells_some w.drew _ i ⟨b,0,none⟩ i c (L.take (i*10)) (by rw[hsz];exact hTl) (fun j v hj=>?_);rw[Addr.add_lit,yaD];show w.cell? _=_
  simp only[World.cell?,hb];rw[yao]at hj;split at hj
  ·simpa using hj
  ·cases hj
 have hrz:∀ty,(Builtin.append_ #[22,3] ty #[.slice (some ⟨b,0,none⟩) i c,.int .i64 ((n:Int)+1-(i:Int))]).run Tryz.prog w =
  .ok (.slice (some ⟨w.heap.size,0,none⟩) (n+1) (grownCap w (n+1) c 61)) (w.drew.alloc (.cells ((L.take (i*10)).toArray++Builtin.zeroCells z0.cells (n+1-i)++Builtin.zeroCells z0.cells (grownCap w (n+1) c 61-(n+1))) 61)):=fun ty=>by
  have h:=Lib.run_append_grow_zeros w 22 3 ty 61 i0 _ .i64 .i64 Tryz.underlying22 Tryz.underlying3 hi0 hz0 (some ⟨b,0,none⟩) i c _ hold (n+1-i) (by omega) (by omega) (by omega) (by omega)
   (yaN (ybm (show n+1-i≤1073741824 by omega) hby) (by decide)) (by rw[hik];exact a35 hroom hlim hby)
  rw[hik]at h;rw[hkk];exact h
 have hge:=j9 w (n+1) c 61;obtain ⟨G,hG⟩:∃G,G=grownCap w (n+1) c 61:=⟨_,rfl⟩
 rw[←hG]at hrz hge;have hG63:G≤9223372036854775807:=by
  have:=grownCap_le_maxLen w (n+1) c 61 (by unfold maxLen;omega);rw[←hG]at this;unfold maxLen at this;omega
 obtain ⟨R,hR⟩:∃R:List Value,R=L.take (i*10)++((Builtin.zeroCells z0.cells (n+1-i)).toList++(Builtin.zeroCells z0.cells (G-(n+1))).toList):=⟨_,rfl⟩
 have hRl:R.length=G*10:=by
  rw[hR];simp only[yaI,yaC,size_zeroCells,hzs,hTl];rw[←yaB,←yaB];congr 1;omega
 have hRt:R.take (i*10)=L.take (i*10):=by rw[hR,List.take_append_of_le_length (by omega),ybn (by omega)]
 have hRe:(L.take (i*10)).toArray++Builtin.zeroCells z0.cells (n+1-i)++Builtin.zeroCells z0.cells (G-(n+1))=R.toArray:=by
  rw[hR];apply Array.ext';simp
 rw[hRe]at hrz;obtain ⟨C1,hC1⟩:∃C1,C1=(L.drop (i*10)).take ((n-i)*10):=⟨_,rfl⟩
 have hC1l:C1.length=(n-i)*10:=by rw[hC1];simp;omega
 have hGn:(n+1)*10≤R.length:=by rw[hRl];exact yai _ hge
 obtain ⟨M1,hM1⟩:∃M1,M1=Go.splice R (i*10) vs:=⟨_,rfl⟩
 have hM1l:M1.length=R.length:=by rw[hM1];exact length_splice _ _ _ (by omega)
 rw[←hC1];obtain ⟨gb,hgb⟩:∃gb,gb=w.heap.size:=⟨_,rfl⟩
 have hnew:∀W:World,W.heap=w.heap.push (.cells R.toArray 61)→W.heap[gb]?=some (.cells R.toArray 61 (0,0)):=fun W hW=>by rw[hW,hgb];simp
 have hpast:∀W:World,W.heap=w.heap.push (.cells R.toArray 61)→∀k,k<w.heap.size→W.heap[k]?=w.heap[k]?:=fun W hW k hk=>by rw[hW,ya1 hk];simp[hk]
 have hcpA:∀(W:World),W.heap=w.heap.push (.cells R.toArray 61)→∀ty dc,(Builtin.copy_ #[22,22] ty #[.slice (some ⟨gb,i*10,none⟩) (n+1-i) dc,.slice (some ⟨vb,vo,none⟩) 1 vc]).run Tryz.prog W=.ok (goInt 1) (W.setRow gb M1.toArray):=fun W hW ty dc=>by
  have hmin:Nat.min 1 (n+1-i)=1:=by show min _ _=_;omega
  have:=f9 (P:=Tryz.prog) (w:=W) (sT:=22) (ty:=ty) (dCap:=dc) (sCap:=vc) (dLen:=n+1-i) (sLen:=1) (o:=i*10) (a:=⟨vb,vo,none⟩) Tryz.underlying22 hi0 hsz (g:=gb) (t:=61) (L:=R) (hnew W hW) (cs:=vs) (by rw[hmin];omega)
   (fun j v hj=>by
    rw[Addr.add_lit];unfold World.cell?;rw[show W.heap[(⟨vb,vo+j,none⟩:Addr).block]?=w.heap[vb]? from hpast W hW vb hvw];exact hvs j v hj) (by omega) h2
  rw[hmin,←hM1]at this;exact this
 have hcpB:∀(W W0:World),W0.heap=w.heap.push (.cells R.toArray 61)→W.heap=(W0.setRow gb M1.toArray).heap→∀ty dc sc,(Builtin.copy_ #[22,22] ty #[.slice (some ⟨gb,(i+1)*10,none⟩) (n-i) dc,.slice (some ⟨b,i*10,none⟩) (n-i) sc]).run Tryz.prog W=.ok (goInt ((n-i:Nat):Int)) (W.setRow gb (Go.splice M1 ((i+1)*10) C1).toArray):=fun W W0 hW0 hW ty dc sc=>by
  have hmin:Nat.min (n-i) (n-i)=n-i:=by show min _ _=_;omega
  have:=f9 (P:=Tryz.prog) (w:=W) (sT:=22) (ty:=ty) (dCap:=dc) (sCap:=sc) (dLen:=n-i) (sLen:=n-i) (o:=(i+1)*10) (a:=⟨b,i*10,none⟩) Tryz.underlying22 hi0 hsz (g:=gb) (t:=61) (L:=M1) (by rw[hW];exact setRow_heap _ _ _ _ _ _ (hnew W0 hW0)) (cs:=C1) (by rw[hmin];exact hC1l)
   (fun j v hj=>by
    rw[Addr.add_lit];unfold World.cell?;have e:W.heap[(⟨b,i*10+j,none⟩:Addr).block]?=w.heap[b]?:=by
     show W.heap[b]?=_
     rw[hW,setRow_other _ _ _ _ (by omega),hpast W0 hW0 b hbw]
    rw[e,hb];rw[hC1,yao]at hj;split at hj
    ·simpa using hj
    ·cases hj) (by omega) (by rw[hC1];exact h1)
  rw[hmin]at this;exact this
 have hw1:IntKind.i64.wrap ((i:Int)+1)=(i:Int)+1:=by rw[IntKind.wrap_i64];omega
 have hb1:(0:Int)≤(i:Int)+1:=by omega
 have hin:i≤n:=by omega
 have htn:((i:Int)+1).toNat=i+1:=by omega
 have hb3:(i:Int)≤(n:Int):=by omega
 have hGi:¬(G=i):=by omega
 have hGim:¬(G=i+1):=by omega
 have hci:¬(c=i):=by omega
 have hmixed:Tryz.prog.follows .mixedOrders=true:=kr;have mixed:=hmixed;have hfin:∀W W0:World,W0.heap=w.heap.push (.cells R.toArray 61)→W.heap=(W0.setRow gb M1.toArray).heap→(W.setRow gb (Go.splice M1 ((i+1)*10) C1).toArray).heap=w.heap.push (.cells (Go.splice M1 ((i+1)*10) C1).toArray 61):=fun W W0 hW0 hW=>by
  have h1:W.heap[gb]?=some (.cells M1.toArray 61 (0,0)):=by rw[hW];exact setRow_heap _ _ _ _ _ _ (hnew W0 hW0)
  have hsz0:W.heap.size=w.heap.size+1:=by rw[hW,setRow_size,hW0];simp
  apply Array.ext_getElem?;intro k;by_cases hk:k=gb
  ·subst hk;rw[setRow_heap _ _ _ _ _ _ h1,hgb];simp
  ·rw[setRow_other _ _ _ _ hk];by_cases hk2:k<w.heap.size
   ·rw[hW,setRow_other _ _ _ _ hk,hpast W0 hW0 k hk2,ya1 hk2];simp[hk2]
   ·rw[yaP (by omega),yaP (by simp;omega)]
 have hMM:Go.splice (Go.splice R (i*10) vs) ((i+1)*10) C1=Go.splice M1 ((i+1)*10) C1:=by rw[hM1]
 subst hgb;have hcpA':=hcpA ((w.alloc (.cells R.toArray 61)).drew) rfl;clear hkk hcpA hik hold hG hR hRe hC1 hM1 hC1l hM1l h1 h2 hvs hL hTl
 go_enter Tryz.func121,Tryz.ntmps121
 go_wp2_with (at_builtin;refine g5 rfl _ _ _ _ rfl _ _ rfl rfl (hrz _) ?_)
 go_region_law_o (refine o6 rfl _ _ 22 22 rfl (.slice (some ⟨w.heap.size,(i+1)*10,none⟩) (n-i) (G-(i+1))) (.slice (some ⟨b,i*10,none⟩) (n-i) (c-i)) (by simp[Act.eval,Act.put]) (by simp[Act.eval,Act.put]) (hcpB (((w.alloc (.cells R.toArray 61)).drew.setRow w.heap.size M1.toArray).drew) (w.drew.alloc (.cells R.toArray 61)) rfl rfl 3 (G-(i+1)) (c-i)) ?_)
 go_wp2
 go_ret
 refine ⟨G,R,rfl,hge,hRl,hRt,?_,rfl,rfl,rfl⟩;rw[hMM];exact hfin _ (w.drew.alloc (.cells R.toArray 61)) rfl rfl
end
section
theorem a1f:∃i0 z,Tryz.prog.info? 79=some i0∧i0.zero=some z∧z.cells.size=6∧i0.size=6∧i0.bytes≤128:=by
 have h:(match Tryz.prog.info? 79 with|some i=>(match i.zero with|some z=>Nat.beq z.cells.size 6&&Nat.beq i.size 6&&Nat.ble i.bytes 128|none=>false)|none=>false)=true:=kr;split at h
 ·rename_i i hi;split at h
  ·rename_i z hz;simp only[yab]at h;exact ⟨i,z,hi,hz,yaQ h.1.1,yaQ h.1.2,yax h.2⟩
  ·cases h
 ·cases h
set_option maxHeartbeats 4000000 in
set_option maxRecDepth 100000 in
theorem a3z {w:World} {b n c i vb vo vc:Nat} {L vs:List Value} {t:TypeId} (hi:i<n) (hroom:n+1≤c) (hlim:n+1≤1073741824) (hvb:vb≠b)
 (hb:w.heap[b]?=some (.cells L.toArray t (0,0))) (hL:L.length=c*6) (hvl:vs.length=6)
 (hvs:∀j v,vs[j]?=some v→w.cell? ⟨vb,vo+j,none⟩=some v) (h1:∀v∈(L.drop (i*6)).take ((n-i)*6),v.oneCell'=true) (h2:∀v∈vs,v.oneCell'=true) :
 Calls Tryz.prog 201 #[.slice (some ⟨b,0,none⟩) n c,.int .i64 i,.slice (some ⟨vb,vo,none⟩) 1 vc] w fun e w'=>
  e=.returned (.slice (some ⟨b,0,none⟩) (n+1) c)∧w'=(w.drew.setRow b (Go.splice L ((i+1)*6) ((L.drop (i*6)).take ((n-i)*6))).toArray).setRow b (Go.splice (Go.splice L ((i+1)*6) ((L.drop (i*6)).take ((n-i)*6))) (i*6) vs).toArray:=by
 obtain ⟨i0,z0,hi0,hz0,hzs,hsz,hby⟩:=a1f;have hz2:¬((i:Int)=(n:Int)):=by omega
 have hva:∃va ta fa,w.heap[vb]?=some (.cells va ta fa)∧0<va.size:=by
  have h:=hvs 0 _ (yaa (by omega));unfold World.cell? at h;split at h
  ·rename_i c0 t0 f0 hc0;exact ⟨c0,t0,f0,hc0,by have:=(yac.1 h).1;omega⟩
  ·cases h
 obtain ⟨va,ta,fa,hva,hva0⟩:=hva;have hov:∀lb cb,(callFunc 262 #[.slice (some ⟨vb,vo,none⟩) 1 vc,.slice (some ⟨b,(i+1)*6,none⟩) lb cb]).run Tryz.prog w=.ok (.value (.bool false)) w:=fun lb cb=>by
  rw[run_callFunc_extern Tryz.func262 kr kr kr (e:=Extern.SlicesOverlaps.overlaps #[24,24] #[4]) kr,
   s5 Tryz.underlying24 hi0 (a:=⟨vb,vo,none⟩) (b:=⟨b,(i+1)*6,none⟩) hvb hva hva0 hb (by simp only[ya2];omega)]
  rfl
 have hLn:(n+1)*6≤L.length:=by rw[hL];exact yai _ hroom
 obtain ⟨C1,hC1⟩:∃C1,C1=(L.drop (i*6)).take ((n-i)*6):=⟨_,rfl⟩
 have hC1l:C1.length=(n-i)*6:=by rw[hC1];simp;omega
 obtain ⟨M1,hM1⟩:∃M1,M1=Go.splice L ((i+1)*6) C1:=⟨_,rfl⟩
 have hM1l:M1.length=L.length:=by rw[hM1];exact length_splice _ _ _ (by omega)
 rw[←hC1,←hM1];have hcp1:∀ty dc sc,(Builtin.copy_ #[24,24] ty #[.slice (some ⟨b,(i+1)*6,none⟩) (n-i) dc,.slice (some ⟨b,i*6,none⟩) (n+1-i) sc]).run Tryz.prog w.drew=.ok (goInt ((n-i:Nat):Int)) (w.drew.setRow b M1.toArray):=fun ty dc sc=>by
  have hmin:Nat.min (n+1-i) (n-i)=n-i:=by show min _ _=_;omega
  have:=f9 (P:=Tryz.prog) (w:=w.drew) (sT:=24) (ty:=ty) (dCap:=dc) (sCap:=sc) (dLen:=n-i) (sLen:=n+1-i) (o:=(i+1)*6) (a:=⟨b,i*6,none⟩) Tryz.underlying24 hi0 hsz hb (cs:=C1) (by rw[hmin];exact hC1l)
   (fun j v hj=>by
    rw[Addr.add_lit];show w.cell? _=_
    simp only[World.cell?,hb];rw[hC1,yao]at hj;split at hj
    ·simpa using hj
    ·cases hj) (by omega) (by rw[hC1];exact h1)
  rw[hmin,←hM1]at this;exact this
 have hcp2:∀(W:World),W=(w.drew.setRow b M1.toArray)→∀ty dc,(Builtin.copy_ #[24,24] ty #[.slice (some ⟨b,i*6,none⟩) (n+1-i) dc,.slice (some ⟨vb,vo,none⟩) 1 vc]).run Tryz.prog W=.ok (goInt 1) (W.setRow b (Go.splice M1 (i*6) vs).toArray):=fun W hW ty dc=>by
  have hmin:Nat.min 1 (n+1-i)=1:=by show min _ _=_;omega
  have:=f9 (P:=Tryz.prog) (w:=W) (sT:=24) (ty:=ty) (dCap:=dc) (sCap:=vc) (dLen:=n+1-i) (sLen:=1) (o:=i*6) (a:=⟨vb,vo,none⟩) Tryz.underlying24 hi0 hsz (g:=b) (t:=t) (L:=M1) (by rw[hW];exact setRow_heap _ _ _ _ _ _ hb) (cs:=vs) (by rw[hmin];omega)
   (fun j v hj=>by
    rw[Addr.add_lit,hW,cell_setRow_other _ _ _ _ hvb];exact hvs j v hj) (by omega) h2
  rw[hmin]at this;exact this
 have hw1:IntKind.i64.wrap ((i:Int)+1)=(i:Int)+1:=by rw[IntKind.wrap_i64];omega
 have hb1:(0:Int)≤(i:Int)+1:=by omega
 have hin:i≤n:=by omega
 have htn:((i:Int)+1).toNat=i+1:=by omega
 have hb2:¬(c=i+1):=by omega
 have hb3:(i:Int)≤(n:Int)+1:=by omega
 have hb4:¬(c=i):=by omega
 have mixed:Tryz.prog.follows .mixedOrders=true:=kr;clear hC1 hM1 hC1l hM1l h1 h2 hvs hL
 go_enter Tryz.func201,Tryz.ntmps201
 go_wp2_with (simp only[hov])
 go_region_law_o (refine o6 rfl _ _ 24 24 rfl _ _ (by simp[Act.eval,Act.put]) (by simp[Act.eval,Act.put]) (hcp1 _ _ _) ?_)
 go_wp2_with (at_builtin;refine a3t rfl _ _ 24 24 rfl _ _ rfl rfl (hcp2 _ rfl _ _) ?_)
 go_ret
 exact ⟨rfl,rfl⟩
theorem a36 {i0:TypeInfo} {k c:Nat} (h:c<k) (hk:k≤1073741824) (hby:i0.bytes≤128):Builtin.nextslicecap k c*i0.bytes≤281474976710656:=
 growslice_fits h (yaN (ybm hk hby) (by decide))
set_option maxHeartbeats 4000000 in
set_option maxRecDepth 100000 in
theorem a5b {w:World} {b n c vb vo vc:Nat} {L vs:List Value} {t:TypeId} (hroom:n+1≤c) (hlim:n+1≤1073741824)
 (hb:w.heap[b]?=some (.cells L.toArray t (0,0))) (hL:L.length=c*6) (hvl:vs.length=6)
 (hvs:∀j v,vs[j]?=some v→w.cell? ⟨vb,vo+j,none⟩=some v) (h2:∀v∈vs,v.oneCell'=true) :
 Calls Tryz.prog 201 #[.slice (some ⟨b,0,none⟩) n c,.int .i64 n,.slice (some ⟨vb,vo,none⟩) 1 vc] w fun e w'=>
  e=.returned (.slice (some ⟨b,0,none⟩) (n+1) c)∧w'=w.setRow b (Go.splice L (n*6) vs).toArray:=by
 obtain ⟨i0,z0,hi0,hz0,hzs,hsz,hby⟩:=a1f;have hLn:(n+1)*6≤L.length:=by rw[hL];exact yai _ hroom
 have hf:=run_firstCells_some (P:=Tryz.prog) w i0.size 1 ⟨vb,vo,none⟩ 1 vc vs (by omega) (fun j v hj=>by rw[Addr.add_lit];exact hvs j v hj);have hap:∀ty,(Builtin.append_ #[24,24] ty #[.slice (some ⟨b,0,none⟩) n c,.slice (some ⟨vb,vo,none⟩) 1 vc]).run Tryz.prog w=.ok (.slice (some ⟨b,0,none⟩) (n+1) c) (w.setRow b (Go.splice L (n*6) vs).toArray):=fun ty=>by
  have:=k9 (P:=Tryz.prog) (w:=w) (ty:=ty) (ts:=#[24,24]) rfl rfl Tryz.underlying24 Tryz.underlying24 hi0 hf hroom hb (by simp only[ya2];rw[hsz];omega) h2;rw[hsz]at this;simpa[Go.splice]using this
 go_enter Tryz.func201,Tryz.ntmps201
 go_wp2_with (at_builtin;refine g5 rfl _ _ _ _ rfl _ _ rfl rfl (hap _) ?_)
 all_goals (go_ret;exact ⟨rfl,rfl⟩)
set_option maxHeartbeats 4000000 in
set_option maxRecDepth 100000 in
theorem a6n {w:World} {base:Option Addr} {n c vb vo vc:Nat} {olds vs:List Value} (hnc:n≤c) (hroom:c<n+1) (hlim:n+1≤1073741824) (hvl:vs.length=6)
 (hnil:base=none→n=0) (hol:olds.length=n*6) (hos:∀a,base=some a→∀j v,olds[j]?=some v→w.cell? (a.add j)=some v)
 (hvs:∀j v,vs[j]?=some v→w.cell? ⟨vb,vo+j,none⟩=some v) :
 Calls Tryz.prog 201 #[.slice base n c,.int .i64 n,.slice (some ⟨vb,vo,none⟩) 1 vc] w fun e w'=>
  ∃cap zs,e=.returned (.slice (some ⟨w.heap.size,0,none⟩) (n+1) cap)∧w'=w.drew.alloc (.cells (olds++(vs++zs)).toArray 79)∧n+1≤cap∧zs.length=(cap-(n+1))*6:=by
 obtain ⟨i0,z0,hi0,hz0,hzs,hsz,hby⟩:=a1f;have hf:=run_firstCells_some (P:=Tryz.prog) w.drew i0.size 1 ⟨vb,vo,none⟩ 1 vc vs (by omega) (fun j v hj=>by rw[Addr.add_lit];exact hvs j v hj);have hold:(Builtin.firstCells i0.size n (.slice base n c)).run Tryz.prog w.drew=.ok olds.toArray w.drew:=by
  cases base with
  |none=>
   have h0:=hnil rfl;subst h0;rw[yaV.1 (by omega:olds.length=0)];exact run_firstCells_none w.drew _ 0 0 c
  |some a=>exact run_firstCells_some w.drew _ n a n c olds (by rw[hsz];omega) (fun j v hj=>hos a rfl j v hj)
 have hap:∀ty,(Builtin.append_ #[24,24] ty #[.slice base n c,.slice (some ⟨vb,vo,none⟩) 1 vc]).run Tryz.prog w=_:=fun ty=>
  l4 (P:=Tryz.prog) (w:=w) (ty:=ty) (ts:=#[24,24]) rfl rfl Tryz.underlying24 Tryz.underlying24 hi0 hz0 hf hold hroom (by omega) (a36 hroom hlim hby)
 have hge:=j9 w (n+1) c 79;obtain ⟨G,hG⟩:∃G,G=grownCap w (n+1) c 79:=⟨_,rfl⟩
 obtain ⟨zs,hzs'⟩:∃zs,zs=(Builtin.zeroCells z0.cells (G-(n+1))).toList:=⟨_,rfl⟩
 rw[←hG]at hap hge;rw[←hzs']at hap;have hzl:zs.length=(G-(n+1))*6:=by rw[hzs',yaC,size_zeroCells,hzs]
 clear hG hzs'
 go_enter Tryz.func201,Tryz.ntmps201
 cases base with
 |none=>
  have h0:=hnil rfl;subst h0
  go_wp2_with (at_builtin;refine g5 rfl _ _ _ _ rfl _ _ rfl rfl (hap _) ?_)
  all_goals (go_ret;first|exact ⟨_,_,rfl,rfl,hge,hzl⟩|exact ⟨_,rfl,_,rfl,hge,hzl⟩)
 |some a=>
  obtain ⟨ab,ao,asp⟩:=a
  go_wp2_with (at_builtin;refine g5 rfl _ _ _ _ rfl _ _ rfl rfl (hap _) ?_)
  all_goals (go_ret;first|exact ⟨_,_,rfl,rfl,hge,hzl⟩|exact ⟨_,rfl,_,rfl,hge,hzl⟩)
set_option maxHeartbeats 4000000 in
set_option maxRecDepth 100000 in
theorem a5a {w:World} {b n c i vb vo vc:Nat} {L vs:List Value} {t:TypeId} (hi:i<n) (hnc:n≤c) (hroom:c<n+1) (hlim:n+1≤1073741824) (hvb:vb≠b)
 (hb:w.heap[b]?=some (.cells L.toArray t (0,0))) (hL:L.length=c*6) (hvl:vs.length=6)
 (hvs:∀j v,vs[j]?=some v→w.cell? ⟨vb,vo+j,none⟩=some v) (h1:∀v∈(L.drop (i*6)).take ((n-i)*6),v.oneCell'=true) (h2:∀v∈vs,v.oneCell'=true) :
 Calls Tryz.prog 201 #[.slice (some ⟨b,0,none⟩) n c,.int .i64 i,.slice (some ⟨vb,vo,none⟩) 1 vc] w fun e w'=>
  ∃cap row,e=.returned (.slice (some ⟨w.heap.size,0,none⟩) (n+1) cap)∧n+1≤cap∧row.length=cap*6∧row.take (i*6)=L.take (i*6)∧
   w'.heap=(w.heap.push (.cells (Go.splice (Go.splice row (i*6) vs) ((i+1)*6) ((L.drop (i*6)).take ((n-i)*6))).toArray 79))∧w'.os=w.os∧w'.output=w.output∧w'.tape=w.tape:=by
 obtain ⟨i0,z0,hi0,hz0,hzs,hsz,hby⟩:=a1f;have hz2:¬((i:Int)=(n:Int)):=by omega
 have hz3:(c:Int)<(n:Int)+1:=by omega
 have hLn:n*6≤L.length:=by rw[hL];exact yai _ hnc
 have hbw:b<w.heap.size:=(yac.1 hb).1;have hvw:vb<w.heap.size:=by
  have h:=hvs 0 _ (yaa (by omega));unfold World.cell? at h;split at h
  ·rename_i c0 t0 f0 hc0;exact (yac.1 hc0).1
  ·cases h
 have hkk:(n:Int)+1-(i:Int)=((n+1-i:Nat):Int):=by omega
 have hik:i+(n+1-i)=n+1:=by omega
 have hTl:(L.take (i*6)).length=i*6:=by simp;omega
 have hold:(Builtin.firstCells i0.size i (.slice (some ⟨b,0,none⟩) i c)).run Tryz.prog w.drew=.ok (L.take (i*6)).toArray w.drew:=by
  refine run_firstCells_some w.drew _ i ⟨b,0,none⟩ i c (L.take (i*6)) (by rw[hsz];exact hTl) (fun j v hj=>?_);rw[Addr.add_lit,yaD];show w.cell? _=_
  simp only[World.cell?,hb];rw[yao]at hj;split at hj
  ·simpa using hj
  ·cases hj
 have hrz:∀ty,(Builtin.append_ #[24,3] ty #[.slice (some ⟨b,0,none⟩) i c,.int .i64 ((n:Int)+1-(i:Int))]).run Tryz.prog w =
  .ok (.slice (some ⟨w.heap.size,0,none⟩) (n+1) (grownCap w (n+1) c 79)) (w.drew.alloc (.cells ((L.take (i*6)).toArray++Builtin.zeroCells z0.cells (n+1-i)++Builtin.zeroCells z0.cells (grownCap w (n+1) c 79-(n+1))) 79)):=fun ty=>by
  have h:=Lib.run_append_grow_zeros w 24 3 ty 79 i0 _ .i64 .i64 Tryz.underlying24 Tryz.underlying3 hi0 hz0 (some ⟨b,0,none⟩) i c _ hold (n+1-i) (by omega) (by omega) (by omega) (by omega)
   (yaN (ybm (show n+1-i≤1073741824 by omega) hby) (by decide)) (by rw[hik];exact a36 hroom hlim hby)
  rw[hik]at h;rw[hkk];exact h
 have hge:=j9 w (n+1) c 79;obtain ⟨G,hG⟩:∃G,G=grownCap w (n+1) c 79:=⟨_,rfl⟩
 rw[←hG]at hrz hge;have hG63:G≤9223372036854775807:=by
  have:=grownCap_le_maxLen w (n+1) c 79 (by unfold maxLen;omega);rw[←hG]at this;unfold maxLen at this;omega
 obtain ⟨R,hR⟩:∃R:List Value,R=L.take (i*6)++((Builtin.zeroCells z0.cells (n+1-i)).toList++(Builtin.zeroCells z0.cells (G-(n+1))).toList):=⟨_,rfl⟩
 have hRl:R.length=G*6:=by
  rw[hR];simp only[yaI,yaC,size_zeroCells,hzs,hTl];rw[←yaB,←yaB];congr 1;omega
 have hRt:R.take (i*6)=L.take (i*6):=by rw[hR,List.take_append_of_le_length (by omega),ybn (by omega)]
 have hRe:(L.take (i*6)).toArray++Builtin.zeroCells z0.cells (n+1-i)++Builtin.zeroCells z0.cells (G-(n+1))=R.toArray:=by
  rw[hR];apply Array.ext';simp
 rw[hRe]at hrz;obtain ⟨C1,hC1⟩:∃C1,C1=(L.drop (i*6)).take ((n-i)*6):=⟨_,rfl⟩
 have hC1l:C1.length=(n-i)*6:=by rw[hC1];simp;omega
 have hGn:(n+1)*6≤R.length:=by rw[hRl];exact yai _ hge
 obtain ⟨M1,hM1⟩:∃M1,M1=Go.splice R (i*6) vs:=⟨_,rfl⟩
 have hM1l:M1.length=R.length:=by rw[hM1];exact length_splice _ _ _ (by omega)
 rw[←hC1];obtain ⟨gb,hgb⟩:∃gb,gb=w.heap.size:=⟨_,rfl⟩
 have hnew:∀W:World,W.heap=w.heap.push (.cells R.toArray 79)→W.heap[gb]?=some (.cells R.toArray 79 (0,0)):=fun W hW=>by rw[hW,hgb];simp
 have hpast:∀W:World,W.heap=w.heap.push (.cells R.toArray 79)→∀k,k<w.heap.size→W.heap[k]?=w.heap[k]?:=fun W hW k hk=>by rw[hW,ya1 hk];simp[hk]
 have hcpA:∀(W:World),W.heap=w.heap.push (.cells R.toArray 79)→∀ty dc,(Builtin.copy_ #[24,24] ty #[.slice (some ⟨gb,i*6,none⟩) (n+1-i) dc,.slice (some ⟨vb,vo,none⟩) 1 vc]).run Tryz.prog W=.ok (goInt 1) (W.setRow gb M1.toArray):=fun W hW ty dc=>by
  have hmin:Nat.min 1 (n+1-i)=1:=by show min _ _=_;omega
  have:=f9 (P:=Tryz.prog) (w:=W) (sT:=24) (ty:=ty) (dCap:=dc) (sCap:=vc) (dLen:=n+1-i) (sLen:=1) (o:=i*6) (a:=⟨vb,vo,none⟩) Tryz.underlying24 hi0 hsz (g:=gb) (t:=79) (L:=R) (hnew W hW) (cs:=vs) (by rw[hmin];omega)
   (fun j v hj=>by
    rw[Addr.add_lit];unfold World.cell?;rw[show W.heap[(⟨vb,vo+j,none⟩:Addr).block]?=w.heap[vb]? from hpast W hW vb hvw];exact hvs j v hj) (by omega) h2
  rw[hmin,←hM1]at this;exact this
 have hcpB:∀(W W0:World),W0.heap=w.heap.push (.cells R.toArray 79)→W.heap=(W0.setRow gb M1.toArray).heap→∀ty dc sc,(Builtin.copy_ #[24,24] ty #[.slice (some ⟨gb,(i+1)*6,none⟩) (n-i) dc,.slice (some ⟨b,i*6,none⟩) (n-i) sc]).run Tryz.prog W=.ok (goInt ((n-i:Nat):Int)) (W.setRow gb (Go.splice M1 ((i+1)*6) C1).toArray):=fun W W0 hW0 hW ty dc sc=>by
  have hmin:Nat.min (n-i) (n-i)=n-i:=by show min _ _=_;omega
  have:=f9 (P:=Tryz.prog) (w:=W) (sT:=24) (ty:=ty) (dCap:=dc) (sCap:=sc) (dLen:=n-i) (sLen:=n-i) (o:=(i+1)*6) (a:=⟨b,i*6,none⟩) Tryz.underlying24 hi0 hsz (g:=gb) (t:=79) (L:=M1) (by rw[hW];exact setRow_heap _ _ _ _ _ _ (hnew W0 hW0)) (cs:=C1) (by rw[hmin];exact hC1l)
   (fun j v hj=>by
    rw[Addr.add_lit];unfold World.cell?;have e:W.heap[(⟨b,i*6+j,none⟩:Addr).block]?=w.heap[b]?:=by
     show W.heap[b]?=_
     rw[hW,setRow_other _ _ _ _ (by omega),hpast W0 hW0 b hbw]
    rw[e,hb];rw[hC1,yao]at hj;split at hj
    ·simpa using hj
    ·cases hj) (by omega) (by rw[hC1];exact h1)
  rw[hmin]at this;exact this
 have hw1:IntKind.i64.wrap ((i:Int)+1)=(i:Int)+1:=by rw[IntKind.wrap_i64];omega
 have hb1:(0:Int)≤(i:Int)+1:=by omega
 have hin:i≤n:=by omega
 have htn:((i:Int)+1).toNat=i+1:=by omega
 have hb3:(i:Int)≤(n:Int):=by omega
 have hGi:¬(G=i):=by omega
 have hGim:¬(G=i+1):=by omega
 have hci:¬(c=i):=by omega
 have hmixed:Tryz.prog.follows .mixedOrders=true:=kr;have mixed:=hmixed;have hfin:∀W W0:World,W0.heap=w.heap.push (.cells R.toArray 79)→W.heap=(W0.setRow gb M1.toArray).heap→(W.setRow gb (Go.splice M1 ((i+1)*6) C1).toArray).heap=w.heap.push (.cells (Go.splice M1 ((i+1)*6) C1).toArray 79):=fun W W0 hW0 hW=>by
  have h1:W.heap[gb]?=some (.cells M1.toArray 79 (0,0)):=by rw[hW];exact setRow_heap _ _ _ _ _ _ (hnew W0 hW0)
  have hsz0:W.heap.size=w.heap.size+1:=by rw[hW,setRow_size,hW0];simp
  apply Array.ext_getElem?;intro k;by_cases hk:k=gb
  ·subst hk;rw[setRow_heap _ _ _ _ _ _ h1,hgb];simp
  ·rw[setRow_other _ _ _ _ hk];by_cases hk2:k<w.heap.size
   ·rw[hW,setRow_other _ _ _ _ hk,hpast W0 hW0 k hk2,ya1 hk2];simp[hk2]
   ·rw[yaP (by omega),yaP (by simp;omega)]
 have hMM:Go.splice (Go.splice R (i*6) vs) ((i+1)*6) C1=Go.splice M1 ((i+1)*6) C1:=by rw[hM1]
 subst hgb;have hcpA':=hcpA ((w.alloc (.cells R.toArray 79)).drew) rfl;clear hkk hcpA hik hold hG hR hRe hC1 hM1 hC1l hM1l h1 h2 hvs hL hTl
 go_enter Tryz.func201,Tryz.ntmps201
 go_wp2_with (at_builtin;refine g5 rfl _ _ _ _ rfl _ _ rfl rfl (hrz _) ?_)
 go_region_law_o (refine o6 rfl _ _ 24 24 rfl (.slice (some ⟨w.heap.size,(i+1)*6,none⟩) (n-i) (G-(i+1))) (.slice (some ⟨b,i*6,none⟩) (n-i) (c-i)) (by simp[Act.eval,Act.put]) (by simp[Act.eval,Act.put]) (hcpB (((w.alloc (.cells R.toArray 79)).drew.setRow w.heap.size M1.toArray).drew) (w.drew.alloc (.cells R.toArray 79)) rfl rfl 3 (G-(i+1)) (c-i)) ?_)
 go_wp2
 go_ret
 refine ⟨G,R,rfl,hge,hRl,hRt,?_,rfl,rfl,rfl⟩;rw[hMM];exact hfin _ (w.drew.alloc (.cells R.toArray 79)) rfl rfl
end
section
theorem y0:∃i0 z,Tryz.prog.info? 77=some i0∧i0.zero=some z∧z.cells.size=6∧i0.size=6∧i0.bytes≤128:=by
 have h:(match Tryz.prog.info? 77 with|some i=>(match i.zero with|some z=>Nat.beq z.cells.size 6&&Nat.beq i.size 6&&Nat.ble i.bytes 128|none=>false)|none=>false)=true:=kr;split at h
 ·rename_i i hi;split at h
  ·rename_i z hz;simp only[yab]at h;exact ⟨i,z,hi,hz,yaQ h.1.1,yaQ h.1.2,yax h.2⟩
  ·cases h
 ·cases h
set_option maxHeartbeats 4000000 in
set_option maxRecDepth 100000 in
theorem a17 {w:World} {b n c i vb vo vc:Nat} {L vs:List Value} {t:TypeId} (hi:i<n) (hroom:n+1≤c) (hlim:n+1≤1073741824) (hvb:vb≠b)
 (hb:w.heap[b]?=some (.cells L.toArray t (0,0))) (hL:L.length=c*6) (hvl:vs.length=6)
 (hvs:∀j v,vs[j]?=some v→w.cell? ⟨vb,vo+j,none⟩=some v) (h1:∀v∈(L.drop (i*6)).take ((n-i)*6),v.oneCell'=true) (h2:∀v∈vs,v.oneCell'=true) :
 Calls Tryz.prog 249 #[.slice (some ⟨b,0,none⟩) n c,.int .i64 i,.slice (some ⟨vb,vo,none⟩) 1 vc] w fun e w'=>
  e=.returned (.slice (some ⟨b,0,none⟩) (n+1) c)∧w'=(w.drew.setRow b (Go.splice L ((i+1)*6) ((L.drop (i*6)).take ((n-i)*6))).toArray).setRow b (Go.splice (Go.splice L ((i+1)*6) ((L.drop (i*6)).take ((n-i)*6))) (i*6) vs).toArray:=by
 obtain ⟨i0,z0,hi0,hz0,hzs,hsz,hby⟩:=y0;have hz2:¬((i:Int)=(n:Int)):=by omega
 have hva:∃va ta fa,w.heap[vb]?=some (.cells va ta fa)∧0<va.size:=by
  have h:=hvs 0 _ (yaa (by omega));unfold World.cell? at h;split at h
  ·rename_i c0 t0 f0 hc0;exact ⟨c0,t0,f0,hc0,by have:=(yac.1 h).1;omega⟩
  ·cases h
 obtain ⟨va,ta,fa,hva,hva0⟩:=hva;have hov:∀lb cb,(callFunc 284 #[.slice (some ⟨vb,vo,none⟩) 1 vc,.slice (some ⟨b,(i+1)*6,none⟩) lb cb]).run Tryz.prog w=.ok (.value (.bool false)) w:=fun lb cb=>by
  rw[run_callFunc_extern Tryz.func284 kr kr kr (e:=Extern.SlicesOverlaps.overlaps #[23,23] #[4]) kr,
   s5 Tryz.underlying23 hi0 (a:=⟨vb,vo,none⟩) (b:=⟨b,(i+1)*6,none⟩) hvb hva hva0 hb (by simp only[ya2];omega)]
  rfl
 have hLn:(n+1)*6≤L.length:=by rw[hL];exact yai _ hroom
 obtain ⟨C1,hC1⟩:∃C1,C1=(L.drop (i*6)).take ((n-i)*6):=⟨_,rfl⟩
 have hC1l:C1.length=(n-i)*6:=by rw[hC1];simp;omega
 obtain ⟨M1,hM1⟩:∃M1,M1=Go.splice L ((i+1)*6) C1:=⟨_,rfl⟩
 have hM1l:M1.length=L.length:=by rw[hM1];exact length_splice _ _ _ (by omega)
 rw[←hC1,←hM1];have hcp1:∀ty dc sc,(Builtin.copy_ #[23,23] ty #[.slice (some ⟨b,(i+1)*6,none⟩) (n-i) dc,.slice (some ⟨b,i*6,none⟩) (n+1-i) sc]).run Tryz.prog w.drew=.ok (goInt ((n-i:Nat):Int)) (w.drew.setRow b M1.toArray):=fun ty dc sc=>by
  have hmin:Nat.min (n+1-i) (n-i)=n-i:=by show min _ _=_;omega
  have:=f9 (P:=Tryz.prog) (w:=w.drew) (sT:=23) (ty:=ty) (dCap:=dc) (sCap:=sc) (dLen:=n-i) (sLen:=n+1-i) (o:=(i+1)*6) (a:=⟨b,i*6,none⟩) Tryz.underlying23 hi0 hsz hb (cs:=C1) (by rw[hmin];exact hC1l)
   (fun j v hj=>by
    rw[Addr.add_lit];show w.cell? _=_
    simp only[World.cell?,hb];rw[hC1,yao]at hj;split at hj
    ·simpa using hj
    ·cases hj) (by omega) (by rw[hC1];exact h1)
  rw[hmin,←hM1]at this;exact this
 have hcp2:∀(W:World),W=(w.drew.setRow b M1.toArray)→∀ty dc,(Builtin.copy_ #[23,23] ty #[.slice (some ⟨b,i*6,none⟩) (n+1-i) dc,.slice (some ⟨vb,vo,none⟩) 1 vc]).run Tryz.prog W=.ok (goInt 1) (W.setRow b (Go.splice M1 (i*6) vs).toArray):=fun W hW ty dc=>by
  have hmin:Nat.min 1 (n+1-i)=1:=by show min _ _=_;omega
  have:=f9 (P:=Tryz.prog) (w:=W) (sT:=23) (ty:=ty) (dCap:=dc) (sCap:=vc) (dLen:=n+1-i) (sLen:=1) (o:=i*6) (a:=⟨vb,vo,none⟩) Tryz.underlying23 hi0 hsz (g:=b) (t:=t) (L:=M1) (by rw[hW];exact setRow_heap _ _ _ _ _ _ hb) (cs:=vs) (by rw[hmin];omega)
   (fun j v hj=>by
    rw[Addr.add_lit,hW,cell_setRow_other _ _ _ _ hvb];exact hvs j v hj) (by omega) h2
  rw[hmin]at this;exact this
 have hw1:IntKind.i64.wrap ((i:Int)+1)=(i:Int)+1:=by rw[IntKind.wrap_i64];omega
 have hb1:(0:Int)≤(i:Int)+1:=by omega
 have hin:i≤n:=by omega
 have htn:((i:Int)+1).toNat=i+1:=by omega
 have hb2:¬(c=i+1):=by omega
 have hb3:(i:Int)≤(n:Int)+1:=by omega
 have hb4:¬(c=i):=by omega
 have mixed:Tryz.prog.follows .mixedOrders=true:=kr;clear hC1 hM1 hC1l hM1l h1 h2 hvs hL
 go_enter Tryz.func249,Tryz.ntmps249
 go_wp2_with (simp only[hov])
 go_region_law_o (refine o6 rfl _ _ 23 23 rfl _ _ (by simp[Act.eval,Act.put]) (by simp[Act.eval,Act.put]) (hcp1 _ _ _) ?_)
 go_wp2_with (at_builtin;refine a3t rfl _ _ 23 23 rfl _ _ rfl rfl (hcp2 _ rfl _ _) ?_)
 go_ret
 exact ⟨rfl,rfl⟩
theorem a1y {i0:TypeInfo} {k c:Nat} (h:c<k) (hk:k≤1073741824) (hby:i0.bytes≤128):Builtin.nextslicecap k c*i0.bytes≤281474976710656:=
 growslice_fits h (yaN (ybm hk hby) (by decide))
set_option maxHeartbeats 4000000 in
set_option maxRecDepth 100000 in
theorem a25 {w:World} {b n c vb vo vc:Nat} {L vs:List Value} {t:TypeId} (hroom:n+1≤c) (hlim:n+1≤1073741824)
 (hb:w.heap[b]?=some (.cells L.toArray t (0,0))) (hL:L.length=c*6) (hvl:vs.length=6)
 (hvs:∀j v,vs[j]?=some v→w.cell? ⟨vb,vo+j,none⟩=some v) (h2:∀v∈vs,v.oneCell'=true) :
 Calls Tryz.prog 249 #[.slice (some ⟨b,0,none⟩) n c,.int .i64 n,.slice (some ⟨vb,vo,none⟩) 1 vc] w fun e w'=>
  e=.returned (.slice (some ⟨b,0,none⟩) (n+1) c)∧w'=w.setRow b (Go.splice L (n*6) vs).toArray:=by
 obtain ⟨i0,z0,hi0,hz0,hzs,hsz,hby⟩:=y0;have hLn:(n+1)*6≤L.length:=by rw[hL];exact yai _ hroom
 have hf:=run_firstCells_some (P:=Tryz.prog) w i0.size 1 ⟨vb,vo,none⟩ 1 vc vs (by omega) (fun j v hj=>by rw[Addr.add_lit];exact hvs j v hj);have hap:∀ty,(Builtin.append_ #[23,23] ty #[.slice (some ⟨b,0,none⟩) n c,.slice (some ⟨vb,vo,none⟩) 1 vc]).run Tryz.prog w=.ok (.slice (some ⟨b,0,none⟩) (n+1) c) (w.setRow b (Go.splice L (n*6) vs).toArray):=fun ty=>by
  have:=k9 (P:=Tryz.prog) (w:=w) (ty:=ty) (ts:=#[23,23]) rfl rfl Tryz.underlying23 Tryz.underlying23 hi0 hf hroom hb (by simp only[ya2];rw[hsz];omega) h2;rw[hsz]at this;simpa[Go.splice]using this
 go_enter Tryz.func249,Tryz.ntmps249
 go_wp2_with (at_builtin;refine g5 rfl _ _ _ _ rfl _ _ rfl rfl (hap _) ?_)
 all_goals (go_ret;exact ⟨rfl,rfl⟩)
set_option maxHeartbeats 4000000 in
set_option maxRecDepth 100000 in
theorem a30 {w:World} {base:Option Addr} {n c vb vo vc:Nat} {olds vs:List Value} (hnc:n≤c) (hroom:c<n+1) (hlim:n+1≤1073741824) (hvl:vs.length=6)
 (hnil:base=none→n=0) (hol:olds.length=n*6) (hos:∀a,base=some a→∀j v,olds[j]?=some v→w.cell? (a.add j)=some v)
 (hvs:∀j v,vs[j]?=some v→w.cell? ⟨vb,vo+j,none⟩=some v) :
 Calls Tryz.prog 249 #[.slice base n c,.int .i64 n,.slice (some ⟨vb,vo,none⟩) 1 vc] w fun e w'=>
  ∃cap zs,e=.returned (.slice (some ⟨w.heap.size,0,none⟩) (n+1) cap)∧w'=w.drew.alloc (.cells (olds++(vs++zs)).toArray 77)∧n+1≤cap∧zs.length=(cap-(n+1))*6:=by
 obtain ⟨i0,z0,hi0,hz0,hzs,hsz,hby⟩:=y0;have hf:=run_firstCells_some (P:=Tryz.prog) w.drew i0.size 1 ⟨vb,vo,none⟩ 1 vc vs (by omega) (fun j v hj=>by rw[Addr.add_lit];exact hvs j v hj);have hold:(Builtin.firstCells i0.size n (.slice base n c)).run Tryz.prog w.drew=.ok olds.toArray w.drew:=by
  cases base with
  |none=>
   have h0:=hnil rfl;subst h0;rw[yaV.1 (by omega:olds.length=0)];exact run_firstCells_none w.drew _ 0 0 c
  |some a=>exact run_firstCells_some w.drew _ n a n c olds (by rw[hsz];omega) (fun j v hj=>hos a rfl j v hj)
 have hap:∀ty,(Builtin.append_ #[23,23] ty #[.slice base n c,.slice (some ⟨vb,vo,none⟩) 1 vc]).run Tryz.prog w=_:=fun ty=>
  l4 (P:=Tryz.prog) (w:=w) (ty:=ty) (ts:=#[23,23]) rfl rfl Tryz.underlying23 Tryz.underlying23 hi0 hz0 hf hold hroom (by omega) (a1y hroom hlim hby)
 have hge:=j9 w (n+1) c 77;obtain ⟨G,hG⟩:∃G,G=grownCap w (n+1) c 77:=⟨_,rfl⟩
 obtain ⟨zs,hzs'⟩:∃zs,zs=(Builtin.zeroCells z0.cells (G-(n+1))).toList:=⟨_,rfl⟩
 rw[←hG]at hap hge;rw[←hzs']at hap;have hzl:zs.length=(G-(n+1))*6:=by rw[hzs',yaC,size_zeroCells,hzs]
 clear hG hzs'
 go_enter Tryz.func249,Tryz.ntmps249
 cases base with
 |none=>
  have h0:=hnil rfl;subst h0
  go_wp2_with (at_builtin;refine g5 rfl _ _ _ _ rfl _ _ rfl rfl (hap _) ?_)
  all_goals (go_ret;first|exact ⟨_,_,rfl,rfl,hge,hzl⟩|exact ⟨_,rfl,_,rfl,hge,hzl⟩)
 |some a=>
  obtain ⟨ab,ao,asp⟩:=a
  go_wp2_with (at_builtin;refine g5 rfl _ _ _ _ rfl _ _ rfl rfl (hap _) ?_)
  all_goals (go_ret;first|exact ⟨_,_,rfl,rfl,hge,hzl⟩|exact ⟨_,rfl,_,rfl,hge,hzl⟩)
set_option maxHeartbeats 4000000 in
set_option maxRecDepth 100000 in
theorem a24 {w:World} {b n c i vb vo vc:Nat} {L vs:List Value} {t:TypeId} (hi:i<n) (hnc:n≤c) (hroom:c<n+1) (hlim:n+1≤1073741824) (hvb:vb≠b)
 (hb:w.heap[b]?=some (.cells L.toArray t (0,0))) (hL:L.length=c*6) (hvl:vs.length=6)
 (hvs:∀j v,vs[j]?=some v→w.cell? ⟨vb,vo+j,none⟩=some v) (h1:∀v∈(L.drop (i*6)).take ((n-i)*6),v.oneCell'=true) (h2:∀v∈vs,v.oneCell'=true) :
 Calls Tryz.prog 249 #[.slice (some ⟨b,0,none⟩) n c,.int .i64 i,.slice (some ⟨vb,vo,none⟩) 1 vc] w fun e w'=>
  ∃cap row,e=.returned (.slice (some ⟨w.heap.size,0,none⟩) (n+1) cap)∧n+1≤cap∧row.length=cap*6∧row.take (i*6)=L.take (i*6)∧
   w'.heap=(w.heap.push (.cells (Go.splice (Go.splice row (i*6) vs) ((i+1)*6) ((L.drop (i*6)).take ((n-i)*6))).toArray 77))∧w'.os=w.os∧w'.output=w.output∧w'.tape=w.tape:=by
 obtain ⟨i0,z0,hi0,hz0,hzs,hsz,hby⟩:=y0;have hz2:¬((i:Int)=(n:Int)):=by omega
 have hz3:(c:Int)<(n:Int)+1:=by omega
 have hLn:n*6≤L.length:=by rw[hL];exact yai _ hnc
 have hbw:b<w.heap.size:=(yac.1 hb).1;have hvw:vb<w.heap.size:=by
  have h:=hvs 0 _ (yaa (by omega));unfold World.cell? at h;split at h
  ·rename_i c0 t0 f0 hc0;exact (yac.1 hc0).1
  ·cases h
 have hkk:(n:Int)+1-(i:Int)=((n+1-i:Nat):Int):=by omega
 have hik:i+(n+1-i)=n+1:=by omega
 have hTl:(L.take (i*6)).length=i*6:=by simp;omega
 have hold:(Builtin.firstCells i0.size i (.slice (some ⟨b,0,none⟩) i c)).run Tryz.prog w.drew=.ok (L.take (i*6)).toArray w.drew:=by
  refine run_firstCells_some w.drew _ i ⟨b,0,none⟩ i c (L.take (i*6)) (by rw[hsz];exact hTl) (fun j v hj=>?_);rw[Addr.add_lit,yaD];show w.cell? _=_
  simp only[World.cell?,hb];rw[yao]at hj;split at hj
  ·simpa using hj
  ·cases hj
 have hrz:∀ty,(Builtin.append_ #[23,3] ty #[.slice (some ⟨b,0,none⟩) i c,.int .i64 ((n:Int)+1-(i:Int))]).run Tryz.prog w =
  .ok (.slice (some ⟨w.heap.size,0,none⟩) (n+1) (grownCap w (n+1) c 77)) (w.drew.alloc (.cells ((L.take (i*6)).toArray++Builtin.zeroCells z0.cells (n+1-i)++Builtin.zeroCells z0.cells (grownCap w (n+1) c 77-(n+1))) 77)):=fun ty=>by
  have h:=Lib.run_append_grow_zeros w 23 3 ty 77 i0 _ .i64 .i64 Tryz.underlying23 Tryz.underlying3 hi0 hz0 (some ⟨b,0,none⟩) i c _ hold (n+1-i) (by omega) (by omega) (by omega) (by omega)
   (yaN (ybm (show n+1-i≤1073741824 by omega) hby) (by decide)) (by rw[hik];exact a1y hroom hlim hby)
  rw[hik]at h;rw[hkk];exact h
 have hge:=j9 w (n+1) c 77;obtain ⟨G,hG⟩:∃G,G=grownCap w (n+1) c 77:=⟨_,rfl⟩
 rw[←hG]at hrz hge;have hG63:G≤9223372036854775807:=by
  have:=grownCap_le_maxLen w (n+1) c 77 (by unfold maxLen;omega);rw[←hG]at this;unfold maxLen at this;omega
 obtain ⟨R,hR⟩:∃R:List Value,R=L.take (i*6)++((Builtin.zeroCells z0.cells (n+1-i)).toList++(Builtin.zeroCells z0.cells (G-(n+1))).toList):=⟨_,rfl⟩
 have hRl:R.length=G*6:=by
  rw[hR];simp only[yaI,yaC,size_zeroCells,hzs,hTl];rw[←yaB,←yaB];congr 1;omega
 have hRt:R.take (i*6)=L.take (i*6):=by rw[hR,List.take_append_of_le_length (by omega),ybn (by omega)]
 have hRe:(L.take (i*6)).toArray++Builtin.zeroCells z0.cells (n+1-i)++Builtin.zeroCells z0.cells (G-(n+1))=R.toArray:=by
  rw[hR];apply Array.ext';simp
 rw[hRe]at hrz;obtain ⟨C1,hC1⟩:∃C1,C1=(L.drop (i*6)).take ((n-i)*6):=⟨_,rfl⟩
 have hC1l:C1.length=(n-i)*6:=by rw[hC1];simp;omega
 have hGn:(n+1)*6≤R.length:=by rw[hRl];exact yai _ hge
 obtain ⟨M1,hM1⟩:∃M1,M1=Go.splice R (i*6) vs:=⟨_,rfl⟩
 have hM1l:M1.length=R.length:=by rw[hM1];exact length_splice _ _ _ (by omega)
 rw[←hC1];obtain ⟨gb,hgb⟩:∃gb,gb=w.heap.size:=⟨_,rfl⟩
 have hnew:∀W:World,W.heap=w.heap.push (.cells R.toArray 77)→W.heap[gb]?=some (.cells R.toArray 77 (0,0)):=fun W hW=>by rw[hW,hgb];simp
 have hpast:∀W:World,W.heap=w.heap.push (.cells R.toArray 77)→∀k,k<w.heap.size→W.heap[k]?=w.heap[k]?:=fun W hW k hk=>by rw[hW,ya1 hk];simp[hk]
 have hcpA:∀(W:World),W.heap=w.heap.push (.cells R.toArray 77)→∀ty dc,(Builtin.copy_ #[23,23] ty #[.slice (some ⟨gb,i*6,none⟩) (n+1-i) dc,.slice (some ⟨vb,vo,none⟩) 1 vc]).run Tryz.prog W=.ok (goInt 1) (W.setRow gb M1.toArray):=fun W hW ty dc=>by
  have hmin:Nat.min 1 (n+1-i)=1:=by show min _ _=_;omega
  have:=f9 (P:=Tryz.prog) (w:=W) (sT:=23) (ty:=ty) (dCap:=dc) (sCap:=vc) (dLen:=n+1-i) (sLen:=1) (o:=i*6) (a:=⟨vb,vo,none⟩) Tryz.underlying23 hi0 hsz (g:=gb) (t:=77) (L:=R) (hnew W hW) (cs:=vs) (by rw[hmin];omega)
   (fun j v hj=>by
    rw[Addr.add_lit];unfold World.cell?;rw[show W.heap[(⟨vb,vo+j,none⟩:Addr).block]?=w.heap[vb]? from hpast W hW vb hvw];exact hvs j v hj) (by omega) h2
  rw[hmin,←hM1]at this;exact this
 have hcpB:∀(W W0:World),W0.heap=w.heap.push (.cells R.toArray 77)→W.heap=(W0.setRow gb M1.toArray).heap→∀ty dc sc,(Builtin.copy_ #[23,23] ty #[.slice (some ⟨gb,(i+1)*6,none⟩) (n-i) dc,.slice (some ⟨b,i*6,none⟩) (n-i) sc]).run Tryz.prog W=.ok (goInt ((n-i:Nat):Int)) (W.setRow gb (Go.splice M1 ((i+1)*6) C1).toArray):=fun W W0 hW0 hW ty dc sc=>by
  have hmin:Nat.min (n-i) (n-i)=n-i:=by show min _ _=_;omega
  have:=f9 (P:=Tryz.prog) (w:=W) (sT:=23) (ty:=ty) (dCap:=dc) (sCap:=sc) (dLen:=n-i) (sLen:=n-i) (o:=(i+1)*6) (a:=⟨b,i*6,none⟩) Tryz.underlying23 hi0 hsz (g:=gb) (t:=77) (L:=M1) (by rw[hW];exact setRow_heap _ _ _ _ _ _ (hnew W0 hW0)) (cs:=C1) (by rw[hmin];exact hC1l)
   (fun j v hj=>by
    rw[Addr.add_lit];unfold World.cell?;have e:W.heap[(⟨b,i*6+j,none⟩:Addr).block]?=w.heap[b]?:=by
     show W.heap[b]?=_
     rw[hW,setRow_other _ _ _ _ (by omega),hpast W0 hW0 b hbw]
    rw[e,hb];rw[hC1,yao]at hj;split at hj
    ·simpa using hj
    ·cases hj) (by omega) (by rw[hC1];exact h1)
  rw[hmin]at this;exact this
 have hw1:IntKind.i64.wrap ((i:Int)+1)=(i:Int)+1:=by rw[IntKind.wrap_i64];omega
 have hb1:(0:Int)≤(i:Int)+1:=by omega
 have hin:i≤n:=by omega
 have htn:((i:Int)+1).toNat=i+1:=by omega
 have hb3:(i:Int)≤(n:Int):=by omega
 have hGi:¬(G=i):=by omega
 have hGim:¬(G=i+1):=by omega
 have hci:¬(c=i):=by omega
 have hmixed:Tryz.prog.follows .mixedOrders=true:=kr;have mixed:=hmixed;have hfin:∀W W0:World,W0.heap=w.heap.push (.cells R.toArray 77)→W.heap=(W0.setRow gb M1.toArray).heap→(W.setRow gb (Go.splice M1 ((i+1)*6) C1).toArray).heap=w.heap.push (.cells (Go.splice M1 ((i+1)*6) C1).toArray 77):=fun W W0 hW0 hW=>by
  have h1:W.heap[gb]?=some (.cells M1.toArray 77 (0,0)):=by rw[hW];exact setRow_heap _ _ _ _ _ _ (hnew W0 hW0)
  have hsz0:W.heap.size=w.heap.size+1:=by rw[hW,setRow_size,hW0];simp
  apply Array.ext_getElem?;intro k;by_cases hk:k=gb
  ·subst hk;rw[setRow_heap _ _ _ _ _ _ h1,hgb];simp
  ·rw[setRow_other _ _ _ _ hk];by_cases hk2:k<w.heap.size
   ·rw[hW,setRow_other _ _ _ _ hk,hpast W0 hW0 k hk2,ya1 hk2];simp[hk2]
   ·rw[yaP (by omega),yaP (by simp;omega)]
 have hMM:Go.splice (Go.splice R (i*6) vs) ((i+1)*6) C1=Go.splice M1 ((i+1)*6) C1:=by rw[hM1]
 subst hgb;have hcpA':=hcpA ((w.alloc (.cells R.toArray 77)).drew) rfl;clear hkk hcpA hik hold hG hR hRe hC1 hM1 hC1l hM1l h1 h2 hvs hL hTl
 go_enter Tryz.func249,Tryz.ntmps249
 go_wp2_with (at_builtin;refine g5 rfl _ _ _ _ rfl _ _ rfl rfl (hrz _) ?_)
 go_region_law_o (refine o6 rfl _ _ 23 23 rfl (.slice (some ⟨w.heap.size,(i+1)*6,none⟩) (n-i) (G-(i+1))) (.slice (some ⟨b,i*6,none⟩) (n-i) (c-i)) (by simp[Act.eval,Act.put]) (by simp[Act.eval,Act.put]) (hcpB (((w.alloc (.cells R.toArray 77)).drew.setRow w.heap.size M1.toArray).drew) (w.drew.alloc (.cells R.toArray 77)) rfl rfl 3 (G-(i+1)) (c-i)) ?_)
 go_wp2
 go_ret
 refine ⟨G,R,rfl,hge,hRl,hRt,?_,rfl,rfl,rfl⟩;rw[hMM];exact hfin _ (w.drew.alloc (.cells R.toArray 77)) rfl rfl
end
section
theorem a9y:∃i0 z,Tryz.prog.info? 79=some i0∧i0.zero=some z∧z.cells.size=6∧i0.size=6∧∀v∈z.cells,v.oneCell'=true:=by
 have h:(match Tryz.prog.info? 79 with|some i=>(match i.zero with|some z=>Nat.beq z.cells.size 6&&Nat.beq i.size 6&&z.cells.toList.all (·.oneCell')|none=>false)|none=>false)=true:=kr;split at h
 ·rename_i i hi;split at h
  ·rename_i z hz;simp only[yab]at h;exact ⟨i,z,hi,hz,yaQ h.1.1,yaQ h.1.2,fun v hv=>yah.1 h.2 v (by simpa using hv)⟩
  ·cases h
 ·cases h
set_option maxHeartbeats 4000000 in
set_option maxRecDepth 100000 in
theorem a41 {w:World} {base:Option Addr} {n c i:Nat} (hnc:n≤c) (hi:i≤n) :
 Calls Tryz.prog 313 #[.slice base n c,.int .i64 i,.int .i64 i] w fun e w'=>e=.returned (.slice base n c)∧w'=w:=by
 cases base with
 |none=>
  go_enter Tryz.func313,Tryz.ntmps313
  go_wp2
  all_goals (go_ret;exact ⟨rfl,rfl⟩)
 |some a=>
  obtain ⟨ab,ao,asp⟩:=a
  go_enter Tryz.func313,Tryz.ntmps313
  go_wp2
  all_goals (go_ret;exact ⟨rfl,rfl⟩)
set_option maxHeartbeats 4000000 in
set_option maxRecDepth 100000 in
theorem a42 {w:World} {b n c i j:Nat} {L:List Value} {t:TypeId} (hij:i<j) (hj:j≤n) (hnc:n≤c)
 (hb:w.heap[b]?=some (.cells L.toArray t (0,0))) (hL:L.length=c*6) (h1:∀v∈(L.drop (j*6)).take ((n-j)*6),v.oneCell'=true) :
 Calls Tryz.prog 313 #[.slice (some ⟨b,0,none⟩) n c,.int .i64 i,.int .i64 j] w fun e w'=>
  e=.returned (.slice (some ⟨b,0,none⟩) (i+(n-j)) c)∧∃(M0:Array Value) (zs:List Value),zs.length=(j-i)*6∧w'=(w.drew.setRow b M0).setRow b (Go.splice (Go.splice L (i*6) ((L.drop (j*6)).take ((n-j)*6))) ((i+(n-j))*6) zs).toArray:=by
 obtain ⟨i0,z0,hi0,hz0,hzs,hsz,hz1⟩:=a9y;have hLn:n*6≤L.length:=by rw[hL];exact yai _ hnc
 obtain ⟨C1,hC1⟩:∃C1,C1=(L.drop (j*6)).take ((n-j)*6):=⟨_,rfl⟩
 have hC1l:C1.length=(n-j)*6:=by rw[hC1];simp;omega
 obtain ⟨M1,hM1⟩:∃M1,M1=Go.splice L (i*6) C1:=⟨_,rfl⟩
 have hM1l:M1.length=L.length:=by rw[hM1];exact length_splice _ _ _ (by omega)
 rw[←hC1,←hM1];obtain ⟨A,hA,hsrc⟩:∃A:Addr,(if c=j then some (⟨b,0,none⟩:Addr) else some ⟨b,j*6,none⟩)=some A∧∀q v,C1[q]?=some v→w.drew.cell? (A.add q)=some v:=by
  by_cases h:c=j
  ·refine ⟨⟨b,0,none⟩,by simp[h],fun q v hq=>?_⟩;have:=(zL hq)
   omega
  ·refine ⟨⟨b,j*6,none⟩,by simp[h],fun q v hq=>?_⟩;rw[Addr.add_lit];show w.cell? _=_
   simp only[World.cell?,hb];rw[hC1,yao]at hq;split at hq
   ·simpa using hq
   ·cases hq
 have hf:∀xc,(Builtin.firstCells i0.size (n-j) (.slice (some A) (n-j) xc)).run Tryz.prog w.drew=.ok C1.toArray w.drew:=fun xc=>run_firstCells_some (P:=Tryz.prog) w.drew i0.size (n-j) A (n-j) xc C1 (by rw[hsz];exact hC1l) hsrc
 have hone:∀v∈C1,v.oneCell'=true:=by rw[hC1];exact h1
 have hap:∀ty xc,(Builtin.append_ #[24,24] ty #[.slice (some ⟨b,0,none⟩) i c,.slice (some A) (n-j) xc]).run Tryz.prog w.drew=.ok (.slice (some ⟨b,0,none⟩) (i+(n-j)) c) (w.drew.setRow b M1.toArray):=fun ty xc=>by
  have:=k9 (P:=Tryz.prog) (w:=w.drew) (ty:=ty) (ts:=#[24,24]) rfl rfl Tryz.underlying24 Tryz.underlying24 hi0 (hf xc) (sLen:=i) (sCap:=c) (by omega) hb (by simp only[ya2];rw[hsz];omega) hone;rw[hsz]at this;rw[hM1];simpa[Go.splice]using this
 obtain ⟨zs,hzs'⟩:∃zs,zs=(Builtin.zeroCells z0.cells (j-i)).toList:=⟨_,rfl⟩
 have hzl:zs.length=(j-i)*6:=by rw[hzs',yaC,Go.size_zeroCells,hzs]
 have hcl:∀ty cc,(Builtin.clear_ #[24] ty #[.slice (some ⟨b,(i+(n-j))*6,none⟩) (n-(i+(n-j))) cc]).run Tryz.prog (w.drew.setRow b M1.toArray)=.ok (.tuple #[]) ((w.drew.setRow b M1.toArray).setRow b (Go.splice M1 ((i+(n-j))*6) zs).toArray):=fun ty cc=>by
  have e:n-(i+(n-j))=j-i:=by omega
  rw[e,hzs'];exact a8g (P:=Tryz.prog) (w:=w.drew.setRow b M1.toArray) Tryz.underlying24 hi0 hz0 (by omega) (setRow_heap _ _ _ _ _ _ hb) (by rw[hzs];omega) hz1
 have hic:i≤c:=by omega
 have hjc:j≤c:=by omega
 have mixed:Tryz.prog.follows .mixedOrders=true:=kr;clear hC1 hM1 hC1l hM1l h1 hL hf hone hzs'
 go_enter Tryz.func313,Tryz.ntmps313
 go_wp2_with fail
 go_region_law_o (refine b0u rfl (.tmp 22) (.tmp 25) 24 24 rfl (.slice (some ⟨b,0,none⟩) i c) (.slice (some A) (n-j) (c-j)) (by simp[Act.eval,Act.put]) (by simp[Act.eval,Act.put]) (hap _ _) ?_)
 go_wp2
 go_ret
 exact ⟨rfl,_,zs,hzl,rfl⟩
end
end Go.Proofs.YteaknldbhmocpaaGreatDoor
namespace Go.Proofs
open Go.Shelf
def Tryz.laysM171_ren:Go.Shelf.Ren:=⟨fun|171=>46|243=>94|246=>158|283=>227|284=>228|285=>229|286=>230|129=>144|317=>276|318=>277|319=>278|320=>279|337=>300|338=>301|n=>n,fun|3=>3|9=>9|2=>2|4=>4|171=>224|0=>0|53=>166|37=>226|5=>5|173=>227|212=>254|51=>164|20=>20|213=>255|46=>110|232=>296|233=>297|n=>n,fun|17=>0|18=>4|19=>5|n=>n⟩
theorem Tryz.laysM171:Go.Proofs.LaysM.n171 Tryz.prog Tryz.laysM171_ren:={
 mixed:=by kernel_rfl
 f129:=Tryz.func144.trans (congrArg some (by kernel_rfl))
 f171:=Tryz.func46.trans (congrArg some (by kernel_rfl))
 f243:=Tryz.func94.trans (congrArg some (by kernel_rfl))
 f246:=Tryz.func158.trans (congrArg some (by kernel_rfl))
 f283:=Tryz.func227.trans (congrArg some (by kernel_rfl))
 f284:=Tryz.func228.trans (congrArg some (by kernel_rfl))
 f285:=Tryz.func229.trans (congrArg some (by kernel_rfl))
 f286:=Tryz.func230.trans (congrArg some (by kernel_rfl))
 f317:=Tryz.func276.trans (congrArg some (by kernel_rfl))
 f318:=Tryz.func277.trans (congrArg some (by kernel_rfl))
 f319:=Tryz.func278.trans (congrArg some (by kernel_rfl))
 f320:=Tryz.func279.trans (congrArg some (by kernel_rfl))
 f337:=Tryz.func300.trans (congrArg some (by kernel_rfl))
 f338:=Tryz.func301.trans (congrArg some (by kernel_rfl))
 t0:=Tryz.underlying0
 a0:=Tryz.isAgg0
 z0:=Tryz.sizeOf0
 v0:=Tryz.zeroValue0
 t2:=Tryz.underlying2
 a2:=Tryz.isAgg2
 z2:=Tryz.sizeOf2
 v2:=Tryz.zeroValue2
 t3:=Tryz.underlying3
 a3:=Tryz.isAgg3
 z3:=Tryz.sizeOf3
 v3:=Tryz.zeroValue3
 t4:=Tryz.underlying4
 a4:=Tryz.isAgg4
 z4:=Tryz.sizeOf4
 v4:=Tryz.zeroValue4
 t5:=Tryz.underlying5
 a5:=Tryz.isAgg5
 z5:=Tryz.sizeOf5
 v5:=Tryz.zeroValue5
 t9:=Tryz.underlying9
 a9:=Tryz.isAgg9
 z9:=Tryz.sizeOf9
 v9:=Tryz.zeroValue9
 t20:=Tryz.underlying20
 a20:=Tryz.isAgg20
 z20:=Tryz.sizeOf20
 v20:=Tryz.zeroValue20
 t37:=Tryz.underlying226
 a37:=Tryz.isAgg226
 z37:=Tryz.sizeOf226
 v37:=Tryz.zeroValue226
 t46:=Tryz.underlying110
 a46:=Tryz.isAgg110
 z46:=Tryz.sizeOf110
 v46:=Tryz.zeroValue110
 t51:=Tryz.underlying164
 a51:=Tryz.isAgg164
 z51:=Tryz.sizeOf164
 v51:=Tryz.zeroValue164
 t53:=Tryz.underlying166
 a53:=Tryz.isAgg166
 z53:=Tryz.sizeOf166
 v53:=Tryz.zeroValue166
 t171:=Tryz.underlying224
 a171:=Tryz.isAgg224
 z171:=Tryz.sizeOf224
 v171:=Tryz.zeroValue224
 t173:=Tryz.underlying227
 a173:=Tryz.isAgg227
 z173:=Tryz.sizeOf227
 v173:=Tryz.zeroValue227
 t212:=Tryz.underlying254
 a212:=Tryz.isAgg254
 z212:=Tryz.sizeOf254
 v212:=Tryz.zeroValue254
 t213:=Tryz.underlying255
 a213:=Tryz.isAgg255
 z213:=Tryz.sizeOf255
 t232:=Tryz.underlying296
 a232:=Tryz.isAgg296
 z232:=Tryz.sizeOf296
 v232:=Tryz.zeroValue296
 t233:=Tryz.underlying297
 a233:=Tryz.isAgg297
 z233:=Tryz.sizeOf297
 v233:=Tryz.zeroValue297
 g17:=by kernel_rfl
 g18:=by kernel_rfl
 g19:=by kernel_rfl
 i0:=by kernel_rfl
 i2:=by kernel_rfl
 i3:=by kernel_rfl
 i4:=by kernel_rfl
 i5:=by kernel_rfl
 i9:=by kernel_rfl
 i20:=by kernel_rfl
 i37:=by kernel_rfl
 i46:=by kernel_rfl
 i51:=by kernel_rfl
 i53:=by kernel_rfl
 i171:=by kernel_rfl
 i173:=by kernel_rfl
 i212:=by kernel_rfl
 i232:=by kernel_rfl
 i233:=by kernel_rfl
 m17:=by kernel_rfl
 m18:=by kernel_rfl
 m19:=by kernel_rfl}
open Go.RowKit Go.Sort Go.Lib in
theorem Tryz.qf (n:Int) (h0 : -9223372036854775808≤n) (h1:n≤9223372036854775807) (w:World) (htab:Lib.TabIs Tryz.prog w "internal/strconv.uint64pow10" .u64 Lib.pow10Tab) :
 Calls Tryz.prog 46 #[.int .i64 n] w fun e w'=>e=.returned (.string ⟨(Lib.itoa n).toArray⟩)∧∃k os,w'=grow (w.drewN k) os:=Any.strconv_Itoa Tryz.laysM171 n h0 h1 w htab
end Go.Proofs
namespace Go.Proofs.YteaknldbhmocpaaGreatDoor
section
open Go Ev
open Go.Lib Go.RowKit
set_option maxRecDepth 100000
theorem b39:∀(f u:Nat) (a:List UInt8),u<10 ^ f→b14 f u a=if f=0 then a else Lib.decDigits u++a:=by
 intro f
 induction f with
 |zero=>intro u a _;rfl
 |succ f ih=>
  intro u a h;rw[yak (by omega),Lib.decDigits];simp only[b14,a7,yae];by_cases h1:u<10
  ·rw[yar h1,dif_pos h1];rfl
  ·rw[yak h1,dif_neg h1,ih _ _ (by rw[Nat.pow_succ]at h;omega)];have hf:f≠0:=fun e=>by subst e;simp at h;omega
   rw[yak hf,ya6];rfl
theorem b6z {n:Int} {s:List UInt8} (h:qf n=some s):(-9223372036854775808≤n∧n≤9223372036854775807)∧s=Lib.itoa n:=by
 unfold qf at h;rw[a7]at h;split at h
 ·rename_i hr;rw[yab,yae,yae]at hr;cases h
  refine ⟨hr,?_⟩;have hd:b14 20 n.natAbs []=Lib.decDigits n.natAbs:=by
   rw[b39 20 _ _ (by have:(10:Nat) ^ 20=100000000000000000000:=rfl;omega)];simp
  unfold Lib.itoa;rw[hd,a7];by_cases hn:n<0
  ·simp[hn]
  ·simp only[hn,decide_false,ybd,yaT];rw[show n.toNat=n.natAbs by omega]
 ·cases h
theorem b0v {w:World} {I:Nat→Nat→Prop} {mb:List Nat} (h:a3v sg w I) (hb:a9i sg w mb):Lib.TabIs Tryz.prog w "internal/strconv.uint64pow10" .u64 Lib.pow10Tab:=by
 obtain ⟨-,cs,t,m,h1,h2⟩:=hb 0 .ku64 b6 kr kr;unfold Lib.TabIs World.var?;rw[show Tryz.prog.globalNamed "internal/strconv.uint64pow10" = some 0 by kernel_rfl];simp only[ybk,h1];have hlen:b6.length=20:=by simp[b6]
 replace h2:cs.size=b6.length*1:=h2;refine congrArg some (Array.ext ?_ (fun i hi1 hi2=>?_))
 ·rw[h2];simp[hlen,Lib.pow10Tab]
 ·have hl:i<b6.length:=by omega
  obtain ⟨v,k1,-,k3⟩:=h 0 .ku64 b6 kr i hl 0 (.int .u64 b6[i]) rfl;rw[k3.int_inv]at k1;replace k1:w.cell? ⟨0,i*1+0,none⟩=some (.int .u64 b6[i]):=k1;rw[ybt,yaO]at k1;unfold World.cell? at k1;simp only[h1]at k1;have e:cs[i]=.int .u64 b6[i]:=by simpa[hi1]using k1
  rw[e];simp[b6,Lib.pow10Tab]
theorem b6y {w:World} {I J:Nat→Nat→Prop} {vs:Array Value} {n:Int} (ha:a4p sg w I J vs [.int .i64 n]):vs = #[.int .i64 n]:=by
 obtain ⟨h1,h2⟩:=ha;have h1:vs.size=1:=h1;have h0:=h2 0 vs[0] (.int .i64 n) (yaf (by omega)) rfl;apply Array.ext
 ·simp[h1]
 ·intro i hi1 hi2;have:i=0:=by omega
  subst this;simpa using h0.int_inv
theorem c1l:fnB Tryz.prog 46 Tryz.f46 []=true:=kr
theorem b5q:∀ds a r,b3s.dec ds=some a→b9v a=some r→Con Tryz.prog sg 46 ds [] (b46.enc r) []:=by
 intro ds a r hd hf;obtain ⟨code,fok,-,-⟩:=e7 Tryz.func46 c1l;have hac:c6 b3s:=c6.cons (b8.int _) c6.nil;have hw:=hac ds a hd;obtain ⟨n,⟨⟩⟩:=a;unfold Con;rw[show sg.md 46=.data by kernel_rfl];intro _ w I J vs hp ha;have hv:=b6y (n:=n) (hw.args ha);subst hv;obtain ⟨⟨h1,h2⟩,hr⟩:=b6z (n:=n) (s:=r) hf;subst hr;unfold k7;rw[MuLone.run_callFunc_enter fok.at_ fok.name fok.body _ w];refine (Tryz.qf n h1 h2 w (b0v hp.gl hp.gb)).mono ?_;rintro e w' ⟨rfl,k,os,rfl⟩;have hb:=below_grow w.heap.size w (yam _) k os;exact ⟨I,⟨hb.size,hb.os,hb.output,hb.tape,hb.block,fun _ _ h=>h,fun _ _ h=>.inl h,fun b o hi=>yay (hp.ib b o hi) hb.size⟩,.str ⟨(Lib.itoa n).toArray⟩⟩
end
section
set_option maxRecDepth 100000
open Ev
open Go
theorem b9k:fnB Tryz.prog 121 Tryz.f121 []=true:=kr
theorem a93:InsOk Tryz.prog 121 (sg.sz Kd.kItem) 61:=⟨a3y,a49,a6m,a48⟩
theorem b89:∀ds a r,b6a.dec ds=some a→b9z a=some r→Con Tryz.prog sg 121 ds [] (b7t.enc r) []:=by
 intro ds a r hd hf;obtain ⟨code,fok,-,-⟩:=e7 Tryz.func121 b9k;have hac:c6 b6a:=c6.cons (b8.lst _) (c6.cons (b8.int _) (c6.cons (b8.lst _) c6.nil));exact a4y good.sgk fok kr a93 (hac ds a hd) hf
theorem b9q:fnB Tryz.prog 249 Tryz.f249 []=true:=kr
theorem a6l:InsOk Tryz.prog 249 (sg.sz Kd.kPatron) 77:=⟨a17,a25,a30,a24⟩
theorem b87:∀ds a r,b59.dec ds=some a→b9y a=some r→Con Tryz.prog sg 249 ds [] (b7s.enc r) []:=by
 intro ds a r hd hf;obtain ⟨code,fok,-,-⟩:=e7 Tryz.func249 b9q;have hac:c6 b59:=c6.cons (b8.lst _) (c6.cons (b8.int _) (c6.cons (b8.lst _) c6.nil));exact a4y good.sgk fok kr a6l (hac ds a hd) hf
theorem b9o:fnB Tryz.prog 201 Tryz.f201 []=true:=kr
theorem a94:InsOk Tryz.prog 201 (sg.sz Kd.kLoan) 79:=⟨a3z,a5b,a6n,a5a⟩
theorem b85:∀ds a r,b58.dec ds=some a→b9w a=some r→Con Tryz.prog sg 201 ds [] (b47.enc r) []:=by
 intro ds a r hd hf;obtain ⟨code,fok,-,-⟩:=e7 Tryz.func201 b9o;have hac:c6 b58:=c6.cons (b8.lst _) (c6.cons (b8.int _) (c6.cons (b8.lst _) c6.nil));exact a4y good.sgk fok kr a94 (hac ds a hd) hf
theorem b9r:fnB Tryz.prog 313 Tryz.f313 []=true:=kr
theorem a9x:DelOk Tryz.prog 313 (sg.sz Kd.kLoan):=⟨a41,a42⟩
theorem b9f:∀ds a r,b6b.dec ds=some a→b91 a=some r→Con Tryz.prog sg 313 ds [] (c0k.enc r) []:=by
 intro ds a r hd hf;obtain ⟨code,fok,-,-⟩:=e7 Tryz.func313 b9r;have hac:c6 b6b:=c6.cons (b8.lst _) (c6.cons (b8.int _) (c6.cons (b8.int _) c6.nil));exact b37 good.sgk fok kr a9x (hac ds a hd) hf
end
section
open Go Ev
open Go.Lib Go.RowKit
set_option maxRecDepth 100000
theorem a5l {w:World} {I:Nat→Nat→Prop} (h:a3v sg w I):Lib.Utf8Tabs 1 2 w:=by
 constructor
 ·intro c hc;have hl:c<c8.length:=by simp[c8];exact hc
  obtain ⟨v,h1,-,h3⟩:=h 1 .ku8 c8 kr c hl 0 (.int .u8 c8[c]) rfl;rw[h3.int_inv]at h1;have e:c8[c]=(Lib.firstT c:Int):=by simp[c8]
  rw[e]at h1;have h1:w.cell? ⟨1,c*1+0,none⟩=_:=h1;rw[ybt,yaO]at h1;exact h1
 ·intro i hi;have hl:i<c4.length:=by simp[c4];exact hi
  obtain ⟨v,h1,-,h3⟩:=h 2 .kUtf8_acceptRange c4 kr i hl 0 (.int .u8 c4[i].lo) rfl;obtain ⟨v',k1,-,k3⟩:=h 2 .kUtf8_acceptRange c4 kr i hl 1 (.int .u8 c4[i].hi) rfl;rw[h3.int_inv]at h1;rw[k3.int_inv]at k1;have e:c4[i]=⟨(Lib.accLo i:Int),(Lib.accHi i:Int)⟩:=by simp[c4]
  rw[e]at h1 k1;have h1:w.cell? ⟨2,i*2+0,none⟩=_:=h1;have k1:w.cell? ⟨2,i*2+1,none⟩=_:=k1;rw[ybg,yaO]at h1;rw[ybg]at k1;exact ⟨h1,k1⟩
theorem a4f {w w':World} {I:Nat→Nat→Prop} (hi:∀b o,I b o→b<w.heap.size) (h:Below w.heap.size w w'):Grow w w' I I:=
 ⟨h.size,h.os,h.output,h.tape,h.block,fun _ _ h=>h,fun _ _ h=>.inl h,fun b o hb=>yay (hi b o hb) h.size⟩
theorem b3c {w:World} {I J:Nat→Nat→Prop} {vs:Array Value} {l:List UInt8} (ha:a4p sg w I J vs [.str l]):∃b:ByteArray,vs = #[.string b]∧l=b.data.toList:=by
 obtain ⟨h1,h2⟩:=ha;have h1:vs.size=1:=h1;have h0:=h2 0 vs[0] (.str l) (yaf (by omega)) rfl;generalize hv:vs[0]=v at h0;cases h0 with
 |str b=>
  refine ⟨b,?_,rfl⟩;apply Array.ext
  ·simp[h1]
  ·intro i hi1 hi2;have:i=0:=by omega
   subst this;simpa using hv
theorem b9l:fnB Tryz.prog 159 Tryz.f159 [4]=true:=kr
theorem b9e:∀ds a r,b3u.dec ds=some a→b90 a=some r→Con Tryz.prog sg 159 ds [] (c0j.enc r) []:=by
 intro ds a r hd hf;obtain ⟨code,fok,-,-⟩:=e7 Tryz.func159 b9l;have hac:c6 b3u:=c6.cons b8.str c6.nil;have hw:=hac ds a hd;obtain ⟨l,⟨⟩⟩:=a;unfold Con;rw[show sg.md 159=.data by kernel_rfl];intro _ w I J vs hp ha;obtain ⟨b,rfl,rfl⟩:=b3c (l:=l) (hw.args ha);replace hf:(bif decide (b.data.toList.length≤LIM) then some (vld b.data.toList) else none)=some r:=hf;rw[a7]at hf;split at hf
 ·rename_i hle;cases hf
  rw[yae,←Lib.size_eq]at hle;unfold k7;rw[MuLone.run_callFunc_enter fok.at_ fok.name fok.body _ w];refine (b0x b w hle (a5l hp.gl)).mono ?_;rintro e w' ⟨rfl,hb⟩;exact ⟨I,a4f hp.ib hb,.bool _⟩
 ·cases hf
theorem b9p:fnB Tryz.prog 236 Tryz.f236 []=true:=kr
theorem b9g:∀ds a r,b6c.dec ds=some a→b92 a=some r→Con Tryz.prog sg 236 ds [] (c0l.enc r) []:=by
 intro ds a r hd hf;obtain ⟨code,fok,-,-⟩:=e7 Tryz.func236 b9p;have hac:c6 b6c:=c6.cons b8.str c6.nil;have hw:=hac ds a hd;obtain ⟨l,⟨⟩⟩:=a;unfold Con;rw[show sg.md 236=.data by kernel_rfl];intro _ w I J vs hp ha;obtain ⟨b,rfl,rfl⟩:=b3c (l:=l) (hw.args ha);replace hf:(bif decide (b.data.toList.length≤LIM)&&vld b.data.toList then some (cln b.data.toList) else none)=some r:=hf;rw[a7]at hf;split at hf
 ·rename_i hle;cases hf
  rw[yab,yae,←Lib.size_eq]at hle;unfold k7;rw[MuLone.run_callFunc_enter fok.at_ fok.name fok.body _ w];refine (a9u b w hle.1 hle.2).mono ?_;rintro e w' ⟨rfl,hb⟩;exact ⟨I,a4f hp.ib hb,.str ⟨(cln b.data.toList).toArray⟩⟩
 ·cases hf
end
section
set_option maxRecDepth 100000
open Ev
open Go (IntKind)
open Go
theorem b9d:SG Tryz.prog sg 70 @b54:=b8z (loops:=l0) (ids:=[]) good Tryz.func70 kr kr cg0 m8 (fun a=>kr) kr
theorem b9c:SG Tryz.prog sg 122 @b53:=b8z (loops:=l0) (ids:=[]) good Tryz.func122 kr kr cg0 m8 (fun a=>kr) kr
theorem b9a:SG Tryz.prog sg 190 @b51:=b8z (loops:=l0) (ids:=[]) good Tryz.func190 kr kr cg0 m8 (fun a=>kr) kr
theorem b9b:SG Tryz.prog sg 202 @b52:=b8z (loops:=l0) (ids:=[]) good Tryz.func202 kr kr cg0 m8 (fun a=>kr) kr
theorem b88:SG Tryz.prog sg 250 @b50:=b8z (loops:=l0) (ids:=[]) good Tryz.func250 kr kr cg0 m8 (fun a=>kr) kr
def c2c {R:Type}:Nat→Sm R:=cl 35 c0u (cl 46 b5z (cl 70 b54 (cl 121 c0w (cl 122 b53 (cl 159 c0x (cl 190 b51 (cl 201 c0t (cl 202 b52 (cl 236 c0z (cl 249 c0v (cl 250 b50 (cl 313 c0y c0))))))))))))
theorem b6n:CG Tryz.prog sg @c2c:=(cgc (sgP b86) (cgc (sgP b5q) (cgc b9d (cgc (sgP b89) (cgc b9c (cgc (sgP b9e) (cgc b9a (cgc (sgP b85) (cgc b9b (cgc (sgP b9g) (cgc (sgP b87) (cgc b88 (cgc (sgP b9f) cg0)))))))))))))
def c19:List Nat:=[9,12,14,16,19,21,22,29,30,31,32,33,34,40,41,42,48,49,50,51,52,53,64,66,67,68,69,71,72,73,74,75,76,77,78,79,81,85,95,96,97,98,99,100,101,102,103,105,106,116,117,118,119,120,123,124,126,127,128,130,131,134,140,144,149,150,160,161,162,163,164,165,167,171,173,175,176,177,178,187,191,194,195,196,197,198,200,209,211,212,232,233,235,240,241,242,243,244,245,246,247,248,252,256,257,258,259,260,266,267,268,269,289,290,292,294,295,296,306,308,309,310,312,321,323,324]
theorem c1s:b8f Tryz.prog c19=true:=kr
theorem b49:a9r Tryz.prog sg c19 @c2c 40 9 [] [] (fun d bs=>some (d,bs))=some (b0o.enc true,[]):=kr
theorem b84:∀ds a r,b8o.dec ds=some a→b9u a=some r→Con Tryz.prog sg 9 ds [] (b0o.enc r) []:=c2i (rc:=b0o) (r0:=true) good c1s b6n b49
end
section
set_option maxRecDepth 100000
open Ev
open Go (IntKind)
open Go
noncomputable abbrev ZP:=Tryz.prog
theorem b9m:fnB ZP 19 Tryz.f19 [4]=true:=kr
theorem b8s:CG ZP sg @b6j:=(cgc (sgP b5q) cg0)
theorem b69:d3 ZP sg 0 Tryz.f19 @a89 4:=b4y b2i good Tryz.func19 b9m b8s m8 (fun a=>kr) kr (fun _ _=>rfl)
theorem b80:SG ZP sg 19 @b5w:=b8y (loops:=a89) good Tryz.func19 b9m kr b8s (all_cons b69 m8) (fun a=>kr)
theorem b9s:fnB ZP 47 Tryz.f47 [7]=true:=kr
theorem b8u:CG ZP sg @b6l:=cg0
theorem b7b:d3 ZP sg 0 Tryz.f47 @a9b 7:=b4y b2k good Tryz.func47 b9s b8u m8 (fun a=>kr) kr (fun _ _=>rfl)
theorem b82:SG ZP sg 47 @b5x:=b8y (loops:=a9b) good Tryz.func47 b9s kr b8u (all_cons b7b m8) (fun a=>kr)
theorem b9n:fnB ZP 20 Tryz.f20 [3]=true:=kr
theorem b8v:CG ZP sg @b6m:=(cgc b82 cg0)
theorem b7c:d3 ZP sg 0 Tryz.f20 @a9c 3:=b4y b2l good Tryz.func20 b9n b8v m8 (fun a=>kr) kr (fun _ _=>rfl)
theorem b83:SG ZP sg 20 @b5y:=b8y (loops:=a9c) good Tryz.func20 b9n kr b8v (all_cons b7c m8) (fun a=>kr)
theorem c1m:fnB ZP 5 Tryz.f5 [7]=true:=kr
theorem b8t:CG ZP sg @b6k:=(cgc (sgP b84) (cgc b80 (cgc b83 cg0)))
theorem b7a:d3 ZP sg 0 Tryz.f5 @a9a 7:=b4y b2j good Tryz.func5 c1m b8t m8 (fun a=>kr) kr (fun _ _=>rfl)
theorem b81:SG ZP sg 5 @c0r:=b8y (loops:=a9a) good Tryz.func5 c1m kr b8t (all_cons b7a m8) (fun a=>kr)
end
section
open Ev
open Go (IntKind)
section
variable {α β σ X:Type}
theorem a95 {step:α→Option (α⊕β)}:∀{n m:Nat} {a:α} {b:β},n≤m→a1g step n a=some b→a1g step m a=some b:=by
 intro n
 induction n with
 |zero=>intro m a b _ h;cases h
 |succ n ih=>
  intro m a b hm h;obtain ⟨m,rfl⟩:∃k,m=k+1:=⟨m-1,by omega⟩
  simp only[a1g]at h ⊢;cases h1:step a with
  |none=>rw[h1]at h;cases h
  |some x=>
   rw[h1]at h;cases x with
   |inl a'=>exact ih (by omega) h
   |inr b'=>exact h
theorem a66 {step:α→Option (α⊕β)} {a:α} {b:β} (n:Nat) (hn:n≤b3p) (h:a1g step n a=some b):a0i step a=some b:=a95 hn h
def a8h (f:Nat→X→σ→σ⊕β) (fin:σ→β):Nat→List X→σ→β
 |_,[],s=>fin s
 |i,x::l,s=>match f i x s with
  |.inl s'=>a8h f fin (i+1) l s'
  |.inr b=>b
theorem a0j {step:α→Option (α⊕β)} (Inv:Nat→σ→Prop) (enc:Nat→σ→α) (l:List X) (f:Nat→X→σ→σ⊕β) (fin:σ→β) (hl:l.length<b3p)
 (h0:∀s,Inv l.length s→step (enc l.length s)=some (.inr (fin s)))
 (h1:∀i x s,l[i]?=some x→Inv i s→(step (enc i s)=some (match f i x s with | .inl s'=>.inl (enc (i+1) s') | .inr b=>.inr b))∧∀s',f i x s=.inl s'→Inv (i+1) s')
 (s:σ) (hs:Inv 0 s):a0i step (enc 0 s)=some (a8h f fin 0 l s):=by
 have key:∀k i s,i+k=l.length→Inv i s→a1g step (k+1) (enc i s)=some (a8h f fin i (l.drop i) s):=by
  intro k
  induction k with
  |zero=>
   intro i s hi hs;have:i=l.length:=by omega
   subst this;rw[List.drop_length];simp only[a1g,h0 s hs,a8h]
  |succ k ih=>
   intro i s hi hs;have hlt:i<l.length:=by omega
   obtain ⟨e1,e2⟩:=h1 i l[i] s (yaa hlt) hs;rw[List.drop_eq_getElem_cons hlt];rw[a1g,e1];simp only[a8h];cases hf:f i l[i] s with
   |inl s'=>simp only;exact ih (i+1) s' (by omega) (e2 s' hf)
   |inr b=>rfl
 have:=key l.length 0 s (by omega) hs;exact a66 (l.length+1) (by omega) (by simpa using this)
theorem a1v {f:X→σ→σ} {fin:σ→β}:∀{l:List X} {i:Nat} {s:σ},a8h (fun _ x s=>.inl (f x s)) fin i l s=fin (l.foldl (fun s x=>f x s) s):=by
 intro l
 induction l with
 |nil=>intros;rfl
 |cons x l ih=>intro i s;simp only[a8h,List.foldl_cons];exact ih
end
section
variable {α β σ X:Type} {step:α→Option (α⊕β)}
end
theorem b5l {n:Int} (h1 : -9223372036854775808≤n) (h2:n≤9223372036854775807):wr .i64 n=n:=by
 unfold wr;rw[IntKind.wrap_i64];omega
theorem a5n {n:Nat} (h:n<9223372036854775807):wr .i64 ((n:Int)+1)=((n+1:Nat):Int):=by
 rw[b5l (by omega) (by omega)];rfl
theorem a45 {α:Type} (l:List α) (i:Nat):a92 l (i:Int)=l[i]?:=by
 unfold a92;simp
theorem a04:LIM=1073741824:=rfl
theorem a4q:b3p=18446744073709551616:=rfl
end
section
open Ev
open Go (IntKind)
theorem dlt {i n:Nat} (h:i<n):decide ((i:Int)<(n:Int))=true:=by simpa using h
theorem dge {n:Nat}:decide ((n:Int)<(n:Int))=false:=by simp
end
section
open Ev
open Go (IntKind Lit)
theorem b13:∀d:Nat,d<10→((([48,49,50,51,52,53,54,55,56,57]:List UInt8).take (d+1)).drop d)=[UInt8.ofNat (48+d)]:=by decide
def b00:Nat→Nat→List UInt8→List UInt8
 |0,_,a=>a
 |f+1,u,a=>if u=0 then a else b00 f (u / 10) (UInt8.ofNat (48+u % 10)::a)
theorem b12:∀(f u:Nat) (a:List UInt8),0<u→b14 f u a=b00 f u a:=by
 intro f
 induction f with
 |zero=>intro u a _;rfl
 |succ f ih=>
  intro u a h;simp only[b14,b00,a7,yae,show ¬u=0 by omega,ybd];split
  ·rename_i h1;rw[show u / 10=0 by omega,show u % 10=u by omega];cases f<;>simp[b00]
  ·exact ih _ _ (by omega)
theorem b38:∀(f u:Nat) (a:List UInt8),(b00 f u a).length≤f+a.length:=by
 intro f
 induction f with
 |zero=>intro u a;simp[b00]
 |succ f ih=>
  intro u a;simp only[b00];split
  ·omega
  ·have:=ih (u / 10) (UInt8.ofNat (48+u % 10)::a);simp only[yaw]at this;omega
theorem b45 (n:Int) (sign s:List UInt8) (h1 : -9223372036854775808≤n) (h2:n≤9223372036854775807) (hs:s.length≤100) (hn:n≠0) :
 b0m (n,sign,s,())=some (.inl (n.tdiv 10,sign,UInt8.ofNat (48+n.natAbs % 10)::s,())):=by
 have hd:(if n.tmod 10<0 then 0-n.tmod 10 else n.tmod 10)=((n.natAbs % 10:Nat):Int):=by
  rcases Int.lt_or_le n 0 with hlt|hge
  ·obtain ⟨m,rfl⟩:∃m:Nat,n = -(m:Int):=⟨n.natAbs,by omega⟩
   rw[Int.neg_tmod,show (-(m:Int)).natAbs=m by omega,show ((m:Int).tmod 10)=((m % 10:Nat):Int) from rfl];split<;>omega
  ·obtain ⟨m,rfl⟩:∃m:Nat,n=(m:Int):=⟨n.natAbs,by omega⟩
   rw[show ((m:Int).tmod 10)=((m % 10:Nat):Int) from rfl,show ((m:Int)).natAbs=m by omega];split<;>omega
 have hlt:n.natAbs % 10<10:=Nat.mod_lt _ (by omega);have hq:wr .i64 (n.tdiv 10)=n.tdiv 10:=by
  rcases Int.lt_or_le n 0 with hlt|hge
  ·obtain ⟨m,rfl⟩:∃m:Nat,n = -(m:Int):=⟨n.natAbs,by omega⟩
   rw[Int.neg_tdiv,show ((m:Int).tdiv 10)=((m / 10:Nat):Int) from rfl];exact b5l (by omega) (by omega)
  ·obtain ⟨m,rfl⟩:∃m:Nat,n=(m:Int):=⟨n.natAbs,by omega⟩
   rw[show ((m:Int).tdiv 10)=((m / 10:Nat):Int) from rfl];exact b5l (by omega) (by omega)
 have hk:∀d:Nat,d<10→(bif decide (0≤(d:Int))&&(decide ((d:Int)≤wr .i64 ((d:Int)+1))&&decide (wr .i64 ((d:Int)+1)≤((([48,49,50,51,52,53,54,55,56,57]:List UInt8)).length:Int))) then
  bif decide ((((([48,49,50,51,52,53,54,55,56,57]:List UInt8)).take (wr .i64 ((d:Int)+1)).toNat).drop (d:Int).toNat).length+s.length≤LIM) then
  some (.inl (wr .i64 (n.tdiv 10),sign,(((([48,49,50,51,52,53,54,55,56,57]:List UInt8)).take (wr .i64 ((d:Int)+1)).toNat).drop (d:Int).toNat)++s,()))
  else none
  else none)=(some (.inl (n.tdiv 10,sign,UInt8.ofNat (48+d)::s,())):Option ((Int×(List UInt8)×(List UInt8)×Unit)⊕(((List UInt8)×(List UInt8)×Unit)))):=by
  intro d hd;rw[a5n (show d<9223372036854775807 by omega)];rw[show (((d+1:Nat):Int)).toNat=d+1 from rfl,show ((d:Nat):Int).toNat=d from rfl,hq];have hlen:((([48,49,50,51,52,53,54,55,56,57]:List UInt8).take (d+1)).drop d).length=1:=by
   rw[yaY,yba];simp only[yaw,yaE];omega
  rw[hlen,b13 d hd];rw[show (decide (0≤(d:Int))&&(decide ((d:Int)≤((d+1:Nat):Int))&&decide (((d+1:Nat):Int)≤((([48,49,50,51,52,53,54,55,56,57]:List UInt8)).length:Int))))=true by
   simp only[yab,yae,yaw,yaE];omega]
  rw[show decide (1+s.length≤LIM)=true by rw[a04,yae];omega];rfl
 unfold b0m;simp only;rw[show (!(n==0))=true by simpa using hn];simp only[yau];cases hb:decide (n.tmod 10<0) with
 |true=>
  rw[yae]at hb;rw[yar hb]at hd;simp only[yau];rw[show wr .i64 (0-n.tmod 10)=((n.natAbs % 10:Nat):Int) by rw[hd];exact b5l (by omega) (by omega)];exact (hk _ hlt :)
 |false=>
  rw[decide_eq_false_iff_not]at hb;rw[yak hb]at hd;simp only[ybe];rw[hd];exact (hk _ hlt :)
theorem b7q (sign:List UInt8):∀(k:Nat) (n:Int) (s:List UInt8),n.natAbs<10 ^ k→-9223372036854775808≤n→n≤9223372036854775807→s.length+k≤100→
 a1g b0m (k+1) (n,sign,s,())=some (sign,b00 k n.natAbs s,()):=by
 intro k
 induction k with
 |zero=>
  intro n s h _ _ _;have:n=0:=by omega
  subst this;rfl
 |succ k ih=>
  intro n s h h1 h2 h3;by_cases hn:n=0
  ·subst hn;rfl
  ·rw[a1g,b45 n sign s h1 h2 (by omega) hn];simp only;have hab:(n.tdiv 10).natAbs=n.natAbs / 10:=by rw[Int.natAbs_tdiv];rfl
   rw[ih _ _ (by rw[hab,ybb (by omega)];rw[Nat.pow_succ]at h;exact h) (by omega) (by omega) (by simp only[yaw];omega),hab];simp only[b00,show ¬n.natAbs=0 by omega,ybd]
theorem c1y {n:Int} (h1 : -9223372036854775808≤n) (h2:n≤9223372036854775807):qc n=qf n:=by
 unfold qf;rw[show (decide (-9223372036854775808≤n)&&decide (n≤9223372036854775807))=true by simp only[yab,yae];exact ⟨h1,h2⟩];simp only[yau];unfold qc;by_cases hn:n=0
 ·subst hn;rfl
 ·rw[show (n==0)=false by simpa using hn];simp only[ybe];have hw:∀sign,a0i b0m (n,sign,[],())=some (sign,b00 20 n.natAbs [],()):=fun sign=>
   a66 21 (by rw[a4q];omega) (b7q sign 20 n [] (by have:(10:Nat) ^ 20=100000000000000000000:=rfl;omega) h1 h2 (by simp))
  have hl:=b38 20 n.natAbs [];rw[b12 20 n.natAbs [] (by omega)];cases decide (n<0) with
  |true=>
   simp only[yau,hw];rw[show decide (([45]:List UInt8).length+(b00 20 n.natAbs []).length≤LIM)=true by rw[a04,yae];simp only[yaw,yaE]at hl ⊢;omega];rfl
  |false=>
   simp only[ybe,hw];rw[show decide (([]:List UInt8).length+(b00 20 n.natAbs []).length≤LIM)=true by rw[a04,yae];simp only[yaE]at hl ⊢;omega];rfl
theorem c0h {n:Int} {s:List UInt8} (h:qf n=some s):s.length≤21:=by
 have hd:∀(f u:Nat) (a:List UInt8),(b14 f u a).length≤f+a.length:=by
  intro f
  induction f with
  |zero=>intro u a;simp[b14]
  |succ f ih=>
   intro u a;simp only[b14,a7];split
   ·simp only[yaw];omega
   ·have:=ih (u / 10) (UInt8.ofNat (48+u % 10)::a);simp only[yaw]at this;omega
 unfold qf at h;rw[a7]at h;split at h
 ·cases h
  have:=hd 20 n.natAbs [];simp only[yaE]at this;rw[a7];split
  ·simp only[yaw];omega
  ·omega
 ·cases h
def a1n (k:Int):List UInt8:=if k=1 then [109,105,115,115,105,110,103] else if k=2 then [102,111,117,110,100] else if k=3 then [117,110,107,110,111,119,110] else if k=4 then [116,119,105,99,101] else [63]
theorem a6g (k:Int):(a1n k).length≤7:=by unfold a1n;(repeat' split)<;>simp
def a3c:List MapS:=a3j MapS.key 4 (⟨4,[116,119,105,99,101]⟩:MapS) (a3j MapS.key 3 (⟨3,[117,110,107,110,111,119,110]⟩:MapS) (a3j MapS.key 2 (⟨2,[102,111,117,110,100]⟩:MapS) (a3j MapS.key 1 (⟨1,[109,105,115,115,105,110,103]⟩:MapS) ([]:List MapS))))
theorem a79 {α:Type} (f:List UInt8→α) (k:Int):(bif !((a47 MapS.key k a3c).isSome) then f [63] else f (b0c MapS.key MapS.val a3c k))=f (a1n k):=by
 have hn:a3c=[⟨1,[109,105,115,115,105,110,103]⟩,⟨2,[102,111,117,110,100]⟩,⟨3,[117,110,107,110,111,119,110]⟩,⟨4,[116,119,105,99,101]⟩]:=by rfl
 rw[hn];unfold a1n b0c;simp only[a47];by_cases h1:k=1
 ·subst h1;rfl
 by_cases h2:k=2
 ·subst h2;rfl
 by_cases h3:k=3
 ·subst h3;rfl
 by_cases h4:k=4
 ·subst h4;rfl
 simp only[show ((1:Int)==k)=false by simpa using fun h=>h1 h.symm,show ((2:Int)==k)=false by simpa using fun h=>h2 h.symm,show ((3:Int)==k)=false by simpa using fun h=>h3 h.symm,
  show ((4:Int)==k)=false by simpa using fun h=>h4 h.symm,ybe,h1,h2,h3,h4,ybd]
 rfl
theorem b66 {α:Type} (f:List UInt8→α) (k:Int):(bif k==1 then f [109,105,115,115,105,110,103] else bif k==2 then f [102,111,117,110,100] else bif k==3 then f [117,110,107,110,111,119,110] else bif k==4 then f [116,119,105,99,101] else f [63])=f (a1n k):=by
 unfold a1n;simp only[a7,beq_iff_eq]
 repeat' split
 all_goals rfl
def s8 (x:Problem):List UInt8:=(a1n x.Kind++[32])++(match qf x.Index with|some s=>s|none=>[])
def b8k (x:Problem):Prop:=inK .i64 x.Kind∧inK .i64 x.Index∧True
theorem b8k.itoa {x:Problem} (h:b8k x):∃s,qf x.Index=some s∧s.length≤21∧qc x.Index=some s:=by
 have hr:IntKind.i64.min≤x.Index∧x.Index≤IntKind.i64.max:=by simpa[inK,Lit.wf]using h.2.1
 have h1 : -9223372036854775808≤x.Index:=hr.1;have h2:x.Index≤9223372036854775807:=hr.2;have e:∃s,qf x.Index=some s:=by
  unfold qf;rw[show (decide (-9223372036854775808≤x.Index)&&decide (x.Index≤9223372036854775807))=true by simp only[yab,yae];exact ⟨h1,h2⟩];exact ⟨_,rfl⟩
 obtain ⟨s,hs⟩:=e;exact ⟨s,hs,c0h hs,by rw[c1y h1 h2,hs]⟩
theorem c1x {l:List Problem} (hl:l.length≤60) (hr:∀z∈l,b8k z):qa l=some (l.map s8):=by
 unfold qa;have h:=a0j (step:=b0k) (fun i (s:List (List UInt8))=>s=(l.take i).map s8) (fun i s=>(l,(l.length:Int),(i:Int),s,a3c,())) l (fun _ x s=>.inl (s++[s8 x])) (fun s=>((s,()):List (List UInt8)×Unit)) (by rw[a4q];omega)
  (fun s _=>by simp only[b0k,dge,ybe])
  (fun i x s hx hs=>by
   have hi:=(zL hx)
   obtain ⟨t,e1,e2,-⟩:=(hr x (yaj hx)).itoa;have hw:=a6g x.Kind;have hsl:s.length≤60:=by rw[hs,List.length_map,yba];omega
   refine ⟨?_,fun s' e=>?_⟩
   ·simp only[b0k,dlt hi,a45,hx,yau,e1,a5n (show i<9223372036854775807 by omega)];refine Eq.trans (a79 (fun w=>bif decide (w.length+([32]:List UInt8).length≤LIM) then bif decide ((w++([32]:List UInt8)).length+t.length≤LIM) then bif decide (s.length+([(w++([32]:List UInt8))++t]:List (List UInt8)).length≤LIM) then some (Sum.inl (l,(l.length:Int),((i+1:Nat):Int),s++([(w++([32]:List UInt8))++t]:List (List UInt8)),a3c,())) else none else none else none) x.Kind) ?_;have c1:decide ((a1n x.Kind).length+([32]:List UInt8).length≤LIM)=true:=by rw[a04,yae];simp only[yaw,yaE];omega
    have c2:decide ((a1n x.Kind++([32]:List UInt8)).length+t.length≤LIM)=true:=by rw[a04,yae,yaI];simp only[yaw,yaE];omega
    have c3:decide (s.length+([(a1n x.Kind++([32]:List UInt8))++t]:List (List UInt8)).length≤LIM)=true:=by rw[a04,yae];simp only[yaw,yaE];omega
    simp only[c1,c2,c3,yau,s8,e1]
   ·cases e
    rw[hs,List.take_add_one,hx];simp) [] rfl
 rw[show a0i b0k (l,(l.length:Int),0,([]:List (List UInt8)),a3j MapS.key 4 (⟨4,[116,119,105,99,101]⟩:MapS) (a3j MapS.key 3 (⟨3,[117,110,107,110,111,119,110]⟩:MapS) (a3j MapS.key 2 (⟨2,[102,111,117,110,100]⟩:MapS) (a3j MapS.key 1 (⟨1,[109,105,115,115,105,110,103]⟩:MapS) ([]:List MapS)))),())=_ from h,a1v (f:=fun x s=>s++[s8 x])];simp only;have hf:∀(l:List Problem) (s:List (List UInt8)),l.foldl (fun s x=>s++[s8 x]) s=s++l.map s8:=by
  intro l
  induction l with
  |nil=>intro s;simp
  |cons x l ih=>intro s;simp[ih]
 rw[hf];rfl
theorem c1z {l:List Problem} (hl:l.length≤60) (hr:∀z∈l,b8k z):qd l=some (l.map s8):=by
 unfold qd;have h:=a0j (step:=b0n) (fun i (s:List (List UInt8))=>s=(l.take i).map s8) (fun i s=>(l,(i:Int),s,())) l (fun _ x s=>.inl (s++[s8 x])) (fun s=>((s,()):List (List UInt8)×Unit)) (by rw[a4q];omega)
  (fun s _=>by simp only[b0n,dge,ybe])
  (fun i x s hx hs=>by
   have hi:=(zL hx)
   obtain ⟨t,e1,e2,e3⟩:=(hr x (yaj hx)).itoa;have hw:=a6g x.Kind;have hsl:s.length≤60:=by rw[hs,List.length_map,yba];omega
   refine ⟨?_,fun s' e=>?_⟩
   ·simp only[b0n,dlt hi,a45,hx,yau,e3,a5n (show i<9223372036854775807 by omega)];refine Eq.trans (b66 (fun w=>bif decide (w.length+([32]:List UInt8).length≤LIM) then bif decide ((w++([32]:List UInt8)).length+t.length≤LIM) then bif decide (s.length+([(w++([32]:List UInt8))++t]:List (List UInt8)).length≤LIM) then some (Sum.inl (l,((i+1:Nat):Int),s++([(w++([32]:List UInt8))++t]:List (List UInt8)),())) else none else none else none) x.Kind) ?_;have c1:decide ((a1n x.Kind).length+([32]:List UInt8).length≤LIM)=true:=by rw[a04,yae];simp only[yaw,yaE];omega
    have c2:decide ((a1n x.Kind++([32]:List UInt8)).length+t.length≤LIM)=true:=by rw[a04,yae,yaI];simp only[yaw,yaE];omega
    have c3:decide (s.length+([(a1n x.Kind++([32]:List UInt8))++t]:List (List UInt8)).length≤LIM)=true:=by rw[a04,yae];simp only[yaw,yaE];omega
    simp only[c1,c2,c3,yau,s8,e1]
   ·cases e
    rw[hs,List.take_add_one,hx];simp) [] rfl
 rw[show a0i b0n (l,0,([]:List (List UInt8)),())=_ from h,a1v (f:=fun x s=>s++[s8 x])];simp only;have hf:∀(l:List Problem) (s:List (List UInt8)),l.foldl (fun s x=>s++[s8 x]) s=s++l.map s8:=by
  intro l
  induction l with
  |nil=>intro s;simp
  |cons x l ih=>intro s;simp[ih]
 rw[hf];rfl
theorem a0u (l:List Problem) (h:l.length≤maxLen∧∀z∈l,b8k z):qb l=some true:=by
 unfold qb;by_cases hl:60<(l.length:Int)
 ·rw[show decide (60<(l.length:Int))=true by simpa using hl];rfl
 ·rw[show decide (60<(l.length:Int))=false by simpa using hl];simp only[ybe,c1x (show l.length≤60 by omega) h.2,c1z (show l.length≤60 by omega) h.2,beq_self_eq_true,Bool.not_true];have hlen:(l.map s8).length≤60:=by rw[List.length_map];omega
  generalize l.map s8=r at *;have hw:=a0j (step:=b0l) (fun _ (_:Unit)=>True) (fun i _=>(r,r,(i:Int),())) r (fun _ _ _=>.inl ()) (fun _=>(.inl ():Unit⊕(Bool×Unit))) (by rw[a4q];omega)
   (fun s _=>by simp only[b0l,dge,ybe])
   (fun i x s hx _=>by
    have hi:=(zL hx)
    refine ⟨?_,fun _ _=>trivial⟩;simp only[b0l,dlt hi,a45,hx,yau,beq_self_eq_true,Bool.not_true,ybe,a5n (show i<9223372036854775807 by omega)]) () trivial
  rw[show a0i b0l (r,r,0,())=_ from hw,a1v (f:=fun _ s=>s)];rfl
end
end Go.Proofs.YteaknldbhmocpaaGreatDoor
