/- OfflineContinues: a part of the proof of the given statement, which is proved without conditions. -/
import Derived.Test.YtnajckeiaobmkabGreatDoorJ3
import Derived.Sort.Defs
import Derived.Lib.Small
import Derived.Lib.BitFns
import Derived.Lib.DecodeN
import Derived.Lib.AtoiAll
import Derived.Lib.Repeat
import Derived.Lib.Join
import Derived.Lib.Bytealg
import Derived.Lib.SlicesCompact
set_option linter.all false
namespace Go.Proofs.YtnajckeiaobmkabGreatDoor.Ev
open Go
def b0m {α:Type} (s:List α) (i:Int) (v:List α):Option (List α):=
 match v with
 | [y]=>bif decide (0≤i)&&decide (i≤(s.length:Int))&&decide (s.length+1≤1073741824) then some (s.take i.toNat++y::s.drop i.toNat) else none
 |_=>none
def a7e {α:Type} (s:List α) (i j:Int):Option (List α):=
 bif decide (0≤i)&&decide (i≤j)&&decide (j≤(s.length:Int))&&decide (s.length≤1073741824) then some (s.take i.toNat++s.drop j.toNat) else none
def dcd:List UInt8→Nat×Nat
 | []=>(0,0)
 |a::r=>
  if 32≤a.toNat∧a.toNat<127 then (a.toNat,1)
  else if 194≤a.toNat∧a.toNat<224 then
   (match r with
   |b::_=>if (128≤b.toNat∧b.toNat<192)∧160≤(a.toNat-192)*64+b.toNat-128 then ((a.toNat-192)*64+b.toNat-128,2) else (0,0)
   | []=>(0,0))
  else if 224≤a.toNat∧a.toNat<240 then
   (match r with
   |b::c::_=>
    if ((128≤b.toNat∧b.toNat<192)∧(128≤c.toNat∧c.toNat<192))∧2048≤(a.toNat-224)*4096+(b.toNat-128)*64+c.toNat-128∧
     ((a.toNat-224)*4096+(b.toNat-128)*64+c.toNat-128<55296∨57343<(a.toNat-224)*4096+(b.toNat-128)*64+c.toNat-128) then
     ((a.toNat-224)*4096+(b.toNat-128)*64+c.toNat-128,3) else (0,0)
   |_=>(0,0))
  else (0,0)
def d6w:Nat→List UInt8→Bool
 |0,_=>true
 |n+1,l=>if l=[] then true else if (dcd l).2=0 then false else d6w n (l.drop (dcd l).2)
def vld (s:List UInt8):Bool:=d6w s.length s
def wid (l:List UInt8):Nat:=if (dcd l).2<1 then 1 else (dcd l).2
def blk (c:Nat):Bool:=c==32||c==160
def c07:Nat→List UInt8→List UInt8→Bool→List UInt8
 |0,_,out,_=>out
 |n+1,l,out,gap=>if l=[] then out else
  if blk (dcd l).1 then c07 n (l.drop (wid l)) out true
  else c07 n (l.drop (wid l)) ((if gap&&!(out==[]) then out++[32] else out)++l.take (wid l)) false
def cln (s:List UInt8):List UInt8:=c07 s.length s [] false
end Go.Proofs.YtnajckeiaobmkabGreatDoor.Ev
namespace Go.Proofs.YtnajckeiaobmkabGreatDoor
open Ev
open Go (IntKind)
section
set_option maxRecDepth 100000
structure V4 (α:Type) where
 x0:α
 x1:α
 x2:α
 x3:α
structure V7 (α:Type) where
 x0:α
 x1:α
 x2:α
 x3:α
 x4:α
 x5:α
 x6:α
structure Custody where
 State:Int
 Branch:Int
 Who:Int
 To:Int
structure Item where
 ID:Int
 Record:Int
 Branch:Int
 Kind:Int
 Price:Int
 Call:List UInt8
 Custody:Custody
structure Patron where
 ID:Int
 Kind:Int
 Branch:Int
 Until:Int
 Stopped:Bool
 Name:List UInt8
structure Loan where
 Item:Int
 Patron:Int
 Out:Int
 Due:Int
 Renewals:Int
 Recalled:Bool
structure Hold where
 ID:Int
 Patron:Int
 Record:Int
 Item:Int
 Pickup:Int
 Placed:Int
 State:Int
 Got:Int
 Until:Int
 Asleep:Int
 Rank:Int
structure Charge where
 ID:Int
 Patron:Int
 Item:Int
 Day:Int
 Kind:Int
 Amount:Int
 Paid:Int
structure Rule where
 Patron:Int
 Item:Int
 Branch:Int
 Days:Int
 Renewals:Int
 Fine:Int
 Grace:Int
 MaxFine:Int
 Loans:Int
 Shelf:Int
 Recall:Int
 Fixed:Int
 Rank:Int
structure Calendar where
 Week:Int
 Closed:List Int
structure Move where
 Day:Int
 Item:Int
 Kind:Int
 Branch:Int
 Who:Int
structure Circ where
 Today:Int
 Items:List Item
 Patrons:List Patron
 Loans:List Loan
 Holds:List Hold
 Charges:List Charge
 Rules:List Rule
 Cals:V4 Calendar
 Moves:List Move
 NextHold:Int
 NextCharge:Int
 Local:Bool
structure Off where
 Device:Int
 Seq:Int
 Day:Int
 Kind:Int
 Item:Int
 Patron:Int
 Branch:Int
structure Circ_desk where
 c:Circ
 err:Int
structure Outcome where
 Device:Int
 Seq:Int
 Err:Int
structure Utf8_acceptRange where
 lo:Int
 hi:Int
inductive Kd where
 |kItem
 |kPatron
 |kLoan
 |kHold
 |kCharge
 |kRule
 |ki64
 |kMove
 |kOff
 |kbool
 |kOutcome
 |kstr
 |kSOff
 |ku8
 |kUtf8_acceptRange
 |ku16
 |ku64
 |kerr
abbrev El:Kd→Type
 |.kItem=>Item
 |.kPatron=>Patron
 |.kLoan=>Loan
 |.kHold=>Hold
 |.kCharge=>Charge
 |.kRule=>Rule
 |.ki64=>Int
 |.kMove=>Move
 |.kOff=>Off
 |.kbool=>Bool
 |.kOutcome=>Outcome
 |.kstr=>List UInt8
 |.kSOff=>List Off
 |.ku8=>Int
 |.kUtf8_acceptRange=>Utf8_acceptRange
 |.ku16=>Int
 |.ku64=>Int
 |.kerr=>Bool
abbrev DD:=D Kd El
abbrev Sm (R:Type):=a4m Kd El R
abbrev a1o {α β:Type} (ta:List (Nat×Nat×Kd)) (se ss bs az:List Nat) (fc:FC Kd El α) [FCC fc] (step:α→Option (α⊕β)) (oc:OC Kd El β):LD Kd El α β:=⟨ta,se,ss,bs,az,fc,step,oc⟩
instance:KdEq Kd where
 dec:=λa b=>match a,b with
  |.kItem,.kItem=>some ⟨rfl⟩
  |.kPatron,.kPatron=>some ⟨rfl⟩
  |.kLoan,.kLoan=>some ⟨rfl⟩
  |.kHold,.kHold=>some ⟨rfl⟩
  |.kCharge,.kCharge=>some ⟨rfl⟩
  |.kRule,.kRule=>some ⟨rfl⟩
  |.ki64,.ki64=>some ⟨rfl⟩
  |.kMove,.kMove=>some ⟨rfl⟩
  |.kOff,.kOff=>some ⟨rfl⟩
  |.kbool,.kbool=>some ⟨rfl⟩
  |.kOutcome,.kOutcome=>some ⟨rfl⟩
  |.kstr,.kstr=>some ⟨rfl⟩
  |.kSOff,.kSOff=>some ⟨rfl⟩
  |.ku8,.ku8=>some ⟨rfl⟩
  |.kUtf8_acceptRange,.kUtf8_acceptRange=>some ⟨rfl⟩
  |.ku16,.ku16=>some ⟨rfl⟩
  |.ku64,.ku64=>some ⟨rfl⟩
  |.kerr,.kerr=>some ⟨rfl⟩
  |_,_=>none
abbrev wr (k:IntKind) (n:Int):Int:=IntKind.wrap k n
def c69 (x:Custody):List DD:=[.int .i64 x.State,.int .i64 x.Branch,.int .i64 x.Who,.int .i64 x.To]
def a0w:CC Kd El Custody:=(CC.cons (Cod.int .i64) (CC.cons (Cod.int .i64) (CC.cons (Cod.int .i64) (CC.cons (Cod.int .i64) CC.nil)))).iso c69 (λp=>⟨p.1,p.2.1,p.2.2.1,p.2.2.2.1⟩)
def e8d (x:Item):List DD:=[.int .i64 x.ID,.int .i64 x.Record,.int .i64 x.Branch,.int .i64 x.Kind,.int .i64 x.Price,.str x.Call,.int .i64 x.Custody.State,.int .i64 x.Custody.Branch,.int .i64 x.Custody.Who,.int .i64 x.Custody.To]
def a1w:CC Kd El Item:=(CC.cons (Cod.int .i64) (CC.cons (Cod.int .i64) (CC.cons (Cod.int .i64) (CC.cons (Cod.int .i64) (CC.cons (Cod.int .i64) (CC.cons Cod.str (CC.cons (Cod.int .i64) (CC.cons (Cod.int .i64) (CC.cons (Cod.int .i64) (CC.cons (Cod.int .i64) CC.nil)))))))))).iso e8d (λp=>⟨p.1,p.2.1,p.2.2.1,p.2.2.2.1,p.2.2.2.2.1,p.2.2.2.2.2.1,⟨p.2.2.2.2.2.2.1,p.2.2.2.2.2.2.2.1,p.2.2.2.2.2.2.2.2.1,p.2.2.2.2.2.2.2.2.2.1⟩⟩)
def d4i (x:Patron):List DD:=[.int .i64 x.ID,.int .i64 x.Kind,.int .i64 x.Branch,.int .i64 x.Until,.bool x.Stopped,.str x.Name]
def a2t:CC Kd El Patron:=(CC.cons (Cod.int .i64) (CC.cons (Cod.int .i64) (CC.cons (Cod.int .i64) (CC.cons (Cod.int .i64) (CC.cons Cod.bool (CC.cons Cod.str CC.nil)))))).iso d4i (λp=>⟨p.1,p.2.1,p.2.2.1,p.2.2.2.1,p.2.2.2.2.1,p.2.2.2.2.2.1⟩)
def e8e (x:Loan):List DD:=[.int .i64 x.Item,.int .i64 x.Patron,.int .i64 x.Out,.int .i64 x.Due,.int .i64 x.Renewals,.bool x.Recalled]
def a2o:CC Kd El Loan:=(CC.cons (Cod.int .i64) (CC.cons (Cod.int .i64) (CC.cons (Cod.int .i64) (CC.cons (Cod.int .i64) (CC.cons (Cod.int .i64) (CC.cons Cod.bool CC.nil)))))).iso e8e (λp=>⟨p.1,p.2.1,p.2.2.1,p.2.2.2.1,p.2.2.2.2.1,p.2.2.2.2.2.1⟩)
def e8c (x:Hold):List DD:=[.int .i64 x.ID,.int .i64 x.Patron,.int .i64 x.Record,.int .i64 x.Item,.int .i64 x.Pickup,.int .i64 x.Placed,.int .i64 x.State,.int .i64 x.Got,.int .i64 x.Until,.int .i64 x.Asleep,.int .i64 x.Rank]
def a2n:CC Kd El Hold:=(CC.cons (Cod.int .i64) (CC.cons (Cod.int .i64) (CC.cons (Cod.int .i64) (CC.cons (Cod.int .i64) (CC.cons (Cod.int .i64) (CC.cons (Cod.int .i64) (CC.cons (Cod.int .i64) (CC.cons (Cod.int .i64) (CC.cons (Cod.int .i64) (CC.cons (Cod.int .i64) (CC.cons (Cod.int .i64) CC.nil))))))))))).iso e8c (λp=>⟨p.1,p.2.1,p.2.2.1,p.2.2.2.1,p.2.2.2.2.1,p.2.2.2.2.2.1,p.2.2.2.2.2.2.1,p.2.2.2.2.2.2.2.1,p.2.2.2.2.2.2.2.2.1,p.2.2.2.2.2.2.2.2.2.1,p.2.2.2.2.2.2.2.2.2.2.1⟩)
def d4h (x:Charge):List DD:=[.int .i64 x.ID,.int .i64 x.Patron,.int .i64 x.Item,.int .i64 x.Day,.int .i64 x.Kind,.int .i64 x.Amount,.int .i64 x.Paid]
def a45:CC Kd El Charge:=(CC.cons (Cod.int .i64) (CC.cons (Cod.int .i64) (CC.cons (Cod.int .i64) (CC.cons (Cod.int .i64) (CC.cons (Cod.int .i64) (CC.cons (Cod.int .i64) (CC.cons (Cod.int .i64) CC.nil))))))).iso d4h (λp=>⟨p.1,p.2.1,p.2.2.1,p.2.2.2.1,p.2.2.2.2.1,p.2.2.2.2.2.1,p.2.2.2.2.2.2.1⟩)
def e8g (x:Rule):List DD:=[.int .i64 x.Patron,.int .i64 x.Item,.int .i64 x.Branch,.int .i64 x.Days,.int .i64 x.Renewals,.int .i64 x.Fine,.int .i64 x.Grace,.int .i64 x.MaxFine,.int .i64 x.Loans,.int .i64 x.Shelf,.int .i64 x.Recall,.int .i64 x.Fixed,.int .i64 x.Rank]
def a3w:CC Kd El Rule:=(CC.cons (Cod.int .i64) (CC.cons (Cod.int .i64) (CC.cons (Cod.int .i64) (CC.cons (Cod.int .i64) (CC.cons (Cod.int .i64) (CC.cons (Cod.int .i64) (CC.cons (Cod.int .i64) (CC.cons (Cod.int .i64) (CC.cons (Cod.int .i64) (CC.cons (Cod.int .i64) (CC.cons (Cod.int .i64) (CC.cons (Cod.int .i64) (CC.cons (Cod.int .i64) CC.nil))))))))))))).iso e8g (λp=>⟨p.1,p.2.1,p.2.2.1,p.2.2.2.1,p.2.2.2.2.1,p.2.2.2.2.2.1,p.2.2.2.2.2.2.1,p.2.2.2.2.2.2.2.1,p.2.2.2.2.2.2.2.2.1,p.2.2.2.2.2.2.2.2.2.1,p.2.2.2.2.2.2.2.2.2.2.1,p.2.2.2.2.2.2.2.2.2.2.2.1,p.2.2.2.2.2.2.2.2.2.2.2.2.1⟩)
def c2m (x:Calendar):List DD:=[.int .i64 x.Week,.lst .ki64 x.Closed]
def y7:CC Kd El Calendar:=(CC.cons (Cod.int .i64) (CC.cons (Cod.lst Kd.ki64) CC.nil)).iso c2m (λp=>⟨p.1,p.2.1⟩)
def e8f (x:Move):List DD:=[.int .i64 x.Day,.int .i64 x.Item,.int .i64 x.Kind,.int .i64 x.Branch,.int .i64 x.Who]
def b22:CC Kd El Move:=(CC.cons (Cod.int .i64) (CC.cons (Cod.int .i64) (CC.cons (Cod.int .i64) (CC.cons (Cod.int .i64) (CC.cons (Cod.int .i64) CC.nil))))).iso e8f (λp=>⟨p.1,p.2.1,p.2.2.1,p.2.2.2.1,p.2.2.2.2.1⟩)
def e8b (x:Circ):List DD:=[.int .i64 x.Today,.lst .kItem x.Items,.lst .kPatron x.Patrons,.lst .kLoan x.Loans,.lst .kHold x.Holds,.lst .kCharge x.Charges,.lst .kRule x.Rules,.int .i64 x.Cals.x0.Week,.lst .ki64 x.Cals.x0.Closed,.int .i64 x.Cals.x1.Week,.lst .ki64 x.Cals.x1.Closed,.int .i64 x.Cals.x2.Week,.lst .ki64 x.Cals.x2.Closed,.int .i64 x.Cals.x3.Week,.lst .ki64 x.Cals.x3.Closed,.lst .kMove x.Moves,.int .i64 x.NextHold,.int .i64 x.NextCharge,.bool x.Local]
def j7:CC Kd El Circ:=(CC.cons (Cod.int .i64) (CC.cons (Cod.lst Kd.kItem) (CC.cons (Cod.lst Kd.kPatron) (CC.cons (Cod.lst Kd.kLoan) (CC.cons (Cod.lst Kd.kHold) (CC.cons (Cod.lst Kd.kCharge) (CC.cons (Cod.lst Kd.kRule) (CC.cons (Cod.int .i64) (CC.cons (Cod.lst Kd.ki64) (CC.cons (Cod.int .i64) (CC.cons (Cod.lst Kd.ki64) (CC.cons (Cod.int .i64) (CC.cons (Cod.lst Kd.ki64) (CC.cons (Cod.int .i64) (CC.cons (Cod.lst Kd.ki64) (CC.cons (Cod.lst Kd.kMove) (CC.cons (Cod.int .i64) (CC.cons (Cod.int .i64) (CC.cons Cod.bool CC.nil))))))))))))))))))).iso e8b (λp=>⟨p.1,p.2.1,p.2.2.1,p.2.2.2.1,p.2.2.2.2.1,p.2.2.2.2.2.1,p.2.2.2.2.2.2.1,⟨⟨p.2.2.2.2.2.2.2.1,p.2.2.2.2.2.2.2.2.1⟩,⟨p.2.2.2.2.2.2.2.2.2.1,p.2.2.2.2.2.2.2.2.2.2.1⟩,⟨p.2.2.2.2.2.2.2.2.2.2.2.1,p.2.2.2.2.2.2.2.2.2.2.2.2.1⟩,⟨p.2.2.2.2.2.2.2.2.2.2.2.2.2.1,p.2.2.2.2.2.2.2.2.2.2.2.2.2.2.1⟩⟩,p.2.2.2.2.2.2.2.2.2.2.2.2.2.2.2.1,p.2.2.2.2.2.2.2.2.2.2.2.2.2.2.2.2.1,p.2.2.2.2.2.2.2.2.2.2.2.2.2.2.2.2.2.1,p.2.2.2.2.2.2.2.2.2.2.2.2.2.2.2.2.2.2.1⟩)
def g0p (x:Off):List DD:=[.int .i64 x.Device,.int .i64 x.Seq,.int .i64 x.Day,.int .i64 x.Kind,.int .i64 x.Item,.int .i64 x.Patron,.int .i64 x.Branch]
def a47:CC Kd El Off:=(CC.cons (Cod.int .i64) (CC.cons (Cod.int .i64) (CC.cons (Cod.int .i64) (CC.cons (Cod.int .i64) (CC.cons (Cod.int .i64) (CC.cons (Cod.int .i64) (CC.cons (Cod.int .i64) CC.nil))))))).iso g0p (λp=>⟨p.1,p.2.1,p.2.2.1,p.2.2.2.1,p.2.2.2.2.1,p.2.2.2.2.2.1,p.2.2.2.2.2.2.1⟩)
def b9w (x:Circ_desk):List DD:=[.int .i64 x.c.Today,.lst .kItem x.c.Items,.lst .kPatron x.c.Patrons,.lst .kLoan x.c.Loans,.lst .kHold x.c.Holds,.lst .kCharge x.c.Charges,.lst .kRule x.c.Rules,.int .i64 x.c.Cals.x0.Week,.lst .ki64 x.c.Cals.x0.Closed,.int .i64 x.c.Cals.x1.Week,.lst .ki64 x.c.Cals.x1.Closed,.int .i64 x.c.Cals.x2.Week,.lst .ki64 x.c.Cals.x2.Closed,.int .i64 x.c.Cals.x3.Week,.lst .ki64 x.c.Cals.x3.Closed,.lst .kMove x.c.Moves,.int .i64 x.c.NextHold,.int .i64 x.c.NextCharge,.bool x.c.Local,.int .i64 x.err]
def u6:CC Kd El Circ_desk:=(CC.cons (Cod.int .i64) (CC.cons (Cod.lst Kd.kItem) (CC.cons (Cod.lst Kd.kPatron) (CC.cons (Cod.lst Kd.kLoan) (CC.cons (Cod.lst Kd.kHold) (CC.cons (Cod.lst Kd.kCharge) (CC.cons (Cod.lst Kd.kRule) (CC.cons (Cod.int .i64) (CC.cons (Cod.lst Kd.ki64) (CC.cons (Cod.int .i64) (CC.cons (Cod.lst Kd.ki64) (CC.cons (Cod.int .i64) (CC.cons (Cod.lst Kd.ki64) (CC.cons (Cod.int .i64) (CC.cons (Cod.lst Kd.ki64) (CC.cons (Cod.lst Kd.kMove) (CC.cons (Cod.int .i64) (CC.cons (Cod.int .i64) (CC.cons Cod.bool (CC.cons (Cod.int .i64) CC.nil)))))))))))))))))))).iso b9w (λp=>⟨⟨p.1,p.2.1,p.2.2.1,p.2.2.2.1,p.2.2.2.2.1,p.2.2.2.2.2.1,p.2.2.2.2.2.2.1,⟨⟨p.2.2.2.2.2.2.2.1,p.2.2.2.2.2.2.2.2.1⟩,⟨p.2.2.2.2.2.2.2.2.2.1,p.2.2.2.2.2.2.2.2.2.2.1⟩,⟨p.2.2.2.2.2.2.2.2.2.2.2.1,p.2.2.2.2.2.2.2.2.2.2.2.2.1⟩,⟨p.2.2.2.2.2.2.2.2.2.2.2.2.2.1,p.2.2.2.2.2.2.2.2.2.2.2.2.2.2.1⟩⟩,p.2.2.2.2.2.2.2.2.2.2.2.2.2.2.2.1,p.2.2.2.2.2.2.2.2.2.2.2.2.2.2.2.2.1,p.2.2.2.2.2.2.2.2.2.2.2.2.2.2.2.2.2.1,p.2.2.2.2.2.2.2.2.2.2.2.2.2.2.2.2.2.2.1⟩,p.2.2.2.2.2.2.2.2.2.2.2.2.2.2.2.2.2.2.2.1⟩)
def c7a (x:Outcome):List DD:=[.int .i64 x.Device,.int .i64 x.Seq,.int .i64 x.Err]
def b0d:CC Kd El Outcome:=(CC.cons (Cod.int .i64) (CC.cons (Cod.int .i64) (CC.cons (Cod.int .i64) CC.nil))).iso c7a (λp=>⟨p.1,p.2.1,p.2.2.1⟩)
def a8l (x:Utf8_acceptRange):List DD:=[.int .u8 x.lo,.int .u8 x.hi]
def a2x:CC Kd El Utf8_acceptRange:=(CC.cons (Cod.int .u8) (CC.cons (Cod.int .u8) CC.nil)).iso a8l (λp=>⟨p.1,p.2.1⟩)
def b3k (x:V4 Calendar):List DD:=[.int .i64 x.x0.Week,.lst .ki64 x.x0.Closed,.int .i64 x.x1.Week,.lst .ki64 x.x1.Closed,.int .i64 x.x2.Week,.lst .ki64 x.x2.Closed,.int .i64 x.x3.Week,.lst .ki64 x.x3.Closed]
def a57:CC Kd El (V4 Calendar):=(CC.cons (Cod.int .i64) (CC.cons (Cod.lst Kd.ki64) (CC.cons (Cod.int .i64) (CC.cons (Cod.lst Kd.ki64) (CC.cons (Cod.int .i64) (CC.cons (Cod.lst Kd.ki64) (CC.cons (Cod.int .i64) (CC.cons (Cod.lst Kd.ki64) CC.nil)))))))).iso b3k (λp=>⟨⟨p.1,p.2.1⟩,⟨p.2.2.1,p.2.2.2.1⟩,⟨p.2.2.2.2.1,p.2.2.2.2.2.1⟩,⟨p.2.2.2.2.2.2.1,p.2.2.2.2.2.2.2.1⟩⟩)
def c7b (x:V7 Bool):List DD:=[.bool x.x0,.bool x.x1,.bool x.x2,.bool x.x3,.bool x.x4,.bool x.x5,.bool x.x6]
def a1h:CC Kd El (V7 Bool):=(CC.cons Cod.bool (CC.cons Cod.bool (CC.cons Cod.bool (CC.cons Cod.bool (CC.cons Cod.bool (CC.cons Cod.bool (CC.cons Cod.bool CC.nil))))))).iso c7b (λp=>⟨p.1,p.2.1,p.2.2.1,p.2.2.2.1,p.2.2.2.2.1,p.2.2.2.2.2.1,p.2.2.2.2.2.2.1⟩)
def ccK:(k:Kd)→CC Kd El (El k)
 |.kItem=>a1w
 |.kPatron=>a2t
 |.kLoan=>a2o
 |.kHold=>a2n
 |.kCharge=>a45
 |.kRule=>a3w
 |.ki64=>CC.one (Cod.int .i64)
 |.kMove=>b22
 |.kOff=>a47
 |.kbool=>CC.one Cod.bool
 |.kOutcome=>b0d
 |.kstr=>CC.one Cod.str
 |.kSOff=>CC.one (Cod.lst Kd.kOff)
 |.ku8=>CC.one (Cod.int .u8)
 |.kUtf8_acceptRange=>a2x
 |.ku16=>CC.one (Cod.int .u16)
 |.ku64=>CC.one (Cod.int .u64)
 |.kerr=>CC.one Cod.ifc
def h6e:Kd→Nat
 |.kItem=>10
 |.kPatron=>6
 |.kLoan=>6
 |.kHold=>11
 |.kCharge=>7
 |.kRule=>13
 |.ki64=>1
 |.kMove=>5
 |.kOff=>7
 |.kbool=>1
 |.kOutcome=>3
 |.kstr=>1
 |.kSOff=>1
 |.ku8=>1
 |.kUtf8_acceptRange=>2
 |.ku16=>1
 |.ku64=>1
 |.kerr=>1
def h6d (t:Nat):Option Kd:=bif Nat.beq t 331 then some .ku8 else bif Nat.beq t 330 then some .ku8 else bif Nat.beq t 289 then some .ki64 else bif Nat.beq t 244 then some .ku64 else bif Nat.beq t 237 then some .ku16 else bif Nat.beq t 235 then some .kUtf8_acceptRange else bif Nat.beq t 202 then some .ku64 else bif Nat.beq t 192 then some .ki64 else bif Nat.beq t 149 then some .ku64 else bif Nat.beq t 105 then some .kerr else bif Nat.beq t 104 then some .kerr else bif Nat.beq t 81 then some .kRule else bif Nat.beq t 79 then some .kCharge else bif Nat.beq t 77 then some .kHold else bif Nat.beq t 75 then some .kLoan else bif Nat.beq t 73 then some .kPatron else bif Nat.beq t 71 then some .kItem else bif Nat.beq t 65 then some .kOutcome else bif Nat.beq t 50 then some .kOff else bif Nat.beq t 44 then some .kMove else bif Nat.beq t 37 then some .ki64 else bif Nat.beq t 35 then some .kSOff else bif Nat.beq t 20 then some .kerr else bif Nat.beq t 12 then some .ku64 else bif Nat.beq t 11 then some .kstr else bif Nat.beq t 10 then some .kstr else bif Nat.beq t 9 then some .kstr else bif Nat.beq t 6 then some .ku8 else bif Nat.beq t 5 then some .ku8 else bif Nat.beq t 4 then some .kbool else bif Nat.beq t 3 then some .ki64 else bif Nat.beq t 2 then some .ki64 else none
def y4:List Int:=(List.range 256).map λc=>(Go.Lib.firstT c:Int)
def m8:List Utf8_acceptRange:=(List.range 16).map λi=>⟨(Go.Lib.accLo i:Int),(Go.Lib.accHi i:Int)⟩
def a1y:List Int:=[0,32770,41316,42344,6160,8268,8320,8704,16,4112,32784,49152,0]
def j8:List Int:=(List.range 20).map λi=>((10 ^ i:Nat):Int)
def a3s:List Bool:=[false]
def a4h:List Bool:=[false]
def c2t (t:Nat):Option ((k:Kd)×List (El k)):=bif Nat.beq t 6 then some ⟨.kerr,a4h⟩ else bif Nat.beq t 5 then some ⟨.kerr,a3s⟩ else bif Nat.beq t 4 then some ⟨.ku64,j8⟩ else bif Nat.beq t 2 then some ⟨.ku16,a1y⟩ else bif Nat.beq t 1 then some ⟨.kUtf8_acceptRange,m8⟩ else bif Nat.beq t 0 then some ⟨.ku8,y4⟩ else none
def h6g (f:Nat):Md:=bif Nat.beq f 47 then .bld else bif Nat.beq f 44 then .bld else bif Nat.beq f 136 then .inpl else bif Nat.beq f 92 then .mut else bif Nat.beq f 87 then .inpl else bif Nat.beq f 50 then .inpl else bif Nat.beq f 46 then .fresh else bif Nat.beq f 272 then .inpl else bif Nat.beq f 271 then .inpl else bif Nat.beq f 269 then .inpl else bif Nat.beq f 268 then .inpl else bif Nat.beq f 265 then .inpl else bif Nat.beq f 256 then .inpl else bif Nat.beq f 235 then .cons else bif Nat.beq f 214 then .fresh else bif Nat.beq f 213 then .cons else bif Nat.beq f 168 then .fresh else bif Nat.beq f 167 then .cons else bif Nat.beq f 162 then .mut else bif Nat.beq f 158 then .mut else bif Nat.beq f 157 then .mut else bif Nat.beq f 156 then .fresh else bif Nat.beq f 155 then .fresh else bif Nat.beq f 153 then .mut else bif Nat.beq f 105 then .mut else bif Nat.beq f 103 then .mut else bif Nat.beq f 101 then .mut else bif Nat.beq f 100 then .mut else bif Nat.beq f 99 then .mut else bif Nat.beq f 98 then .mut else bif Nat.beq f 97 then .mut else bif Nat.beq f 96 then .mut else bif Nat.beq f 95 then .mut else bif Nat.beq f 94 then .newb else bif Nat.beq f 48 then .fresh else .data
def g9u (t:Nat):Bool:=Nat.beq t 81||(Nat.beq t 79||(Nat.beq t 77||(Nat.beq t 75||(Nat.beq t 73||(Nat.beq t 71||(Nat.beq t 69||(Nat.beq t 65||(Nat.beq t 50||(Nat.beq t 44||(false))))))))))
def h6c (f:Nat):Option Kd:=bif Nat.beq f 136 then some .kOff else bif Nat.beq f 87 then some .kOff else bif Nat.beq f 50 then some .kOff else none
def h4z (n:Nat):Bool:=Nat.beq n 4
def h53:Option (BlK Kd El):=some ⟨.ku8,blI,blJ,103,5,g0z 44 47⟩
def h40:Kd→Bool:=fun | .ku8=>true|_=>false
def h54:Option (ByK Kd El):=some ⟨.ku8,blI,blJ⟩
def sg:Sg Kd El:=⟨λk=>(ccK k).enc,λk=>(ccK k).dec,h6e,h6d,c2t,h6g,g9u,λ_=>none,h6c,h4z,h53,h40,h54⟩
def u0 (x y:Custody):Bool:=(x.State==y.State&&(x.Branch==y.Branch&&(x.Who==y.Who&&(x.To==y.To&&true))))
def b9z (x y:Item):Bool:=(x.ID==y.ID&&(x.Record==y.Record&&(x.Branch==y.Branch&&(x.Kind==y.Kind&&(x.Price==y.Price&&(x.Call==y.Call&&(u0 x.Custody y.Custody&&true)))))))
def b0j (x y:Patron):Bool:=(x.ID==y.ID&&(x.Kind==y.Kind&&(x.Branch==y.Branch&&(x.Until==y.Until&&(x.Stopped==y.Stopped&&(x.Name==y.Name&&true))))))
def b91 (x y:Loan):Bool:=(x.Item==y.Item&&(x.Patron==y.Patron&&(x.Out==y.Out&&(x.Due==y.Due&&(x.Renewals==y.Renewals&&(x.Recalled==y.Recalled&&true))))))
def b9x (x y:Hold):Bool:=(x.ID==y.ID&&(x.Patron==y.Patron&&(x.Record==y.Record&&(x.Item==y.Item&&(x.Pickup==y.Pickup&&(x.Placed==y.Placed&&(x.State==y.State&&(x.Got==y.Got&&(x.Until==y.Until&&(x.Asleep==y.Asleep&&(x.Rank==y.Rank&&true)))))))))))
def b0i (x y:Charge):Bool:=(x.ID==y.ID&&(x.Patron==y.Patron&&(x.Item==y.Item&&(x.Day==y.Day&&(x.Kind==y.Kind&&(x.Amount==y.Amount&&(x.Paid==y.Paid&&true)))))))
def b93 (x y:Rule):Bool:=(x.Patron==y.Patron&&(x.Item==y.Item&&(x.Branch==y.Branch&&(x.Days==y.Days&&(x.Renewals==y.Renewals&&(x.Fine==y.Fine&&(x.Grace==y.Grace&&(x.MaxFine==y.MaxFine&&(x.Loans==y.Loans&&(x.Shelf==y.Shelf&&(x.Recall==y.Recall&&(x.Fixed==y.Fixed&&(x.Rank==y.Rank&&true)))))))))))))
def b17 (x y:Move):Bool:=(x.Day==y.Day&&(x.Item==y.Item&&(x.Kind==y.Kind&&(x.Branch==y.Branch&&(x.Who==y.Who&&true)))))
def a8x (x y:Outcome):Bool:=(x.Device==y.Device&&(x.Seq==y.Seq&&(x.Err==y.Err&&true)))
abbrev ZC:=CC Kd El
abbrev ZF:=FC Kd El
abbrev ZD:=Cod Kd El
abbrev Zi:ZD Int:=Cod.int .i64
abbrev Zb:ZD Bool:=Cod.bool
abbrev Zl (k:Kd):ZD (List (El k)):=Cod.lst k
abbrev Zn:ZC Unit:=CC.nil
abbrev Zz:ZF Unit:=FC.nil
section
variable {α β:Type}
abbrev Zc:ZD α→ZC β→ZC (α×β):=CC.cons
abbrev Zs:Nat→ZD α→ZF β→ZF (α×β):=FC.slot
abbrev Zp:Nat→Nat→ZF β→ZF β:=FC.ptr
abbrev Zx:Nat→ZC α→ZF β→ZF (α×β):=FC.box
end
abbrev ZN:Circ:=⟨0,[],[],[],[],[],[],⟨⟨0,[]⟩,⟨0,[]⟩,⟨0,[]⟩,⟨0,[]⟩⟩,[],0,0,false⟩
end
section
def qdy (l:List (List UInt8)) (sep:List UInt8):Option (List UInt8):=bif decide (l.length≤1073741824)&&decide ((Go.Lib.join l sep).length≤1073741824) then some (Go.Lib.join l sep) else none
def qdu (s:List UInt8) (n:Int):Option (List UInt8):=bif decide (0≤n)&&(decide (n.toNat≤1073741824)&&decide (s.length*n.toNat≤1073741824)) then some (Go.Lib.repeatL s n.toNat) else none
def qdb (s sep:List UInt8):Option Int:=match sep with | [c]=>some ((Go.Lib.countByte s c:Nat):Int)|_=>none
def qdw (s sep:List UInt8):Option Int:=match sep with | [c]=>some (Go.Lib.indexByte s c)|_=>none
def qd0 (s:List UInt8):Option (Int×Bool):=bif decide (s.length≤LIM) then some (match Go.Lib.atoiAll s with | .ok n=>(n,true) | .range=>(Go.Lib.atoiSat s,false)|_=>(0,false)) else none
def qdt (s:List UInt8) (c:Int):Option Int:=some (Go.Lib.indexByte s c.toNat.toUInt8)
def qcv (s:List Loan) (i:Int) (v:List Loan):Option (List Loan):=b0m s i v
def qcw (s:List Hold) (i j:Int):Option (List Hold):=a7e s i j
def qca (s:List Loan) (i j:Int):Option (List Loan):=a7e s i j
@[inline] def g6i:Nat→Nat→List UInt8→List UInt8|0,_,a=>a|f+1,u,a=>bif decide (u<10) then UInt8.ofNat (48+u)::a else g6i f (u / 10) (UInt8.ofNat (48+u % 10)::a)
def qdz (n:Int):Option (List UInt8):=bif decide (-9223372036854775808≤n)&&decide (n≤9223372036854775807) then some (bif decide (n<0) then 45::g6i 20 n.natAbs [] else g6i 20 n.natAbs []) else none
def qbz (s:List UInt8):Option Bool:=bif decide (s.length≤LIM) then some (vld s) else none
def qb8 (s:List UInt8):Option (List UInt8):=bif decide (s.length≤LIM)&&vld s then some (cln s) else none
end
section
set_option maxRecDepth 100000
abbrev Yaa:=List Hold
abbrev Yab:=((List Loan)×(List Loan)×Int×Int×Unit)⊕((Unit)⊕(Int×Unit))
abbrev Yac:=Int×Circ×Circ×Unit
abbrev Yad:=((List Item)×Int×Int×Circ×Unit)⊕((Unit)⊕(Bool×Unit))
abbrev Yae:=Int×Unit
abbrev Yaf:=Unit×Circ_desk
abbrev Yag:=Bool×Unit
abbrev Yah:=(Int×Int×Int×(V7 Bool)×Int×Calendar×(V7 Bool)×Unit)⊕((Int×Int×Int×Calendar×(V7 Bool)×Unit))
abbrev Yai:=Int×Int×Int×(List Int)×Int×Int×(V7 Bool)×Unit
abbrev Yaj:=List Charge
abbrev Yak:=(Yaa×Int×Int×Circ×Unit)⊕((Circ×Unit)⊕Yag)
abbrev Yal:=List Loan
abbrev Yam:=Yac⊕((Circ×Circ×Unit)⊕Yag)
abbrev Yan:=(List Rule)×Int×Int×Int×Int×(List Rule)×Int×Int×Unit
abbrev Yao:=(Int×Bool×Int×Yaa×Int×Int×Item×Unit)⊕(Yae⊕Yae)
abbrev Yap:=(Unit)⊕Yae
abbrev Yaq:=(List Item)×Int×Int×Circ×Unit
abbrev Yar:=Custody×Int
abbrev Yas:=List Outcome
abbrev Yat:=List Off
abbrev Yau:=Circ×Int×Int
abbrev Yav:=List Int
abbrev Yaw:=Int×Int
abbrev Yax:=Int×Int×Yaa×Unit
abbrev Yay:=(Int×Int×Circ×Circ×Unit)⊕(Yac⊕Yag)
abbrev Yaz:=(Unit)⊕Yag
abbrev YaA:=(Circ×Unit)⊕Yag
abbrev YaB:=(Int×Int×Yaa×Int×Int×Yaa×Unit)⊕((Yaa×Unit))
abbrev YaC:=Int×(List Patron)×Int×Int×Unit
abbrev YaD:=Int×Yat×Int×Int×Circ×Circ×Yas×Unit
abbrev YaE:=Yaj×Int×Int×Circ×Unit
abbrev YaF:=Yat×Yat×Int×Int×Unit
abbrev YaG:=(Yav×Int×Int×Int×Int×Unit)⊕((Yav×Int×Int×Int×Unit))
abbrev YaH:=(V4 Calendar)×Int×Circ×Unit
abbrev YaI:=Yaa×Unit
abbrev YaJ:=Yav×Int×Int×Calendar×Unit
abbrev YaK:=Int×Int×Yaj×Int×Int×Unit
abbrev YaL:=Int×Int×Yal×Int×Int×Unit
abbrev YaM:=Int×Calendar×Unit
abbrev YaN:=Int×(List Move)×Int×Int×Custody×Custody×Unit
abbrev YaO:=Yaa×Int×Int×Circ×Unit
abbrev YaP:=Yal×Int×Int×Circ×Unit
abbrev YaQ:=V7 Bool
abbrev YaR:=Yaa×Yaa×Int×Int×Unit
abbrev YaS:=Yaj×Yaj×Int×Int×Unit
abbrev YaT:=Int×Int×Int×Yav×Unit
abbrev YaU:=List Rule
abbrev YaV:=Circ×Int
abbrev YaW:=Yat×Int×Yas×Int×Int×Circ×Circ×Unit
abbrev YaX:=Int×Circ_desk
abbrev YaY:=Option Bool
abbrev YaZ:=Option Int
abbrev Ya0:=Option Yaf
abbrev Ya1:=Option Yaw
abbrev Ya2:=Option Yar
abbrev Ya3:=Option Yaa
abbrev Ya4:=Option Yau
abbrev Ya5:=Option Yab
abbrev Ya6:=Option Yad
abbrev Ya7:=Option Yam
abbrev Ya8:=Option YaV
abbrev Ya9:=Option Yak
def qb7:YaY:=some true
def c4k:(Int×Circ×Unit)→Option ((Int×Circ×Unit)⊕Yaz):=λ(i,c,_)=>
 bif decide (i<4) then let k (v:Int) (v6:List Int):Option ((Int×Circ×Unit)⊕Yaz):=bif decide (100<(v6.length:Int)) then some (.inr (.inr (false,()))) else some (.inl (wr .i64 (i+1),c,()));bif i==0 then k c.Cals.x0.Week c.Cals.x0.Closed else bif i==1 then k c.Cals.x1.Week c.Cals.x1.Closed else bif i==2 then k c.Cals.x2.Week c.Cals.x2.Closed else bif i==3 then k c.Cals.x3.Week c.Cals.x3.Closed else none else some (.inr (.inl (())))
def qb (c:Circ):YaY:=
 let k12 (v:Bool):YaY:=let k11 (v1:Bool):YaY:=let k10 (v2:Bool):YaY:=let k9 (v3:Bool):YaY:=let k8 (v4:Bool):YaY:=let k (v5:Bool):YaY:=bif v5 then some false else match b9 c4k (0,c,()) with|some (.inl (_)) =>some true|some (.inr (v7,_)) =>some v7|none=>none;bif v4 then k true else k (decide (100<(c.Rules.length:Int)));bif v3 then k8 true else k8 (decide (200<(c.Charges.length:Int)));bif v2 then k9 true else k9 (decide (100<(c.Holds.length:Int)));bif v1 then k10 true else k10 (decide (100<(c.Loans.length:Int)));bif v then k11 true else k11 (decide (100<(c.Patrons.length:Int)));bif decide (200<(c.Moves.length:Int)) then k12 true else k12 (decide (100<(c.Items.length:Int)))
def qax (n:Int) (low:Int) (high:Int):YaY:=
 let k (v:Bool):YaY:=some v;bif decide (low≤n) then k (decide (n≤high)) else k false
def qcx (x:Item):YaY:=
 match qax x.ID 1 9999 with|some r1=>let k21 (v:Bool):YaY:=let k20 (v6:Bool):YaY:=let k19 (v9:Bool):YaY:=let k18 (v12:Bool):YaY:=let k17 (v13:Bool):YaY:=let k (v16:Bool):YaY:=some v16;bif v13 then match qbz x.Call with|some r15=>k r15|none=>none else k false;bif v12 then k17 (decide ((x.Call.length:Int)≤200)) else k17 false;bif v9 then match qax x.Price 0 100000000 with|some r11=>k18 r11|none=>none else k18 false;bif v6 then match qax x.Kind 1 9 with|some r8=>k19 r8|none=>none else k19 false;bif v then match qax x.Branch 1 4 with|some r5=>k20 r5|none=>none else k20 false;bif r1 then match qax x.Record 1 9999 with|some r3=>k21 r3|none=>none else k21 false|none=>none
def qch (x:Item) (v:Int):YaY:=
 some (x.ID==v)
def d55 {γ0:Type} (p:γ0→Item→Option Bool):((List Item)×γ0×Int×Int×Unit)→Option (((List Item)×γ0×Int×Int×Unit)⊕Yap):=λ(s,g,v,v1,_)=>
 bif decide (v1<v) then match n8 s v1 with|some x=>(match p g x with|some r=>bif r then some (.inr (.inr (v1,()))) else some (.inl (s,g,v,wr .i64 (v1+1),()))|none=>none)|none=>none else some (.inr (.inl (())))
def qg {γ0:Type} (p:γ0→Item→Option Bool) (s:List Item) (g:γ0):YaZ:=
 match b9 (d55 p) (s,g,(s.length:Int),0,()) with|some (.inl (_)) =>some (-1)|some (.inr (v,_)) =>some v|none=>none
def qw (c:Circ) (item:Int):YaZ:=
 match qg (λg x0=>qch x0 g.2.1) c.Items ((),(item,())) with|some r1=>some r1|none=>none
def qa4 (n:Int) (least:Int) (most:Int):YaY:=
 let k (v:Bool):YaY:=some v;bif decide (least≤n) then k (decide (n≤most)) else k false
def qaw (branch:Int):Option Custody:=
 some (⟨1,branch,0,0⟩:Custody)
def qdd (c:Custody):YaY:=
 match qa4 c.State 1 12 with|some r1=>(let k23 (v:Bool):YaY:=bif v then some false else let k22 (v7:Bool):YaY:=let k19 (v18:Bool):YaY:=some v18;bif v7 then match qa4 c.Who 1 9999 with|some r9=>bif r9 then k19 (c.To==0) else k19 false|none=>none else bif c.State==6 then match qa4 c.Who 0 9999 with|some r12=>let k (v15:Bool):YaY:=bif v15 then k19 (!(c.To==c.Branch)) else k19 false;bif r12 then match qa4 c.To 1 4 with|some r14=>k r14|none=>none else k false|none=>none else let k21 (v20:Bool):YaY:=some v20;bif c.Who==0 then k21 (c.To==0) else k21 false;bif c.State==4 then k22 (c.State==4) else bif c.State==5 then k22 (c.State==5) else bif c.State==8 then k22 (c.State==8) else bif c.State==9 then k22 (c.State==9) else k22 (c.State==10);bif !r1 then k23 true else match qa4 c.Branch 1 4 with|some r3=>k23 (!r3)|none=>none)|none=>none
def qcc (state:Int) (kind:Int):YaY:=
 match qa4 state 1 12 with|some r1=>let k5 (v:Bool):YaY:=let k (v4:Bool):YaY:=some v4;bif v then match n8 a1y state with|some x=>bif decide (kind<0) then none else k ((wr .u16 (BitVec.ofInt 16 (x.fdiv (2 ^ (min kind.toNat 16))) &&& BitVec.ofInt 16 1).toNat)==1)|none=>none else k false;bif r1 then match qa4 kind 1 15 with|some r3=>k5 r3|none=>none else k5 false|none=>none
def qbl (c:Custody) (ok:Bool):Ya2:=
 bif !ok then some ((⟨0,0,0,0⟩:Custody),1) else some (c,0)
def qc1 (c:Custody) (m:Move):Ya2:=
 match qbl (⟨6,c.Branch,m.Who,m.Branch⟩:Custody) (!(m.Branch==c.Branch)) with|some (r1,r2) =>some (r1,r2)|none=>none
def qcz (c:Custody) (m:Move):Ya2:=
 match qdd c with|some r1=>(let k95 (v:Bool):Ya2:=let k94 (v6:Bool):Ya2:=let k93 (v9:Bool):Ya2:=let k92 (v12:Bool):Ya2:=let k91 (v15:Bool):Ya2:=bif v15 then some ((⟨0,0,0,0⟩:Custody),1) else match qcc c.State m.Kind with|some r17=>bif !r17 then some ((⟨0,0,0,0⟩:Custody),12) else let k90 (v18:Bool):Ya2:=let k89 (v19:Bool):Ya2:=bif v19 then some ((⟨0,0,0,0⟩:Custody),16) else let k88 (v22:Bool):Ya2:=let k84 (state79:Int) (ok80:Bool):Ya2:=match qbl (⟨state79,m.Branch,m.Who,0⟩:Custody) ok80 with|some (r82,r83) =>some (r82,r83)|none=>none;let k87 (v85:Int) (v86:Custody):Ya2:=some (v86,v85);bif v22 then k84 2 (m.Who==0) else bif m.Kind==7 then bif m.Who==0 then k84 2 (m.Branch==c.To) else k84 2 false else bif m.Kind==6 then match qc1 c m with|some (r25,r26) =>k87 r26 r25|none=>none else bif m.Kind==3 then bif m.Branch==c.Branch then k84 4 (!(m.Who==0)) else k84 4 false else bif m.Kind==5 then bif m.Branch==c.Branch then k84 5 (!(m.Who==0)) else k84 5 false else bif m.Kind==10 then bif m.Branch==c.Branch then k84 8 (!(m.Who==0)) else k84 8 false else bif m.Kind==2 then bif m.Branch==c.Branch then k84 3 (m.Who==0) else k84 3 false else bif m.Kind==8 then bif m.Branch==c.Branch then k84 7 (m.Who==0) else k84 7 false else bif m.Kind==11 then let k (v32:Bool):Ya2:=match qbl (⟨9,c.Branch,c.Who,0⟩:Custody) v32 with|some (r34,r35) =>k87 r35 r34|none=>none;bif m.Branch==c.Branch then k (m.Who==0) else k false else bif m.Kind==12 then let k40 (v36:Bool):Ya2:=match qbl (⟨10,c.Branch,c.Who,0⟩:Custody) v36 with|some (r38,r39) =>k87 r39 r38|none=>none;bif m.Branch==c.Branch then k40 (m.Who==0) else k40 false else bif m.Kind==13 then bif m.Branch==c.Branch then k84 11 (m.Who==0) else k84 11 false else bif m.Kind==15 then bif m.Branch==c.Branch then k84 12 (m.Who==0) else k84 12 false else k84 0 false;bif m.Kind==1 then k88 (m.Kind==1) else bif m.Kind==4 then k88 (m.Kind==4) else bif m.Kind==9 then k88 (m.Kind==9) else k88 (m.Kind==14);bif v18 then k89 (!(m.Who==c.Who)) else k89 false;bif m.Kind==3 then k90 (c.State==5) else k90 false|none=>none;bif v12 then k91 true else match qa4 m.Who 0 9999 with|some r14=>k91 (!r14)|none=>none;bif v9 then k92 true else match qa4 m.Branch 1 4 with|some r11=>k92 (!r11)|none=>none;bif v6 then k93 true else match qa4 m.Kind 1 15 with|some r8=>k93 (!r8)|none=>none;bif v then k94 true else match qa4 m.Item 1 9999 with|some r5=>k94 (!r5)|none=>none;bif !r1 then k95 true else match qa4 m.Day 0 109572 with|some r3=>k95 (!r3)|none=>none)|none=>none
def b7o:YaN→Option (YaN⊕((Custody×Custody×Unit)⊕(Int×Int×Custody×Unit))):=λ(item,v,v4,v5,v6,c,_)=>
 bif decide (v5<v4) then match n8 v v5 with|some x=>(bif !(x.Item==item) then some (.inl (item,v,v4,wr .i64 (v5+1),v6,c,())) else match qcz c x with|some (r7,r8) =>bif !(r8==0) then some (.inr (.inr (v5,r8,(⟨0,0,0,0⟩:Custody),()))) else some (.inl (item,v,v4,wr .i64 (v5+1),v6,r7,()))|none=>none)|none=>none else some (.inr (.inl (v6,c,())))
def qad (branch:Int) (l:List Move) (item:Int):Option (Custody×Int×Int):=
 match qa4 branch 1 4 with|some r1=>(bif !r1 then some ((⟨0,0,0,0⟩:Custody),(-1),1) else match qaw branch with|some r3=>(match b9 b7o (item,l,(l.length:Int),0,(⟨0,0,0,0⟩:Custody),r3,()) with|some (.inl (v,c,_)) =>some (c,(-1),0)|some (.inr (v9,v10,v11,_)) =>some (v11,v9,v10)|none=>none)|none=>none)|none=>none
def c8u:Yaq→Option (Yaq⊕YaA):=λ(v,v1,v2,c,_)=>
 bif decide (v2<v1) then match n8 v v2 with|some x=>(match qcx x with|some r3=>let k (v6:Bool):Option (Yaq⊕YaA):=bif v6 then some (.inr (.inr (false,()))) else some (.inl (v,v1,wr .i64 (v2+1),c,()));bif !r3 then k true else bif decide (0<v2) then match n8 c.Items (wr .i64 (v2-1)) with|some x4=>k (decide (x.ID≤x4.ID))|none=>none else k false|none=>none)|none=>none else some (.inr (.inl (c,())))
def b8k:((List Move)×Int×Int×Circ×Unit)→Option (((List Move)×Int×Int×Circ×Unit)⊕YaA):=λ(v,v8,v9,c,_)=>
 bif decide (v9<v8) then match n8 v v9 with|some x=>(match qw c x.Item with|some r10=>bif decide (r10<0) then some (.inr (.inr (false,()))) else some (.inl (v,v8,wr .i64 (v9+1),c,()))|none=>none)|none=>none else some (.inr (.inl (c,())))
def b8l:Yaq→Ya6:=λ(v,v12,v13,c,_)=>
 bif decide (v13<v12) then match n8 v v13 with|some x=>(match qad x.Branch c.Moves x.ID with|some (r14,r15,r16) =>let k (v17:Bool):Ya6:=bif v17 then some (.inr (.inr (false,()))) else some (.inl (v,v12,wr .i64 (v13+1),c,()));bif !(r16==0) then k true else k (!(u0 r14 x.Custody))|none=>none)|none=>none else some (.inr (.inl (())))
def qo (c:Circ):YaY:=
 let k (v:Bool):YaY:=bif v then some false else match b9 c8u (c.Items,(c.Items.length:Int),0,c,()) with|some (.inl (c7,_)) =>(match b9 b8k (c7.Moves,(c7.Moves.length:Int),0,c7,()) with|some (.inl (c11,_)) =>(match b9 b8l (c11.Items,(c11.Items.length:Int),0,c11,()) with|some (.inl (_)) =>some true|some (.inr (v18,_)) =>some v18|none=>none)|some (.inr (v19,_)) =>some v19|none=>none)|some (.inr (v20,_)) =>some v20|none=>none;bif decide (64<(c.Items.length:Int)) then k true else k (decide (2000<(c.Moves.length:Int)))
def qc0 (p:Patron):YaZ:=
 let k17 (v:Bool):YaZ:=let k16 (v1:Bool):YaZ:=let k15 (v2:Bool):YaZ:=let k14 (v13:Int):YaZ:=some v13;bif v2 then k14 1 else let k12 (v3:Bool):YaZ:=bif v3 then k14 2 else let k10 (v5:Bool):YaZ:=let k (v8:Bool):YaZ:=bif v8 then k14 3 else bif decide (200<(p.Name.length:Int)) then k14 4 else some 0;bif v5 then k true else match qb8 p.Name with|some r7=>k (!(r7==p.Name))|none=>none;bif p.Name==([]) then k10 true else match qbz p.Name with|some r4=>k10 (!r4)|none=>none;bif decide (p.Until<0) then k12 true else k12 (decide (109572<p.Until));bif v1 then k15 true else k15 (decide (4<p.Branch));bif v then k16 true else k16 (decide (p.Branch<1));bif decide (p.Kind<1) then k17 true else k17 (decide (9<p.Kind))
def b7v:YaC→Option (YaC⊕Yap):=λ(last,v,v1,v2,_)=>
 bif decide (v2<v1) then match n8 v v2 with|some x=>let k6 (v3:Bool):Option (YaC⊕Yap):=let k (v4:Int):Option (YaC⊕Yap):=some (.inr (.inr (v4,())));bif v3 then k 2 else bif decide (x.ID≤last) then k 7 else match qc0 x with|some r5=>bif !(r5==0) then some (.inr (.inr (r5,()))) else some (.inl (x.ID,v,v1,wr .i64 (v2+1),()))|none=>none;bif decide (x.ID<1) then k6 true else k6 (decide (9999<x.ID))|none=>none else some (.inr (.inl (())))
def qar (l:List Patron):YaZ:=
 bif decide (32<(l.length:Int)) then some 13 else match b9 b7v (0,l,(l.length:Int),0,()) with|some (.inl (_)) =>some 0|some (.inr (v,_)) =>some v|none=>none
def qdp (n:Int):YaY:=
 let k (v:Bool):YaY:=some v;bif decide (1≤n) then k (decide (n≤9999)) else k false
def qdm (n:Int):YaY:=
 let k (v:Bool):YaY:=some v;bif decide (0≤n) then k (decide (n≤109572)) else k false
def b4p:(Yal×Yal×Int×Int×Unit)→Ya5:=λ(l,v,v1,v2,_)=>
 bif decide (v2<v1) then match n8 v v2 with|some x=>let k25 (v4:Bool):Ya5:=let k24 (v23:Int):Ya5:=some (.inr (.inr (v23,())));bif v4 then k24 7 else match qdp x.Item with|some r5=>(let k22 (v8:Bool):Ya5:=let k21 (v11:Bool):Ya5:=let k20 (v14:Bool):Ya5:=let k19 (v15:Bool):Ya5:=let k18 (v16:Bool):Ya5:=let k (v17:Bool):Ya5:=bif v17 then k24 2 else some (.inl (l,v,v1,wr .i64 (v2+1),()));bif v16 then k true else k (decide (10<x.Renewals));bif v15 then k18 true else k18 (decide (x.Renewals<0));bif v14 then k19 true else k19 (decide (x.Due<x.Out));bif v11 then k20 true else match qdm x.Due with|some r13=>k20 (!r13)|none=>none;bif v8 then k21 true else match qdm x.Out with|some r10=>k21 (!r10)|none=>none;bif !r5 then k22 true else match qdp x.Patron with|some r7=>k22 (!r7)|none=>none)|none=>none;bif decide (0<v2) then match n8 l (wr .i64 (v2-1)) with|some x3=>k25 (decide (x.Item≤x3.Item))|none=>none else k25 false|none=>none else some (.inr (.inl (())))
def qaa (l:List Loan):YaZ:=
 bif decide (64<(l.length:Int)) then some 13 else match b9 b4p (l,l,(l.length:Int),0,()) with|some (.inl (_)) =>some 0|some (.inr (v,_)) =>some v|none=>none
def qbh (n:Int) (low:Int) (high:Int):YaY:=
 let k (v:Bool):YaY:=some v;bif decide (low≤n) then k (decide (n≤high)) else k false
def qdj (n:Int):YaY:=
 match qbh n 0 109572 with|some r1=>some r1|none=>none
def qc4 (h:Hold):YaZ:=
 match qbh h.ID 1 99999 with|some r1=>(let k41 (v:Bool):YaZ:=let k40 (v6:Bool):YaZ:=let k39 (v9:Bool):YaZ:=let k38 (v37:Int):YaZ:=some v37;bif v9 then k38 2 else match qbh h.Pickup 1 4 with|some r11=>(let k36 (v14:Bool):YaZ:=let k35 (v17:Bool):YaZ:=let k34 (v20:Bool):YaZ:=let k33 (v23:Bool):YaZ:=let k32 (v26:Bool):YaZ:=bif v26 then k38 2 else match qbh h.State 1 3 with|some r28=>bif !r28 then k38 1 else let k (v29:Bool):YaZ:=bif v29 then k38 12 else some 0;bif !((decide (0<h.Got))==(!(h.State==1))) then k true else k (!((decide (0<h.Until))==(h.State==3)))|none=>none;bif v23 then k32 true else match qbh h.Rank 0 9 with|some r25=>k32 (!r25)|none=>none;bif v20 then k33 true else match qdj h.Asleep with|some r22=>k33 (!r22)|none=>none;bif v17 then k34 true else match qdj h.Until with|some r19=>k34 (!r19)|none=>none;bif v14 then k35 true else match qbh h.Got 0 9999 with|some r16=>k35 (!r16)|none=>none;bif !r11 then k36 true else match qdj h.Placed with|some r13=>k36 (!r13)|none=>none)|none=>none;bif v6 then k39 true else match qbh h.Item 0 9999 with|some r8=>k39 (!r8)|none=>none;bif v then k40 true else match qbh h.Record 1 9999 with|some r5=>k40 (!r5)|none=>none;bif !r1 then k41 true else match qbh h.Patron 1 9999 with|some r3=>k41 (!r3)|none=>none)|none=>none
def qbq (a:Hold) (b:Hold):YaY:=
 let k (v:Bool):YaY:=some v;bif a.Patron==b.Patron then k (a.Record==b.Record) else k false
def c4z {γ0:Type} (p:γ0→Hold→Hold→Option Bool):(Yaa×γ0×Int×Int×Int×Int×Int×Unit)→Option ((Yaa×γ0×Int×Int×Int×Int×Int×Unit)⊕((Yaa×γ0×Int×Int×Unit)⊕Yag)):=λ(l,g,i,v,v2,v3,v4,_)=>
 bif decide (v4<v3) then match n8 l v4 with|some x=>(match n8 l i with|some x5=>(match p g x x5 with|some r=>bif r then some (.inr (.inr (true,()))) else some (.inl (l,g,i,v,v2,v3,wr .i64 (v4+1),()))|none=>none)|none=>none)|none=>none else some (.inr (.inl (l,g,v,v2,())))
def c8n {γ0:Type} (p:γ0→Hold→Hold→Option Bool):(Yaa×γ0×Int×Int×Unit)→Option ((Yaa×γ0×Int×Int×Unit)⊕Yaz):=λ(l,g,v,v1,_)=>
 bif decide (v1<v) then match b9 (c4z p) (l,g,v1,v,v1,v1,0,()) with|some (.inl (l6,g7,v8,v9,_)) =>some (.inl (l6,g7,v8,wr .i64 (v9+1),()))|some (.inr (v10,_)) =>some (.inr (.inr (v10,())))|none=>none else some (.inr (.inl (())))
def qf {γ0:Type} (p:γ0→Hold→Hold→Option Bool) (l:List Hold) (g:γ0):YaY:=
 match b9 (c8n p) (l,g,(l.length:Int),0,()) with|some (.inl (_)) =>some false|some (.inr (v,_)) =>some v|none=>none
def qcq (a:Hold) (b:Hold):YaY:=
 let k (v:Bool):YaY:=some v;bif a.Got==b.Got then k (decide (0<a.Got)) else k false
def c8r:YaR→Option (YaR⊕(YaI⊕Yae)):=λ(l,v,v1,v2,_)=>
 bif decide (v2<v1) then match n8 v v2 with|some x=>let k (v4:Bool):Option (YaR⊕(YaI⊕Yae)):=bif v4 then some (.inr (.inr (7,()))) else match qc4 x with|some r5=>bif !(r5==0) then some (.inr (.inr (r5,()))) else some (.inl (l,v,v1,wr .i64 (v2+1),()))|none=>none;bif decide (0<v2) then match n8 l (wr .i64 (v2-1)) with|some x3=>k (decide (x.ID≤x3.ID))|none=>none else k false|none=>none else some (.inr (.inl (l,())))
def qk (l:List Hold):YaZ:=
 bif decide (64<(l.length:Int)) then some 13 else match b9 c8r (l,l,(l.length:Int),0,()) with|some (.inl (l6,_)) =>(match qf (λg x0 x1=>qbq x0 x1) l6 ((),()) with|some r7=>(bif r7 then some 7 else match qf (λg x0 x1=>qcq x0 x1) l6 ((),()) with|some r9=>bif r9 then some 7 else some 0|none=>none)|none=>none)|some (.inr (v,_)) =>some v|none=>none
def qd1 (n:Int):YaY:=
 let k (v:Bool):YaY:=some v;bif decide (1≤n) then k (decide (n≤9999)) else k false
def qc5 (n:Int):YaY:=
 let k (v:Bool):YaY:=some v;bif decide (0≤n) then k (decide (n≤109572)) else k false
def qbk (x:Charge):YaZ:=
 let k22 (v:Bool):YaZ:=let k21 (v2:Bool):YaZ:=let k20 (v5:Bool):YaZ:=let k19 (v8:Bool):YaZ:=let k18 (v17:Int):YaZ:=some v17;bif v8 then k18 2 else let k16 (v9:Bool):YaZ:=bif v9 then k18 1 else let k14 (v10:Bool):YaZ:=let k13 (v11:Bool):YaZ:=let k (v12:Bool):YaZ:=bif v12 then k18 2 else some 0;bif v11 then k true else k (decide (x.Amount≤x.Paid));bif v10 then k13 true else k13 (decide (x.Paid<0));bif decide (x.Amount<1) then k14 true else k14 (decide (100000000<x.Amount));bif decide (x.Kind<1) then k16 true else k16 (decide (3<x.Kind));bif v5 then k19 true else match qc5 x.Day with|some r7=>k19 (!r7)|none=>none;bif v2 then k20 true else match qd1 x.Item with|some r4=>k20 (!r4)|none=>none;bif v then k21 true else match qd1 x.Patron with|some r1=>k21 (!r1)|none=>none;bif decide (x.ID<1) then k22 true else k22 (decide (99999<x.ID))
def b4r:YaS→Option (YaS⊕Yap):=λ(l,v,v1,v2,_)=>
 bif decide (v2<v1) then match n8 v v2 with|some x=>let k (v4:Bool):Option (YaS⊕Yap):=bif v4 then some (.inr (.inr (7,()))) else match qbk x with|some r5=>bif !(r5==0) then some (.inr (.inr (r5,()))) else some (.inl (l,v,v1,wr .i64 (v2+1),()))|none=>none;bif decide (0<v2) then match n8 l (wr .i64 (v2-1)) with|some x3=>k (decide (x.ID≤x3.ID))|none=>none else k false|none=>none else some (.inr (.inl (())))
def qaf (l:List Charge):YaZ:=
 bif decide (128<(l.length:Int)) then some 13 else match b9 b4r (l,l,(l.length:Int),0,()) with|some (.inl (_)) =>some 0|some (.inr (v,_)) =>some v|none=>none
def qba (n:Int) (least:Int) (most:Int):YaY:=
 let k (v:Bool):YaY:=some v;bif decide (least≤n) then k (decide (n≤most)) else k false
def qcp (r:Rule):YaY:=
 match qba r.Patron 0 9 with|some r2=>let k48 (v:Bool):YaY:=let k47 (v7:Bool):YaY:=let k46 (v10:Bool):YaY:=let k45 (v13:Bool):YaY:=let k44 (v16:Bool):YaY:=let k43 (v19:Bool):YaY:=let k42 (v22:Bool):YaY:=let k41 (v25:Bool):YaY:=let k40 (v28:Bool):YaY:=let k39 (v31:Bool):YaY:=let k38 (v34:Bool):YaY:=let k (v37:Bool):YaY:=some v37;bif v34 then match qba r.Rank 0 9 with|some r36=>k r36|none=>none else k false;bif v31 then match qba r.Fixed 0 109572 with|some r33=>k38 r33|none=>none else k38 false;bif v28 then match qba r.Recall 1 60 with|some r30=>k39 r30|none=>none else k39 false;bif v25 then match qba r.Shelf 1 60 with|some r27=>k40 r27|none=>none else k40 false;bif v22 then match qba r.Loans 0 99 with|some r24=>k41 r24|none=>none else k41 false;bif v19 then match qba r.MaxFine 0 100000000 with|some r21=>k42 r21|none=>none else k42 false;bif v16 then match qba r.Grace 0 30 with|some r18=>k43 r18|none=>none else k43 false;bif v13 then match qba r.Fine 0 1000 with|some r15=>k44 r15|none=>none else k44 false;bif v10 then match qba r.Renewals 0 10 with|some r12=>k45 r12|none=>none else k45 false;bif v7 then match qba r.Days 0 365 with|some r9=>k46 r9|none=>none else k46 false;bif v then match qba r.Branch 0 4 with|some r6=>k47 r6|none=>none else k47 false;bif r2 then match qba r.Item 0 9 with|some r4=>k48 r4|none=>none else k48 false|none=>none
def qbw (o:Rule) (v:Rule):YaY:=
 let k3 (v1:Bool):YaY:=let k (v2:Bool):YaY:=some v2;bif v1 then k (o.Branch==v.Branch) else k false;bif o.Patron==v.Patron then k3 (o.Item==v.Item) else k3 false
def b7r {γ0:Type} (p:γ0→Rule→Option Bool):(YaU×γ0×Int×Int×Unit)→Option ((YaU×γ0×Int×Int×Unit)⊕Yap):=λ(s,g,v,v1,_)=>
 bif decide (v1<v) then match n8 s v1 with|some x=>(match p g x with|some r=>bif r then some (.inr (.inr (v1,()))) else some (.inl (s,g,v,wr .i64 (v1+1),()))|none=>none)|none=>none else some (.inr (.inl (())))
def qam {γ0:Type} (p:γ0→Rule→Option Bool) (s:List Rule) (g:γ0):YaZ:=
 match b9 (b7r p) (s,g,(s.length:Int),0,()) with|some (.inl (_)) =>some (-1)|some (.inr (v,_)) =>some v|none=>none
def qdq {γ0:Type} (p:γ0→Rule→Option Bool) (s:List Rule) (g:γ0):YaY:=
 match qam p s g with|some r1=>some (decide (0≤r1))|none=>none
def d6d:(YaU×YaU×Int×Int×Unit)→Option ((YaU×YaU×Int×Int×Unit)⊕Yap):=λ(l,v,v1,v2,_)=>
 bif decide (v2<v1) then match n8 v v2 with|some x=>(match qcp x with|some r3=>bif !r3 then some (.inr (.inr (2,()))) else bif decide (0≤(0:Int))&&(decide ((0:Int)≤v2)&&decide (v2≤(l.length:Int))) then match qdq (λg x0=>qbw x0 g.2.1) ((l.take v2.toNat).drop (0:Int).toNat) ((),(x,())) with|some r5=>bif r5 then some (.inr (.inr (7,()))) else some (.inl (l,v,v1,wr .i64 (v2+1),()))|none=>none else none|none=>none)|none=>none else some (.inr (.inl (())))
def qq (l:List Rule):YaZ:=
 bif decide (32<(l.length:Int)) then some 13 else match b9 d6d (l,l,(l.length:Int),0,()) with|some (.inl (_)) =>some 0|some (.inr (v,_)) =>some v|none=>none
def qce (d:Int):YaY:=
 let k (v:Bool):YaY:=some v;bif decide (0≤d) then k (decide (d≤109572)) else k false
def qcb (d:Int):YaY:=
 match qce d with|some r1=>some (!r1)|none=>none
def b7s {γ0:Type} (p:γ0→Int→Option Bool):(Yav×γ0×Int×Int×Unit)→Option ((Yav×γ0×Int×Int×Unit)⊕Yap):=λ(s,g,v,v1,_)=>
 bif decide (v1<v) then match n8 s v1 with|some x=>(match p g x with|some r=>bif r then some (.inr (.inr (v1,()))) else some (.inl (s,g,v,wr .i64 (v1+1),()))|none=>none)|none=>none else some (.inr (.inl (())))
def qan {γ0:Type} (p:γ0→Int→Option Bool) (s:List Int) (g:γ0):YaZ:=
 match b9 (b7s p) (s,g,(s.length:Int),0,()) with|some (.inl (_)) =>some (-1)|some (.inr (v,_)) =>some v|none=>none
def qdr {γ0:Type} (p:γ0→Int→Option Bool) (s:List Int) (g:γ0):YaY:=
 match qan p s g with|some r1=>some (decide (0≤r1))|none=>none
def c8v:YaJ→Option (YaJ⊕Yap):=λ(v,v4,v5,c,_)=>
 bif decide (v5<v4) then match n8 v v5 with|some x=>let k (v7:Bool):Option (YaJ⊕Yap):=bif v7 then some (.inr (.inr (7,()))) else some (.inl (v,v4,wr .i64 (v5+1),c,()));bif decide (0<v5) then match n8 c.Closed (wr .i64 (v5-1)) with|some x6=>k (decide (x≤x6))|none=>none else k false|none=>none else some (.inr (.inl (())))
def qp (c:Calendar):YaZ:=
 let k9 (v:Bool):YaZ:=let k (v3:Int):YaZ:=some v3;bif v then k 1 else bif decide (64<(c.Closed.length:Int)) then k 13 else match qdr (λg x0=>qcb x0) c.Closed ((),()) with|some r1=>(bif r1 then k 2 else match b9 c8v (c.Closed,(c.Closed.length:Int),0,c,()) with|some (.inl (_)) =>some 0|some (.inr (v8,_)) =>some v8|none=>none)|none=>none;bif decide (c.Week<0) then k9 true else k9 (decide (127≤c.Week))
def c5e:YaH→Option (YaH⊕YaA):=λ(v,v13,c,_)=>
 bif decide (v13<4) then let k (v14:Int) (v15:List Int):Option (YaH⊕YaA):=match qp (⟨v14,v15⟩:Calendar) with|some r16=>bif !(r16==0) then some (.inr (.inr (false,()))) else some (.inl (v,wr .i64 (v13+1),c,()))|none=>none;bif v13==0 then k v.x0.Week v.x0.Closed else bif v13==1 then k v.x1.Week v.x1.Closed else bif v13==2 then k v.x2.Week v.x2.Closed else bif v13==3 then k v.x3.Week v.x3.Closed else none else some (.inr (.inl (c,())))
def b8i:YaO→Ya9:=λ(v,v23,v24,c,_)=>
 bif decide (v24<v23) then match n8 v v24 with|some x=>bif decide (c.NextHold≤x.ID) then some (.inr (.inr (false,()))) else some (.inl (v,v23,wr .i64 (v24+1),c,()))|none=>none else some (.inr (.inl (c,())))
def b8j:YaE→Option (YaE⊕Yaz):=λ(v,v26,v27,c,_)=>
 bif decide (v27<v26) then match n8 v v27 with|some x=>bif decide (c.NextCharge≤x.ID) then some (.inr (.inr (false,()))) else some (.inl (v,v26,wr .i64 (v27+1),c,()))|none=>none else some (.inr (.inl (())))
def qn (c:Circ):YaY:=
 match qar c.Patrons with|some r1=>(let k34 (v:Bool):YaY:=let k33 (v6:Bool):YaY:=let k32 (v9:Bool):YaY:=let k31 (v12:Bool):YaY:=bif v12 then some false else match b9 c5e (c.Cals,0,c,()) with|some (.inl (c17,_)) =>(match qax c17.NextHold 1 100000 with|some r19=>(let k (v22:Bool):YaY:=bif v22 then some false else match b9 b8i (c17.Holds,(c17.Holds.length:Int),0,c17,()) with|some (.inl (c25,_)) =>(match b9 b8j (c25.Charges,(c25.Charges.length:Int),0,c25,()) with|some (.inl (_)) =>some true|some (.inr (v28,_)) =>some v28|none=>none)|some (.inr (v29,_)) =>some v29|none=>none;bif !r19 then k true else match qax c17.NextCharge 1 100000 with|some r21=>k (!r21)|none=>none)|none=>none)|some (.inr (v30,_)) =>some v30|none=>none;bif v9 then k31 true else match qq c.Rules with|some r11=>k31 (!(r11==0))|none=>none;bif v6 then k32 true else match qaf c.Charges with|some r8=>k32 (!(r8==0))|none=>none;bif v then k33 true else match qk c.Holds with|some r5=>k33 (!(r5==0))|none=>none;bif !(r1==0) then k34 true else match qaa c.Loans with|some r3=>k34 (!(r3==0))|none=>none)|none=>none
def qcd (p:Patron) (v:Int):YaY:=
 some (p.ID==v)
def b7x {γ0:Type} (p:γ0→Patron→Option Bool):((List Patron)×γ0×Int×Int×Unit)→Option (((List Patron)×γ0×Int×Int×Unit)⊕Yap):=λ(s,g,v,v1,_)=>
 bif decide (v1<v) then match n8 s v1 with|some x=>(match p g x with|some r=>bif r then some (.inr (.inr (v1,()))) else some (.inl (s,g,v,wr .i64 (v1+1),()))|none=>none)|none=>none else some (.inr (.inl (())))
def qau {γ0:Type} (p:γ0→Patron→Option Bool) (s:List Patron) (g:γ0):YaZ:=
 match b9 (b7x p) (s,g,(s.length:Int),0,()) with|some (.inl (_)) =>some (-1)|some (.inr (v,_)) =>some v|none=>none
def qbb (l:List Patron) (vid:Int):YaZ:=
 match qau (λg x0=>qcd x0 g.2.1) l ((),(vid,())) with|some r1=>some r1|none=>none
def qbr (l:List Patron) (vid:Int):Option (Patron×Bool):=
 match qbb l vid with|some r1=>(bif decide (r1<0) then some ((⟨0,0,0,0,false,[]⟩:Patron),false) else match n8 l r1 with|some x=>some (x,true)|none=>none)|none=>none
def qbm (vid:Int) (v:Circ):YaY:=
 match qbr v.Patrons vid with|some (r1,r2) =>some r2|none=>none
def c8q:YaP→Option (YaP⊕YaA):=λ(v,v1,v2,c,_)=>
 bif decide (v2<v1) then match n8 v v2 with|some x=>(match qbm x.Patron c with|some r3=>(let k (v6:Bool):Option (YaP⊕YaA):=bif v6 then some (.inr (.inr (false,()))) else some (.inl (v,v1,wr .i64 (v2+1),c,()));bif !r3 then k true else match qw c x.Item with|some r5=>k (decide (r5<0))|none=>none)|none=>none)|none=>none else some (.inr (.inl (c,())))
def d59:YaO→Ya9:=λ(v,v8,v9,c,_)=>
 bif decide (v9<v8) then match n8 v v9 with|some x=>(match qbm x.Patron c with|some r10=>bif !r10 then some (.inr (.inr (false,()))) else some (.inl (v,v8,wr .i64 (v9+1),c,()))|none=>none)|none=>none else some (.inr (.inl (c,())))
def b8g:YaE→Option (YaE⊕Yaz):=λ(v,v12,v13,c,_)=>
 bif decide (v13<v12) then match n8 v v13 with|some x=>(match qbm x.Patron c with|some r14=>bif !r14 then some (.inr (.inr (false,()))) else some (.inl (v,v12,wr .i64 (v13+1),c,()))|none=>none)|none=>none else some (.inr (.inl (())))
def qi (c:Circ):YaY:=
 match b9 c8q (c.Loans,(c.Loans.length:Int),0,c,()) with|some (.inl (c7,_)) =>(match b9 d59 (c7.Holds,(c7.Holds.length:Int),0,c7,()) with|some (.inl (c11,_)) =>(match b9 b8g (c11.Charges,(c11.Charges.length:Int),0,c11,()) with|some (.inl (_)) =>some true|some (.inr (v,_)) =>some v|none=>none)|some (.inr (v15,_)) =>some v15|none=>none)|some (.inr (v16,_)) =>some v16|none=>none
def qz (item:Int):Option Yae:=
 some (item,())
def qbn (n:Loan) (v:Int):YaY:=
 some (n.Item==v)
def b1v {γ0:Type} (p:γ0→Loan→Option Bool):(Yal×γ0×Int×Int×Unit)→Option ((Yal×γ0×Int×Int×Unit)⊕Yap):=λ(s,g,v,v1,_)=>
 bif decide (v1<v) then match n8 s v1 with|some x=>(match p g x with|some r=>bif r then some (.inr (.inr (v1,()))) else some (.inl (s,g,v,wr .i64 (v1+1),()))|none=>none)|none=>none else some (.inr (.inl (())))
def qe {γ0:Type} (p:γ0→Loan→Option Bool) (s:List Loan) (g:γ0):YaZ:=
 match b9 (b1v p) (s,g,(s.length:Int),0,()) with|some (.inl (_)) =>some (-1)|some (.inr (v,_)) =>some v|none=>none
def qa9 {γ0:Type} (p:γ0→Loan→Option Bool) (l:List Loan) (g:γ0):Option (Loan×Int):=
 match qe p l g with|some r1=>(bif decide (r1<0) then some ((⟨0,0,0,0,0,false⟩:Loan),(-1)) else match n8 l r1 with|some x=>some (x,r1)|none=>none)|none=>none
def qbo (l:List Loan) (item:Int):Option (Loan×Bool):=
 match qz item with|some r1=>(match qa9 (λg x0=>qbn x0 g.2.1) l ((),(r1.1,())) with|some (r3,r4) =>some (r3,decide (0≤r4))|none=>none)|none=>none
def b7k:Yaq→Ya6:=λ(v,v1,v2,c,_)=>
 bif decide (v2<v1) then match n8 v v2 with|some x=>(match qbo c.Loans x.ID with|some (r3,r4) =>let k10 (v5:Bool):Ya6:=let k9 (v6:Bool):Ya6:=let k (v8:Bool):Ya6:=bif v8 then some (.inr (.inr (false,()))) else some (.inl (v,v1,wr .i64 (v2+1),c,()));bif !(r4==v6) then k true else bif r4 then k (!(r3.Patron==x.Custody.Who)) else k false;bif v5 then k9 true else k9 (x.Custody.State==10);bif x.Custody.State==4 then k10 true else k10 (x.Custody.State==9)|none=>none)|none=>none else some (.inr (.inl (())))
def qa2 (c:Circ):YaY:=
 match b9 b7k (c.Items,(c.Items.length:Int),0,c,()) with|some (.inl (_)) =>some true|some (.inr (v,_)) =>some v|none=>none
def qb5 (h:Hold) (v:Int):YaY:=
 some (h.Got==v)
def b6i {γ0:Type} (p:γ0→Hold→Option Bool):(Yaa×γ0×Int×Int×Unit)→Option ((Yaa×γ0×Int×Int×Unit)⊕Yap):=λ(s,g,v,v1,_)=>
 bif decide (v1<v) then match n8 s v1 with|some x=>(match p g x with|some r=>bif r then some (.inr (.inr (v1,()))) else some (.inl (s,g,v,wr .i64 (v1+1),()))|none=>none)|none=>none else some (.inr (.inl (())))
def qa {γ0:Type} (p:γ0→Hold→Option Bool) (s:List Hold) (g:γ0):YaZ:=
 match b9 (b6i p) (s,g,(s.length:Int),0,()) with|some (.inl (_)) =>some (-1)|some (.inr (v,_)) =>some v|none=>none
def qab (c:Circ) (item:Int):Option (Hold×Bool):=
 match qa (λg x0=>qb5 x0 g.2.1) c.Holds ((),(item,())) with|some r1=>(bif decide (r1<0) then some ((⟨0,0,0,0,0,0,0,0,0,0,0⟩:Hold),false) else match n8 c.Holds r1 with|some x=>some (x,true)|none=>none)|none=>none
def c82:YaO→Ya9:=λ(v,v1,v2,c,_)=>
 bif decide (v2<v1) then match n8 v v2 with|some x=>(bif x.State==1 then some (.inl (v,v1,wr .i64 (v2+1),c,())) else match qw c x.Got with|some r3=>(let k9 (v5:Bool):Ya9:=bif v5 then some (.inr (.inr (false,()))) else match n8 c.Items r3 with|some x6=>let k (want:Int) (want7:Int) (want8:Int):Ya9:=bif !(u0 x6.Custody (⟨want,want7,x.Patron,want8⟩:Custody)) then some (.inr (.inr (false,()))) else some (.inl (v,v1,wr .i64 (v2+1),c,()));bif x.State==2 then k 6 x6.Custody.Branch x.Pickup else k 5 x.Pickup 0|none=>none;bif decide (r3<0) then k9 true else match n8 c.Items r3 with|some x4=>k9 (!(x4.Record==x.Record))|none=>none)|none=>none)|none=>none else some (.inr (.inl (c,())))
def b8n:Yaq→Ya6:=λ(v,v11,v12,c,_)=>
 bif decide (v12<v11) then match n8 v v12 with|some x=>(match qab c x.ID with|some (r13,r14) =>let k (v16:Bool):Ya6:=bif v16 then some (.inr (.inr (false,()))) else some (.inl (v,v11,wr .i64 (v12+1),c,()));bif x.Custody.State==5 then bif !r14 then k true else k (!(r13.State==3)) else k false|none=>none)|none=>none else some (.inr (.inl (())))
def qy (c:Circ):YaY:=
 match b9 c82 (c.Holds,(c.Holds.length:Int),0,c,()) with|some (.inl (c10,_)) =>(match b9 b8n (c10.Items,(c10.Items.length:Int),0,c10,()) with|some (.inl (_)) =>some true|some (.inr (v,_)) =>some v|none=>none)|some (.inr (v17,_)) =>some v17|none=>none
def qcj (c:Circ):YaY:=
 match qax c.Today 0 109572 with|some r1=>let k19 (v:Bool):YaY:=let k18 (v6:Bool):YaY:=let k17 (v9:Bool):YaY:=let k16 (v12:Bool):YaY:=let k (v15:Bool):YaY:=some v15;bif v12 then match qy c with|some r14=>k r14|none=>none else k false;bif v9 then match qa2 c with|some r11=>k16 r11|none=>none else k16 false;bif v6 then match qi c with|some r8=>k17 r8|none=>none else k17 false;bif v then match qn c with|some r5=>k18 r5|none=>none else k18 false;bif r1 then match qo c with|some r3=>k19 r3|none=>none else k19 false|none=>none
def qb4 (n:Int) (least:Int) (most:Int):YaY:=
 let k (v:Bool):YaY:=some v;bif decide (least≤n) then k (decide (n≤most)) else k false
def qcy (x:Off):YaZ:=
 match qb4 x.Device 1 9 with|some r1=>(let k24 (v:Bool):YaZ:=let k23 (v6:Bool):YaZ:=let k22 (v9:Bool):YaZ:=let k21 (v12:Bool):YaZ:=bif v12 then some 2 else match qb4 x.Kind 1 3 with|some r14=>bif !r14 then some 1 else let k20 (v17:Bool):YaZ:=let k (v19:Bool):YaZ:=bif v19 then some 2 else some 0;bif v17 then k true else bif !(x.Kind==1) then k (!(x.Patron==0)) else k false;bif x.Kind==1 then match qb4 x.Patron 1 9999 with|some r16=>k20 (!r16)|none=>none else k20 false|none=>none;bif v9 then k21 true else match qb4 x.Branch 1 4 with|some r11=>k21 (!r11)|none=>none;bif v6 then k22 true else match qb4 x.Item 1 9999 with|some r8=>k22 (!r8)|none=>none;bif v then k23 true else match qb4 x.Day 0 109572 with|some r5=>k23 (!r5)|none=>none;bif !r1 then k24 true else match qb4 x.Seq 1 9999 with|some r3=>k24 (!r3)|none=>none)|none=>none
def qbf (y:Off) (v:Off):YaY:=
 let k (v1:Bool):YaY:=some v1;bif v.Device==y.Device then k (v.Seq==y.Seq) else k false
def b7t {γ0:Type} (p:γ0→Off→Option Bool):(Yat×γ0×Int×Int×Unit)→Option ((Yat×γ0×Int×Int×Unit)⊕Yap):=λ(s,g,v,v1,_)=>
 bif decide (v1<v) then match n8 s v1 with|some x=>(match p g x with|some r=>bif r then some (.inr (.inr (v1,()))) else some (.inl (s,g,v,wr .i64 (v1+1),()))|none=>none)|none=>none else some (.inr (.inl (())))
def qao {γ0:Type} (p:γ0→Off→Option Bool) (s:List Off) (g:γ0):YaZ:=
 match b9 (b7t p) (s,g,(s.length:Int),0,()) with|some (.inl (_)) =>some (-1)|some (.inr (v,_)) =>some v|none=>none
def qds {γ0:Type} (p:γ0→Off→Option Bool) (s:List Off) (g:γ0):YaY:=
 match qao p s g with|some r1=>some (decide (0≤r1))|none=>none
def b4q:(Int×Int×Yav×Unit)→Option ((Int×Int×Yav×Unit)⊕Yap):=λ(v,v1,l,_)=>
 bif decide (v1<v) then match n8 l v1 with|some _=>(match l[v1.toNat]? with|some x=>bif !(x==0) then some (.inr (.inr (x,()))) else some (.inl (v,wr .i64 (v1+1),l,()))|none=>none)|none=>none else some (.inr (.inl (())))
def qac (a:Off) (b:Off):YaZ:=
 match b9 b4q ((([wr .i64 (a.Day-b.Day),wr .i64 (a.Device-b.Device),wr .i64 (a.Seq-b.Seq)]).length:Int),0,[wr .i64 (a.Day-b.Day),wr .i64 (a.Device-b.Device),wr .i64 (a.Seq-b.Seq)],()) with|some (.inl (_)) =>some 0|some (.inr (v,_)) =>some v|none=>none
def c4j {γ0:Type} (p:γ0→Off→Off→Option Int):(Yat×γ0×Int×Unit)→Option ((Yat×γ0×Int×Unit)⊕Yaz):=λ(x,g,i,_)=>
 bif decide (0<i) then match n8 x i with|some x1=>(match n8 x (wr .i64 (i-1)) with|some x2=>(match p g x1 x2 with|some r=>bif decide (r<0) then some (.inr (.inr (false,()))) else some (.inl (x,g,wr .i64 (i-1),()))|none=>none)|none=>none)|none=>none else some (.inr (.inl (())))
def qal {γ0:Type} (p:γ0→Off→Off→Option Int) (x:List Off) (g:γ0):YaY:=
 match b9 (c4j p) (x,g,wr .i64 ((x.length:Int)-1),()) with|some (.inl (_)) =>some true|some (.inr (v,_)) =>some v|none=>none
def d6a:YaF→Option (YaF⊕((Yat×Unit)⊕Yae)):=λ(l,v,v1,v2,_)=>
 bif decide (v2<v1) then match n8 v v2 with|some x=>(match qcy x with|some r3=>bif !(r3==0) then some (.inr (.inr (r3,()))) else some (.inl (l,v,v1,wr .i64 (v2+1),()))|none=>none)|none=>none else some (.inr (.inl (l,())))
def b8h:YaF→Option (YaF⊕((Yat×Unit)⊕Yae)):=λ(l,v,v5,v6,_)=>
 bif decide (v6<v5) then match n8 v v6 with|some x=>bif decide (0≤(0:Int))&&(decide ((0:Int)≤v6)&&decide (v6≤(l.length:Int))) then match qds (λg x0=>qbf x0 g.2.1) ((l.take v6.toNat).drop (0:Int).toNat) ((),(x,())) with|some r7=>bif r7 then some (.inr (.inr (7,()))) else some (.inl (l,v,v5,wr .i64 (v6+1),()))|none=>none else none|none=>none else some (.inr (.inl (l,())))
def qj (l:List Off):YaZ:=
 bif decide (128<(l.length:Int)) then some 13 else match b9 d6a (l,l,(l.length:Int),0,()) with|some (.inl (l4,_)) =>(match b9 b8h (l4,l4,(l4.length:Int),0,()) with|some (.inl (l8,_)) =>(match qal (λg x0 x1=>qac x0 x1) l8 ((),()) with|some r9=>bif !r9 then some 3 else some 0|none=>none)|some (.inr (v,_)) =>some v|none=>none)|some (.inr (v10,_)) =>some v10|none=>none
def qbv (n:Loan) (v:Off):YaY:=
 some (n.Item==v.Item)
def qd3 {γ0:Type} (p:γ0→Loan→Option Bool) (s:List Loan) (g:γ0):YaY:=
 match qe p s g with|some r1=>some (decide (0≤r1))|none=>none
def qb9 (c:Circ):Option Circ_desk:=
 some (⟨c,0⟩:Circ_desk)
def qr (e:Int) (d:Circ_desk):Ya0:=
 let k (v:Int):Ya0:=some ((),(⟨d.c,v⟩:Circ_desk));bif d.err==0 then k e else k d.err
def qda (vid:Int) (d:Circ_desk):Option YaX:=
 match qw d.c vid with|some r1=>let k (v3:Circ_desk):Option YaX:=some (r1,v3);bif decide (r1<0) then match qr 9 d with|some (_,v) =>k v|none=>none else k d|none=>none
def qbi (n:Int) (d:Circ_desk):Option (Yau×Circ_desk):=
 bif !(d.err==0) then some ((ZN,0,d.err),d) else some ((d.c,n,0),d)
def qcn (s:List Item):Option (List Item):=
 bif decide (([]:List Item).length+s.length≤LIM) then some (([])++s) else none
def qcm (s:List Move):Option (List Move):=
 bif decide (([]:List Move).length+s.length≤LIM) then some (([])++s) else none
def qa5 (i:Int) (kind:Int) (branch:Int) (who:Int) (d:Circ_desk):Ya0:=
 bif !(d.err==0) then some ((),d) else match n8 d.c.Items i with|some x=>(match n8 d.c.Items i with|some x1=>(match qcz x1.Custody (⟨d.c.Today,x.ID,kind,branch,who⟩:Move) with|some (r2,r3) =>let k10 (v:Bool):Ya0:=let k (e:Int):Ya0:=bif !(e==0) then match qr e d with|some (_,v5) =>some ((),v5)|none=>none else match qcn d.c.Items with|some l=>(match n8 l i with|some _=>(match l[i.toNat]? with|some x7=>(match qcm d.c.Moves with|some l9=>bif decide (l9.length+([(⟨d.c.Today,x.ID,kind,branch,who⟩:Move)]:List Move).length≤LIM) then some ((),(⟨⟨d.c.Today,l.set i.toNat (⟨x7.ID,x7.Record,x7.Branch,x7.Kind,x7.Price,x7.Call,r2⟩:Item),d.c.Patrons,d.c.Loans,d.c.Holds,d.c.Charges,d.c.Rules,d.c.Cals,l9++([(⟨d.c.Today,x.ID,kind,branch,who⟩:Move)]:List Move),d.c.NextHold,d.c.NextCharge,d.c.Local⟩,d.err⟩:Circ_desk)) else none|none=>none)|none=>none)|none=>none)|none=>none;bif v then k 13 else k r3;bif r3==0 then k10 (decide (2000≤(d.c.Moves.length:Int))) else k10 false|none=>none)|none=>none)|none=>none
def qbj (s:List Loan):Option Yal:=
 bif decide (([]:List Loan).length+s.length≤LIM) then some (([])++s) else none
def qd4 (l:List Loan) (i:Int):Option Yal:=
 match qbj l with|some l1=>(match qca l1 i (wr .i64 (i+1)) with|some l3=>some l3|none=>none)|none=>none
def qdk (l:List Loan) (item:Int):Option (Yal×Loan×Int):=
 match qz item with|some r1=>(match qa9 (λg x0=>qbn x0 g.2.1) l ((),(r1.1,())) with|some (r3,r4) =>(bif decide (r4<0) then some ([],(⟨0,0,0,0,0,false⟩:Loan),9) else match qd4 l r4 with|some r6=>some (r6,r3,0)|none=>none)|none=>none)|none=>none
def qb2 (l:List Loan) (e:Int) (d:Circ_desk):Ya0:=
 let k3 (v1:Circ_desk):Ya0:=let k (v2:List Loan):Ya0:=some ((),(⟨⟨v1.c.Today,v1.c.Items,v1.c.Patrons,v2,v1.c.Holds,v1.c.Charges,v1.c.Rules,v1.c.Cals,v1.c.Moves,v1.c.NextHold,v1.c.NextCharge,v1.c.Local⟩,v1.err⟩:Circ_desk));bif v1.err==0 then k l else k v1.c.Loans;bif !(e==0) then match qr e d with|some (_,v) =>k3 v|none=>none else k3 d
def qdc (key:Int) (n:Int):YaY:=
 let k (v:Bool):YaY:=some v;bif key==0 then k true else k (key==n)
def qbg (r:Rule) (patron:Int) (item:Int) (branch:Int):YaY:=
 match qdc r.Patron patron with|some r2=>let k8 (v:Bool):YaY:=let k (v7:Bool):YaY:=some v7;bif v then match qdc r.Branch branch with|some r6=>k r6|none=>none else k false;bif r2 then match qdc r.Item item with|some r4=>k8 r4|none=>none else k8 false|none=>none
def b1f:YaT→Option (YaT⊕(Yae)):=λ(n,v,v1,l,_)=>
 bif decide (v1<v) then match n8 l v1 with|some _=>(match l[v1.toNat]? with|some x=>let k (n2:Int):Option (YaT⊕(Yae)):=some (.inl (n2,v,wr .i64 (v1+1),l,()));bif !(x==0) then k (wr .i64 ((wr .i64 (n*2))+1)) else k (wr .i64 (n*2))|none=>none)|none=>none else some (.inr ((n,())))
def qav (r:Rule):YaZ:=
 match b9 b1f (0,(([r.Patron,r.Item,r.Branch]).length:Int),0,[r.Patron,r.Item,r.Branch],()) with|some ((n,_)) =>some n|none=>none
def b4t:Yan→Option (Yan⊕(Yae)):=λ(l,patron,item,branch,vat,v,v1,v2,_)=>
 bif decide (v2<v1) then match n8 v v2 with|some x=>(match qbg x patron item branch with|some r3=>let k12 (v10:Bool):Option (Yan⊕(Yae)):=let k (vat11:Int):Option (Yan⊕(Yae)):=some (.inl (l,patron,item,branch,vat11,v,v1,wr .i64 (v2+1),()));bif v10 then k v2 else k vat;bif r3 then bif decide (vat<0) then k12 true else match qav x with|some r5=>(match n8 l vat with|some x6=>(match qav x6 with|some r8=>k12 (decide (r8<r5))|none=>none)|none=>none)|none=>none else k12 false|none=>none)|none=>none else some (.inr ((vat,())))
def qas (l:List Rule) (patron:Int) (item:Int) (branch:Int):YaZ:=
 match b9 b4t (l,patron,item,branch,(-1),l,(l.length:Int),0,()) with|some ((vat,_)) =>some vat|none=>none
def qc2 (l:List Rule) (patron:Int) (item:Int) (branch:Int):Option (Rule×Bool):=
 match qas l patron item branch with|some r1=>(bif decide (r1<0) then some ((⟨0,0,0,0,0,0,0,0,0,0,0,0,0⟩:Rule),false) else match n8 l r1 with|some x=>some (x,true)|none=>none)|none=>none
def qbs (c:Circ) (vid:Int) (x:Item):Option (Rule×Bool):=
 match qbr c.Patrons vid with|some (r1,r2) =>(bif !r2 then some ((⟨0,0,0,0,0,0,0,0,0,0,0,0,0⟩:Rule),false) else match qc2 c.Rules r1.Kind x.Kind x.Branch with|some (r4,r5) =>some (r4,r5)|none=>none)|none=>none
def qbt (c:Circ) (branch:Int):Option Calendar:=
 match qax branch 1 4 with|some r1=>bif !r1 then some (⟨0,[]⟩:Calendar) else let k (v:Int) (v2:List Int):Option Calendar:=some (⟨v,v2⟩:Calendar);bif (wr .i64 (branch-1))==0 then k c.Cals.x0.Week c.Cals.x0.Closed else bif (wr .i64 (branch-1))==1 then k c.Cals.x1.Week c.Cals.x1.Closed else bif (wr .i64 (branch-1))==2 then k c.Cals.x2.Week c.Cals.x2.Closed else bif (wr .i64 (branch-1))==3 then k c.Cals.x3.Week c.Cals.x3.Closed else none|none=>none
def e2n:(Int×Calendar×YaQ×YaQ×Unit)→Option ((Int×Calendar×YaQ×YaQ×Unit)⊕((YaQ×YaQ×Unit))):=λ(v,c,v1,vopen,_)=>
 bif decide (v<7) then bif decide (v<0) then none else bif v==0 then some (.inl (wr .i64 (v+1),c,v1,(⟨(wr .i64 (BitVec.ofInt 64 (c.Week.fdiv (2 ^ (min v.toNat 64))) &&& BitVec.ofInt 64 1).toNat)==0,vopen.x1,vopen.x2,vopen.x3,vopen.x4,vopen.x5,vopen.x6⟩:V7 Bool),())) else bif v==1 then some (.inl (wr .i64 (v+1),c,v1,(⟨vopen.x0,(wr .i64 (BitVec.ofInt 64 (c.Week.fdiv (2 ^ (min v.toNat 64))) &&& BitVec.ofInt 64 1).toNat)==0,vopen.x2,vopen.x3,vopen.x4,vopen.x5,vopen.x6⟩:V7 Bool),())) else bif v==2 then some (.inl (wr .i64 (v+1),c,v1,(⟨vopen.x0,vopen.x1,(wr .i64 (BitVec.ofInt 64 (c.Week.fdiv (2 ^ (min v.toNat 64))) &&& BitVec.ofInt 64 1).toNat)==0,vopen.x3,vopen.x4,vopen.x5,vopen.x6⟩:V7 Bool),())) else bif v==3 then some (.inl (wr .i64 (v+1),c,v1,(⟨vopen.x0,vopen.x1,vopen.x2,(wr .i64 (BitVec.ofInt 64 (c.Week.fdiv (2 ^ (min v.toNat 64))) &&& BitVec.ofInt 64 1).toNat)==0,vopen.x4,vopen.x5,vopen.x6⟩:V7 Bool),())) else bif v==4 then some (.inl (wr .i64 (v+1),c,v1,(⟨vopen.x0,vopen.x1,vopen.x2,vopen.x3,(wr .i64 (BitVec.ofInt 64 (c.Week.fdiv (2 ^ (min v.toNat 64))) &&& BitVec.ofInt 64 1).toNat)==0,vopen.x5,vopen.x6⟩:V7 Bool),())) else bif v==5 then some (.inl (wr .i64 (v+1),c,v1,(⟨vopen.x0,vopen.x1,vopen.x2,vopen.x3,vopen.x4,(wr .i64 (BitVec.ofInt 64 (c.Week.fdiv (2 ^ (min v.toNat 64))) &&& BitVec.ofInt 64 1).toNat)==0,vopen.x6⟩:V7 Bool),())) else bif v==6 then some (.inl (wr .i64 (v+1),c,v1,(⟨vopen.x0,vopen.x1,vopen.x2,vopen.x3,vopen.x4,vopen.x5,(wr .i64 (BitVec.ofInt 64 (c.Week.fdiv (2 ^ (min v.toNat 64))) &&& BitVec.ofInt 64 1).toNat)==0⟩:V7 Bool),())) else none else some (.inr ((v1,vopen,())))
def qae (c:Calendar):Option YaQ:=
 match b9 e2n (0,c,(⟨false,false,false,false,false,false,false⟩:V7 Bool),(⟨false,false,false,false,false,false,false⟩:V7 Bool),()) with|some ((v,vopen,_)) =>some vopen|none=>none
def qea (day:Int):YaY:=
 let k (v:Bool):YaY:=some v;bif decide (0≤day) then k (decide (day≤109572)) else k false
def qcg (day:Int):YaZ:=
 match qea day with|some r1=>bif !r1 then some (-1) else some (day.tmod 7)|none=>none
def qde (day:Int) (weekday:Int):YaZ:=
 match qcg 0 with|some r1=>bif decide (day<(wr .i64 ((wr .i64 (weekday-r1))+7)).tmod 7) then some 0 else some (wr .i64 ((wr .i64 ((wr .i64 (day-((wr .i64 ((wr .i64 (weekday-r1))+7)).tmod 7))).tdiv 7))+1))|none=>none
def c81:(Int×Int×Int×YaQ×Int×Calendar×YaQ×Unit)→Option Yah:=λ(vfrom,vto,n,v,v2,c,vopen,_)=>
 bif decide (v2<7) then let k8 (v3:Bool):Option Yah:=let k (n7:Int):Option Yah:=some (.inl (vfrom,vto,n7,v,wr .i64 (v2+1),c,vopen,()));bif v3 then match qde vto v2 with|some r4=>(match qde (wr .i64 (vfrom-1)) v2 with|some r6=>k (wr .i64 (n+(wr .i64 (r4-r6))))|none=>none)|none=>none else k n;bif v2==0 then k8 v.x0 else bif v2==1 then k8 v.x1 else bif v2==2 then k8 v.x2 else bif v2==3 then k8 v.x3 else bif v2==4 then k8 v.x4 else bif v2==5 then k8 v.x5 else bif v2==6 then k8 v.x6 else none else some (.inr ((vfrom,vto,n,c,vopen,())))
def b8m:Yai→Option (Yai⊕(Yae)):=λ(vfrom,vto,n,v,v12,v13,vopen,_)=>
 bif decide (v13<v12) then match n8 v v13 with|some x=>let k20 (v14:Bool):Option (Yai⊕(Yae)):=let k19 (v17:Bool):Option (Yai⊕(Yae)):=let k (n18:Int):Option (Yai⊕(Yae)):=some (.inl (vfrom,vto,n18,v,v12,wr .i64 (v13+1),vopen,()));bif v17 then k (wr .i64 (n-1)) else k n;bif v14 then match qcg x with|some r15=>bif r15==0 then k19 vopen.x0 else bif r15==1 then k19 vopen.x1 else bif r15==2 then k19 vopen.x2 else bif r15==3 then k19 vopen.x3 else bif r15==4 then k19 vopen.x4 else bif r15==5 then k19 vopen.x5 else bif r15==6 then k19 vopen.x6 else none|none=>none else k19 false;bif decide (vfrom≤x) then k20 (decide (x≤vto)) else k20 false|none=>none else some (.inr ((n,())))
def qu (c:Calendar) (vfrom:Int) (vto:Int):YaZ:=
 bif decide ((if 109572<vto then 109572 else vto)<(if vfrom<0 then 0 else vfrom)) then some 0 else match qae c with|some r1=>(match b9 c81 ((if vfrom<0 then 0 else vfrom),(if 109572<vto then 109572 else vto),0,r1,0,c,r1,()) with|some ((vfrom9,vto10,n,c11,vopen,_)) =>(match b9 b8m (vfrom9,vto10,n,c11.Closed,(c11.Closed.length:Int),0,vopen,()) with|some ((n21,_)) =>some n21|none=>none)|none=>none)|none=>none
def qc6 (r:Rule) (c:Calendar) (due:Int) (back:Int):YaZ:=
 match qp c with|some r2=>(let k10 (v:Bool):YaZ:=let k (v7:Bool):YaZ:=bif v7 then some 0 else match qu c (wr .i64 (due+1)) back with|some r9=>bif decide (r9≤r.Grace) then some 0 else some (if r.MaxFine<wr .i64 (r9*r.Fine) then r.MaxFine else wr .i64 (r9*r.Fine))|none=>none;bif v then k true else match qc5 back with|some r6=>k (!r6)|none=>none;bif !(r2==0) then k10 true else match qc5 due with|some r4=>k10 (!r4)|none=>none)|none=>none
def qck (l:List Charge) (c:Charge):Option (Yaj×Int):=
 bif decide (l.length≤LIM) then bif decide (l.length+([c]:List Charge).length≤LIM) then match qaf (l++([c]:List Charge)) with|some r1=>bif !(r1==0) then some ([],r1) else some (l++([c]:List Charge),0)|none=>none else none else none
def qd6 (vid:Int) (item:Int) (kind:Int) (amount:Int) (d:Circ_desk):Ya0:=
 bif !(d.err==0) then some ((),d) else bif decide (99999<d.c.NextCharge) then match qr 13 d with|some (_,v) =>some ((),v)|none=>none else match qck d.c.Charges (⟨d.c.NextCharge,vid,item,d.c.Today,kind,amount,0⟩:Charge) with|some (r2,r3) =>bif !(r3==0) then match qr r3 d with|some (_,v5) =>some ((),v5)|none=>none else some ((),(⟨⟨d.c.Today,d.c.Items,d.c.Patrons,d.c.Loans,d.c.Holds,r2,d.c.Rules,d.c.Cals,d.c.Moves,d.c.NextHold,wr .i64 (d.c.NextCharge+1),d.c.Local⟩,d.err⟩:Circ_desk))|none=>none
def qcf (x:Charge) (v:Int) (v1:Int) (v2:Int):YaY:=
 let k6 (v3:Bool):YaY:=let k (v5:Bool):YaY:=some v5;bif v3 then bif v2==0 then k true else k (x.Kind==v2) else k false;bif x.Patron==v then k6 (x.Item==v1) else k6 false
def b7q {γ0:Type} (p:γ0→Charge→Option Bool):(γ0×Int×Int×Yaj×Int×Int×Yaj×Unit)→Option ((γ0×Int×Int×Yaj×Int×Int×Yaj×Unit)⊕((Int×Int×Yaj×Unit))):=λ(g,paid,n,v,v1,v2,l,_)=>
 bif decide (v2<v1) then match n8 v v2 with|some x=>(match p g x with|some r=>bif r then some (.inl (g,wr .i64 (paid+x.Paid),wr .i64 (n+1),v,v1,wr .i64 (v2+1),l,())) else bif decide (l.length+([x]:List Charge).length≤LIM) then some (.inl (g,paid,n,v,v1,wr .i64 (v2+1),l++([x]:List Charge),())) else none|none=>none)|none=>none else some (.inr ((paid,n,l,())))
def qaj {γ0:Type} (p:γ0→Charge→Option Bool) (l:List Charge) (g:γ0):Option (Yaj×Int×Int):=
 match b9 (b7q p) (g,0,0,l,(l.length:Int),0,([]:List Charge),()) with|some ((paid,n,l3,_)) =>some (l3,paid,n)|none=>none
def qbc (l:List Charge) (patron:Int) (item:Int) (kind:Int):Option (Yaj×Int):=
 match qaj (λg x0=>qcf x0 g.2.1 g.2.2.1 g.2.2.2.1) l ((),(patron,item,kind,())) with|some (r1,r2,r3) =>some (r1,r2)|none=>none
def qcl (i:Int) (branch:Int) (d:Circ_desk):Ya0:=
 match n8 d.c.Items i with|some x=>(match qa5 i 4 branch 0 d with|some (_,v) =>(bif !(v.err==0) then some ((),v) else match qdk v.c.Loans x.ID with|some (r2,r3,r4) =>(match qb2 r2 r4 v with|some (_,v6) =>(match qbs v6.c r3.Patron x with|some (r8,r9) =>let k (v17:Circ_desk):Ya0:=match qbc v17.c.Charges r3.Patron x.ID 2 with|some (r19,r20) =>some ((),(⟨⟨v17.c.Today,v17.c.Items,v17.c.Patrons,v17.c.Loans,v17.c.Holds,r19,v17.c.Rules,v17.c.Cals,v17.c.Moves,v17.c.NextHold,v17.c.NextCharge,v17.c.Local⟩,v17.err⟩:Circ_desk))|none=>none;bif r9 then match qbt v6.c branch with|some r11=>(match qc6 r8 r11 r3.Due v6.c.Today with|some r13=>bif !(r13==0) then match qd6 r3.Patron x.ID 1 r13 v6 with|some (_,v15) =>k v15|none=>none else k v6|none=>none)|none=>none else k v6|none=>none)|none=>none)|none=>none)|none=>none)|none=>none
def qdx (x:Int):YaY:=
 some (!(x==x))
def qd2 (x:Int) (y:Int):YaY:=
 match qdx x with|some r1=>let k5 (v:Bool):YaY:=let k (v4:Bool):YaY:=some v4;bif v then k true else k (decide (x<y));bif r1 then match qdx y with|some r3=>k5 (!r3)|none=>none else k5 false|none=>none
def qc7 (x:Int):YaY:=
 some (!(x==x))
def b7p:(Yav×Int×Int×Int×Int×Unit)→Option YaG:=λ(x,target,n,i,j,_)=>
 bif decide (i<j) then match n8 x (wr .i64 ((wr .u64 (wr .i64 (i+j))).fdiv (2 ^ 1))) with|some x1=>(match qd2 x1 target with|some r2=>let k (i3:Int) (j4:Int):Option YaG:=some (.inl (x,target,n,i3,j4,()));bif r2 then k (wr .i64 ((wr .i64 ((wr .u64 (wr .i64 (i+j))).fdiv (2 ^ 1)))+1)) j else k i (wr .i64 ((wr .u64 (wr .i64 (i+j))).fdiv (2 ^ 1)))|none=>none)|none=>none else some (.inr ((x,target,n,i,())))
def qag (x:List Int) (target:Int):Option (Int×Bool):=
 match b9 b7p (x,target,(x.length:Int),0,(x.length:Int),()) with|some ((x5,target6,n,i,_)) =>let k (v13:Bool):Option (Int×Bool):=some (i,v13);bif decide (i<n) then match n8 x5 i with|some x7=>(bif x7==target6 then k true else match n8 x5 i with|some x8=>(match qc7 x8 with|some r9=>bif r9 then match qc7 target6 with|some r11=>k r11|none=>none else k false|none=>none)|none=>none)|none=>none else k false|none=>none
def qbp (c:Calendar) (day:Int):YaY:=
 match qce day with|some r1=>(bif !r1 then some false else match qag c.Closed day with|some (r3,r4) =>let k (v9:Bool):YaY:=some v9;bif !r4 then match qae c with|some r6=>(match qcg day with|some r8=>bif r8==0 then k r6.x0 else bif r8==1 then k r6.x1 else bif r8==2 then k r6.x2 else bif r8==3 then k r6.x3 else bif r8==4 then k r6.x4 else bif r8==5 then k r6.x5 else bif r8==6 then k r6.x6 else none|none=>none)|none=>none else k false|none=>none)|none=>none
def e3e:YaM→Option (YaM⊕((Unit)⊕(Int×Int×Unit))):=λ(d,c,_)=>
 bif decide (d≤109572) then match qbp c d with|some r1=>bif r1 then some (.inr (.inr (d,0,()))) else some (.inl (wr .i64 (d+1),c,()))|none=>none else some (.inr (.inl (())))
def qx (c:Calendar) (day:Int):Ya1:=
 match b9 e3e ((if day<0 then 0 else day),c,()) with|some (.inl (_)) =>some (0,2)|some (.inr (v,v2,_)) =>some (v,v2)|none=>none
def b7l:(Int×Int×Int×Calendar×Unit)→Option ((Int×Int×Int×Calendar×Unit)⊕(Yae⊕(Int×Int×Unit))):=λ(d,v,v5,c,_)=>
 bif decide (v5<v) then match qx c (wr .i64 (d+1)) with|some (r6,r7) =>bif !(r7==0) then some (.inr (.inr (0,r7,()))) else some (.inl (r6,v,wr .i64 (v5+1),c,()))|none=>none else some (.inr (.inl (d,())))
def qa6 (c:Calendar) (day:Int) (n:Int):Ya1:=
 let k (v:Bool):Ya1:=bif v then some (0,1) else match qce day with|some r1=>(bif !r1 then some (0,2) else bif n==0 then match qx c day with|some (r3,r4) =>some (r3,r4)|none=>none else match b9 b7l (day,n,0,c,()) with|some (.inl (d,_)) =>some (d,0)|some (.inr (v8,v9,_)) =>some (v8,v9)|none=>none)|none=>none;bif decide (n<0) then k true else k (decide (1000<n))
def qd7 (branch:Int) (n:Int) (d:Circ_desk):Option YaX:=
 match qbt d.c branch with|some r1=>(match qa6 r1 d.c.Today n with|some (r3,r4) =>let k (v6:Circ_desk):Option YaX:=some (r3,v6);bif !(r4==0) then match qr r4 d with|some (_,v) =>k v|none=>none else k d|none=>none)|none=>none
def qc3 (h:Hold) (v:Int):YaY:=
 some (h.ID==v)
def qay (l:List Hold) (vid:Int):YaZ:=
 match qa (λg x0=>qc3 x0 g.2.1) l ((),(vid,())) with|some r1=>some r1|none=>none
def qbx (o:Hold) (v:Int) (v1:Int):YaY:=
 let k (v2:Bool):YaY:=some v2;bif o.Got==v then k (!(o.ID==v1)) else k false
def qb1 {γ0:Type} (p:γ0→Hold→Option Bool) (s:List Hold) (g:γ0):YaY:=
 match qa p s g with|some r1=>some (decide (0≤r1))|none=>none
def qbu (s:List Hold):Ya3:=
 bif decide (([]:List Hold).length+s.length≤LIM) then some (([])++s) else none
def qdn (l:List Hold) (i:Int) (h:Hold):Ya3:=
 match qbu l with|some l1=>(match n8 l1 i with|some _=>(match l1[i.toNat]? with|some x=>some (l1.set i.toNat h)|none=>none)|none=>none)|none=>none
def qak (l:List Hold) (vid:Int) (item:Int) (state:Int) (vuntil:Int):Option (Yaa×Int):=
 match qay l vid with|some r1=>bif decide (r1<0) then some ([],9) else let k18 (v:Bool):Option (Yaa×Int):=match qbh item 1 9999 with|some r5=>let k17 (v8:Bool):Option (Yaa×Int):=bif v8 then some ([],1) else match n8 l r1 with|some x=>let k16 (v11:Bool):Option (Yaa×Int):=bif v11 then some ([],12) else match qb1 (λg x0=>qbx x0 g.2.1 g.2.2.1) l ((),(item,vid,())) with|some r13=>(bif r13 then some ([],7) else match qdn l r1 (⟨x.ID,x.Patron,x.Record,x.Item,x.Pickup,x.Placed,state,item,vuntil,x.Asleep,x.Rank⟩:Hold) with|some r15=>some (r15,0)|none=>none)|none=>none;bif !(x.State==1) then let k (v9:Bool):Option (Yaa×Int):=bif v9 then k16 true else k16 (!(state==3));bif !(x.State==2) then k true else k (!(x.Got==item)) else k16 false|none=>none;bif !r5 then k17 true else bif !v then bif !(state==2) then k17 true else k17 (!(vuntil==0)) else k17 false|none=>none;bif state==3 then match qbh vuntil 1 109572 with|some r3=>k18 r3|none=>none else k18 false|none=>none
def qb3 (l:List Hold) (e:Int) (d:Circ_desk):Ya0:=
 let k3 (v1:Circ_desk):Ya0:=let k (v2:List Hold):Ya0:=some ((),(⟨⟨v1.c.Today,v1.c.Items,v1.c.Patrons,v1.c.Loans,v2,v1.c.Charges,v1.c.Rules,v1.c.Cals,v1.c.Moves,v1.c.NextHold,v1.c.NextCharge,v1.c.Local⟩,v1.err⟩:Circ_desk));bif v1.err==0 then k l else k v1.c.Holds;bif !(e==0) then match qr e d with|some (_,v) =>k3 v|none=>none else k3 d
def qco (i:Int) (h:Hold) (d:Circ_desk):Ya0:=
 bif !(d.err==0) then some ((),d) else match n8 d.c.Items i with|some x=>(match qbs d.c h.Patron x with|some (r1,r2) =>let k13 (days:Int):Ya0:=match qa5 i 5 x.Custody.Branch h.Patron d with|some (_,v) =>(match qd7 x.Custody.Branch days v with|some (r5,v6) =>let k (v12:Circ_desk):Ya0:=some ((),v12);bif v6.err==0 then match qak v6.c.Holds h.ID x.ID 3 r5 with|some (r8,r9) =>(match qb3 r8 r9 v6 with|some (_,v11) =>k v11|none=>none)|none=>none else k v6|none=>none)|none=>none;bif r2 then k13 r1.Shelf else k13 7|none=>none)|none=>none
def qv (a:Hold) (b:Hold):YaZ:=
 some (wr .i64 (b.Rank-a.Rank))
def d6b {γ0:Type} (p:γ0→Hold→Hold→Option Int):(Int×Int×γ0×Int×Int×Yaa×Unit)→Option ((Int×Int×γ0×Int×Int×Yaa×Unit)⊕((Int×Int×γ0×Int×Yaa×Unit))):=λ(a,b,g,i,j,l,_)=>
 let k (v:Bool):Option ((Int×Int×γ0×Int×Int×Yaa×Unit)⊕((Int×Int×γ0×Int×Yaa×Unit))):=bif v then match n8 l (wr .i64 (j-1)) with|some _=>(match l[(wr .i64 (j-1)).toNat]? with|some x2=>(match n8 l j with|some _=>(match l[j.toNat]? with|some x3=>(match n8 l j with|some _=>(match l[j.toNat]? with|some x4=>(match n8 (l.set j.toNat x2) (wr .i64 (j-1)) with|some _=>(match (l.set j.toNat x2)[(wr .i64 (j-1)).toNat]? with|some x5=>some (.inl (a,b,g,i,wr .i64 (j-1),(l.set j.toNat x2).set (wr .i64 (j-1)).toNat x3,()))|none=>none)|none=>none)|none=>none)|none=>none)|none=>none)|none=>none)|none=>none)|none=>none else some (.inr ((a,b,g,i,l,())));bif decide (a<j) then match n8 l j with|some _=>(match l[j.toNat]? with|some x=>(match n8 l (wr .i64 (j-1)) with|some _=>(match l[(wr .i64 (j-1)).toNat]? with|some x1=>(match p g x x1 with|some r=>k (decide (r<0))|none=>none)|none=>none)|none=>none)|none=>none)|none=>none else k false
def c8s {γ0:Type} (p:γ0→Hold→Hold→Option Int):(Int×Int×γ0×Int×Yaa×Unit)→Option ((Int×Int×γ0×Int×Yaa×Unit)⊕(YaI)):=λ(a,b,g,i,l,_)=>
 bif decide (i<b) then match b9 (d6b p) (a,b,g,i,i,l,()) with|some ((a6,b7,g8,i9,l10,_)) =>some (.inl (a6,b7,g8,wr .i64 (i9+1),l10,()))|none=>none else some (.inr ((l,())))
def ql {γ0:Type} (p:γ0→Hold→Hold→Option Int) (data:List Hold) (a:Int) (b:Int) (g:γ0):Ya3:=
 match b9 (c8s p) (a,b,g,wr .i64 (a+1),data,()) with|some ((l,_)) =>some l|none=>none
def d5n {γ0:Type} (p:γ0→Hold→Hold→Option Int):(Int×Int×Int×Int×Yaa×Unit)→Option ((Int×Int×Int×Int×Yaa×Unit)⊕(YaI)):=λ(a,b,n,i,l,_)=>
 bif decide (i<n) then match n8 l (wr .i64 (b+i)) with|some _=>(match l[(wr .i64 (b+i)).toNat]? with|some x=>(match n8 l (wr .i64 (a+i)) with|some _=>(match l[(wr .i64 (a+i)).toNat]? with|some x1=>(match n8 l (wr .i64 (a+i)) with|some _=>(match l[(wr .i64 (a+i)).toNat]? with|some x2=>(match n8 (l.set (wr .i64 (a+i)).toNat x) (wr .i64 (b+i)) with|some _=>(match (l.set (wr .i64 (a+i)).toNat x)[(wr .i64 (b+i)).toNat]? with|some x3=>some (.inl (a,b,n,wr .i64 (i+1),(l.set (wr .i64 (a+i)).toNat x).set (wr .i64 (b+i)).toNat x1,()))|none=>none)|none=>none)|none=>none)|none=>none)|none=>none)|none=>none)|none=>none)|none=>none else some (.inr ((l,())))
def q8 {γ0:Type} (p:γ0→Hold→Hold→Option Int) (data:List Hold) (a:Int) (b:Int) (n:Int) (_g:γ0):Ya3:=
 match b9 (d5n p) (a,b,n,0,data,()) with|some ((l,_)) =>some l|none=>none
def b4o {γ0:Type} (p:γ0→Hold→Hold→Option Int):(Int×γ0×Int×Int×Yaa×Unit)→Option ((Int×γ0×Int×Int×Yaa×Unit)⊕((Int×γ0×Int×Yaa×Unit))):=λ(m,g,i,j,l,_)=>
 bif !(i==j) then let k (i4:Int) (j5:Int) (l6:List Hold):Option ((Int×γ0×Int×Int×Yaa×Unit)⊕((Int×γ0×Int×Yaa×Unit))):=some (.inl (m,g,i4,j5,l6,()));bif decide (j<i) then match q8 p l (wr .i64 (m-i)) m j g with|some l1=>k (wr .i64 (i-j)) j l1|none=>none else match q8 p l (wr .i64 (m-i)) (wr .i64 ((wr .i64 (m+j))-i)) i g with|some l3=>k i (wr .i64 (j-i)) l3|none=>none else some (.inr ((m,g,i,l,())))
def qa1 {γ0:Type} (p:γ0→Hold→Hold→Option Int) (data:List Hold) (a:Int) (m:Int) (b:Int) (g:γ0):Ya3:=
 match b9 (b4o p) (m,g,wr .i64 (m-a),wr .i64 (b-m),data,()) with|some ((m7,g8,i,l,_)) =>(match q8 p l (wr .i64 (m7-i)) m7 i g8 with|some l9=>some l9|none=>none)|none=>none
def c4m {γ0:Type} (p:γ0→Hold→Hold→Option Int):(Int×γ0×Int×Int×Yaa×Unit)→Option ((Int×γ0×Int×Int×Yaa×Unit)⊕(Yax)):=λ(a,g,i,j,l,_)=>
 bif decide (i<j) then match n8 l (wr .i64 ((wr .u64 (wr .i64 (i+j))).fdiv (2 ^ 1))) with|some _=>(match l[(wr .i64 ((wr .u64 (wr .i64 (i+j))).fdiv (2 ^ 1))).toNat]? with|some x=>(match n8 l a with|some _=>(match l[a.toNat]? with|some x1=>(match p g x x1 with|some r=>let k (i2:Int) (j3:Int):Option ((Int×γ0×Int×Int×Yaa×Unit)⊕(Yax)):=some (.inl (a,g,i2,j3,l,()));bif decide (r<0) then k (wr .i64 ((wr .i64 ((wr .u64 (wr .i64 (i+j))).fdiv (2 ^ 1)))+1)) j else k i (wr .i64 ((wr .u64 (wr .i64 (i+j))).fdiv (2 ^ 1)))|none=>none)|none=>none)|none=>none)|none=>none)|none=>none else some (.inr ((a,i,l,())))
def c8e {γ0:Type} (p:γ0→Hold→Hold→Option Int):Yax→Option (Yax⊕(YaI)):=λ(i,k,l,_)=>
 bif decide (k<wr .i64 (i-1)) then match n8 l (wr .i64 (k+1)) with|some _=>(match l[(wr .i64 (k+1)).toNat]? with|some x=>(match n8 l k with|some _=>(match l[k.toNat]? with|some x5=>(match n8 l k with|some _=>(match l[k.toNat]? with|some x6=>(match n8 (l.set k.toNat x) (wr .i64 (k+1)) with|some _=>(match (l.set k.toNat x)[(wr .i64 (k+1)).toNat]? with|some x7=>some (.inl (i,wr .i64 (k+1),(l.set k.toNat x).set (wr .i64 (k+1)).toNat x5,()))|none=>none)|none=>none)|none=>none)|none=>none)|none=>none)|none=>none)|none=>none)|none=>none else some (.inr ((l,())))
def b1g {γ0:Type} (p:γ0→Hold→Hold→Option Int):(Int×γ0×Int×Int×Yaa×Unit)→Option ((Int×γ0×Int×Int×Yaa×Unit)⊕(Yax)):=λ(m,g,i,j,l,_)=>
 bif decide (i<j) then match n8 l m with|some _=>(match l[m.toNat]? with|some x=>(match n8 l (wr .i64 ((wr .u64 (wr .i64 (i+j))).fdiv (2 ^ 1))) with|some _=>(match l[(wr .i64 ((wr .u64 (wr .i64 (i+j))).fdiv (2 ^ 1))).toNat]? with|some x9=>(match p g x x9 with|some r=>let k (i10:Int) (j11:Int):Option ((Int×γ0×Int×Int×Yaa×Unit)⊕(Yax)):=some (.inl (m,g,i10,j11,l,()));bif !(decide (r<0)) then k (wr .i64 ((wr .i64 ((wr .u64 (wr .i64 (i+j))).fdiv (2 ^ 1)))+1)) j else k i (wr .i64 ((wr .u64 (wr .i64 (i+j))).fdiv (2 ^ 1)))|none=>none)|none=>none)|none=>none)|none=>none)|none=>none else some (.inr ((m,i,l,())))
def b40 {γ0:Type} (p:γ0→Hold→Hold→Option Int):Yax→Option (Yax⊕(YaI)):=λ(i,k,l,_)=>
 bif decide (i<k) then match n8 l (wr .i64 (k-1)) with|some _=>(match l[(wr .i64 (k-1)).toNat]? with|some x=>(match n8 l k with|some _=>(match l[k.toNat]? with|some x15=>(match n8 l k with|some _=>(match l[k.toNat]? with|some x16=>(match n8 (l.set k.toNat x) (wr .i64 (k-1)) with|some _=>(match (l.set k.toNat x)[(wr .i64 (k-1)).toNat]? with|some x17=>some (.inl (i,wr .i64 (k-1),(l.set k.toNat x).set (wr .i64 (k-1)).toNat x15,()))|none=>none)|none=>none)|none=>none)|none=>none)|none=>none)|none=>none)|none=>none)|none=>none else some (.inr ((l,())))
def b1h {γ0:Type} (p:γ0→Hold→Hold→Option Int):(Int×Int×Int×γ0×Int×Int×Int×Int×Int×Yaa×Unit)→Option ((Int×Int×Int×γ0×Int×Int×Int×Int×Int×Yaa×Unit)⊕((Int×Int×Int×γ0×Int×Int×Int×Yaa×Unit))):=λ(a,m,b,g,mid,n,start,r,p19,l,_)=>
 bif decide (start<r) then match n8 l (wr .i64 (p19-(wr .i64 ((wr .u64 (wr .i64 (start+r))).fdiv (2 ^ 1))))) with|some _=>(match l[(wr .i64 (p19-(wr .i64 ((wr .u64 (wr .i64 (start+r))).fdiv (2 ^ 1))))).toNat]? with|some x=>(match n8 l (wr .i64 ((wr .u64 (wr .i64 (start+r))).fdiv (2 ^ 1))) with|some _=>(match l[(wr .i64 ((wr .u64 (wr .i64 (start+r))).fdiv (2 ^ 1))).toNat]? with|some x20=>(match p g x x20 with|some r21=>let k (start22:Int) (r23:Int):Option ((Int×Int×Int×γ0×Int×Int×Int×Int×Int×Yaa×Unit)⊕((Int×Int×Int×γ0×Int×Int×Int×Yaa×Unit))):=some (.inl (a,m,b,g,mid,n,start22,r23,p19,l,()));bif !(decide (r21<0)) then k (wr .i64 ((wr .i64 ((wr .u64 (wr .i64 (start+r))).fdiv (2 ^ 1)))+1)) r else k start (wr .i64 ((wr .u64 (wr .i64 (start+r))).fdiv (2 ^ 1)))|none=>none)|none=>none)|none=>none)|none=>none)|none=>none else some (.inr ((a,m,b,g,mid,n,start,l,())))
def qd {γ0:Type} (p:γ0→Hold→Hold→Option Int):Nat→Yaa→Int→Int→Int→γ0→Option Yaa
 |0=>λ_ _ _ _ _=>none
 |fuel+1=>λdata a m b g=>
  bif (wr .i64 (m-a))==1 then
   match b9 (c4m p) (a,g,m,b,data,()) with
   |some ((a4,i,l,_))=>
    match b9 (c8e p) (i,a4,l,()) with
    |some ((l8,_))=>
     some l8
    |none=>none
   |none=>none
  else
   bif (wr .i64 (b-m))==1 then
    match b9 (b1g p) (m,g,a,m,data,()) with
    |some ((m12,i13,l14,_))=>
     match b9 (b40 p) (i13,m12,l14,()) with
     |some ((l18,_))=>
      some l18
     |none=>none
    |none=>none
   else
    let k46:Int→Int→Ya3:=λstart r=>
     match b9 (b1h p) (a,m,b,g,wr .i64 ((wr .u64 (wr .i64 (a+b))).fdiv (2 ^ 1)),wr .i64 ((wr .i64 ((wr .u64 (wr .i64 (a+b))).fdiv (2 ^ 1)))+m),start,r,wr .i64 ((wr .i64 ((wr .i64 ((wr .u64 (wr .i64 (a+b))).fdiv (2 ^ 1)))+m))-1),data,()) with
     |some ((a24,m25,b26,g27,mid,n,start28,l29,_))=>
      let k45:Bool→Ya3:=λv=>
       let k44:Yaa→Ya3:=λl32=>
        let k43:Bool→Ya3:=λv33=>
         let k42:Yaa→Ya3:=λl36=>
          let k41:Bool→Ya3:=λv37=>
           let k:Yaa→Ya3:=λl40=>
            some l40
           bif v37 then
            match qd p fuel l36 mid (wr .i64 (n-start28)) b26 g27 with
            |some l39=>
             k l39
            |none=>none
           else
            k l36
          bif decide (mid<wr .i64 (n-start28)) then
           k41 (decide (wr .i64 (n-start28)<b26))
          else
           k41 false
         bif v33 then
          match qd p fuel l32 a24 start28 mid g27 with
          |some l35=>
           k42 l35
          |none=>none
         else
          k42 l32
        bif decide (a24<start28) then
         k43 (decide (start28<mid))
        else
         k43 false
       bif v then
        match qa1 p l29 start28 m25 (wr .i64 (n-start28)) g27 with
        |some l31=>
         k44 l31
        |none=>none
       else
        k44 l29
      bif decide (start28<m25) then
       k45 (decide (m25<wr .i64 (n-start28)))
      else
       k45 false
     |none=>none
    bif decide (wr .i64 ((wr .u64 (wr .i64 (a+b))).fdiv (2 ^ 1))<m) then
     k46 (wr .i64 ((wr .i64 ((wr .i64 ((wr .u64 (wr .i64 (a+b))).fdiv (2 ^ 1)))+m))-b)) (wr .i64 ((wr .u64 (wr .i64 (a+b))).fdiv (2 ^ 1)))
    else
     k46 a m
def d6c {γ0:Type} (p:γ0→Hold→Hold→Option Int):(Int×γ0×Int×Int×Int×Yaa×Unit)→Option ((Int×γ0×Int×Int×Int×Yaa×Unit)⊕((Int×γ0×Int×Int×Yaa×Unit))):=λ(n,g,blockSize,a,b,l,_)=>
 bif decide (b≤n) then match ql p l a b g with|some l1=>some (.inl (n,g,blockSize,b,wr .i64 (b+blockSize),l1,()))|none=>none else some (.inr ((n,g,blockSize,a,l,())))
def f0p {γ0:Type} (p:γ0→Hold→Hold→Option Int):(Int×γ0×Int×Int×Int×Yaa×Unit)→Option ((Int×γ0×Int×Int×Int×Yaa×Unit)⊕((Int×γ0×Int×Int×Yaa×Unit))):=λ(n,g,blockSize,a,b,l,_)=>
 bif decide (b≤n) then match qd p 64 l a (wr .i64 (a+blockSize)) b g with|some l5=>some (.inl (n,g,blockSize,b,wr .i64 (b+(wr .i64 (2*blockSize))),l5,()))|none=>none else some (.inr ((n,g,blockSize,a,l,())))
def c8t {γ0:Type} (p:γ0→Hold→Hold→Option Int):(Int×γ0×Int×Yaa×Unit)→Option ((Int×γ0×Int×Yaa×Unit)⊕(YaI)):=λ(n,g,blockSize,l,_)=>
 bif decide (blockSize<n) then match b9 (f0p p) (n,g,blockSize,0,wr .i64 (2*blockSize),l,()) with|some ((n6,g7,blockSize8,a,l9,_)) =>let k (l11:List Hold):Option ((Int×γ0×Int×Yaa×Unit)⊕(YaI)):=some (.inl (n6,g7,wr .i64 (blockSize8*2),l11,()));bif decide (wr .i64 (a+blockSize8)<n6) then match qd p 64 l9 a (wr .i64 (a+blockSize8)) n6 g7 with|some l10=>k l10|none=>none else k l9|none=>none else some (.inr ((l,())))
def qm {γ0:Type} (p:γ0→Hold→Hold→Option Int) (data:List Hold) (n:Int) (g:γ0):Ya3:=
 match b9 (d6c p) (n,g,20,0,20,data,()) with|some ((n2,g3,blockSize,a,l,_)) =>(match ql p l a n2 g3 with|some l4=>(match b9 (c8t p) (n2,g3,blockSize,l4,()) with|some ((l12,_)) =>some l12|none=>none)|none=>none)|none=>none
def qcu {γ0:Type} (p:γ0→Hold→Hold→Option Int) (x:List Hold) (g:γ0):Ya3:=
 match qm p x (x.length:Int) g with|some l=>some l|none=>none
def d58:(Int×Int×Yaa×Int×Int×Yaa×Unit)→Option YaB:=λ(record,day,v,v1,v2,l,_)=>
 bif decide (v2<v1) then match n8 v v2 with|some x=>let k5 (v3:Bool):Option YaB:=let k (v4:Bool):Option YaB:=bif v4 then bif decide (l.length+([x]:List Hold).length≤LIM) then some (.inl (record,day,v,v1,wr .i64 (v2+1),l++([x]:List Hold),())) else none else some (.inl (record,day,v,v1,wr .i64 (v2+1),l,()));bif v3 then k (decide (x.Asleep≤day)) else k false;bif x.Record==record then k5 (x.State==1) else k5 false|none=>none else some (.inr ((l,())))
def qh (l:List Hold) (record:Int) (day:Int):Ya3:=
 match b9 d58 (record,day,l,(l.length:Int),0,([]:List Hold),()) with|some ((l6,_)) =>(match qcu (λg x0 x1=>qv x0 x1) l6 ((),()) with|some l7=>some l7|none=>none)|none=>none
def b7y:(Int×Bool×Int×Yaa×Int×Int×Item×Unit)→Option Yao:=λ(branch,vlocal,first,v,v2,v3,x,_)=>
 bif decide (v3<v2) then match n8 v v3 with|some x4=>let k9 (v5:Bool):Option Yao:=bif v5 then some (.inl (branch,vlocal,first,v,v2,wr .i64 (v3+1),x,())) else let k8 (v6:Bool):Option Yao:=bif v6 then some (.inr (.inr (x4.ID,()))) else let k (first7:Int):Option Yao:=some (.inl (branch,vlocal,first7,v,v2,wr .i64 (v3+1),x,()));bif first==0 then k x4.ID else k first;bif !vlocal then k8 true else k8 (x4.Pickup==branch);bif !(x4.Item==0) then k9 (!(x4.Item==x.ID)) else k9 false|none=>none else some (.inr (.inl (first,())))
def qaz (l:List Hold) (x:Item) (branch:Int) (day:Int) (vlocal:Bool):YaZ:=
 match qh l x.Record day with|some r1=>(match b9 b7y (branch,vlocal,0,r1,(r1.length:Int),0,x,()) with|some (.inl (first,_)) =>some first|some (.inr (v,_)) =>some v|none=>none)|none=>none
def qcs (c:Circ) (x:Item):YaZ:=
 match qaz c.Holds x x.Custody.Branch c.Today c.Local with|some r1=>some r1|none=>none
def qdo (l:List Hold) (vid:Int):Option (Hold×Bool):=
 match qay l vid with|some r1=>bif decide (0≤r1) then match n8 l r1 with|some x=>some (x,true)|none=>none else some ((⟨0,0,0,0,0,0,0,0,0,0,0⟩:Hold),false)|none=>none
def qd8 (i:Int) (kind:Int) (d:Circ_desk):Ya0:=
 let k (v1:Circ_desk):Ya0:=some ((),v1);bif d.err==0 then match n8 d.c.Items i with|some x=>(match qa5 i kind x.Custody.Branch 0 d with|some (_,v) =>k v|none=>none)|none=>none else k d
def qd5 (i:Int) (d:Circ_desk):Ya0:=
 bif !(d.err==0) then some ((),d) else match n8 d.c.Items i with|some x=>(match qcs d.c x with|some r1=>(match qdo d.c.Holds r1 with|some (r3,r4) =>let k25 (v:Bool):Ya0:=let k24 (v23:Circ_desk):Ya0:=some ((),v23);bif v then match qa5 i 6 x.Branch 0 d with|some (_,v6) =>k24 v6|none=>none else let k (v7:Bool):Ya0:=bif v7 then match qd8 i 2 d with|some (_,v9) =>k24 v9|none=>none else bif !r4 then k24 d else bif r3.Pickup==x.Custody.Branch then match qco i r3 d with|some (_,v11) =>k24 v11|none=>none else match qa5 i 6 r3.Pickup r3.Patron d with|some (_,v13) =>bif v13.err==0 then match qak v13.c.Holds r1 x.ID 2 0 with|some (r15,r16) =>(match qb3 r15 r16 v13 with|some (_,v18) =>k24 v18|none=>none)|none=>none else k24 v13|none=>none;bif !r4 then k (!(x.Custody.State==3)) else k false;bif !r4 then k25 (!(x.Branch==x.Custody.Branch)) else k25 false|none=>none)|none=>none)|none=>none
def qdl (c:Circ) (item:Int) (branch:Int):Ya4:=
 match qb9 c with|some d=>(match qda item d with|some (r2,v) =>(bif decide (r2<0) then match qbi 0 v with|some ((r4,r5,r6),v7) =>some (r4,r5,r6)|none=>none else match n8 c.Items r2 with|some x=>let k43 (v9:Bool):Ya4:=let k42 (v23:Circ_desk):Ya4:=match qab v23.c item with|some (r25,r26) =>let k41 (v27:Bool):Ya4:=let k (v32:Circ_desk):Ya4:=match qab v32.c item with|some (r34,r35) =>(match qbi r34.ID v32 with|some ((r37,r38,r39),v40) =>some (r37,r38,r39)|none=>none)|none=>none;bif v27 then match qco r2 r25 v23 with|some (_,v29) =>k v29|none=>none else match qd5 r2 v23 with|some (_,v31) =>k v31|none=>none;bif r26 then k41 (r25.State==2) else k41 false|none=>none;bif v9 then match qcl r2 branch v with|some (_,v11) =>k42 v11|none=>none else bif x.Custody.State==8 then match qa5 r2 4 branch 0 v with|some (_,v13) =>k42 v13|none=>none else bif x.Custody.State==11 then match qa5 r2 14 branch 0 v with|some (_,v15) =>k42 v15|none=>none else bif x.Custody.State==6 then match qa5 r2 7 branch 0 v with|some (_,v17) =>k42 v17|none=>none else match qr 12 v with|some (_,v19) =>k42 v19|none=>none;bif x.Custody.State==4 then k43 (x.Custody.State==4) else bif x.Custody.State==9 then k43 (x.Custody.State==9) else k43 (x.Custody.State==10)|none=>none)|none=>none)|none=>none
def b7j:YaK→Option (YaK⊕(Yae)):=λ(patron,vsum,v,v1,v2,_)=>
 bif decide (v2<v1) then match n8 v v2 with|some x=>let k (vsum3:Int):Option (YaK⊕(Yae)):=some (.inl (patron,vsum3,v,v1,wr .i64 (v2+1),()));bif x.Patron==patron then k (wr .i64 (vsum+(wr .i64 (x.Amount-x.Paid)))) else k vsum|none=>none else some (.inr ((vsum,())))
def qa0 (l:List Charge) (patron:Int):YaZ:=
 match b9 b7j (patron,0,l,(l.length:Int),0,()) with|some ((vsum,_)) =>some vsum|none=>none
def b7w:(Int×Yal×Int×Int×Yal×Unit)→Option ((Int×Yal×Int×Int×Yal×Unit)⊕((Yal×Unit))):=λ(patron,v,v1,v2,l,_)=>
 bif decide (v2<v1) then match n8 v v2 with|some x=>bif x.Patron==patron then bif decide (l.length+([x]:List Loan).length≤LIM) then some (.inl (patron,v,v1,wr .i64 (v2+1),l++([x]:List Loan),())) else none else some (.inl (patron,v,v1,wr .i64 (v2+1),l,()))|none=>none else some (.inr ((l,())))
def qat (l:List Loan) (patron:Int):Option Yal:=
 match b9 b7w (patron,l,(l.length:Int),0,([]:List Loan),()) with|some ((l3,_)) =>some l3|none=>none
def b7m:YaL→Option (YaL⊕(Yae)):=λ(day,n,v,v2,v3,_)=>
 bif decide (v3<v2) then match n8 v v3 with|some x=>let k (n4:Int):Option (YaL⊕(Yae)):=some (.inl (day,n4,v,v2,wr .i64 (v3+1),()));bif decide (x.Due<day) then k (wr .i64 (n+1)) else k n|none=>none else some (.inr ((n,())))
def qa7 (l:List Loan) (patron:Int) (day:Int):YaZ:=
 match qat l patron with|some r1=>(match b9 b7m (day,0,r1,(r1.length:Int),0,()) with|some ((n,_)) =>some n|none=>none)|none=>none
def e2o:(Int×Int×Yav×(List Bool)×Unit)→Option ((Int×Int×Yav×(List Bool)×Unit)⊕((Yav×Unit))):=λ(v,v1,l,l2,_)=>
 bif decide (v1<v) then match n8 l2 v1 with|some _=>(match l2[v1.toNat]? with|some x=>bif x then bif decide (l.length+([wr .i64 (v1+1)]:List Int).length≤LIM) then some (.inl (v,wr .i64 (v1+1),l++([wr .i64 (v1+1)]:List Int),l2,())) else none else some (.inl (v,wr .i64 (v1+1),l,l2,()))|none=>none)|none=>none else some (.inr ((l,())))
def qai (p:Patron) (day:Int) (a8s:Int) (late:Int):Option Yav:=
 match b9 e2o ((([p.Stopped,decide (p.Until<day),decide (1000<a8s),decide (2<late)]).length:Int),0,([]:List Int),[p.Stopped,decide (p.Until<day),decide (1000<a8s),decide (2<late)],()) with|some ((l,_)) =>some l|none=>none
def qcr (c:Circ) (p:Patron):YaY:=
 match qa0 c.Charges p.ID with|some r1=>(match qa7 c.Loans p.ID c.Today with|some r3=>(match qai p c.Today r1 r3 with|some r5=>some (decide (0<(r5.length:Int)))|none=>none)|none=>none)|none=>none
def c4i:YaM→Option (YaM⊕((Unit)⊕(Int×Int×Unit))):=λ(d,c,_)=>
 bif decide (0≤d) then match qbp c d with|some r1=>bif r1 then some (.inr (.inr (d,0,()))) else some (.inl (wr .i64 (d-1),c,()))|none=>none else some (.inr (.inl (())))
def qa3 (c:Calendar) (day:Int):Ya1:=
 match b9 c4i ((if 109572<day then 109572 else day),c,()) with|some (.inl (_)) =>some (0,2)|some (.inr (v,v2,_)) =>some (v,v2)|none=>none
def qdi (r:Rule) (c:Calendar) (day:Int) (vuntil:Int):Ya1:=
 match qba day 0 109572 with|some r2=>(let k17 (v:Bool):Ya1:=bif v then some (0,2) else let k16 (last:Int):Ya1:=let k15 (v5:Bool):Ya1:=bif v5 then some (0,15) else match qx c (if last<wr .i64 (day+r.Days) then last else wr .i64 (day+r.Days)) with|some (r7,r8) =>let k14 (v9:Bool):Ya1:=bif v9 then some (r7,0) else match qa3 c last with|some (r11,r12) =>let k (v13:Bool):Ya1:=bif v13 then some (0,15) else some (r11,0);bif !(r12==0) then k true else k (decide (r11≤day))|none=>none;bif r8==0 then k14 (decide (r7≤last)) else k14 false|none=>none;bif r.Days==0 then k15 true else k15 (decide (last≤day));bif decide (0<r.Fixed) then k16 (if r.Fixed<vuntil then r.Fixed else vuntil) else k16 vuntil;bif !r2 then k17 true else match qba vuntil 0 109572 with|some r4=>k17 (!r4)|none=>none)|none=>none
def qdg (c:Circ) (x:Item) (p:Patron) (branch:Int):Ya1:=
 let k26 (v:Bool):Ya1:=let k4 (v3:Int):Ya1:=some (0,v3);bif v then k4 12 else bif !(x.Custody.Branch==branch) then k4 1 else let k (v1:Bool):Ya1:=bif v1 then k4 16 else let k25 (_:Unit):Ya1:=match qcr c p with|some r12=>(bif r12 then some (0,14) else match qbs c p.ID x with|some (r14,r15) =>(let k24 (v18:Bool):Ya1:=bif v18 then some (0,15) else match qbt c branch with|some r20=>(match qdi r14 r20 c.Today p.Until with|some (r22,r23) =>some (r22,r23)|none=>none)|none=>none;bif !r15 then k24 true else match qat c.Loans p.ID with|some r17=>k24 (decide (r14.Loans≤(r17.length:Int)))|none=>none)|none=>none)|none=>none;bif x.Custody.State==3 then match qcs c x with|some r5=>(match qdo c.Holds r5 with|some (r7,r8) =>let k10 (v9:Bool):Ya1:=bif v9 then some (0,16) else k25 ();bif r8 then k10 (!(r7.Patron==p.ID)) else k10 false|none=>none)|none=>none else k25 ();bif x.Custody.State==5 then k (!(x.Custody.Who==p.ID)) else k false;bif !(x.Custody.State==3) then k26 (!(x.Custody.State==5)) else k26 false
def qb0 (x:Loan) (v:Loan):YaY:=
 some (decide (v.Item<x.Item))
def qb6 (l:List Loan):Option (Yal×Int):=
 match qaa l with|some r1=>bif !(r1==0) then some ([],r1) else some (l,0)|none=>none
def qa8 (l:List Loan) (n:Loan):Option (Yal×Int):=
 match qz n.Item with|some r1=>(match qa9 (λg x0=>qbn x0 g.2.1) l ((),(r1.1,())) with|some (r3,r4) =>(bif decide (0≤r4) then some ([],7) else match qa9 (λg x0=>qb0 x0 g.2.1) l ((),(n,())) with|some (r6,r7) =>let k (i:Int):Option (Yal×Int):=match qbj l with|some l9=>(match qcv l9 i ([n]) with|some l11=>(match qb6 l11 with|some (r13,r14) =>some (r13,r14)|none=>none)|none=>none)|none=>none;bif decide (r7<0) then k (l.length:Int) else k r7|none=>none)|none=>none)|none=>none
def qdh (l:List Hold) (vid:Int):Option (Yaa×Hold×Int):=
 match qay l vid with|some r1=>(bif decide (r1<0) then some ([],(⟨0,0,0,0,0,0,0,0,0,0,0⟩:Hold),9) else match qbu l with|some l3=>(match qcw l3 r1 (wr .i64 (r1+1)) with|some l5=>(match n8 l r1 with|some x=>some (l5,x,0)|none=>none)|none=>none)|none=>none)|none=>none
def qdv (vid:Int) (d:Circ_desk):Ya0:=
 let k (v5:Circ_desk):Ya0:=some ((),v5);bif d.err==0 then match qdh d.c.Holds vid with|some (r1,r2,r3) =>(match qb3 r1 r3 d with|some (_,v) =>k v|none=>none)|none=>none else k d
def qct (h:Hold) (x:Item):YaY:=
 let k (v1:Bool):YaY:=some v1;bif h.Record==x.Record then bif h.Item==0 then k true else k (h.Item==x.ID) else k false
def qci (h:Hold) (v:Int) (v1:Item):YaY:=
 let k5 (v2:Bool):YaY:=let k (v4:Bool):YaY:=some v4;bif v2 then match qct h v1 with|some r3=>k r3|none=>none else k false;bif h.Patron==v then k5 (h.State==1) else k5 false
def qbe (c:Circ) (item:Int) (vid:Int) (branch:Int):Ya4:=
 match qb9 c with|some d=>(match qda item d with|some (r2,v) =>(match qbr c.Patrons vid with|some (r4,r5) =>let k40 (v8:Circ_desk):Ya4:=bif !(v8.err==0) then some (ZN,0,v8.err) else match n8 c.Items r2 with|some x=>(match qdg c x r4 branch with|some (r10,r11) =>(bif !(r11==0) then some (ZN,0,r11) else match qa5 r2 3 branch vid v8 with|some (_,v13) =>(match qa8 c.Loans (⟨item,vid,c.Today,r10,0,false⟩:Loan) with|some (r15,r16) =>(match qb2 r15 r16 v13 with|some (_,v18) =>(match qab c item with|some (r20,r21) =>(bif r21 then match qdv r20.ID v18 with|some (_,v23) =>(match qbi r10 v23 with|some ((r25,r26,r27),v28) =>some (r25,r26,r27)|none=>none)|none=>none else match qa (λg x0=>qci x0 g.2.1 g.2.2.1) c.Holds ((),(vid,x,())) with|some r30=>let k (v34:Circ_desk):Ya4:=match qbi r10 v34 with|some ((r36,r37,r38),v39) =>some (r36,r37,r38)|none=>none;bif decide (0≤r30) then match n8 c.Holds r30 with|some x31=>(match qdv x31.ID v18 with|some (_,v33) =>k v33|none=>none)|none=>none else k v18|none=>none)|none=>none)|none=>none)|none=>none)|none=>none)|none=>none)|none=>none;bif !r5 then match qr 9 v with|some (_,v7) =>k40 v7|none=>none else k40 v|none=>none)|none=>none)|none=>none
def qby (h:Hold) (v:Circ) (v1:Item):YaY:=
 let k5 (v2:Bool):YaY:=let k (v4:Bool):YaY:=some v4;bif v2 then match qct h v1 with|some r3=>k r3|none=>none else k false;bif h.State==1 then k5 (decide (h.Asleep≤v.Today)) else k5 false
def qdf (r:Rule) (c:Calendar) (n:Loan) (day:Int) (vuntil:Int):Ya1:=
 let k (v:Bool):Ya1:=bif v then some (0,15) else match qdi r c day vuntil with|some (r2,r3) =>bif !(r3==0) then some (0,r3) else bif decide (r2≤n.Due) then some (0,15) else some (r2,0)|none=>none;bif decide (r.Renewals≤n.Renewals) then k true else k n.Recalled
def qc9 (l:List Loan) (i:Int) (x:Loan):Option Yal:=
 match qbj l with|some l1=>(match n8 l1 i with|some _=>(match l1[i.toNat]? with|some x2=>some (l1.set i.toNat x)|none=>none)|none=>none)|none=>none
def qd9 (l:List Loan) (item:Int) (due:Int):Option (Yal×Int):=
 match qz item with|some r1=>(match qa9 (λg x0=>qbn x0 g.2.1) l ((),(r1.1,())) with|some (r3,r4) =>(let k (v:Int):Option (Yal×Int):=some ([],v);bif decide (r4<0) then k 9 else bif r3.Recalled then k 12 else match qc9 l r4 (⟨r3.Item,r3.Patron,r3.Out,due,wr .i64 (r3.Renewals+1),r3.Recalled⟩:Loan) with|some r6=>(match qb6 r6 with|some (r8,r9) =>some (r8,r9)|none=>none)|none=>none)|none=>none)|none=>none
def qbd (c:Circ) (item:Int):Ya4:=
 match qbo c.Loans item with|some (r1,r2) =>(match qw c item with|some r4=>let k (v:Bool):Ya4:=bif v then some (ZN,0,9) else match n8 c.Items r4 with|some x=>(bif !(x.Custody.State==4) then some (ZN,0,12) else match qbr c.Patrons r1.Patron with|some (r6,r7) =>(match qcr c r6 with|some r9=>(bif r9 then some (ZN,0,14) else match qb1 (λg x0=>qby x0 g.2.1 g.2.2.1) c.Holds ((),(c,x,())) with|some r11=>(bif r11 then some (ZN,0,16) else match qbs c r6.ID x with|some (r13,r14) =>(bif !r14 then some (ZN,0,15) else match qbt c x.Custody.Branch with|some r16=>(match qdf r13 r16 r1 c.Today r6.Until with|some (r18,r19) =>(bif !(r19==0) then some (ZN,0,r19) else match qb9 c with|some d=>(match qd9 c.Loans item r18 with|some (r22,r23) =>(match qb2 r22 r23 d with|some (_,v25) =>(match qbi r18 v25 with|some ((r27,r28,r29),v30) =>some (r27,r28,r29)|none=>none)|none=>none)|none=>none)|none=>none)|none=>none)|none=>none)|none=>none)|none=>none)|none=>none)|none=>none)|none=>none;bif !r2 then k true else k (decide (r4<0))|none=>none)|none=>none
def qaq (c:Circ) (x:Off):Ya8:=
 match qd3 (λg x0=>qbv x0 g.2.1) c.Loans ((),(x,())) with|some r1=>let k24 (v2:Bool):Ya8:=let k23 (e:Int) (c7:Circ):Ya8:=let k22 (v8:Bool):Ya8:=let k21 (e13:Int) (c14:Circ):Ya8:=let k (e19:Int) (c20:Circ):Ya8:=some (c20,e19);bif x.Kind==3 then match qbd c14 x.Item with|some (r16,r17,r18) =>k r18 r16|none=>none else k e13 c14;bif v8 then match qbe c7 x.Item x.Patron x.Branch with|some (r10,r11,r12) =>k21 r12 r10|none=>none else k21 e c7;bif e==0 then k22 (x.Kind==1) else k22 false;bif v2 then match qdl c x.Item x.Branch with|some (r4,r5,r6) =>k23 r6 r4|none=>none else k23 0 c;bif x.Kind==2 then k24 true else bif x.Kind==1 then k24 r1 else k24 false|none=>none
def c74:YaD→Option (YaD⊕((Circ×Circ×Yas×Unit))):=λ(today,v,v4,v5,c,v6,l,_)=>
 bif decide (v5<v4) then match n8 v v5 with|some x=>let k (e:Int) (c10:Circ):Option (YaD⊕((Circ×Circ×Yas×Unit))):=bif decide (l.length+([(⟨x.Device,x.Seq,e⟩:Outcome)]:List Outcome).length≤LIM) then some (.inl (today,v,v4,wr .i64 (v5+1),c10,v6,l++([(⟨x.Device,x.Seq,e⟩:Outcome)]:List Outcome),())) else none;bif decide (x.Day≤today) then match qaq (⟨x.Day,c.Items,c.Patrons,c.Loans,c.Holds,c.Charges,c.Rules,c.Cals,c.Moves,c.NextHold,c.NextCharge,c.Local⟩:Circ) x with|some (r7,r8) =>bif r8==0 then k r8 (⟨today,r7.Items,r7.Patrons,r7.Loans,r7.Holds,r7.Charges,r7.Rules,r7.Cals,r7.Moves,r7.NextHold,r7.NextCharge,r7.Local⟩:Circ) else k r8 c|none=>none else k 12 c|none=>none else some (.inr ((c,v6,l,())))
def q9 (c:Circ) (l:List Off):Option (Circ×Yas):=
 match qcj c with|some r1=>(let k (v:Bool):Option (Circ×Yas):=bif v then some (c,[]) else match b9 c74 (c.Today,l,(l.length:Int),0,c,ZN,([]:List Outcome),()) with|some ((c11,v12,l13,_)) =>some (c11,l13)|none=>none;bif !r1 then k true else match qj l with|some r3=>k (!(r3==0))|none=>none)|none=>none
def a5m:(Int×Int×Circ×Circ×Unit)→Option Yay:=λ(i,k,a,b,_)=>
 let k17 (v:Int) (v9:List Int):Option Yay:=bif decide (k<(v9.length:Int)) then let k16 (v10:Int) (v11:List Int):Option Yay:=match n8 v11 k with|some x=>let k15 (v12:Int) (v13:List Int):Option Yay:=match n8 v13 k with|some x14=>bif !(x==x14) then some (.inr (.inr (false,()))) else some (.inl (i,wr .i64 (k+1),a,b,()))|none=>none;bif i==0 then k15 b.Cals.x0.Week b.Cals.x0.Closed else bif i==1 then k15 b.Cals.x1.Week b.Cals.x1.Closed else bif i==2 then k15 b.Cals.x2.Week b.Cals.x2.Closed else bif i==3 then k15 b.Cals.x3.Week b.Cals.x3.Closed else none|none=>none;bif i==0 then k16 a.Cals.x0.Week a.Cals.x0.Closed else bif i==1 then k16 a.Cals.x1.Week a.Cals.x1.Closed else bif i==2 then k16 a.Cals.x2.Week a.Cals.x2.Closed else bif i==3 then k16 a.Cals.x3.Week a.Cals.x3.Closed else none else some (.inr (.inl (i,a,b,())));bif i==0 then k17 a.Cals.x0.Week a.Cals.x0.Closed else bif i==1 then k17 a.Cals.x1.Week a.Cals.x1.Closed else bif i==2 then k17 a.Cals.x2.Week a.Cals.x2.Closed else bif i==3 then k17 a.Cals.x3.Week a.Cals.x3.Closed else none
def b1x:Yac→Option (Yac⊕Yaz):=λ(i,a,b,_)=>
 bif decide (i<4) then let k24 (v:Int) (v1:List Int):Option (Yac⊕Yaz):=let k23 (v2:Int) (v3:List Int):Option (Yac⊕Yaz):=let k22 (v8:Bool):Option (Yac⊕Yaz):=bif v8 then some (.inr (.inr (false,()))) else match b9 a5m (i,0,a,b,()) with|some (.inl (i18,a19,b20,_)) =>some (.inl (wr .i64 (i18+1),a19,b20,()))|some (.inr (v21,_)) =>some (.inr (.inr (v21,())))|none=>none;bif !(v==v2) then k22 true else let k (v4:Int) (v5:List Int):Option (Yac⊕Yaz):=bif i==0 then k22 (!((v5.length:Int)==(b.Cals.x0.Closed.length:Int))) else bif i==1 then k22 (!((v5.length:Int)==(b.Cals.x1.Closed.length:Int))) else bif i==2 then k22 (!((v5.length:Int)==(b.Cals.x2.Closed.length:Int))) else bif i==3 then k22 (!((v5.length:Int)==(b.Cals.x3.Closed.length:Int))) else none;bif i==0 then k a.Cals.x0.Week a.Cals.x0.Closed else bif i==1 then k a.Cals.x1.Week a.Cals.x1.Closed else bif i==2 then k a.Cals.x2.Week a.Cals.x2.Closed else bif i==3 then k a.Cals.x3.Week a.Cals.x3.Closed else none;bif i==0 then k23 b.Cals.x0.Week b.Cals.x0.Closed else bif i==1 then k23 b.Cals.x1.Week b.Cals.x1.Closed else bif i==2 then k23 b.Cals.x2.Week b.Cals.x2.Closed else bif i==3 then k23 b.Cals.x3.Week b.Cals.x3.Closed else none;bif i==0 then k24 a.Cals.x0.Week a.Cals.x0.Closed else bif i==1 then k24 a.Cals.x1.Week a.Cals.x1.Closed else bif i==2 then k24 a.Cals.x2.Week a.Cals.x2.Closed else bif i==3 then k24 a.Cals.x3.Week a.Cals.x3.Closed else none else some (.inr (.inl (())))
def qs (a:Circ) (b:Circ):YaY:=
 match b9 b1x (0,a,b,()) with|some (.inl (_)) =>some true|some (.inr (v,_)) =>some v|none=>none
def c8d:Yac→Ya7:=λ(i,a,b,_)=>
 bif decide (i<(a.Items.length:Int)) then match n8 a.Items i with|some x=>(match n8 b.Items i with|some x10=>bif !(b9z x x10) then some (.inr (.inr (false,()))) else some (.inl (wr .i64 (i+1),a,b,()))|none=>none)|none=>none else some (.inr (.inl (a,b,())))
def b4u:Yac→Ya7:=λ(i,a,b,_)=>
 bif decide (i<(a.Patrons.length:Int)) then match n8 a.Patrons i with|some x=>(match n8 b.Patrons i with|some x13=>bif !(b0j x x13) then some (.inr (.inr (false,()))) else some (.inl (wr .i64 (i+1),a,b,()))|none=>none)|none=>none else some (.inr (.inl (a,b,())))
def b4v:Yac→Ya7:=λ(i,a,b,_)=>
 bif decide (i<(a.Loans.length:Int)) then match n8 a.Loans i with|some x=>(match n8 b.Loans i with|some x16=>bif !(b91 x x16) then some (.inr (.inr (false,()))) else some (.inl (wr .i64 (i+1),a,b,()))|none=>none)|none=>none else some (.inr (.inl (a,b,())))
def b4w:Yac→Ya7:=λ(i,a,b,_)=>
 bif decide (i<(a.Holds.length:Int)) then match n8 a.Holds i with|some x=>(match n8 b.Holds i with|some x19=>bif !(b9x x x19) then some (.inr (.inr (false,()))) else some (.inl (wr .i64 (i+1),a,b,()))|none=>none)|none=>none else some (.inr (.inl (a,b,())))
def b4x:Yac→Ya7:=λ(i,a,b,_)=>
 bif decide (i<(a.Charges.length:Int)) then match n8 a.Charges i with|some x=>(match n8 b.Charges i with|some x22=>bif !(b0i x x22) then some (.inr (.inr (false,()))) else some (.inl (wr .i64 (i+1),a,b,()))|none=>none)|none=>none else some (.inr (.inl (a,b,())))
def b4y:Yac→Ya7:=λ(i,a,b,_)=>
 bif decide (i<(a.Rules.length:Int)) then match n8 a.Rules i with|some x=>(match n8 b.Rules i with|some x25=>bif !(b93 x x25) then some (.inr (.inr (false,()))) else some (.inl (wr .i64 (i+1),a,b,()))|none=>none)|none=>none else some (.inr (.inl (a,b,())))
def b4z:Yac→Ya7:=λ(i,a,b,_)=>
 bif decide (i<(a.Moves.length:Int)) then match n8 a.Moves i with|some x=>(match n8 b.Moves i with|some x28=>bif !(b17 x x28) then some (.inr (.inr (false,()))) else some (.inl (wr .i64 (i+1),a,b,()))|none=>none)|none=>none else some (.inr (.inl (a,b,())))
def qc (a:Circ) (b:Circ):YaY:=
 let k47 (v:Bool):YaY:=let k46 (v1:Bool):YaY:=let k45 (v2:Bool):YaY:=let k44 (v3:Bool):YaY:=bif v3 then some false else let k43 (v4:Bool):YaY:=let k42 (v5:Bool):YaY:=let k41 (v6:Bool):YaY:=let k40 (v7:Bool):YaY:=let k39 (v8:Bool):YaY:=let k (v9:Bool):YaY:=bif v9 then some false else match b9 c8d (0,a,b,()) with|some (.inl (a11,b12,_)) =>(match b9 b4u (0,a11,b12,()) with|some (.inl (a14,b15,_)) =>(match b9 b4v (0,a14,b15,()) with|some (.inl (a17,b18,_)) =>(match b9 b4w (0,a17,b18,()) with|some (.inl (a20,b21,_)) =>(match b9 b4x (0,a20,b21,()) with|some (.inl (a23,b24,_)) =>(match b9 b4y (0,a23,b24,()) with|some (.inl (a26,b27,_)) =>(match b9 b4z (0,a26,b27,()) with|some (.inl (a29,b30,_)) =>(match qs a29 b30 with|some r31=>some r31|none=>none)|some (.inr (v32,_)) =>some v32|none=>none)|some (.inr (v33,_)) =>some v33|none=>none)|some (.inr (v34,_)) =>some v34|none=>none)|some (.inr (v35,_)) =>some v35|none=>none)|some (.inr (v36,_)) =>some v36|none=>none)|some (.inr (v37,_)) =>some v37|none=>none)|some (.inr (v38,_)) =>some v38|none=>none;bif v8 then k true else k (!((a.Moves.length:Int)==(b.Moves.length:Int)));bif v7 then k39 true else k39 (!((a.Rules.length:Int)==(b.Rules.length:Int)));bif v6 then k40 true else k40 (!((a.Charges.length:Int)==(b.Charges.length:Int)));bif v5 then k41 true else k41 (!((a.Holds.length:Int)==(b.Holds.length:Int)));bif v4 then k42 true else k42 (!((a.Loans.length:Int)==(b.Loans.length:Int)));bif !((a.Items.length:Int)==(b.Items.length:Int)) then k43 true else k43 (!((a.Patrons.length:Int)==(b.Patrons.length:Int)));bif v2 then k44 true else k44 (!(a.Local==b.Local));bif v1 then k45 true else k45 (!(a.NextCharge==b.NextCharge));bif v then k46 true else k46 (!(a.NextHold==b.NextHold));bif !(a.Today==b.Today) then k47 true else k47 (!(a.Cals.x0.Week==b.Cals.x0.Week))
def b7u:(Yas×Yas×Int×Unit)→Option ((Yas×Yas×Int×Unit)⊕Yaz):=λ(a,b,i,_)=>
 bif decide (i<(a.length:Int)) then match n8 a i with|some x=>(match n8 b i with|some x1=>bif !(a8x x x1) then some (.inr (.inr (false,()))) else some (.inl (a,b,wr .i64 (i+1),()))|none=>none)|none=>none else some (.inr (.inl (())))
def qap (a:List Outcome) (b:List Outcome):YaY:=
 bif !((a.length:Int)==(b.length:Int)) then some false else match b9 b7u (a,b,0,()) with|some (.inl (_)) =>some true|some (.inr (v,_)) =>some v|none=>none
def b4s:YaW→Option (YaW⊕((Yat×Int×Yas×Circ×Circ×Unit)⊕Yag)):=λ(l,vat,o,v,v18,c,d,_)=>
 bif decide (v18<v) then match n8 d.Moves v18 with|some x=>(match n8 c.Moves v18 with|some x19=>bif !(b17 x x19) then some (.inr (.inr (false,()))) else some (.inl (l,vat,o,v,wr .i64 (v18+1),c,d,()))|none=>none)|none=>none else some (.inr (.inl (l,vat,o,c,d,())))
def qah (c:Circ) (l:List Off) (vat:Int):YaY:=
 match qb c with|some r1=>let k44 (v:Bool):YaY:=let k43 (v4:Bool):YaY:=let k42 (v7:Bool):YaY:=bif v7 then match qb7 with|some r9=>some r9|none=>none else match q9 c l with|some (r11,r12) =>(match qcj r11 with|some r14=>let k41 (v15:Bool):YaY:=let k40 (v16:Bool):YaY:=let k39 (v17:Bool):YaY:=bif v17 then some false else match b9 b4s (l,vat,r12,(c.Moves.length:Int),0,c,r11,()) with|some (.inl (l20,vat21,o,c22,d,_)) =>bif wr .i64 ((l20.length:Int)+1)==0 then none else bif decide (0≤(0:Int))&&(decide ((0:Int)≤(wr .i64 vat21).tmod (wr .i64 ((l20.length:Int)+1)))&&decide ((wr .i64 vat21).tmod (wr .i64 ((l20.length:Int)+1))≤(l20.length:Int))) then match q9 c22 ((l20.take ((wr .i64 vat21).tmod (wr .i64 ((l20.length:Int)+1))).toNat).drop (0:Int).toNat) with|some (r24,r25) =>bif decide (0≤((wr .i64 vat21).tmod (wr .i64 ((l20.length:Int)+1)):Int))&&(decide (((wr .i64 vat21).tmod (wr .i64 ((l20.length:Int)+1)):Int)≤(l20.length:Int))&&decide ((l20.length:Int)≤(l20.length:Int))) then match q9 r24 ((l20.take (l20.length:Int).toNat).drop ((wr .i64 vat21).tmod (wr .i64 ((l20.length:Int)+1)):Int).toNat) with|some (r27,r28) =>(match qc r27 d with|some r30=>let k37 (v33:Bool):YaY:=let k (v36:Bool):YaY:=some v36;bif v33 then match qb7 with|some r35=>k r35|none=>none else k false;bif r30 then bif decide (([]:List Outcome).length+r25.length≤LIM) then bif decide ((([])++r25).length+r28.length≤LIM) then match qap ((([])++r25)++r28) o with|some r32=>k37 r32|none=>none else none else none else k37 false|none=>none)|none=>none else none|none=>none else none|some (.inr (v38,_)) =>some v38|none=>none;bif v16 then k39 true else k39 (!((r12.length:Int)==(l.length:Int)));bif v15 then k40 true else k40 (decide ((r11.Moves.length:Int)<(c.Moves.length:Int)));bif !r14 then k41 true else k41 (!(r11.Today==c.Today))|none=>none)|none=>none;bif v4 then k42 true else match qj l with|some r6=>k42 (!(r6==0))|none=>none;bif v then k43 true else match qcj c with|some r3=>k43 (!r3)|none=>none;bif !r1 then k44 true else k44 (decide (20<(l.length:Int)))|none=>none
def qc8 (s:List Off):Option Yat:=
 bif decide (([]:List Off).length+s.length≤LIM) then some (([])++s) else none
end
section
set_option maxRecDepth 100000
abbrev Xaa:=(Int×Circ×Unit)⊕((Circ×Unit)⊕(Bool×Unit))
abbrev Xab:=(Unit)⊕(Int×Unit)
abbrev Xac:=List Hold
abbrev Xad:=((List Charge)×Int×Unit)⊕Xab
abbrev Xae:=((List Loan)×Int×Unit)⊕Xab
abbrev Xaf:=(Int×Int×Bool×Int×Circ×Circ×Item×Hold×Unit)⊕((Int×Bool×Circ×Circ×Hold×Unit))
abbrev Xag:=Int×Unit
abbrev Xah:=(Xac×Int×Int×Int×Int×(List Int)×Unit)⊕((Xac×Int×Int×Int×(List Int)×Unit))
abbrev Xai:=((List Patron)×Int×Unit)⊕Xab
abbrev Xaj:=Int×Int
abbrev Xak:=List Charge
abbrev Xal:=(Int×Int×Circ×Circ×Loan×Item×Unit)⊕((Int×Circ×Circ×Loan×Item×Unit)⊕(Int×Int×Circ×Unit))
abbrev Xam:=((List UInt8)×(List UInt8)×Bool×Int×Unit)⊕(((List UInt8)×Unit))
abbrev Xan:=(Xac×Int×Bool×(List Int)×Int×Int×Item×Unit)⊕(Xag⊕Xag)
abbrev Xao:=List Loan
abbrev Xap:=Int×Circ×Unit
abbrev Xaq:=Int×Calendar×Unit
abbrev Xar:=(Unit)⊕(Bool×Unit)
abbrev Xas:=(List Off)×Int×Unit
abbrev Xat:=((List Rule)×Int×Int×Unit)⊕(((List Rule)×Int×Unit)⊕Xag)
abbrev Xau:=(List Rule)×Int×Int×Int×Int×Int×Unit
abbrev Xav:=(Xak×Int×Int×Int×Int×Int×Xak×Unit)⊕((Int×Xak×Unit))
abbrev Xaw:=Xac×Int×Unit
abbrev Xax:=Int×Int×Int×Calendar×Unit
abbrev Xay:=Int×Int×Circ×Circ×Move×Custody×(List Item)×Unit
abbrev Xaz:=(List Off)×Int×Int×Circ×Circ×(List Outcome)×Unit
abbrev XaA:=Circ×Int
abbrev XaB:=(Xac×Int×Int×Int×Int×Int×Hold×Unit)⊕((Xac×Int×Int×Int×Hold×Unit)⊕Xaw)
abbrev XaC:=Xao×Int×Int×Int×Int×Unit
abbrev XaD:=Circ×Int×Int
abbrev XaE:=Xao×Int×Loan×Unit
abbrev XaF:=List Int
abbrev XaG:=(Xac×Int×Int×Unit)⊕(Xaw⊕Xag)
abbrev XaH:=Custody×Int
abbrev XaI:=Int×Int×Circ×Unit
abbrev XaJ:=(List Off)×Int×Int×Unit
abbrev XaK:=Xac×Int×Hold×Xac×Unit
abbrev XaL:=Int×Int×Calendar×Unit
abbrev XaM:=Xak×Int×Int×Int×Unit
abbrev XaN:=(List Move)×Int×Int×Custody×Custody×Unit
abbrev XaO:=Xay⊕((Circ×Circ×Move×(List Item)×Unit))
abbrev XaP:=Xaz⊕((Circ×Circ×(List Outcome)×Unit))
abbrev XaQ:=List UInt8
abbrev XaR:=Option Bool
abbrev XaS:=Option Int
abbrev XaT:=Option Xaj
abbrev XaU:=Option Xaa
abbrev XaV:=Option Xae
abbrev XaW:=Option Xad
abbrev XaX:=Option XaA
abbrev XaY:=Option Xai
abbrev XaZ:=Option XaH
abbrev Xa0:=Option XaD
def qe2 (s:List UInt8) (i:Int):XaT:=
 match n8 s i with|some b=>let k35 (v:Bool):XaT:=bif v then some (wr .i64 (b.toNat:Int),1) else let k34 (v1:Bool):XaT:=let k33 (v2:Bool):XaT:=let k32 (v4:Bool):XaT:=let k31 (v6:Bool):XaT:=let k (v8:Int) (v9:Int):XaT:=some (v8,v9);bif v6 then match n8 s (wr .i64 (i+1)) with|some b7=>bif decide (160≤wr .i64 ((wr .i64 ((wr .i64 ((wr .i64 ((wr .i64 (b.toNat:Int))-192))*64))+(wr .i64 (b7.toNat:Int))))-128)) then k (wr .i64 ((wr .i64 ((wr .i64 ((wr .i64 ((wr .i64 (b.toNat:Int))-192))*64))+(wr .i64 (b7.toNat:Int))))-128)) 2 else k 0 0|none=>none else let k30 (v10:Bool):XaT:=let k29 (v11:Bool):XaT:=let k28 (v13:Bool):XaT:=let k27 (v15:Bool):XaT:=let k26 (v17:Bool):XaT:=let k25 (v19:Bool):XaT:=bif v19 then match n8 s (wr .i64 (i+1)) with|some b20=>(match n8 s (wr .i64 (i+2)) with|some b21=>let k24 (v23:Bool):XaT:=bif v23 then some (wr .i64 ((wr .i64 ((wr .i64 ((wr .i64 ((wr .i64 ((wr .i64 (b.toNat:Int))-224))*4096))+(wr .i64 ((wr .i64 ((wr .i64 (b20.toNat:Int))-128))*64))))+(wr .i64 (b21.toNat:Int))))-128),3) else some (0,0);bif decide (2048≤wr .i64 ((wr .i64 ((wr .i64 ((wr .i64 ((wr .i64 ((wr .i64 (b.toNat:Int))-224))*4096))+(wr .i64 ((wr .i64 ((wr .i64 (b20.toNat:Int))-128))*64))))+(wr .i64 (b21.toNat:Int))))-128)) then bif decide (wr .i64 ((wr .i64 ((wr .i64 ((wr .i64 ((wr .i64 ((wr .i64 (b.toNat:Int))-224))*4096))+(wr .i64 ((wr .i64 ((wr .i64 (b20.toNat:Int))-128))*64))))+(wr .i64 (b21.toNat:Int))))-128)<55296) then k24 true else k24 (decide (57343<wr .i64 ((wr .i64 ((wr .i64 ((wr .i64 ((wr .i64 ((wr .i64 (b.toNat:Int))-224))*4096))+(wr .i64 ((wr .i64 ((wr .i64 (b20.toNat:Int))-128))*64))))+(wr .i64 (b21.toNat:Int))))-128))) else k24 false|none=>none)|none=>none else some (0,0);bif v17 then match n8 s (wr .i64 (i+2)) with|some b18=>k25 (decide ((b18.toNat:Int)<192))|none=>none else k25 false;bif v15 then match n8 s (wr .i64 (i+2)) with|some b16=>k26 (decide (128≤(b16.toNat:Int)))|none=>none else k26 false;bif v13 then match n8 s (wr .i64 (i+1)) with|some b14=>k27 (decide ((b14.toNat:Int)<192))|none=>none else k27 false;bif v11 then match n8 s (wr .i64 (i+1)) with|some b12=>k28 (decide (128≤(b12.toNat:Int)))|none=>none else k28 false;bif v10 then k29 (decide (wr .i64 (i+2)<(s.length:Int))) else k29 false;bif decide (224≤wr .i64 (b.toNat:Int)) then k30 (decide (wr .i64 (b.toNat:Int)<240)) else k30 false;bif v4 then match n8 s (wr .i64 (i+1)) with|some b5=>k31 (decide ((b5.toNat:Int)<192))|none=>none else k31 false;bif v2 then match n8 s (wr .i64 (i+1)) with|some b3=>k32 (decide (128≤(b3.toNat:Int)))|none=>none else k32 false;bif v1 then k33 (decide (wr .i64 (i+1)<(s.length:Int))) else k33 false;bif decide (194≤wr .i64 (b.toNat:Int)) then k34 (decide (wr .i64 (b.toNat:Int)<224)) else k34 false;bif decide (32≤wr .i64 (b.toNat:Int)) then k35 (decide (wr .i64 (b.toNat:Int)<127)) else k35 false|none=>none
def c43:(XaQ×Int×Unit)→Option ((XaQ×Int×Unit)⊕Xar):=λ(s,i,_)=>
 bif decide (i<(s.length:Int)) then match qe2 s i with|some (r1,r2) =>bif r2==0 then some (.inr (.inr (false,()))) else some (.inl (s,wr .i64 (i+r2),()))|none=>none else some (.inr (.inl (())))
def qfr (s:List UInt8):XaR:=
 match b9 c43 (s,0,()) with|some (.inl (_)) =>some true|some (.inr (v,_)) =>some v|none=>none
def qgd (s:List UInt8) (i:Int):XaS:=
 match qe2 s i with|some (r1,r2) =>some (if r2<1 then 1 else r2)|none=>none
def qfq (c:Int):XaR:=
 let k (v:Bool):XaR:=some v;bif c==32 then k true else k (c==160)
def c44:(XaQ×XaQ×Bool×Int×Unit)→Option Xam:=λ(s,vout,gap,i,_)=>
 bif decide (i<(s.length:Int)) then match qe2 s i with|some (r1,r2) =>(match qgd s i with|some r4=>(match qfq r1 with|some r6=>let k11 (vout9:List UInt8) (gap10:Bool):Option Xam:=some (.inl (s,vout9,gap10,wr .i64 (i+r4),()));bif r6 then k11 vout true else let k8 (v:Bool):Option Xam:=let k (vout7:List UInt8):Option Xam:=bif decide (0≤(i:Int))&&(decide ((i:Int)≤wr .i64 (i+r4))&&decide (wr .i64 (i+r4)≤(s.length:Int))) then bif decide (vout7.length+((s.take (wr .i64 (i+r4)).toNat).drop (i:Int).toNat).length≤LIM) then k11 (vout7++((s.take (wr .i64 (i+r4)).toNat).drop (i:Int).toNat)) false else none else none;bif v then bif decide (vout.length+([32]).length≤LIM) then k (vout++([32])) else none else k vout;bif gap then k8 (!(vout==([]))) else k8 false|none=>none)|none=>none)|none=>none else some (.inr ((vout,())))
def qfs (s:List UInt8):Option XaQ:=
 match b9 c44 (s,[],false,0,()) with|some ((vout,_)) =>some vout|none=>none
def b77:((List Patron)×Int×Unit)→XaY:=λ(l,i,_)=>
 bif decide (i<(l.length:Int)) then match n8 l i with|some x=>let k18 (v:Bool):XaY:=bif v then some (.inr (.inr (2,()))) else let k17 (v2:Bool):XaY:=bif v2 then some (.inr (.inr (7,()))) else let k16 (v3:Bool):XaY:=let k15 (v4:Bool):XaY:=let k14 (v5:Bool):XaY:=bif v5 then some (.inr (.inr (1,()))) else let k13 (v6:Bool):XaY:=bif v6 then some (.inr (.inr (2,()))) else let k12 (v8:Bool):XaY:=let k (v11:Bool):XaY:=bif v11 then some (.inr (.inr (3,()))) else bif decide (200<(x.Name.length:Int)) then some (.inr (.inr (4,()))) else some (.inl (l,wr .i64 (i+1),()));bif v8 then k true else match qfs x.Name with|some r10=>k (!(r10==x.Name))|none=>none;bif x.Name==([]) then k12 true else match qfr x.Name with|some r7=>k12 (!r7)|none=>none;bif decide (x.Until<0) then k13 true else k13 (decide (109572<x.Until));bif v4 then k14 true else k14 (decide (4<x.Branch));bif v3 then k15 true else k15 (decide (x.Branch<1));bif decide (x.Kind<1) then k16 true else k16 (decide (9<x.Kind));bif decide (0<i) then match n8 l (wr .i64 (i-1)) with|some x1=>k17 (decide (x.ID≤x1.ID))|none=>none else k17 false;bif decide (x.ID<1) then k18 true else k18 (decide (9999<x.ID))|none=>none else some (.inr (.inl (())))
def qfj (l:List Patron):XaS:=
 bif decide (32<(l.length:Int)) then some 13 else match b9 b77 (l,0,()) with|some (.inl (_)) =>some 0|some (.inr (v,_)) =>some v|none=>none
def b75:(Xao×Int×Unit)→XaV:=λ(l,i,_)=>
 bif decide (i<(l.length:Int)) then match n8 l i with|some x=>let k21 (v:Bool):XaV:=bif v then some (.inr (.inr (7,()))) else let k20 (v2:Bool):XaV:=let k19 (v3:Bool):XaV:=let k18 (v4:Bool):XaV:=let k17 (v5:Bool):XaV:=let k16 (v6:Bool):XaV:=let k15 (v7:Bool):XaV:=let k14 (v8:Bool):XaV:=let k13 (v9:Bool):XaV:=let k12 (v10:Bool):XaV:=let k (v11:Bool):XaV:=bif v11 then some (.inr (.inr (2,()))) else some (.inl (l,wr .i64 (i+1),()));bif v10 then k true else k (decide (10<x.Renewals));bif v9 then k12 true else k12 (decide (x.Renewals<0));bif v8 then k13 true else k13 (decide (x.Due<x.Out));bif v7 then k14 true else k14 (decide (109572<x.Due));bif v6 then k15 true else k15 (decide (x.Due<0));bif v5 then k16 true else k16 (decide (109572<x.Out));bif v4 then k17 true else k17 (decide (x.Out<0));bif v3 then k18 true else k18 (decide (9999<x.Patron));bif v2 then k19 true else k19 (decide (x.Patron<1));bif decide (x.Item<1) then k20 true else k20 (decide (9999<x.Item));bif decide (0<i) then match n8 l (wr .i64 (i-1)) with|some x1=>k21 (decide (x.Item≤x1.Item))|none=>none else k21 false|none=>none else some (.inr (.inl (())))
def qfc (l:List Loan):XaS:=
 bif decide (64<(l.length:Int)) then some 13 else match b9 b75 (l,0,()) with|some (.inl (_)) =>some 0|some (.inr (v,_)) =>some v|none=>none
def qgn (n:Int):XaR:=
 let k (v:Bool):XaR:=some v;bif decide (1≤n) then k (decide (n≤9999)) else k false
def qge (n:Int):XaR:=
 let k (v:Bool):XaR:=some v;bif decide (0≤n) then k (decide (n≤109572)) else k false
def qe8 (h:Hold):XaS:=
 let k41 (v:Bool):XaS:=let k40 (v2:Bool):XaS:=let k39 (v5:Bool):XaS:=let k38 (v9:Bool):XaS:=let k37 (v10:Bool):XaS:=let k36 (v11:Bool):XaS:=let k35 (v14:Bool):XaS:=let k34 (v18:Bool):XaS:=let k33 (v21:Bool):XaS:=let k32 (v24:Bool):XaS:=let k31 (v25:Bool):XaS:=let k30 (v26:Bool):XaS:=bif v26 then some 2 else let k29 (v27:Bool):XaS:=bif v27 then some 1 else let k (v28:Bool):XaS:=bif v28 then some 12 else some 0;bif !((decide (0<h.Got))==(!(h.State==1))) then k true else k (!((decide (0<h.Until))==(h.State==3)));bif decide (h.State<1) then k29 true else k29 (decide (3<h.State));bif v25 then k30 true else k30 (decide (9<h.Rank));bif v24 then k31 true else k31 (decide (h.Rank<0));bif v21 then k32 true else match qge h.Asleep with|some r23=>k32 (!r23)|none=>none;bif v18 then k33 true else match qge h.Until with|some r20=>k33 (!r20)|none=>none;bif v14 then k34 true else bif !(h.Got==0) then match qgn h.Got with|some r16=>k34 (!r16)|none=>none else k34 false;bif v11 then k35 true else match qge h.Placed with|some r13=>k35 (!r13)|none=>none;bif v10 then k36 true else k36 (decide (4<h.Pickup));bif v9 then k37 true else k37 (decide (h.Pickup<1));bif v5 then k38 true else bif !(h.Item==0) then match qgn h.Item with|some r7=>k38 (!r7)|none=>none else k38 false;bif v2 then k39 true else match qgn h.Record with|some r4=>k39 (!r4)|none=>none;bif v then k40 true else match qgn h.Patron with|some r1=>k40 (!r1)|none=>none;bif decide (h.ID<1) then k41 true else k41 (decide (99999<h.ID))
def b7z:Xaw→Option (Xaw⊕((Xac×Unit)⊕Xag)):=λ(l,i,_)=>
 bif decide (i<(l.length:Int)) then let k (v:Bool):Option (Xaw⊕((Xac×Unit)⊕Xag)):=bif v then some (.inr (.inr (7,()))) else match n8 l i with|some x2=>(match qe8 x2 with|some r3=>bif !(r3==0) then some (.inr (.inr (r3,()))) else some (.inl (l,wr .i64 (i+1),()))|none=>none)|none=>none;bif decide (0<i) then match n8 l i with|some x=>(match n8 l (wr .i64 (i-1)) with|some x1=>k (decide (x.ID≤x1.ID))|none=>none)|none=>none else k false else some (.inr (.inl (l,())))
def b0z:(Xac×Int×Int×Unit)→Option XaG:=λ(l,i,k,_)=>
 bif decide (k<i) then match n8 l i with|some x=>(match n8 l k with|some x5=>let k14 (v:Bool):Option XaG:=let k13 (v12:Bool):Option XaG:=bif v12 then some (.inr (.inr (7,()))) else some (.inl (l,i,wr .i64 (k+1),()));bif v then k13 true else match n8 l i with|some x8=>bif decide (0<x8.Got) then match n8 l i with|some x9=>(match n8 l k with|some x10=>k13 (x9.Got==x10.Got)|none=>none)|none=>none else k13 false|none=>none;bif x.Patron==x5.Patron then match n8 l i with|some x6=>(match n8 l k with|some x7=>k14 (x6.Record==x7.Record)|none=>none)|none=>none else k14 false|none=>none)|none=>none else some (.inr (.inl (l,i,())))
def b44:Xaw→Option (Xaw⊕Xab):=λ(l,i,_)=>
 bif decide (i<(l.length:Int)) then match b9 b0z (l,i,0,()) with|some (.inl (l15,i16,_)) =>some (.inl (l15,wr .i64 (i16+1),()))|some (.inr (v,_)) =>some (.inr (.inr (v,())))|none=>none else some (.inr (.inl (())))
def qe9 (l:List Hold):XaS:=
 bif decide (64<(l.length:Int)) then some 13 else match b9 b7z (l,0,()) with|some (.inl (l4,_)) =>(match b9 b44 (l4,0,()) with|some (.inl (_)) =>some 0|some (.inr (v,_)) =>some v|none=>none)|some (.inr (v17,_)) =>some v17|none=>none
def qgh (n:Int):XaR:=
 let k (v:Bool):XaR:=some v;bif decide (0≤n) then k (decide (n≤109572)) else k false
def b76:(Xak×Int×Unit)→XaW:=λ(l,i,_)=>
 bif decide (i<(l.length:Int)) then match n8 l i with|some x=>let k22 (v:Bool):XaW:=bif v then some (.inr (.inr (7,()))) else let k21 (v2:Bool):XaW:=let k20 (v3:Bool):XaW:=let k19 (v4:Bool):XaW:=let k18 (v5:Bool):XaW:=let k17 (v6:Bool):XaW:=let k16 (v8:Bool):XaW:=bif v8 then some (.inr (.inr (2,()))) else let k15 (v9:Bool):XaW:=bif v9 then some (.inr (.inr (1,()))) else let k14 (v10:Bool):XaW:=let k13 (v11:Bool):XaW:=let k (v12:Bool):XaW:=bif v12 then some (.inr (.inr (2,()))) else some (.inl (l,wr .i64 (i+1),()));bif v11 then k true else k (decide (x.Amount≤x.Paid));bif v10 then k13 true else k13 (decide (x.Paid<0));bif decide (x.Amount<1) then k14 true else k14 (decide (100000000<x.Amount));bif decide (x.Kind<1) then k15 true else k15 (decide (3<x.Kind));bif v6 then k16 true else match qgh x.Day with|some r7=>k16 (!r7)|none=>none;bif v5 then k17 true else k17 (decide (9999<x.Item));bif v4 then k18 true else k18 (decide (x.Item<1));bif v3 then k19 true else k19 (decide (9999<x.Patron));bif v2 then k20 true else k20 (decide (x.Patron<1));bif decide (x.ID<1) then k21 true else k21 (decide (99999<x.ID));bif decide (0<i) then match n8 l (wr .i64 (i-1)) with|some x1=>k22 (decide (x.ID≤x1.ID))|none=>none else k22 false|none=>none else some (.inr (.inl (())))
def qfi (l:List Charge):XaS:=
 bif decide (128<(l.length:Int)) then some 13 else match b9 b76 (l,0,()) with|some (.inl (_)) =>some 0|some (.inr (v,_)) =>some v|none=>none
def qez (n:Int) (low:Int) (high:Int):XaR:=
 let k (v:Bool):XaR:=some v;bif decide (low≤n) then k (decide (n≤high)) else k false
def qeg (r:Rule):XaR:=
 match qez r.Patron 0 9 with|some r2=>let k48 (v:Bool):XaR:=let k47 (v7:Bool):XaR:=match qez r.Days 0 365 with|some r9=>let k46 (v12:Bool):XaR:=let k45 (v15:Bool):XaR:=match qez r.Fine 0 1000 with|some r17=>let k44 (v20:Bool):XaR:=let k43 (v23:Bool):XaR:=let k42 (v24:Bool):XaR:=let k41 (v25:Bool):XaR:=let k40 (v28:Bool):XaR:=let k39 (v31:Bool):XaR:=let k38 (v34:Bool):XaR:=let k (v37:Bool):XaR:=some v37;bif v34 then match qez r.Rank 0 9 with|some r36=>k r36|none=>none else k false;bif v31 then match qez r.Fixed 0 109572 with|some r33=>k38 r33|none=>none else k38 false;bif v28 then match qez r.Recall 1 60 with|some r30=>k39 r30|none=>none else k39 false;bif v25 then match qez r.Shelf 1 60 with|some r27=>k40 r27|none=>none else k40 false;bif v24 then k41 v23 else k41 false;bif v7 then k42 v15 else k42 false;bif v20 then match qez r.MaxFine 0 100000000 with|some r22=>k43 r22|none=>none else k43 false;bif r17 then match qez r.Grace 0 30 with|some r19=>k44 r19|none=>none else k44 false|none=>none;bif v12 then match qez r.Loans 0 99 with|some r14=>k45 r14|none=>none else k45 false;bif r9 then match qez r.Renewals 0 10 with|some r11=>k46 r11|none=>none else k46 false|none=>none;bif v then match qez r.Branch 0 4 with|some r6=>k47 r6|none=>none else k47 false;bif r2 then match qez r.Item 0 9 with|some r4=>k48 r4|none=>none else k48 false|none=>none
def b79:((List Rule)×Int×Int×Unit)→Option Xat:=λ(l,i,k,_)=>
 bif decide (k<i) then match n8 l k with|some x=>(match n8 l i with|some x2=>let k9 (v:Bool):Option Xat:=let k8 (v7:Bool):Option Xat:=bif v7 then some (.inr (.inr (7,()))) else some (.inl (l,i,wr .i64 (k+1),()));bif v then match n8 l k with|some x5=>(match n8 l i with|some x6=>k8 (x5.Branch==x6.Branch)|none=>none)|none=>none else k8 false;bif x.Patron==x2.Patron then match n8 l k with|some x3=>(match n8 l i with|some x4=>k9 (x3.Item==x4.Item)|none=>none)|none=>none else k9 false|none=>none)|none=>none else some (.inr (.inl (l,i,())))
def c41:((List Rule)×Int×Unit)→Option (((List Rule)×Int×Unit)⊕Xab):=λ(l,i,_)=>
 bif decide (i<(l.length:Int)) then match n8 l i with|some x=>(match qeg x with|some r1=>(bif !r1 then some (.inr (.inr (2,()))) else match b9 b79 (l,i,0,()) with|some (.inl (l10,i11,_)) =>some (.inl (l10,wr .i64 (i11+1),()))|some (.inr (v,_)) =>some (.inr (.inr (v,())))|none=>none)|none=>none)|none=>none else some (.inr (.inl (())))
def qfl (l:List Rule):XaS:=
 bif decide (32<(l.length:Int)) then some 13 else match b9 c41 (l,0,()) with|some (.inl (_)) =>some 0|some (.inr (v,_)) =>some v|none=>none
def b8a:Xaq→Option (Xaq⊕((Calendar×Unit)⊕Xag)):=λ(i,c,_)=>
 bif decide (i<(c.Closed.length:Int)) then match n8 c.Closed i with|some x=>(let k (v:Bool):Option (Xaq⊕((Calendar×Unit)⊕Xag)):=bif v then some (.inr (.inr (2,()))) else some (.inl (wr .i64 (i+1),c,()));bif decide (x<0) then k true else match n8 c.Closed i with|some x1=>k (decide (109572<x1))|none=>none)|none=>none else some (.inr (.inl (c,())))
def b01:Xaq→Option (Xaq⊕Xab):=λ(i,c,_)=>
 bif decide (i<(c.Closed.length:Int)) then match n8 c.Closed i with|some x=>(match n8 c.Closed (wr .i64 (i-1)) with|some x3=>bif decide (x≤x3) then some (.inr (.inr (7,()))) else some (.inl (wr .i64 (i+1),c,()))|none=>none)|none=>none else some (.inr (.inl (())))
def qfn (c:Calendar):XaS:=
 let k (v:Bool):XaS:=bif v then some 1 else bif decide (64<(c.Closed.length:Int)) then some 13 else match b9 b8a (0,c,()) with|some (.inl (c2,_)) =>(match b9 b01 (1,c2,()) with|some (.inl (_)) =>some 0|some (.inr (v4,_)) =>some v4|none=>none)|some (.inr (v5,_)) =>some v5|none=>none;bif decide (c.Week<0) then k true else k (decide (126<c.Week))
def c5d:((List Patron)×Int×Int×Unit)→Option (((List Patron)×Int×Int×Unit)⊕Xab):=λ(l,vid,i,_)=>
 bif decide (i<(l.length:Int)) then match n8 l i with|some x=>bif x.ID==vid then some (.inr (.inr (i,()))) else some (.inl (l,vid,wr .i64 (i+1),()))|none=>none else some (.inr (.inl (())))
def qgq (l:List Patron) (vid:Int):XaS:=
 match b9 c5d (l,vid,0,()) with|some (.inl (_)) =>some (-1)|some (.inr (v,_)) =>some v|none=>none
def qgj (l:List Patron) (vid:Int):Option (Patron×Bool):=
 match qgq l vid with|some r1=>(bif decide (r1<0) then some ((⟨0,0,0,0,false,[]⟩:Patron),false) else match n8 l r1 with|some x=>some (x,true)|none=>none)|none=>none
def qff (branch:Int):Option Custody:=
 some (⟨1,branch,0,0⟩:Custody)
def qej (state:Int):XaR:=
 let k6 (v:Bool):XaR:=let k5 (v1:Bool):XaR:=let k4 (v2:Bool):XaR:=let k (v3:Bool):XaR:=some v3;bif v2 then k true else k (state==10);bif v1 then k4 true else k4 (state==9);bif v then k5 true else k5 (state==8);bif state==4 then k6 true else k6 (state==5)
def qfg (c:Custody):XaR:=
 let k17 (v:Bool):XaR:=let k16 (v1:Bool):XaR:=let k15 (v2:Bool):XaR:=bif v2 then some false else let k10 (v9:Bool):XaR:=some v9;bif c.State==6 then let k8 (v3:Bool):XaR:=let k7 (v4:Bool):XaR:=let k (v5:Bool):XaR:=bif v5 then k10 (!(c.To==c.Branch)) else k10 false;bif v4 then k (decide (c.To≤4)) else k false;bif v3 then k7 (decide (1≤c.To)) else k7 false;bif decide (0≤c.Who) then k8 (decide (c.Who≤9999)) else k8 false else bif !(c.To==0) then some false else match qej c.State with|some r11=>let k14 (v13:Bool):XaR:=some v13;bif r11 then bif decide (1≤c.Who) then k14 (decide (c.Who≤9999)) else k14 false else some (c.Who==0)|none=>none;bif v1 then k15 true else k15 (decide (4<c.Branch));bif v then k16 true else k16 (decide (c.Branch<1));bif decide (c.State<1) then k17 true else k17 (decide (12<c.State))
def qev (m:Move):XaR:=
 let k16 (v:Bool):XaR:=let k15 (v1:Bool):XaR:=let k14 (v2:Bool):XaR:=let k13 (v3:Bool):XaR:=let k12 (v4:Bool):XaR:=let k11 (v5:Bool):XaR:=let k10 (v6:Bool):XaR:=let k9 (v7:Bool):XaR:=let k (v8:Bool):XaR:=some v8;bif v7 then k (decide (m.Who≤9999)) else k false;bif v6 then k9 (decide (0≤m.Who)) else k9 false;bif v5 then k10 (decide (m.Branch≤4)) else k10 false;bif v4 then k11 (decide (1≤m.Branch)) else k11 false;bif v3 then k12 (decide (m.Kind≤15)) else k12 false;bif v2 then k13 (decide (1≤m.Kind)) else k13 false;bif v1 then k14 (decide (m.Item≤9999)) else k14 false;bif v then k15 (decide (1≤m.Item)) else k15 false;bif decide (0≤m.Day) then k16 (decide (m.Day≤109572)) else k16 false
def qew (kind:Int):Option XaF:=
 bif kind==1 then some ([1]) else bif kind==2 then some ([2,5]) else bif kind==3 then some ([3,5]) else bif kind==4 then some ([4,8,9,10]) else let k (v:Bool):Option XaF:=bif v then some ([2,3]) else bif kind==6 then some ([2,3,5]) else bif kind==7 then some ([6]) else bif kind==9 then some ([7]) else bif kind==10 then some ([3]) else bif kind==11 then some ([4]) else bif kind==12 then some ([4,9]) else bif kind==13 then some ([2,3,5,6,7]) else bif kind==14 then some ([11]) else bif kind==15 then some ([1,2,3,11,10]) else some ([]);bif kind==5 then k (kind==5) else k (kind==8)
def c4p:(Int×XaF×Int×Unit)→Option ((Int×XaF×Int×Unit)⊕Xar):=λ(state,l,i,_)=>
 bif decide (i<(l.length:Int)) then match n8 l i with|some x=>bif x==state then some (.inr (.inr (true,()))) else some (.inl (state,l,wr .i64 (i+1),()))|none=>none else some (.inr (.inl (())))
def qep (state:Int) (kind:Int):XaR:=
 match qew kind with|some r1=>(match b9 c4p (state,r1,0,()) with|some (.inl (_)) =>some false|some (.inr (v,_)) =>some v|none=>none)|none=>none
def qf6 (c:Custody) (m:Move):XaR:=
 let k14 (v2:Bool):XaR:=let k11 (v10:Bool):XaR:=some v10;bif v2 then k11 (m.Who==0) else bif m.Kind==7 then bif m.Who==0 then k11 (m.Branch==c.To) else k11 false else bif m.Kind==6 then k11 (!(m.Branch==c.Branch)) else let k (v5:Bool):XaR:=bif v5 then bif m.Branch==c.Branch then k11 (decide (1≤m.Who)) else k11 false else let k13 (v12:Bool):XaR:=some v12;bif m.Branch==c.Branch then k13 (m.Who==0) else k13 false;bif m.Kind==3 then k (m.Kind==3) else bif m.Kind==5 then k (m.Kind==5) else k (m.Kind==10);bif m.Kind==1 then k14 (m.Kind==1) else bif m.Kind==4 then k14 (m.Kind==4) else bif m.Kind==9 then k14 (m.Kind==9) else k14 (m.Kind==14)
def qfe (kind:Int):XaS:=
 let k13 (v3:Bool):XaS:=let k (v12:Int):XaS:=some v12;bif v3 then k 2 else bif kind==2 then k 3 else bif kind==3 then k 4 else bif kind==5 then k 5 else bif kind==6 then k 6 else bif kind==8 then k 7 else bif kind==10 then k 8 else bif kind==11 then k 9 else bif kind==12 then k 10 else bif kind==13 then k 11 else some 12;bif kind==1 then k13 (kind==1) else bif kind==4 then k13 (kind==4) else bif kind==7 then k13 (kind==7) else bif kind==9 then k13 (kind==9) else k13 (kind==14)
def qfh (c:Custody) (m:Move):XaZ:=
 match qfg c with|some r1=>(let k26 (v:Bool):XaZ:=bif v then some ((⟨0,0,0,0⟩:Custody),1) else match qep c.State m.Kind with|some r5=>bif !r5 then some ((⟨0,0,0,0⟩:Custody),12) else let k25 (v6:Bool):XaZ:=let k24 (v7:Bool):XaZ:=bif v7 then some ((⟨0,0,0,0⟩:Custody),16) else match qf6 c m with|some r9=>(bif !r9 then some ((⟨0,0,0,0⟩:Custody),1) else match qfe m.Kind with|some r11=>let k23 (vout20:Int) (vout21:Int) (vout22:Int):XaZ:=some ((⟨r11,vout20,vout21,vout22⟩:Custody),0);bif r11==2 then k23 m.Branch 0 0 else let k19 (v13:Bool):XaZ:=bif v13 then k23 c.Branch m.Who 0 else bif r11==6 then k23 c.Branch m.Who m.Branch else let k (v14:Bool):XaZ:=bif v14 then k23 c.Branch c.Who 0 else k23 c.Branch 0 0;bif r11==9 then k (r11==9) else k (r11==10);bif r11==4 then k19 (r11==4) else bif r11==5 then k19 (r11==5) else k19 (r11==8)|none=>none)|none=>none;bif v6 then k24 (!(m.Who==c.Who)) else k24 false;bif m.Kind==3 then k25 (c.State==5) else k25 false|none=>none;bif !r1 then k26 true else match qev m with|some r3=>k26 (!r3)|none=>none)|none=>none
def c4t:XaN→Option (XaN⊕((Custody×Custody×Unit)⊕(Int×Int×Custody×Unit))):=λ(l,item,i,v,c,_)=>
 bif decide (i<(l.length:Int)) then match n8 l i with|some x=>(bif !(x.Item==item) then some (.inl (l,item,wr .i64 (i+1),v,c,())) else match n8 l i with|some x2=>(match qfh c x2 with|some (r3,r4) =>bif !(r4==0) then some (.inr (.inr (i,r4,(⟨0,0,0,0⟩:Custody),()))) else some (.inl (l,item,wr .i64 (i+1),v,r3,()))|none=>none)|none=>none)|none=>none else some (.inr (.inl (v,c,())))
def qex (branch:Int) (l:List Move) (item:Int):Option (Custody×Int×Int):=
 let k (v:Bool):Option (Custody×Int×Int):=bif v then some ((⟨0,0,0,0⟩:Custody),(-1),1) else match qff branch with|some r1=>(match b9 c4t (l,item,0,(⟨0,0,0,0⟩:Custody),r1,()) with|some (.inl (v5,c,_)) =>some (c,(-1),0)|some (.inr (v6,v7,v8,_)) =>some (v8,v6,v7)|none=>none)|none=>none;bif decide (branch<1) then k true else k (decide (4<branch))
def c5a:XaI→Option (XaI⊕Xab):=λ(item,i,c,_)=>
 bif decide (i<(c.Items.length:Int)) then match n8 c.Items i with|some x=>bif x.ID==item then some (.inr (.inr (i,()))) else some (.inl (item,wr .i64 (i+1),c,()))|none=>none else some (.inr (.inl (())))
def qgm (c:Circ) (item:Int):XaS:=
 match b9 c5a (item,0,c,()) with|some (.inl (_)) =>some (-1)|some (.inr (v,_)) =>some v|none=>none
def b71:Xap→XaU:=λ(i,c,_)=>
 bif decide (i<(c.Items.length:Int)) then match n8 c.Items i with|some x=>let k29 (v:Bool):XaU:=let k28 (v3:Bool):XaU:=let k27 (v4:Bool):XaU:=let k26 (v5:Bool):XaU:=let k25 (v6:Bool):XaU:=let k24 (v7:Bool):XaU:=bif v7 then some (.inr (.inr (false,()))) else let k23 (v8:Bool):XaU:=let k22 (v9:Bool):XaU:=let k21 (v10:Bool):XaU:=let k20 (v11:Bool):XaU:=let k19 (v13:Bool):XaU:=bif v13 then some (.inr (.inr (false,()))) else match qex x.Branch c.Moves x.ID with|some (r15,r16,r17) =>let k (v18:Bool):XaU:=bif v18 then some (.inr (.inr (false,()))) else some (.inl (wr .i64 (i+1),c,()));bif !(r17==0) then k true else k (!(u0 r15 x.Custody))|none=>none;bif v11 then k19 true else match qfr x.Call with|some r12=>k19 (!r12)|none=>none;bif v10 then k20 true else k20 (decide (200<(x.Call.length:Int)));bif v9 then k21 true else k21 (decide (100000000<x.Price));bif v8 then k22 true else k22 (decide (x.Price<0));bif decide (x.Kind<1) then k23 true else k23 (decide (9<x.Kind));bif v6 then k24 true else k24 (decide (4<x.Branch));bif v5 then k25 true else k25 (decide (x.Branch<1));bif v4 then k26 true else k26 (decide (9999<x.Record));bif v3 then k27 true else k27 (decide (x.Record<1));bif v then k28 true else bif decide (0<i) then match n8 c.Items (wr .i64 (i-1)) with|some x1=>k28 (decide (x.ID≤x1.ID))|none=>none else k28 false;bif decide (x.ID<1) then k29 true else k29 (decide (9999<x.ID))|none=>none else some (.inr (.inl (c,())))
def b00:Xap→Option (Xap⊕Xar):=λ(i,c,_)=>
 bif decide (i<(c.Moves.length:Int)) then match n8 c.Moves i with|some x=>(match qgm c x.Item with|some r31=>bif decide (r31<0) then some (.inr (.inr (false,()))) else some (.inl (wr .i64 (i+1),c,()))|none=>none)|none=>none else some (.inr (.inl (())))
def qee (c:Circ):XaR:=
 let k (v:Bool):XaR:=bif v then some false else match b9 b71 (0,c,()) with|some (.inl (c30,_)) =>(match b9 b00 (0,c30,()) with|some (.inl (_)) =>some true|some (.inr (v32,_)) =>some v32|none=>none)|some (.inr (v33,_)) =>some v33|none=>none;bif decide (64<(c.Items.length:Int)) then k true else k (decide (2000<(c.Moves.length:Int)))
def qec (u:Custody):XaR:=
 let k2 (v:Bool):XaR:=let k (v1:Bool):XaR:=some v1;bif v then k true else k (u.State==10);bif u.State==4 then k2 true else k2 (u.State==9)
def c5c:(Xao×Int×Int×Unit)→Option ((Xao×Int×Int×Unit)⊕Xab):=λ(l,item,i,_)=>
 bif decide (i<(l.length:Int)) then match n8 l i with|some x=>bif x.Item==item then some (.inr (.inr (i,()))) else some (.inl (l,item,wr .i64 (i+1),()))|none=>none else some (.inr (.inl (())))
def qgp (l:List Loan) (item:Int):XaS:=
 match b9 c5c (l,item,0,()) with|some (.inl (_)) =>some (-1)|some (.inr (v,_)) =>some v|none=>none
def qf4 (l:List Loan) (item:Int):Option (Loan×Bool):=
 match qgp l item with|some r1=>(bif decide (r1<0) then some ((⟨0,0,0,0,0,false⟩:Loan),false) else match n8 l r1 with|some x=>some (x,true)|none=>none)|none=>none
def b70:Xap→XaU:=λ(i,c,_)=>
 bif decide (i<(c.Loans.length:Int)) then match n8 c.Loans i with|some x=>(match qgm c x.Item with|some r1=>(match qgj c.Patrons x.Patron with|some (r3,r4) =>let k12 (v:Bool):XaU:=let k11 (v8:Bool):XaU:=let k (v10:Bool):XaU:=bif v10 then some (.inr (.inr (false,()))) else some (.inl (wr .i64 (i+1),c,()));bif v8 then k true else match n8 c.Items r1 with|some x9=>k (!(x9.Custody.Who==x.Patron))|none=>none;bif v then k11 true else match n8 c.Items r1 with|some x5=>(match qec x5.Custody with|some r7=>k11 (!r7)|none=>none)|none=>none;bif decide (r1<0) then k12 true else k12 (!r4)|none=>none)|none=>none)|none=>none else some (.inr (.inl (c,())))
def b45:Xap→Option (Xap⊕Xar):=λ(i,c,_)=>
 bif decide (i<(c.Items.length:Int)) then match n8 c.Items i with|some x=>(match qf4 c.Loans x.ID with|some (r14,r15) =>(match n8 c.Items i with|some x16=>(match qec x16.Custody with|some r18=>bif !(r15==r18) then some (.inr (.inr (false,()))) else some (.inl (wr .i64 (i+1),c,()))|none=>none)|none=>none)|none=>none)|none=>none else some (.inr (.inl (())))
def qed (c:Circ):XaR:=
 match b9 b70 (0,c,()) with|some (.inl (c13,_)) =>(match b9 b45 (0,c13,()) with|some (.inl (_)) =>some true|some (.inr (v,_)) =>some v|none=>none)|some (.inr (v19,_)) =>some v19|none=>none
def c4q:(Int×Int×Circ×Hold×Unit)→Option ((Int×Int×Circ×Hold×Unit)⊕((Hold×Unit)⊕(Bool×Hold×Unit))):=λ(item,i,c,v,_)=>
 bif decide (i<(c.Holds.length:Int)) then match n8 c.Holds i with|some x=>bif x.Got==item then match n8 c.Holds i with|some x1=>some (.inr (.inr (true,x1,())))|none=>none else some (.inl (item,wr .i64 (i+1),c,v,()))|none=>none else some (.inr (.inl (v,())))
def qet (c:Circ) (item:Int):Option (Hold×Bool):=
 match b9 c4q (item,0,c,(⟨0,0,0,0,0,0,0,0,0,0,0⟩:Hold),()) with|some (.inl (v,_)) =>some ((⟨0,0,0,0,0,0,0,0,0,0,0⟩:Hold),false)|some (.inr (v2,v3,_)) =>some (v3,v2)|none=>none
def b72:Xap→XaU:=λ(i,c,_)=>
 bif decide (i<(c.Holds.length:Int)) then match n8 c.Holds i with|some x=>(match qgj c.Patrons x.Patron with|some (r1,r2) =>let k18 (v:Bool):XaU:=bif v then some (.inr (.inr (false,()))) else bif x.State==1 then some (.inl (wr .i64 (i+1),c,())) else match qgm c x.Got with|some r4=>(let k17 (v6:Bool):XaU:=bif v6 then some (.inr (.inr (false,()))) else match n8 c.Items r4 with|some x7=>let k16 (v10:Bool):XaU:=bif v10 then some (.inr (.inr (false,()))) else let k15 (v14:Bool):XaU:=bif v14 then some (.inr (.inr (false,()))) else some (.inl (wr .i64 (i+1),c,()));bif x.State==2 then let k13 (v11:Bool):XaU:=bif v11 then k15 true else k15 (!(x7.Custody.Who==x.Patron));bif !(x7.Custody.State==6) then k13 true else k13 (!(x7.Custody.To==x.Pickup)) else k15 false;bif x.State==3 then let k (v8:Bool):XaU:=bif v8 then k16 true else k16 (!(x7.Custody.Who==x.Patron));bif !(x7.Custody.State==5) then k true else k (!(x7.Custody.Branch==x.Pickup)) else k16 false|none=>none;bif decide (r4<0) then k17 true else match n8 c.Items r4 with|some x5=>k17 (!(x5.Record==x.Record))|none=>none)|none=>none;bif !r2 then k18 true else k18 (decide (c.NextHold≤x.ID))|none=>none)|none=>none else some (.inr (.inl (c,())))
def b46:Xap→Option (Xap⊕Xar):=λ(i,c,_)=>
 bif decide (i<(c.Items.length:Int)) then match n8 c.Items i with|some x=>(bif !(x.Custody.State==5) then some (.inl (wr .i64 (i+1),c,())) else match n8 c.Items i with|some x20=>(match qet c x20.ID with|some (r21,r22) =>let k (v:Bool):Option (Xap⊕Xar):=bif v then some (.inr (.inr (false,()))) else some (.inl (wr .i64 (i+1),c,()));bif !r22 then k true else k (!(r21.State==3))|none=>none)|none=>none)|none=>none else some (.inr (.inl (())))
def qef (c:Circ):XaR:=
 match b9 b72 (0,c,()) with|some (.inl (c19,_)) =>(match b9 b46 (0,c19,()) with|some (.inl (_)) =>some true|some (.inr (v,_)) =>some v|none=>none)|some (.inr (v23,_)) =>some v23|none=>none
def b42:Xap→XaU:=λ(i,c,_)=>
 bif decide (i<4) then let k (v:Int) (v18:List Int):XaU:=match qfn (⟨v,v18⟩:Calendar) with|some r19=>bif !(r19==0) then some (.inr (.inr (false,()))) else some (.inl (wr .i64 (i+1),c,()))|none=>none;bif i==0 then k c.Cals.x0.Week c.Cals.x0.Closed else bif i==1 then k c.Cals.x1.Week c.Cals.x1.Closed else bif i==2 then k c.Cals.x2.Week c.Cals.x2.Closed else bif i==3 then k c.Cals.x3.Week c.Cals.x3.Closed else none else some (.inr (.inl (c,())))
def b0y:Xap→XaU:=λ(i,c,_)=>
 bif decide (i<(c.Charges.length:Int)) then match n8 c.Charges i with|some x=>(match qgj c.Patrons x.Patron with|some (r21,r22) =>(let k (v:Bool):XaU:=bif v then some (.inr (.inr (false,()))) else some (.inl (wr .i64 (i+1),c,()));bif !r22 then k true else match n8 c.Charges i with|some x23=>k (decide (c.NextCharge≤x23.ID))|none=>none)|none=>none)|none=>none else some (.inr (.inl (c,())))
def qe6 (c:Circ):XaR:=
 let k44 (v:Bool):XaR:=let k43 (v1:Bool):XaR:=let k42 (v2:Bool):XaR:=let k41 (v3:Bool):XaR:=let k40 (v4:Bool):XaR:=bif v4 then some false else match qfj c.Patrons with|some r5=>(let k39 (v8:Bool):XaR:=let k38 (v11:Bool):XaR:=let k37 (v14:Bool):XaR:=let k36 (v17:Bool):XaR:=bif v17 then some false else match b9 b42 (0,c,()) with|some (.inl (c20,_)) =>(match b9 b0y (0,c20,()) with|some (.inl (c24,_)) =>(match qee c24 with|some r26=>let k33 (v29:Bool):XaR:=let k (v32:Bool):XaR:=some v32;bif v29 then match qef c24 with|some r31=>k r31|none=>none else k false;bif r26 then match qed c24 with|some r28=>k33 r28|none=>none else k33 false|none=>none)|some (.inr (v34,_)) =>some v34|none=>none)|some (.inr (v35,_)) =>some v35|none=>none;bif v14 then k36 true else match qfl c.Rules with|some r16=>k36 (!(r16==0))|none=>none;bif v11 then k37 true else match qfi c.Charges with|some r13=>k37 (!(r13==0))|none=>none;bif v8 then k38 true else match qe9 c.Holds with|some r10=>k38 (!(r10==0))|none=>none;bif !(r5==0) then k39 true else match qfc c.Loans with|some r7=>k39 (!(r7==0))|none=>none)|none=>none;bif v3 then k40 true else k40 (decide (100000<c.NextCharge));bif v2 then k41 true else k41 (decide (c.NextCharge<1));bif v1 then k42 true else k42 (decide (100000<c.NextHold));bif v then k43 true else k43 (decide (c.NextHold<1));bif decide (c.Today<0) then k44 true else k44 (decide (109572<c.Today))
def qeh (x:Off):XaS:=
 let k24 (v:Bool):XaS:=let k23 (v1:Bool):XaS:=let k22 (v2:Bool):XaS:=let k21 (v3:Bool):XaS:=let k20 (v4:Bool):XaS:=let k19 (v5:Bool):XaS:=let k18 (v6:Bool):XaS:=let k17 (v7:Bool):XaS:=let k16 (v8:Bool):XaS:=bif v8 then some 2 else let k15 (v9:Bool):XaS:=bif v9 then some 1 else let k14 (v11:Bool):XaS:=let k (v13:Bool):XaS:=bif v13 then some 2 else some 0;bif v11 then k true else bif !(x.Kind==1) then k (!(x.Patron==0)) else k false;bif x.Kind==1 then bif decide (x.Patron<1) then k14 true else k14 (decide (9999<x.Patron)) else k14 false;bif decide (x.Kind<1) then k15 true else k15 (decide (3<x.Kind));bif v7 then k16 true else k16 (decide (4<x.Branch));bif v6 then k17 true else k17 (decide (x.Branch<1));bif v5 then k18 true else k18 (decide (9999<x.Item));bif v4 then k19 true else k19 (decide (x.Item<1));bif v3 then k20 true else k20 (decide (109572<x.Day));bif v2 then k21 true else k21 (decide (x.Day<0));bif v1 then k22 true else k22 (decide (9999<x.Seq));bif v then k23 true else k23 (decide (x.Seq<1));bif decide (x.Device<1) then k24 true else k24 (decide (9<x.Device))
def qes (a:Off) (b:Off):XaR:=
 bif !(a.Day==b.Day) then some (decide (a.Day<b.Day)) else bif !(a.Device==b.Device) then some (decide (a.Device<b.Device)) else some (decide (a.Seq<b.Seq))
def c4o:Xas→Option (Xas⊕(((List Off)×Unit)⊕Xag)):=λ(l,i,_)=>
 bif decide (i<(l.length:Int)) then match n8 l i with|some x=>(match qeh x with|some r1=>bif !(r1==0) then some (.inr (.inr (r1,()))) else some (.inl (l,wr .i64 (i+1),()))|none=>none)|none=>none else some (.inr (.inl (l,())))
def b0w:XaJ→Option (XaJ⊕(Xas⊕Xag)):=λ(l,i,k,_)=>
 bif decide (k<i) then match n8 l i with|some x=>(match n8 l k with|some x3=>let k6 (v:Bool):Option (XaJ⊕(Xas⊕Xag)):=bif v then some (.inr (.inr (7,()))) else some (.inl (l,i,wr .i64 (k+1),()));bif x.Device==x3.Device then match n8 l i with|some x4=>(match n8 l k with|some x5=>k6 (x4.Seq==x5.Seq)|none=>none)|none=>none else k6 false|none=>none)|none=>none else some (.inr (.inl (l,i,())))
def b41:Xas→Option (Xas⊕(((List Off)×Unit)⊕Xag)):=λ(l,i,_)=>
 bif decide (i<(l.length:Int)) then match b9 b0w (l,i,0,()) with|some (.inl (l7,i8,_)) =>some (.inl (l7,wr .i64 (i8+1),()))|some (.inr (v,_)) =>some (.inr (.inr (v,())))|none=>none else some (.inr (.inl (l,())))
def a86:Xas→Option (Xas⊕Xab):=λ(l,i,_)=>
 bif decide (i<(l.length:Int)) then match n8 l (wr .i64 (i-1)) with|some x=>(match n8 l i with|some x10=>(match qes x x10 with|some r11=>bif !r11 then some (.inr (.inr (3,()))) else some (.inl (l,wr .i64 (i+1),()))|none=>none)|none=>none)|none=>none else some (.inr (.inl (())))
def qe3 (l:List Off):XaS:=
 bif decide (128<(l.length:Int)) then some 13 else match b9 c4o (l,0,()) with|some (.inl (l2,_)) =>(match b9 b41 (l2,0,()) with|some (.inl (l9,_)) =>(match b9 a86 (l9,1,()) with|some (.inl (_)) =>some 0|some (.inr (v,_)) =>some v|none=>none)|some (.inr (v12,_)) =>some v12|none=>none)|some (.inr (v13,_)) =>some v13|none=>none
def qgl (c:Circ) (day:Int):Option Circ:=
 some (⟨day,c.Items,c.Patrons,c.Loans,c.Holds,c.Charges,c.Rules,c.Cals,c.Moves,c.NextHold,c.NextCharge,c.Local⟩:Circ)
def b0x:Xay→Option XaO:=λ(i,k,c,v,m,u,l,_)=>
 bif decide (k<(c.Items.length:Int)) then match n8 c.Items k with|some x=>let k6 (x5:Item):Option XaO:=bif decide (l.length+([x5]:List Item).length≤LIM) then some (.inl (i,wr .i64 (k+1),c,v,m,u,l++([x5]:List Item),())) else none;bif k==i then k6 (⟨x.ID,x.Record,x.Branch,x.Kind,x.Price,x.Call,u⟩:Item) else k6 x|none=>none else some (.inr ((c,v,m,l,())))
def qe5 (c:Circ) (item:Int) (kind:Int) (branch:Int) (who:Int):XaX:=
 match qgm c item with|some r1=>(match n8 c.Items r1 with|some x=>(match qfh x.Custody (⟨c.Today,item,kind,branch,who⟩:Move) with|some (r3,r4) =>(bif !(r4==0) then some (ZN,r4) else bif decide (2000≤(c.Moves.length:Int)) then some (ZN,13) else match b9 b0x (r1,0,c,ZN,(⟨c.Today,item,kind,branch,who⟩:Move),r3,([]:List Item),()) with|some ((c7,v,m,l,_)) =>bif decide (c7.Moves.length≤LIM) then bif decide (c7.Moves.length+([m]:List Move).length≤LIM) then some ({c7 with Items:=l,Moves:=c7.Moves++([m]:List Move)},0) else none else none|none=>none)|none=>none)|none=>none)|none=>none
def qf5 (l:List Loan) (item:Int):Option (Xao×Loan×Int):=
 match qgp l item with|some r1=>bif decide (r1<0) then some ([],(⟨0,0,0,0,0,false⟩:Loan),9) else bif decide (0≤(0:Int))&&(decide ((0:Int)≤r1)&&decide (r1≤(l.length:Int))) then bif decide (([]:List Loan).length+((l.take r1.toNat).drop (0:Int).toNat).length≤LIM) then bif decide (0≤(wr .i64 (r1+1):Int))&&(decide ((wr .i64 (r1+1):Int)≤(l.length:Int))&&decide ((l.length:Int)≤(l.length:Int))) then bif decide ((([])++((l.take r1.toNat).drop (0:Int).toNat)).length+((l.take (l.length:Int).toNat).drop (wr .i64 (r1+1):Int).toNat).length≤LIM) then match n8 l r1 with|some x=>some ((([])++((l.take r1.toNat).drop (0:Int).toNat))++((l.take (l.length:Int).toNat).drop (wr .i64 (r1+1):Int).toNat),x,0)|none=>none else none else none else none else none|none=>none
def qf9 (r:Rule) (patron:Int) (item:Int) (branch:Int):XaR:=
 let k6 (v:Bool):XaR:=let k5 (v2:Bool):XaR:=let k (v4:Bool):XaR:=some v4;bif v2 then bif r.Branch==0 then k true else k (r.Branch==branch) else k false;bif v then bif r.Item==0 then k5 true else k5 (r.Item==item) else k5 false;bif r.Patron==0 then k6 true else k6 (r.Patron==patron)
def qe0 (r:Rule):XaS:=
 let k4 (n:Int):XaS:=let k3 (n1:Int):XaS:=let k (n2:Int):XaS:=some n2;bif !(r.Branch==0) then k (wr .i64 (n1+1)) else k n1;bif !(r.Item==0) then k3 (wr .i64 (n+2)) else k3 n;bif !(r.Patron==0) then k4 4 else k4 0
def b78:Xau→Option (Xau⊕(Xag)):=λ(l,patron,item,branch,best,i,_)=>
 bif decide (i<(l.length:Int)) then match n8 l i with|some x=>(match qf9 x patron item branch with|some r1=>let k10 (v8:Bool):Option (Xau⊕(Xag)):=let k (best9:Int):Option (Xau⊕(Xag)):=some (.inl (l,patron,item,branch,best9,wr .i64 (i+1),()));bif v8 then k i else k best;bif r1 then bif decide (best<0) then k10 true else match n8 l i with|some x2=>(match qe0 x2 with|some r4=>(match n8 l best with|some x5=>(match qe0 x5 with|some r7=>k10 (decide (r7<r4))|none=>none)|none=>none)|none=>none)|none=>none else k10 false|none=>none)|none=>none else some (.inr ((best,())))
def qfk (l:List Rule) (patron:Int) (item:Int) (branch:Int):XaS:=
 match b9 b78 (l,patron,item,branch,(-1),0,()) with|some ((best,_)) =>some best|none=>none
def qga (l:List Rule) (patron:Int) (item:Int) (branch:Int):Option (Rule×Bool):=
 match qfk l patron item branch with|some r1=>(bif decide (r1<0) then some ((⟨0,0,0,0,0,0,0,0,0,0,0,0,0⟩:Rule),false) else match n8 l r1 with|some x=>some (x,true)|none=>none)|none=>none
def qfv (c:Circ) (patron:Int) (x:Item):Option (Rule×Bool):=
 match qgj c.Patrons patron with|some (r1,r2) =>(bif !r2 then some ((⟨0,0,0,0,0,0,0,0,0,0,0,0,0⟩:Rule),false) else match qga c.Rules r1.Kind x.Kind x.Branch with|some (r4,r5) =>some (r4,r5)|none=>none)|none=>none
def qt (c:Circ) (branch:Int):Option Calendar:=
 let k (v:Int) (v1:List Int):Option Calendar:=some (⟨v,v1⟩:Calendar);bif (wr .i64 (branch-1))==0 then k c.Cals.x0.Week c.Cals.x0.Closed else bif (wr .i64 (branch-1))==1 then k c.Cals.x1.Week c.Cals.x1.Closed else bif (wr .i64 (branch-1))==2 then k c.Cals.x2.Week c.Cals.x2.Closed else bif (wr .i64 (branch-1))==3 then k c.Cals.x3.Week c.Cals.x3.Closed else none
def qgr (day:Int):XaR:=
 let k (v:Bool):XaR:=some v;bif decide (0≤day) then k (decide (day≤109572)) else k false
def qer (day:Int):XaS:=
 match qgr day with|some r1=>bif !r1 then some (-1) else some (day.tmod 7)|none=>none
def c47:(Int×Int×Int×Int×Calendar×Unit)→Option ((Int×Int×Int×Int×Calendar×Unit)⊕(XaL)):=λ(day,bit,w,i,c,_)=>
 bif decide (i<w) then some (.inl (day,wr .i64 (bit.tdiv 2),w,wr .i64 (i+1),c,())) else some (.inr ((day,bit,c,())))
def b02:XaL→Option (XaL⊕Xar):=λ(day,i,c,_)=>
 bif decide (i<(c.Closed.length:Int)) then match n8 c.Closed i with|some x=>bif x==day then some (.inr (.inr (false,()))) else some (.inl (day,wr .i64 (i+1),c,()))|none=>none else some (.inr (.inl (())))
def qgb (c:Calendar) (day:Int):XaR:=
 let k (v:Bool):XaR:=bif v then some false else match qer day with|some r1=>(match b9 c47 (day,c.Week,r1,0,c,()) with|some ((day2,bit,c3,_)) =>(bif (bit.tmod 2)==1 then some false else match b9 b02 (day2,0,c3,()) with|some (.inl (_)) =>some true|some (.inr (v4,_)) =>some v4|none=>none)|none=>none)|none=>none;bif decide (day<0) then k true else k (decide (109572<day))
def b8c:Xax→Option (Xax⊕(Xag)):=λ(vto,n,d,c,_)=>
 bif decide (d≤(if 109572<vto then 109572 else vto)) then match qgb c d with|some r1=>let k (n2:Int):Option (Xax⊕(Xag)):=some (.inl (vto,n2,wr .i64 (d+1),c,()));bif r1 then k (wr .i64 (n+1)) else k n|none=>none else some (.inr ((n,())))
def qfp (c:Calendar) (vfrom:Int) (vto:Int):XaS:=
 match b9 b8c (vto,0,(if vfrom<0 then 0 else vfrom),c,()) with|some ((n,_)) =>some n|none=>none
def qf8 (r:Rule) (c:Calendar) (due:Int) (back:Int):XaS:=
 match qfn c with|some r2=>(let k10 (v:Bool):XaS:=let k (v7:Bool):XaS:=bif v7 then some 0 else match qfp c (wr .i64 (due+1)) back with|some r9=>bif decide (r9≤r.Grace) then some 0 else some (if r.MaxFine<wr .i64 (r9*r.Fine) then r.MaxFine else wr .i64 (r9*r.Fine))|none=>none;bif v then k true else match qgh back with|some r6=>k (!r6)|none=>none;bif !(r2==0) then k10 true else match qgh due with|some r4=>k10 (!r4)|none=>none)|none=>none
def c49:(Xak×Int×Charge×Xak×Unit)→Option ((Xak×Int×Charge×Xak×Unit)⊕((Charge×Xak×Unit))):=λ(l,i,c,l1,_)=>
 bif decide (i<(l.length:Int)) then match n8 l i with|some x=>bif decide (l1.length+([x]:List Charge).length≤LIM) then some (.inl (l,wr .i64 (i+1),c,l1++([x]:List Charge),())) else none|none=>none else some (.inr ((c,l1,())))
def qgi (l:List Charge) (c:Charge):Option (Xak×Int):=
 match b9 c49 (l,0,c,([]:List Charge),()) with|some ((c2,l3,_)) =>bif decide (l3.length+([c2]:List Charge).length≤LIM) then match qfi (l3++([c2]:List Charge)) with|some r4=>bif !(r4==0) then some ([],r4) else some (l3++([c2]:List Charge),0)|none=>none else none|none=>none
def qem (c:Circ) (patron:Int) (item:Int) (kind:Int) (amount:Int):XaX:=
 bif decide (99999<c.NextCharge) then some (ZN,13) else match qgi c.Charges (⟨c.NextCharge,patron,item,c.Today,kind,amount,0⟩:Charge) with|some (r1,r2) =>bif !(r2==0) then some (ZN,r2) else some ({c with Charges:=r1,NextCharge:=wr .i64 (c.NextCharge+1)},0)|none=>none
def c4u:(Xak×Int×Int×Int×Int×Int×Xak×Unit)→Option Xav:=λ(l,patron,item,kind,paid,i,l1,_)=>
 bif decide (i<(l.length:Int)) then match n8 l i with|some x=>let k4 (v:Bool):Option Xav:=let k (v3:Bool):Option Xav:=bif v3 then some (.inl (l,patron,item,kind,wr .i64 (paid+x.Paid),wr .i64 (i+1),l1,())) else bif decide (l1.length+([x]:List Charge).length≤LIM) then some (.inl (l,patron,item,kind,paid,wr .i64 (i+1),l1++([x]:List Charge),())) else none;bif v then bif kind==0 then k true else k (x.Kind==kind) else k false;bif x.Patron==patron then k4 (x.Item==item) else k4 false|none=>none else some (.inr ((paid,l1,())))
def qey (l:List Charge) (patron:Int) (item:Int) (kind:Int):Option (Xak×Int):=
 match b9 c4u (l,patron,item,kind,0,0,([]:List Charge),()) with|some ((paid,l5,_)) =>some (l5,paid)|none=>none
def qei (c:Circ) (item:Int) (branch:Int):XaX:=
 match qe5 c item 4 branch 0 with|some (r1,r2) =>(bif !(r2==0) then some (ZN,r2) else match qf5 r1.Loans item with|some (r4,r5,r6) =>(bif !(r6==0) then some (ZN,r6) else match qgm {r1 with Loans:=r4} item with|some r8=>(match n8 r1.Items r8 with|some x=>(match qfv {r1 with Loans:=r4} r5.Patron x with|some (r10,r11) =>let k23 (fine:Int):XaX:=let k (c19:Circ):XaX:=match qey c19.Charges r5.Patron item 2 with|some (r21,r22) =>some ({c19 with Charges:=r21},0)|none=>none;bif decide (0<fine) then match qem {r1 with Loans:=r4} r5.Patron item 1 fine with|some (r17,r18) =>bif !(r18==0) then some (ZN,r18) else k r17|none=>none else k {r1 with Loans:=r4};bif r11 then match qt {r1 with Loans:=r4} branch with|some r13=>(match qf8 r10 r13 r5.Due r1.Today with|some r15=>k23 r15|none=>none)|none=>none else k23 0|none=>none)|none=>none)|none=>none)|none=>none)|none=>none
def b1i:Xaq→Option (Xaq⊕((Unit)⊕(Int×Int×Unit))):=λ(d,c,_)=>
 bif decide (d≤109572) then match qgb c d with|some r1=>bif r1 then some (.inr (.inr (d,0,()))) else some (.inl (wr .i64 (d+1),c,()))|none=>none else some (.inr (.inl (())))
def qgc (c:Calendar) (day:Int):XaT:=
 match b9 b1i ((if day<0 then 0 else day),c,()) with|some (.inl (_)) =>some (0,2)|some (.inr (v,v2,_)) =>some (v,v2)|none=>none
def b8b:Xax→Option (Xax⊕(Xag⊕(Int×Int×Unit))):=λ(n,d,i,c,_)=>
 bif decide (i<n) then match qgc c (wr .i64 (d+1)) with|some (r4,r5) =>bif !(r5==0) then some (.inr (.inr (0,r5,()))) else some (.inl (n,r4,wr .i64 (i+1),c,()))|none=>none else some (.inr (.inl (d,())))
def qfo (c:Calendar) (day:Int) (n:Int):XaT:=
 let k8 (v:Bool):XaT:=bif v then some (0,1) else let k (v1:Bool):XaT:=bif v1 then some (0,2) else bif n==0 then match qgc c day with|some (r2,r3) =>some (r2,r3)|none=>none else match b9 b8b (n,day,0,c,()) with|some (.inl (d,_)) =>some (d,0)|some (.inr (v6,v7,_)) =>some (v6,v7)|none=>none;bif decide (day<0) then k true else k (decide (109572<day));bif decide (n<0) then k8 true else k8 (decide (1000<n))
def c48:(Xac×Int×Int×Hold×Unit)→Option ((Xac×Int×Int×Hold×Unit)⊕((Hold×Unit)⊕(Bool×Hold×Unit))):=λ(l,vid,i,v,_)=>
 bif decide (i<(l.length:Int)) then match n8 l i with|some x=>bif x.ID==vid then match n8 l i with|some x1=>some (.inr (.inr (true,x1,())))|none=>none else some (.inl (l,vid,wr .i64 (i+1),v,()))|none=>none else some (.inr (.inl (v,())))
def qgf (l:List Hold) (vid:Int):Option (Hold×Bool):=
 match b9 c48 (l,vid,0,(⟨0,0,0,0,0,0,0,0,0,0,0⟩:Hold),()) with|some (.inl (v,_)) =>some ((⟨0,0,0,0,0,0,0,0,0,0,0⟩:Hold),false)|some (.inr (v2,v3,_)) =>some (v3,v2)|none=>none
def c4v:XaK→Option (XaK⊕((Xac×Unit))):=λ(l,i,h,l1,_)=>
 bif decide (i<(l.length:Int)) then match n8 l i with|some x=>(let k (l3:List Hold):Option (XaK⊕((Xac×Unit))):=some (.inl (l,wr .i64 (i+1),h,l3,()));bif x.ID==h.ID then bif decide (l1.length+([h]:List Hold).length≤LIM) then k (l1++([h]:List Hold)) else none else match n8 l i with|some x2=>bif decide (l1.length+([x2]:List Hold).length≤LIM) then k (l1++([x2]:List Hold)) else none|none=>none)|none=>none else some (.inr ((l1,())))
def qf1 (l:List Hold) (h:Hold):Option Xac:=
 match b9 c4v (l,0,h,([]:List Hold),()) with|some ((l4,_)) =>some l4|none=>none
def c40:(Xac×Int×Int×Int×Int×Int×Hold×Unit)→Option XaB:=λ(l,number,item,state,vuntil,i,h,_)=>
 bif decide (i<(l.length:Int)) then match n8 l i with|some x=>let k (v:Bool):Option XaB:=bif v then some (.inr (.inr ([],7,()))) else some (.inl (l,number,item,state,vuntil,wr .i64 (i+1),h,()));bif !(x.ID==number) then match n8 l i with|some x16=>k (x16.Got==item)|none=>none else k false|none=>none else some (.inr (.inl (l,item,state,vuntil,h,())))
def qfb (l:List Hold) (number:Int) (item:Int) (state:Int) (vuntil:Int):Option (Xac×Int):=
 match qgf l number with|some (r1,r2) =>(bif !r2 then some ([],9) else match qgn item with|some r4=>let k28 (v5:Bool):Option (Xac×Int):=let k27 (v10:Bool):Option (Xac×Int):=let k26 (v12:Bool):Option (Xac×Int):=bif v12 then some ([],1) else let k25 (v15:Bool):Option (Xac×Int):=bif v15 then some ([],12) else match b9 c40 (l,number,item,state,vuntil,0,r1,()) with|some (.inl (l17,item18,state19,vuntil20,h,_)) =>(match qf1 l17 (⟨h.ID,h.Patron,h.Record,h.Item,h.Pickup,h.Placed,state19,item18,vuntil20,h.Asleep,h.Rank⟩:Hold) with|some r22=>some (r22,0)|none=>none)|some (.inr (v23,v24,_)) =>some (v23,v24)|none=>none;bif !(r1.State==1) then let k (v13:Bool):Option (Xac×Int):=bif v13 then k25 true else k25 (!(state==3));bif !(r1.State==2) then k true else k (!(r1.Got==item)) else k25 false;bif v10 then k26 true else bif state==2 then k26 (!(vuntil==0)) else k26 false;bif v5 then k27 true else bif state==3 then bif decide (vuntil<1) then k27 true else match qge vuntil with|some r7=>k27 (!r7)|none=>none else k27 false;bif !r4 then k28 true else bif !(state==2) then k28 (!(state==3)) else k28 false|none=>none)|none=>none
def qe4 (c:Circ) (item:Int) (h:Hold):XaX:=
 match qgm c item with|some r1=>(match n8 c.Items r1 with|some x=>(match qfv c h.Patron x with|some (r3,r4) =>let k (days:Int):XaX:=match qe5 c item 5 x.Custody.Branch h.Patron with|some (r6,r7) =>(bif !(r7==0) then some (ZN,r7) else match qt r6 x.Custody.Branch with|some r9=>(match qfo r9 r6.Today days with|some (r11,r12) =>(bif !(r12==0) then some (ZN,r12) else match qfb r6.Holds h.ID item 3 r11 with|some (r14,r15) =>bif !(r15==0) then some (ZN,r15) else some ({r6 with Holds:=r14},0)|none=>none)|none=>none)|none=>none)|none=>none;bif r4 then k r3.Shelf else k 7|none=>none)|none=>none)|none=>none
def b74:(Xac×Int×Int×Int×Int×XaF×Unit)→Option Xah:=λ(l,record,day,rank,i,l2,_)=>
 bif decide (i<(l.length:Int)) then match n8 l i with|some x=>let k6 (v:Bool):Option Xah:=let k5 (v3:Bool):Option Xah:=let k (v4:Bool):Option Xah:=bif v4 then bif decide (l2.length+([x.ID]:List Int).length≤LIM) then some (.inl (l,record,day,rank,wr .i64 (i+1),l2++([x.ID]:List Int),())) else none else some (.inl (l,record,day,rank,wr .i64 (i+1),l2,()));bif v3 then k (x.Rank==rank) else k false;bif v then k5 (decide (x.Asleep≤day)) else k5 false;bif x.State==1 then k6 (x.Record==record) else k6 false|none=>none else some (.inr ((l,record,day,rank,l2,())))
def d2t:(Xac×Int×Int×Int×XaF×Unit)→Option ((Xac×Int×Int×Int×XaF×Unit)⊕((XaF×Unit))):=λ(l,record,day,rank,l1,_)=>
 bif decide (0≤rank) then match b9 b74 (l,record,day,rank,0,l1,()) with|some ((l7,record8,day9,rank10,l11,_)) =>some (.inl (l7,record8,day9,wr .i64 (rank10-1),l11,()))|none=>none else some (.inr ((l1,())))
def qfa (l:List Hold) (record:Int) (day:Int):Option XaF:=
 match b9 d2t (l,record,day,9,([]:List Int),()) with|some ((l12,_)) =>some l12|none=>none
def c4w:(Xac×Int×Bool×XaF×Int×Int×Item×Unit)→Option Xan:=λ(l,branch,vlocal,q,first,i,x,_)=>
 bif decide (i<(q.length:Int)) then match n8 q i with|some x2=>(match qgf l x2 with|some (r3,r4) =>let k8 (v:Bool):Option Xan:=bif v then some (.inl (l,branch,vlocal,q,first,wr .i64 (i+1),x,())) else let k7 (v5:Bool):Option Xan:=bif v5 then some (.inr (.inr (r3.ID,()))) else let k (first6:Int):Option Xan:=some (.inl (l,branch,vlocal,q,first6,wr .i64 (i+1),x,()));bif first==0 then k r3.ID else k first;bif vlocal then k7 (r3.Pickup==branch) else k7 false;bif !(r3.Item==0) then k8 (!(r3.Item==x.ID)) else k8 false|none=>none)|none=>none else some (.inr (.inl (first,())))
def qf2 (l:List Hold) (x:Item) (branch:Int) (day:Int) (vlocal:Bool):XaS:=
 match qfa l x.Record day with|some r1=>(match b9 c4w (l,branch,vlocal,r1,0,0,x,()) with|some (.inl (first,_)) =>some first|some (.inr (v,_)) =>some v|none=>none)|none=>none
def qfw (c:Circ) (item:Int):XaS:=
 match qgm c item with|some r1=>(match n8 c.Items r1 with|some x=>(match qf2 c.Holds x x.Custody.Branch c.Today c.Local with|some r3=>some r3|none=>none)|none=>none)|none=>none
def qfy (c:Circ) (item:Int):XaX:=
 match qgm c item with|some r1=>(match n8 c.Items r1 with|some x=>(match qfw c item with|some r3=>(let k (v:Int) (v10:Circ):XaX:=some (v10,v);bif r3==0 then bif !(x.Branch==x.Custody.Branch) then match qe5 c item 6 x.Branch 0 with|some (r5,r6) =>k r6 r5|none=>none else bif x.Custody.State==3 then k 0 c else match qe5 c item 2 x.Custody.Branch 0 with|some (r8,r9) =>k r9 r8|none=>none else match qgf c.Holds r3 with|some (r12,r13) =>(bif r12.Pickup==x.Custody.Branch then match qe4 c item r12 with|some (r15,r16) =>some (r15,r16)|none=>none else match qe5 c item 6 r12.Pickup r12.Patron with|some (r18,r19) =>(bif !(r19==0) then some (ZN,r19) else match qfb r18.Holds r3 item 2 0 with|some (r21,r22) =>bif !(r22==0) then some (ZN,r22) else some ({r18 with Holds:=r21},0)|none=>none)|none=>none)|none=>none)|none=>none)|none=>none)|none=>none
def qf0 (c:Circ) (item:Int) (branch:Int):Xa0:=
 match qgm c item with|some r1=>(bif decide (r1<0) then some (ZN,0,9) else match n8 c.Items r1 with|some x=>(match qec x.Custody with|some r3=>let k38 (e21:Int) (c22:Circ):Xa0:=bif !(e21==0) then some (ZN,0,e21) else match qet c22 item with|some (r24,r25) =>(let k37 (e32:Int) (c33:Circ):Xa0:=bif !(e32==0) then some (ZN,0,e32) else match qet c33 item with|some (r35,r36) =>some (c33,r35.ID,0)|none=>none;bif r25 then match qe4 c22 item r24 with|some (r27,r28) =>k37 r28 r27|none=>none else match qfy c22 item with|some (r30,r31) =>k37 r31 r30|none=>none)|none=>none;bif r3 then let k (v:Bool):Xa0:=bif v then some (ZN,0,1) else match qei c item branch with|some (r5,r6) =>k38 r6 r5|none=>none;bif decide (branch<1) then k true else k (decide (4<branch)) else bif x.Custody.State==8 then match qe5 c item 4 branch 0 with|some (r8,r9) =>k38 r9 r8|none=>none else bif x.Custody.State==11 then match qe5 c item 14 branch 0 with|some (r11,r12) =>k38 r12 r11|none=>none else bif x.Custody.State==6 then match qe5 c item 7 branch 0 with|some (r14,r15) =>k38 r15 r14|none=>none else k38 12 c|none=>none)|none=>none)|none=>none
def c4y:XaM→Option (XaM⊕(Xag)):=λ(l,patron,n,i,_)=>
 bif decide (i<(l.length:Int)) then match n8 l i with|some x=>let k (n3:Int):Option (XaM⊕(Xag)):=some (.inl (l,patron,n3,wr .i64 (i+1),()));bif x.Patron==patron then match n8 l i with|some x1=>(match n8 l i with|some x2=>k (wr .i64 ((wr .i64 (n+x1.Amount))-x2.Paid))|none=>none)|none=>none else k n|none=>none else some (.inr ((n,())))
def qf7 (l:List Charge) (patron:Int):XaS:=
 match b9 c4y (l,patron,0,0,()) with|some ((n,_)) =>some n|none=>none
def c4x:XaC→Option (XaC⊕(Xag)):=λ(l,patron,day,k,i,_)=>
 bif decide (i<(l.length:Int)) then match n8 l i with|some x=>let k4 (v:Bool):Option (XaC⊕(Xag)):=let k3 (k2:Int):Option (XaC⊕(Xag)):=some (.inl (l,patron,day,k2,wr .i64 (i+1),()));bif v then k3 (wr .i64 (k+1)) else k3 k;bif x.Patron==patron then match n8 l i with|some x1=>k4 (decide (x1.Due<day))|none=>none else k4 false|none=>none else some (.inr ((k,())))
def qf3 (l:List Loan) (patron:Int) (day:Int):XaS:=
 match b9 c4x (l,patron,day,0,0,()) with|some ((k,_)) =>some k|none=>none
def qeq (p:Patron) (day:Int) (a8s:Int) (late:Int):Option XaF:=
 bif p.Stopped then bif decide (([]:List Int).length+([1]:List Int).length≤LIM) then bif decide (p.Until<day) then bif decide ((([])++([1]:List Int)).length+([2]:List Int).length≤LIM) then bif decide (1000<a8s) then bif decide (((([])++([1]:List Int))++([2]:List Int)).length+([3]:List Int).length≤LIM) then bif decide (2<late) then bif decide ((((([])++([1]:List Int))++([2]:List Int))++([3]:List Int)).length+([4]:List Int).length≤LIM) then some ((((([])++([1]:List Int))++([2]:List Int))++([3]:List Int))++([4]:List Int)) else none else some (((([])++([1]:List Int))++([2]:List Int))++([3]:List Int)) else none else bif decide (2<late) then bif decide (((([])++([1]:List Int))++([2]:List Int)).length+([4]:List Int).length≤LIM) then some (((([])++([1]:List Int))++([2]:List Int))++([4]:List Int)) else none else some ((([])++([1]:List Int))++([2]:List Int)) else none else bif decide (1000<a8s) then bif decide ((([])++([1]:List Int)).length+([3]:List Int).length≤LIM) then bif decide (2<late) then bif decide (((([])++([1]:List Int))++([3]:List Int)).length+([4]:List Int).length≤LIM) then some (((([])++([1]:List Int))++([3]:List Int))++([4]:List Int)) else none else some ((([])++([1]:List Int))++([3]:List Int)) else none else bif decide (2<late) then bif decide ((([])++([1]:List Int)).length+([4]:List Int).length≤LIM) then some ((([])++([1]:List Int))++([4]:List Int)) else none else some (([])++([1]:List Int)) else none else bif decide (p.Until<day) then bif decide (([]:List Int).length+([2]:List Int).length≤LIM) then bif decide (1000<a8s) then bif decide ((([])++([2]:List Int)).length+([3]:List Int).length≤LIM) then bif decide (2<late) then bif decide (((([])++([2]:List Int))++([3]:List Int)).length+([4]:List Int).length≤LIM) then some (((([])++([2]:List Int))++([3]:List Int))++([4]:List Int)) else none else some ((([])++([2]:List Int))++([3]:List Int)) else none else bif decide (2<late) then bif decide ((([])++([2]:List Int)).length+([4]:List Int).length≤LIM) then some ((([])++([2]:List Int))++([4]:List Int)) else none else some (([])++([2]:List Int)) else none else bif decide (1000<a8s) then bif decide (([]:List Int).length+([3]:List Int).length≤LIM) then bif decide (2<late) then bif decide ((([])++([3]:List Int)).length+([4]:List Int).length≤LIM) then some ((([])++([3]:List Int))++([4]:List Int)) else none else some (([])++([3]:List Int)) else none else bif decide (2<late) then bif decide (([]:List Int).length+([4]:List Int).length≤LIM) then some (([])++([4]:List Int)) else none else some ([])
def qen (c:Circ) (patron:Int):XaR:=
 match qgj c.Patrons patron with|some (r1,r2) =>(match qf7 c.Charges patron with|some r4=>(match qf3 c.Loans patron c.Today with|some r6=>(match qeq r1 c.Today r4 r6 with|some r8=>some (decide (0<(r8.length:Int)))|none=>none)|none=>none)|none=>none)|none=>none
def qfx (h:Hold) (x:Item):XaR:=
 let k (v1:Bool):XaR:=some v1;bif h.Record==x.Record then bif h.Item==0 then k true else k (h.Item==x.ID) else k false
def c4n:Xaq→Option (Xaq⊕((Unit)⊕(Int×Int×Unit))):=λ(d,c,_)=>
 bif decide (0≤d) then match qgb c d with|some r1=>bif r1 then some (.inr (.inr (d,0,()))) else some (.inl (wr .i64 (d-1),c,()))|none=>none else some (.inr (.inl (())))
def qe1 (c:Calendar) (day:Int):XaT:=
 match b9 c4n ((if 109572<day then 109572 else day),c,()) with|some (.inl (_)) =>some (0,2)|some (.inr (v,v2,_)) =>some (v,v2)|none=>none
def qgk (r:Rule) (c:Calendar) (day:Int) (vuntil:Int):XaT:=
 match qez day 0 109572 with|some r2=>(let k16 (v:Bool):XaT:=bif v then some (0,2) else bif r.Days==0 then some (0,15) else let k15 (last:Int):XaT:=bif decide (last≤day) then some (0,15) else match qgc c (if last<wr .i64 (day+r.Days) then last else wr .i64 (day+r.Days)) with|some (r6,r7) =>let k14 (v8:Bool):XaT:=let k13 (d:Int) (e:Int):XaT:=let k (v12:Bool):XaT:=bif v12 then some (0,15) else some (d,0);bif !(e==0) then k true else k (decide (d≤day));bif v8 then match qe1 c last with|some (r10,r11) =>k13 r10 r11|none=>none else k13 r6 r7;bif !(r7==0) then k14 true else k14 (decide (last<r6))|none=>none;bif decide (0<r.Fixed) then k15 (if r.Fixed<vuntil then r.Fixed else vuntil) else k15 vuntil;bif !r2 then k16 true else match qez vuntil 0 109572 with|some r4=>k16 (!r4)|none=>none)|none=>none
def qfm (r:Rule) (c:Calendar) (n:Loan) (day:Int) (vuntil:Int):XaT:=
 let k (v:Bool):XaT:=bif v then some (0,15) else match qgk r c day vuntil with|some (r2,r3) =>bif !(r3==0) then some (0,r3) else bif decide (r2≤n.Due) then some (0,15) else some (r2,0)|none=>none;bif decide (r.Renewals≤n.Renewals) then k true else k n.Recalled
def qeo (l:List Loan):Option (Xao×Int):=
 match qfc l with|some r1=>bif !(r1==0) then some ([],r1) else some (l,0)|none=>none
def qfd (l:List Loan) (item:Int) (due:Int):Option (Xao×Int):=
 match qgp l item with|some r1=>(bif decide (r1<0) then some ([],9) else match n8 l r1 with|some x=>bif x.Recalled then some ([],12) else bif decide (([]:List Loan).length+l.length≤LIM) then match n8 (([])++l) r1 with|some _=>(match (([])++l)[r1.toNat]? with|some x2=>(match n8 l r1 with|some x3=>(match n8 ((([])++l).set r1.toNat (⟨x2.Item,x2.Patron,x2.Out,due,x2.Renewals,x2.Recalled⟩:Loan)) r1 with|some _=>(match ((([])++l).set r1.toNat (⟨x2.Item,x2.Patron,x2.Out,due,x2.Renewals,x2.Recalled⟩:Loan))[r1.toNat]? with|some x4=>(match qeo (((([])++l).set r1.toNat (⟨x2.Item,x2.Patron,x2.Out,due,x2.Renewals,x2.Recalled⟩:Loan)).set r1.toNat (⟨x4.Item,x4.Patron,x4.Out,x4.Due,wr .i64 (x3.Renewals+1),x4.Recalled⟩:Loan)) with|some (r6,r7) =>some (r6,r7)|none=>none)|none=>none)|none=>none)|none=>none)|none=>none)|none=>none else none|none=>none)|none=>none
def a7w:(Int×Int×Circ×Circ×Loan×Item×Unit)→Option Xal:=λ(item,i,c,v,n,x,_)=>
 bif decide (i<(c.Holds.length:Int)) then match n8 c.Holds i with|some x7=>let k11 (v8:Bool):Option Xal:=let k (v10:Bool):Option Xal:=bif v10 then some (.inr (.inr (0,16,ZN,()))) else some (.inl (item,wr .i64 (i+1),c,v,n,x,()));bif v8 then match qfx x7 x with|some r9=>k r9|none=>none else k false;bif x7.State==1 then k11 (decide (x7.Asleep≤c.Today)) else k11 false|none=>none else some (.inr (.inl (item,c,v,n,x,())))
def qe7 (c:Circ) (item:Int):Xa0:=
 match qf4 c.Loans item with|some (r1,r2) =>(bif !r2 then some (ZN,0,9) else match qgm c item with|some r4=>(match n8 c.Items r4 with|some x=>(bif !(x.Custody.State==4) then some (ZN,0,12) else match qen c r1.Patron with|some r6=>(bif r6 then some (ZN,0,14) else match b9 a7w (item,0,c,ZN,r1,x,()) with|some (.inl (item12,c13,v,n,x14,_)) =>(match qfv c13 n.Patron x14 with|some (r16,r17) =>(bif !r17 then some (ZN,0,15) else match qgj c13.Patrons n.Patron with|some (r19,r20) =>(match qt c13 x14.Custody.Branch with|some r22=>(match qfm r16 r22 n c13.Today r19.Until with|some (r24,r25) =>(bif !(r25==0) then some (ZN,0,r25) else match qfd c13.Loans item12 r24 with|some (r27,r28) =>bif !(r28==0) then some (ZN,0,r28) else some ({c13 with Loans:=r27},r24,0)|none=>none)|none=>none)|none=>none)|none=>none)|none=>none)|some (.inr (v29,v30,v31,_)) =>some (v31,v29,v30)|none=>none)|none=>none)|none=>none)|none=>none)|none=>none
def c45:XaI→Option (XaI⊕Xar):=λ(item,i,c,_)=>
 bif decide (i<(c.Loans.length:Int)) then match n8 c.Loans i with|some x=>bif x.Item==item then some (.inr (.inr (true,()))) else some (.inl (item,wr .i64 (i+1),c,()))|none=>none else some (.inr (.inl (())))
def qft (c:Circ) (item:Int):XaR:=
 match b9 c45 (item,0,c,()) with|some (.inl (_)) =>some false|some (.inr (v,_)) =>some v|none=>none
def c5b:(Xao×Int×Int×Xao×Unit)→Option ((Xao×Int×Int×Xao×Unit)⊕((Xao×Unit))):=λ(l,patron,i,l1,_)=>
 bif decide (i<(l.length:Int)) then match n8 l i with|some x=>bif x.Patron==patron then match n8 l i with|some x2=>bif decide (l1.length+([x2]:List Loan).length≤LIM) then some (.inl (l,patron,wr .i64 (i+1),l1++([x2]:List Loan),())) else none|none=>none else some (.inl (l,patron,wr .i64 (i+1),l1,()))|none=>none else some (.inr ((l1,())))
def qgo (l:List Loan) (patron:Int):Option Xao:=
 match b9 c5b (l,patron,0,[],()) with|some ((l3,_)) =>some l3|none=>none
def qel (c:Circ) (item:Int) (patron:Int) (branch:Int):XaT:=
 match qgm c item with|some r1=>(match qgj c.Patrons patron with|some (r3,r4) =>let k30 (v:Bool):XaT:=bif v then some (0,9) else match n8 c.Items r1 with|some x=>let k29 (v5:Bool):XaT:=bif v5 then some (0,12) else bif !(x.Custody.Branch==branch) then some (0,1) else let k28 (v6:Bool):XaT:=bif v6 then some (0,16) else match qfw c item with|some r8=>let k27 (v9:Bool):XaT:=let k26 (_:Unit):XaT:=match qen c patron with|some r14=>(bif r14 then some (0,14) else match qfv c patron x with|some (r16,r17) =>(let k (v20:Bool):XaT:=bif v20 then some (0,15) else match qt c branch with|some r22=>(match qgk r16 r22 c.Today r3.Until with|some (r24,r25) =>some (r24,r25)|none=>none)|none=>none;bif !r17 then k true else match qgo c.Loans patron with|some r19=>k (decide (r16.Loans≤(r19.length:Int)))|none=>none)|none=>none)|none=>none;bif v9 then match qgf c.Holds r8 with|some (r11,r12) =>bif !(r11.Patron==patron) then some (0,16) else k26 ()|none=>none else k26 ();bif x.Custody.State==3 then k27 (!(r8==0)) else k27 false|none=>none;bif x.Custody.State==5 then k28 (!(x.Custody.Who==patron)) else k28 false;bif !(x.Custody.State==3) then k29 (!(x.Custody.State==5)) else k29 false|none=>none;bif decide (r1<0) then k30 true else k30 (!r4)|none=>none)|none=>none
def b8f:XaE→Option (XaE⊕(XaE)):=λ(l,k,n,_)=>
 let k2 (v:Bool):Option (XaE⊕(XaE)):=bif v then some (.inl (l,wr .i64 (k+1),n,())) else some (.inr ((l,k,n,())));bif decide (k<(l.length:Int)) then match n8 l k with|some x=>k2 (decide (x.Item<n.Item))|none=>none else k2 false
def qgg (l:List Loan) (n:Loan):Option (Xao×Int):=
 match qgp l n.Item with|some r1=>(bif decide (0≤r1) then some ([],7) else match b9 b8f (l,0,n,()) with|some ((l3,k,n4,_)) =>bif decide (0≤(0:Int))&&(decide ((0:Int)≤k)&&decide (k≤(l3.length:Int))) then bif decide (([]:List Loan).length+((l3.take k.toNat).drop (0:Int).toNat).length≤LIM) then bif decide ((([])++((l3.take k.toNat).drop (0:Int).toNat)).length+([n4]:List Loan).length≤LIM) then bif decide (0≤(k:Int))&&(decide ((k:Int)≤(l3.length:Int))&&decide ((l3.length:Int)≤(l3.length:Int))) then bif decide (((([])++((l3.take k.toNat).drop (0:Int).toNat))++([n4]:List Loan)).length+((l3.take (l3.length:Int).toNat).drop (k:Int).toNat).length≤LIM) then match qeo (((([])++((l3.take k.toNat).drop (0:Int).toNat))++([n4]:List Loan))++((l3.take (l3.length:Int).toNat).drop (k:Int).toNat)) with|some (r6,r7) =>some (r6,r7)|none=>none else none else none else none else none else none|none=>none)|none=>none
def c4r:(Xac×Int×Int×Hold×Hold×Xac×Unit)→Option ((Xac×Int×Int×Hold×Hold×Xac×Unit)⊕((Hold×Hold×Xac×Unit))):=λ(l,vid,i,v,h,l3,_)=>
 bif decide (i<(l.length:Int)) then match n8 l i with|some x=>bif !(x.ID==vid) then match n8 l i with|some x4=>bif decide (l3.length+([x4]:List Hold).length≤LIM) then some (.inl (l,vid,wr .i64 (i+1),v,h,l3++([x4]:List Hold),())) else none|none=>none else some (.inl (l,vid,wr .i64 (i+1),v,h,l3,()))|none=>none else some (.inr ((v,h,l3,())))
def qeu (l:List Hold) (vid:Int):Option (Xac×Hold×Int):=
 match qgf l vid with|some (r1,r2) =>(bif !r2 then some ([],(⟨0,0,0,0,0,0,0,0,0,0,0⟩:Hold),9) else match b9 c4r (l,vid,0,(⟨0,0,0,0,0,0,0,0,0,0,0⟩:Hold),r1,([]:List Hold),()) with|some ((v,h,l5,_)) =>some (l5,h,0)|none=>none)|none=>none
def a2p:(Int×Int×Bool×Int×Circ×Circ×Item×Hold×Unit)→Option Xaf:=λ(patron,due,has,i,c,v,x,h,_)=>
 let k20 (v14:Bool):Option Xaf:=bif v14 then match n8 c.Holds i with|some x15=>let k19 (v16:Bool):Option Xaf:=let k (v18:Bool):Option Xaf:=some (.inl (patron,due,v18,wr .i64 (i+1),c,v,x,x15,()));bif v16 then match qfx x15 x with|some r17=>k r17|none=>none else k false;bif x15.Patron==patron then k19 (x15.State==1) else k19 false|none=>none else some (.inr ((due,has,c,v,h,())));bif decide (i<(c.Holds.length:Int)) then k20 (!has) else k20 false
def qfz (c:Circ) (item:Int) (patron:Int) (branch:Int):Xa0:=
 match qel c item patron branch with|some (r1,r2) =>(bif !(r2==0) then some (ZN,0,r2) else match qgm c item with|some r4=>(match n8 c.Items r4 with|some x=>(match qe5 c item 3 branch patron with|some (r6,r7) =>(bif !(r7==0) then some (ZN,0,r7) else match qgg r6.Loans (⟨item,patron,r6.Today,r1,0,false⟩:Loan) with|some (r9,r10) =>(bif !(r10==0) then some (ZN,0,r10) else match qet {r6 with Loans:=r9} item with|some (r12,r13) =>(match b9 a2p (patron,r1,r13,0,{r6 with Loans:=r9},ZN,x,r12,()) with|some ((due,has,c21,v,h,_)) =>let k (c26:List Hold):Xa0:=some ({c21 with Holds:=c26},due,0);bif has then match qeu c21.Holds h.ID with|some (r23,r24,r25) =>bif !(r25==0) then some (ZN,0,r25) else k r23|none=>none else k c21.Holds|none=>none)|none=>none)|none=>none)|none=>none)|none=>none)|none=>none)|none=>none
def qek (c:Circ) (x:Off):XaX:=
 let k (v:Int) (v8:Circ):XaX:=some (v8,v);bif x.Kind==2 then match qf0 c x.Item x.Branch with|some (r1,r2,r3) =>k r3 r1|none=>none else bif x.Kind==3 then match qe7 c x.Item with|some (r5,r6,r7) =>k r7 r5|none=>none else match qft c x.Item with|some r10=>let k20 (c15:Circ):XaX:=match qfz c15 x.Item x.Patron x.Branch with|some (r17,r18,r19) =>some (r17,r19)|none=>none;bif r10 then match qf0 c x.Item x.Branch with|some (r12,r13,r14) =>bif !(r14==0) then some (ZN,r14) else k20 r12|none=>none else k20 c|none=>none
def b8d:Xaz→Option XaP:=λ(l,today,i,c,v,l4,_)=>
 bif decide (i<(l.length:Int)) then match n8 l i with|some x=>let k (e:Int) (c14:Circ):Option XaP:=match n8 l i with|some x15=>(match n8 l i with|some x16=>bif decide (l4.length+([(⟨x15.Device,x16.Seq,e⟩:Outcome)]:List Outcome).length≤LIM) then some (.inl (l,today,wr .i64 (i+1),c14,v,l4++([(⟨x15.Device,x16.Seq,e⟩:Outcome)]:List Outcome),())) else none|none=>none)|none=>none;bif decide (x.Day≤today) then match n8 l i with|some x5=>(match qgl c x5.Day with|some r6=>(match n8 l i with|some x7=>(match qek r6 x7 with|some (r9,r10) =>bif r10==0 then match qgl r9 today with|some r12=>k r10 r12|none=>none else k r10 c|none=>none)|none=>none)|none=>none)|none=>none else k 12 c|none=>none else some (.inr ((c,v,l4,())))
def qfu (c:Circ) (l:List Off):Option (Circ×(List Outcome)):=
 match qe6 c with|some r1=>(let k (v:Bool):Option (Circ×(List Outcome)):=bif v then some (c,[]) else match b9 b8d (l,c.Today,0,c,ZN,[],()) with|some ((c17,v18,l19,_)) =>some (c17,l19)|none=>none;bif !r1 then k true else match qe3 l with|some r3=>k (!(r3==0))|none=>none)|none=>none
end
section
set_option maxRecDepth 100000
open Go
theorem c1y:n5 a0w:=n5.iso (n5.cons (g9.int _) (n5.cons (g9.int _) (n5.cons (g9.int _) (n5.cons (g9.int _) n5.nil)))) (λ_=>rfl)
theorem c12:n5 a1w:=n5.iso (n5.cons (g9.int _) (n5.cons (g9.int _) (n5.cons (g9.int _) (n5.cons (g9.int _) (n5.cons (g9.int _) (n5.cons g9.str (n5.cons (g9.int _) (n5.cons (g9.int _) (n5.cons (g9.int _) (n5.cons (g9.int _) n5.nil)))))))))) (λ_=>rfl)
theorem b25:n5 a2t:=n5.iso (n5.cons (g9.int _) (n5.cons (g9.int _) (n5.cons (g9.int _) (n5.cons (g9.int _) (n5.cons g9.bool (n5.cons g9.str n5.nil)))))) (λ_=>rfl)
theorem c16:n5 a2o:=n5.iso (n5.cons (g9.int _) (n5.cons (g9.int _) (n5.cons (g9.int _) (n5.cons (g9.int _) (n5.cons (g9.int _) (n5.cons g9.bool n5.nil)))))) (λ_=>rfl)
theorem c1z:n5 a2n:=n5.iso (n5.cons (g9.int _) (n5.cons (g9.int _) (n5.cons (g9.int _) (n5.cons (g9.int _) (n5.cons (g9.int _) (n5.cons (g9.int _) (n5.cons (g9.int _) (n5.cons (g9.int _) (n5.cons (g9.int _) (n5.cons (g9.int _) (n5.cons (g9.int _) n5.nil))))))))))) (λ_=>rfl)
theorem b23:n5 a45:=n5.iso (n5.cons (g9.int _) (n5.cons (g9.int _) (n5.cons (g9.int _) (n5.cons (g9.int _) (n5.cons (g9.int _) (n5.cons (g9.int _) (n5.cons (g9.int _) n5.nil))))))) (λ_=>rfl)
theorem c2a:n5 a3w:=n5.iso (n5.cons (g9.int _) (n5.cons (g9.int _) (n5.cons (g9.int _) (n5.cons (g9.int _) (n5.cons (g9.int _) (n5.cons (g9.int _) (n5.cons (g9.int _) (n5.cons (g9.int _) (n5.cons (g9.int _) (n5.cons (g9.int _) (n5.cons (g9.int _) (n5.cons (g9.int _) (n5.cons (g9.int _) n5.nil))))))))))))) (λ_=>rfl)
theorem b9c:n5 y7:=n5.iso (n5.cons (g9.int _) (n5.cons (g9.lst _) n5.nil)) (λ_=>rfl)
theorem c18:n5 b22:=n5.iso (n5.cons (g9.int _) (n5.cons (g9.int _) (n5.cons (g9.int _) (n5.cons (g9.int _) (n5.cons (g9.int _) n5.nil))))) (λ_=>rfl)
theorem d8f:n5 j7:=n5.iso (n5.cons (g9.int _) (n5.cons (g9.lst _) (n5.cons (g9.lst _) (n5.cons (g9.lst _) (n5.cons (g9.lst _) (n5.cons (g9.lst _) (n5.cons (g9.lst _) (n5.cons (g9.int _) (n5.cons (g9.lst _) (n5.cons (g9.int _) (n5.cons (g9.lst _) (n5.cons (g9.int _) (n5.cons (g9.lst _) (n5.cons (g9.int _) (n5.cons (g9.lst _) (n5.cons (g9.lst _) (n5.cons (g9.int _) (n5.cons (g9.int _) (n5.cons g9.bool n5.nil))))))))))))))))))) (λ_=>rfl)
theorem d0i:n5 a47:=n5.iso (n5.cons (g9.int _) (n5.cons (g9.int _) (n5.cons (g9.int _) (n5.cons (g9.int _) (n5.cons (g9.int _) (n5.cons (g9.int _) (n5.cons (g9.int _) n5.nil))))))) (λ_=>rfl)
theorem b53:n5 u6:=n5.iso (n5.cons (g9.int _) (n5.cons (g9.lst _) (n5.cons (g9.lst _) (n5.cons (g9.lst _) (n5.cons (g9.lst _) (n5.cons (g9.lst _) (n5.cons (g9.lst _) (n5.cons (g9.int _) (n5.cons (g9.lst _) (n5.cons (g9.int _) (n5.cons (g9.lst _) (n5.cons (g9.int _) (n5.cons (g9.lst _) (n5.cons (g9.int _) (n5.cons (g9.lst _) (n5.cons (g9.lst _) (n5.cons (g9.int _) (n5.cons (g9.int _) (n5.cons g9.bool (n5.cons (g9.int _) n5.nil)))))))))))))))))))) (λ_=>rfl)
theorem b1a:n5 b0d:=n5.iso (n5.cons (g9.int _) (n5.cons (g9.int _) (n5.cons (g9.int _) n5.nil))) (λ_=>rfl)
theorem a4c:n5 a2x:=n5.iso (n5.cons (g9.int _) (n5.cons (g9.int _) n5.nil)) (λ_=>rfl)
theorem b1q:n5 a57:=n5.iso (n5.cons (g9.int _) (n5.cons (g9.lst _) (n5.cons (g9.int _) (n5.cons (g9.lst _) (n5.cons (g9.int _) (n5.cons (g9.lst _) (n5.cons (g9.int _) (n5.cons (g9.lst _) n5.nil)))))))) (λ_=>rfl)
theorem c2b:n5 a1h:=n5.iso (n5.cons g9.bool (n5.cons g9.bool (n5.cons g9.bool (n5.cons g9.bool (n5.cons g9.bool (n5.cons g9.bool (n5.cons g9.bool n5.nil))))))) (λ_=>rfl)
instance:CCC a0w:=⟨c1y⟩
instance:CCC a1w:=⟨c12⟩
instance:CCC a2t:=⟨b25⟩
instance:CCC a2o:=⟨c16⟩
instance:CCC a2n:=⟨c1z⟩
instance:CCC a45:=⟨b23⟩
instance:CCC a3w:=⟨c2a⟩
instance:CCC y7:=⟨b9c⟩
instance:CCC b22:=⟨c18⟩
instance:CCC j7:=⟨d8f⟩
instance:CCC a47:=⟨d0i⟩
instance:CCC u6:=⟨b53⟩
instance:CCC b0d:=⟨b1a⟩
instance:CCC a2x:=⟨a4c⟩
instance:CCC a57:=⟨b1q⟩
instance:CCC a1h:=⟨c2b⟩
end
end Go.Proofs.YtnajckeiaobmkabGreatDoor
