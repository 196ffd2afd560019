/- OfflinePlays: a part of the proof of the given statement, which is proved without conditions. -/
import Derived.Test.YtnajckeiaobmkaaGreatDoorG3
import Derived.Sort.Defs
import Derived.Lib.Small
import Derived.Lib.BitFns
import Derived.Lib.DecodeN
import Derived.Lib.AtoiAll
import Derived.Lib.Repeat
import Derived.Lib.Join
import Derived.Lib.Bytealg
import Derived.Lib.SlicesCompact
set_option linter.all false
namespace Go.Proofs.YtnajckeiaobmkaaGreatDoor.Ev
open Go
def b0q {α:Type} (s:List α) (i:Int) (v:List α):Option (List α):=
 match v with
 | [y]=>bif decide (0≤i)&&decide (i≤(s.length:Int))&&decide (s.length+1≤1073741824) then some (s.take i.toNat++y::s.drop i.toNat) else none
 |_=>none
def a7h {α:Type} (s:List α) (i j:Int):Option (List α):=
 bif decide (0≤i)&&decide (i≤j)&&decide (j≤(s.length:Int))&&decide (s.length≤1073741824) then some (s.take i.toNat++s.drop j.toNat) else none
def dcd:List UInt8→Nat×Nat
 | []=>(0,0)
 |a::r=>
  if 32≤a.toNat∧a.toNat<127 then (a.toNat,1)
  else if 194≤a.toNat∧a.toNat<224 then
   (match r with
   |b::_=>if (128≤b.toNat∧b.toNat<192)∧160≤(a.toNat-192)*64+b.toNat-128 then ((a.toNat-192)*64+b.toNat-128,2) else (0,0)
   | []=>(0,0))
  else if 224≤a.toNat∧a.toNat<240 then
   (match r with
   |b::c::_=>
    if ((128≤b.toNat∧b.toNat<192)∧(128≤c.toNat∧c.toNat<192))∧2048≤(a.toNat-224)*4096+(b.toNat-128)*64+c.toNat-128∧
     ((a.toNat-224)*4096+(b.toNat-128)*64+c.toNat-128<55296∨57343<(a.toNat-224)*4096+(b.toNat-128)*64+c.toNat-128) then
     ((a.toNat-224)*4096+(b.toNat-128)*64+c.toNat-128,3) else (0,0)
   |_=>(0,0))
  else (0,0)
def d98:Nat→List UInt8→Bool
 |0,_=>true
 |n+1,l=>if l=[] then true else if (dcd l).2=0 then false else d98 n (l.drop (dcd l).2)
def vld (s:List UInt8):Bool:=d98 s.length s
def wid (l:List UInt8):Nat:=if (dcd l).2<1 then 1 else (dcd l).2
def blk (c:Nat):Bool:=c==32||c==160
def c2n:Nat→List UInt8→List UInt8→Bool→List UInt8
 |0,_,out,_=>out
 |n+1,l,out,gap=>if l=[] then out else
  if blk (dcd l).1 then c2n n (l.drop (wid l)) out true
  else c2n n (l.drop (wid l)) ((if gap&&!(out==[]) then out++[32] else out)++l.take (wid l)) false
def cln (s:List UInt8):List UInt8:=c2n s.length s [] false
end Go.Proofs.YtnajckeiaobmkaaGreatDoor.Ev
namespace Go.Proofs.YtnajckeiaobmkaaGreatDoor
open Ev
open Go (IntKind)
section
set_option maxRecDepth 100000
structure V4 (α:Type) where
 x0:α
 x1:α
 x2:α
 x3:α
structure V7 (α:Type) where
 x0:α
 x1:α
 x2:α
 x3:α
 x4:α
 x5:α
 x6:α
structure Custody where
 State:Int
 Branch:Int
 Who:Int
 To:Int
structure Item where
 ID:Int
 Record:Int
 Branch:Int
 Kind:Int
 Price:Int
 Call:List UInt8
 Custody:Custody
structure Patron where
 ID:Int
 Kind:Int
 Branch:Int
 Until:Int
 Stopped:Bool
 Name:List UInt8
structure Loan where
 Item:Int
 Patron:Int
 Out:Int
 Due:Int
 Renewals:Int
 Recalled:Bool
structure Hold where
 ID:Int
 Patron:Int
 Record:Int
 Item:Int
 Pickup:Int
 Placed:Int
 State:Int
 Got:Int
 Until:Int
 Asleep:Int
 Rank:Int
structure Charge where
 ID:Int
 Patron:Int
 Item:Int
 Day:Int
 Kind:Int
 Amount:Int
 Paid:Int
structure Rule where
 Patron:Int
 Item:Int
 Branch:Int
 Days:Int
 Renewals:Int
 Fine:Int
 Grace:Int
 MaxFine:Int
 Loans:Int
 Shelf:Int
 Recall:Int
 Fixed:Int
 Rank:Int
structure Calendar where
 Week:Int
 Closed:List Int
structure Move where
 Day:Int
 Item:Int
 Kind:Int
 Branch:Int
 Who:Int
structure Circ where
 Today:Int
 Items:List Item
 Patrons:List Patron
 Loans:List Loan
 Holds:List Hold
 Charges:List Charge
 Rules:List Rule
 Cals:V4 Calendar
 Moves:List Move
 NextHold:Int
 NextCharge:Int
 Local:Bool
structure Off where
 Device:Int
 Seq:Int
 Day:Int
 Kind:Int
 Item:Int
 Patron:Int
 Branch:Int
structure Circ_desk where
 c:Circ
 err:Int
structure Outcome where
 Device:Int
 Seq:Int
 Err:Int
structure Utf8_acceptRange where
 lo:Int
 hi:Int
inductive Kd where
 |kItem
 |kPatron
 |kLoan
 |kHold
 |kCharge
 |kRule
 |ki64
 |kMove
 |kOff
 |kbool
 |kOutcome
 |kstr
 |kSOff
 |ku8
 |kUtf8_acceptRange
 |ku16
 |ku64
 |kerr
abbrev El:Kd→Type
 |.kItem=>Item
 |.kPatron=>Patron
 |.kLoan=>Loan
 |.kHold=>Hold
 |.kCharge=>Charge
 |.kRule=>Rule
 |.ki64=>Int
 |.kMove=>Move
 |.kOff=>Off
 |.kbool=>Bool
 |.kOutcome=>Outcome
 |.kstr=>List UInt8
 |.kSOff=>List Off
 |.ku8=>Int
 |.kUtf8_acceptRange=>Utf8_acceptRange
 |.ku16=>Int
 |.ku64=>Int
 |.kerr=>Bool
abbrev DD:=D Kd El
abbrev Sm (R:Type):=a4p Kd El R
abbrev y7 {α β:Type} (ta:List (Nat×Nat×Kd)) (se ss bs az:List Nat) (fc:FC Kd El α) [FCC fc] (step:α→Option (α⊕β)) (oc:OC Kd El β):LD Kd El α β:=⟨ta,se,ss,bs,az,fc,step,oc⟩
instance:KdEq Kd where
 dec:=λa b=>match a,b with
  |.kItem,.kItem=>some ⟨rfl⟩
  |.kPatron,.kPatron=>some ⟨rfl⟩
  |.kLoan,.kLoan=>some ⟨rfl⟩
  |.kHold,.kHold=>some ⟨rfl⟩
  |.kCharge,.kCharge=>some ⟨rfl⟩
  |.kRule,.kRule=>some ⟨rfl⟩
  |.ki64,.ki64=>some ⟨rfl⟩
  |.kMove,.kMove=>some ⟨rfl⟩
  |.kOff,.kOff=>some ⟨rfl⟩
  |.kbool,.kbool=>some ⟨rfl⟩
  |.kOutcome,.kOutcome=>some ⟨rfl⟩
  |.kstr,.kstr=>some ⟨rfl⟩
  |.kSOff,.kSOff=>some ⟨rfl⟩
  |.ku8,.ku8=>some ⟨rfl⟩
  |.kUtf8_acceptRange,.kUtf8_acceptRange=>some ⟨rfl⟩
  |.ku16,.ku16=>some ⟨rfl⟩
  |.ku64,.ku64=>some ⟨rfl⟩
  |.kerr,.kerr=>some ⟨rfl⟩
  |_,_=>none
abbrev wr (k:IntKind) (n:Int):Int:=IntKind.wrap k n
def c9a (x:Custody):List DD:=[.int .i64 x.State,.int .i64 x.Branch,.int .i64 x.Who,.int .i64 x.To]
def y4:CC Kd El Custody:=(CC.cons (Cod.int .i64) (CC.cons (Cod.int .i64) (CC.cons (Cod.int .i64) (CC.cons (Cod.int .i64) CC.nil)))).iso c9a (λp=>⟨p.1,p.2.1,p.2.2.1,p.2.2.2.1⟩)
def f5m (x:Item):List DD:=[.int .i64 x.ID,.int .i64 x.Record,.int .i64 x.Branch,.int .i64 x.Kind,.int .i64 x.Price,.str x.Call,.int .i64 x.Custody.State,.int .i64 x.Custody.Branch,.int .i64 x.Custody.Who,.int .i64 x.Custody.To]
def a08:CC Kd El Item:=(CC.cons (Cod.int .i64) (CC.cons (Cod.int .i64) (CC.cons (Cod.int .i64) (CC.cons (Cod.int .i64) (CC.cons (Cod.int .i64) (CC.cons Cod.str (CC.cons (Cod.int .i64) (CC.cons (Cod.int .i64) (CC.cons (Cod.int .i64) (CC.cons (Cod.int .i64) CC.nil)))))))))).iso f5m (λp=>⟨p.1,p.2.1,p.2.2.1,p.2.2.2.1,p.2.2.2.2.1,p.2.2.2.2.2.1,⟨p.2.2.2.2.2.2.1,p.2.2.2.2.2.2.2.1,p.2.2.2.2.2.2.2.2.1,p.2.2.2.2.2.2.2.2.2.1⟩⟩)
def d7w (x:Patron):List DD:=[.int .i64 x.ID,.int .i64 x.Kind,.int .i64 x.Branch,.int .i64 x.Until,.bool x.Stopped,.str x.Name]
def a2u:CC Kd El Patron:=(CC.cons (Cod.int .i64) (CC.cons (Cod.int .i64) (CC.cons (Cod.int .i64) (CC.cons (Cod.int .i64) (CC.cons Cod.bool (CC.cons Cod.str CC.nil)))))).iso d7w (λp=>⟨p.1,p.2.1,p.2.2.1,p.2.2.2.1,p.2.2.2.2.1,p.2.2.2.2.2.1⟩)
def f5n (x:Loan):List DD:=[.int .i64 x.Item,.int .i64 x.Patron,.int .i64 x.Out,.int .i64 x.Due,.int .i64 x.Renewals,.bool x.Recalled]
def a1l:CC Kd El Loan:=(CC.cons (Cod.int .i64) (CC.cons (Cod.int .i64) (CC.cons (Cod.int .i64) (CC.cons (Cod.int .i64) (CC.cons (Cod.int .i64) (CC.cons Cod.bool CC.nil)))))).iso f5n (λp=>⟨p.1,p.2.1,p.2.2.1,p.2.2.2.1,p.2.2.2.2.1,p.2.2.2.2.2.1⟩)
def f5l (x:Hold):List DD:=[.int .i64 x.ID,.int .i64 x.Patron,.int .i64 x.Record,.int .i64 x.Item,.int .i64 x.Pickup,.int .i64 x.Placed,.int .i64 x.State,.int .i64 x.Got,.int .i64 x.Until,.int .i64 x.Asleep,.int .i64 x.Rank]
def y6:CC Kd El Hold:=(CC.cons (Cod.int .i64) (CC.cons (Cod.int .i64) (CC.cons (Cod.int .i64) (CC.cons (Cod.int .i64) (CC.cons (Cod.int .i64) (CC.cons (Cod.int .i64) (CC.cons (Cod.int .i64) (CC.cons (Cod.int .i64) (CC.cons (Cod.int .i64) (CC.cons (Cod.int .i64) (CC.cons (Cod.int .i64) CC.nil))))))))))).iso f5l (λp=>⟨p.1,p.2.1,p.2.2.1,p.2.2.2.1,p.2.2.2.2.1,p.2.2.2.2.2.1,p.2.2.2.2.2.2.1,p.2.2.2.2.2.2.2.1,p.2.2.2.2.2.2.2.2.1,p.2.2.2.2.2.2.2.2.2.1,p.2.2.2.2.2.2.2.2.2.2.1⟩)
def d7v (x:Charge):List DD:=[.int .i64 x.ID,.int .i64 x.Patron,.int .i64 x.Item,.int .i64 x.Day,.int .i64 x.Kind,.int .i64 x.Amount,.int .i64 x.Paid]
def a3m:CC Kd El Charge:=(CC.cons (Cod.int .i64) (CC.cons (Cod.int .i64) (CC.cons (Cod.int .i64) (CC.cons (Cod.int .i64) (CC.cons (Cod.int .i64) (CC.cons (Cod.int .i64) (CC.cons (Cod.int .i64) CC.nil))))))).iso d7v (λp=>⟨p.1,p.2.1,p.2.2.1,p.2.2.2.1,p.2.2.2.2.1,p.2.2.2.2.2.1,p.2.2.2.2.2.2.1⟩)
def f5p (x:Rule):List DD:=[.int .i64 x.Patron,.int .i64 x.Item,.int .i64 x.Branch,.int .i64 x.Days,.int .i64 x.Renewals,.int .i64 x.Fine,.int .i64 x.Grace,.int .i64 x.MaxFine,.int .i64 x.Loans,.int .i64 x.Shelf,.int .i64 x.Recall,.int .i64 x.Fixed,.int .i64 x.Rank]
def a3z:CC Kd El Rule:=(CC.cons (Cod.int .i64) (CC.cons (Cod.int .i64) (CC.cons (Cod.int .i64) (CC.cons (Cod.int .i64) (CC.cons (Cod.int .i64) (CC.cons (Cod.int .i64) (CC.cons (Cod.int .i64) (CC.cons (Cod.int .i64) (CC.cons (Cod.int .i64) (CC.cons (Cod.int .i64) (CC.cons (Cod.int .i64) (CC.cons (Cod.int .i64) (CC.cons (Cod.int .i64) CC.nil))))))))))))).iso f5p (λp=>⟨p.1,p.2.1,p.2.2.1,p.2.2.2.1,p.2.2.2.2.1,p.2.2.2.2.2.1,p.2.2.2.2.2.2.1,p.2.2.2.2.2.2.2.1,p.2.2.2.2.2.2.2.2.1,p.2.2.2.2.2.2.2.2.2.1,p.2.2.2.2.2.2.2.2.2.2.1,p.2.2.2.2.2.2.2.2.2.2.2.1,p.2.2.2.2.2.2.2.2.2.2.2.2.1⟩)
def c34 (x:Calendar):List DD:=[.int .i64 x.Week,.lst .ki64 x.Closed]
def p9:CC Kd El Calendar:=(CC.cons (Cod.int .i64) (CC.cons (Cod.lst Kd.ki64) CC.nil)).iso c34 (λp=>⟨p.1,p.2.1⟩)
def f5o (x:Move):List DD:=[.int .i64 x.Day,.int .i64 x.Item,.int .i64 x.Kind,.int .i64 x.Branch,.int .i64 x.Who]
def a7f:CC Kd El Move:=(CC.cons (Cod.int .i64) (CC.cons (Cod.int .i64) (CC.cons (Cod.int .i64) (CC.cons (Cod.int .i64) (CC.cons (Cod.int .i64) CC.nil))))).iso f5o (λp=>⟨p.1,p.2.1,p.2.2.1,p.2.2.2.1,p.2.2.2.2.1⟩)
def f5k (x:Circ):List DD:=[.int .i64 x.Today,.lst .kItem x.Items,.lst .kPatron x.Patrons,.lst .kLoan x.Loans,.lst .kHold x.Holds,.lst .kCharge x.Charges,.lst .kRule x.Rules,.int .i64 x.Cals.x0.Week,.lst .ki64 x.Cals.x0.Closed,.int .i64 x.Cals.x1.Week,.lst .ki64 x.Cals.x1.Closed,.int .i64 x.Cals.x2.Week,.lst .ki64 x.Cals.x2.Closed,.int .i64 x.Cals.x3.Week,.lst .ki64 x.Cals.x3.Closed,.lst .kMove x.Moves,.int .i64 x.NextHold,.int .i64 x.NextCharge,.bool x.Local]
def i6:CC Kd El Circ:=(CC.cons (Cod.int .i64) (CC.cons (Cod.lst Kd.kItem) (CC.cons (Cod.lst Kd.kPatron) (CC.cons (Cod.lst Kd.kLoan) (CC.cons (Cod.lst Kd.kHold) (CC.cons (Cod.lst Kd.kCharge) (CC.cons (Cod.lst Kd.kRule) (CC.cons (Cod.int .i64) (CC.cons (Cod.lst Kd.ki64) (CC.cons (Cod.int .i64) (CC.cons (Cod.lst Kd.ki64) (CC.cons (Cod.int .i64) (CC.cons (Cod.lst Kd.ki64) (CC.cons (Cod.int .i64) (CC.cons (Cod.lst Kd.ki64) (CC.cons (Cod.lst Kd.kMove) (CC.cons (Cod.int .i64) (CC.cons (Cod.int .i64) (CC.cons Cod.bool CC.nil))))))))))))))))))).iso f5k (λp=>⟨p.1,p.2.1,p.2.2.1,p.2.2.2.1,p.2.2.2.2.1,p.2.2.2.2.2.1,p.2.2.2.2.2.2.1,⟨⟨p.2.2.2.2.2.2.2.1,p.2.2.2.2.2.2.2.2.1⟩,⟨p.2.2.2.2.2.2.2.2.2.1,p.2.2.2.2.2.2.2.2.2.2.1⟩,⟨p.2.2.2.2.2.2.2.2.2.2.2.1,p.2.2.2.2.2.2.2.2.2.2.2.2.1⟩,⟨p.2.2.2.2.2.2.2.2.2.2.2.2.2.1,p.2.2.2.2.2.2.2.2.2.2.2.2.2.2.1⟩⟩,p.2.2.2.2.2.2.2.2.2.2.2.2.2.2.2.1,p.2.2.2.2.2.2.2.2.2.2.2.2.2.2.2.2.1,p.2.2.2.2.2.2.2.2.2.2.2.2.2.2.2.2.2.1,p.2.2.2.2.2.2.2.2.2.2.2.2.2.2.2.2.2.2.1⟩)
def h29 (x:Off):List DD:=[.int .i64 x.Device,.int .i64 x.Seq,.int .i64 x.Day,.int .i64 x.Kind,.int .i64 x.Item,.int .i64 x.Patron,.int .i64 x.Branch]
def a47:CC Kd El Off:=(CC.cons (Cod.int .i64) (CC.cons (Cod.int .i64) (CC.cons (Cod.int .i64) (CC.cons (Cod.int .i64) (CC.cons (Cod.int .i64) (CC.cons (Cod.int .i64) (CC.cons (Cod.int .i64) CC.nil))))))).iso h29 (λp=>⟨p.1,p.2.1,p.2.2.1,p.2.2.2.1,p.2.2.2.2.1,p.2.2.2.2.2.1,p.2.2.2.2.2.2.1⟩)
def c02 (x:Circ_desk):List DD:=[.int .i64 x.c.Today,.lst .kItem x.c.Items,.lst .kPatron x.c.Patrons,.lst .kLoan x.c.Loans,.lst .kHold x.c.Holds,.lst .kCharge x.c.Charges,.lst .kRule x.c.Rules,.int .i64 x.c.Cals.x0.Week,.lst .ki64 x.c.Cals.x0.Closed,.int .i64 x.c.Cals.x1.Week,.lst .ki64 x.c.Cals.x1.Closed,.int .i64 x.c.Cals.x2.Week,.lst .ki64 x.c.Cals.x2.Closed,.int .i64 x.c.Cals.x3.Week,.lst .ki64 x.c.Cals.x3.Closed,.lst .kMove x.c.Moves,.int .i64 x.c.NextHold,.int .i64 x.c.NextCharge,.bool x.c.Local,.int .i64 x.err]
def w6:CC Kd El Circ_desk:=(CC.cons (Cod.int .i64) (CC.cons (Cod.lst Kd.kItem) (CC.cons (Cod.lst Kd.kPatron) (CC.cons (Cod.lst Kd.kLoan) (CC.cons (Cod.lst Kd.kHold) (CC.cons (Cod.lst Kd.kCharge) (CC.cons (Cod.lst Kd.kRule) (CC.cons (Cod.int .i64) (CC.cons (Cod.lst Kd.ki64) (CC.cons (Cod.int .i64) (CC.cons (Cod.lst Kd.ki64) (CC.cons (Cod.int .i64) (CC.cons (Cod.lst Kd.ki64) (CC.cons (Cod.int .i64) (CC.cons (Cod.lst Kd.ki64) (CC.cons (Cod.lst Kd.kMove) (CC.cons (Cod.int .i64) (CC.cons (Cod.int .i64) (CC.cons Cod.bool (CC.cons (Cod.int .i64) CC.nil)))))))))))))))))))).iso c02 (λp=>⟨⟨p.1,p.2.1,p.2.2.1,p.2.2.2.1,p.2.2.2.2.1,p.2.2.2.2.2.1,p.2.2.2.2.2.2.1,⟨⟨p.2.2.2.2.2.2.2.1,p.2.2.2.2.2.2.2.2.1⟩,⟨p.2.2.2.2.2.2.2.2.2.1,p.2.2.2.2.2.2.2.2.2.2.1⟩,⟨p.2.2.2.2.2.2.2.2.2.2.2.1,p.2.2.2.2.2.2.2.2.2.2.2.2.1⟩,⟨p.2.2.2.2.2.2.2.2.2.2.2.2.2.1,p.2.2.2.2.2.2.2.2.2.2.2.2.2.2.1⟩⟩,p.2.2.2.2.2.2.2.2.2.2.2.2.2.2.2.1,p.2.2.2.2.2.2.2.2.2.2.2.2.2.2.2.2.1,p.2.2.2.2.2.2.2.2.2.2.2.2.2.2.2.2.2.1,p.2.2.2.2.2.2.2.2.2.2.2.2.2.2.2.2.2.2.1⟩,p.2.2.2.2.2.2.2.2.2.2.2.2.2.2.2.2.2.2.2.1⟩)
def c9b (x:Outcome):List DD:=[.int .i64 x.Device,.int .i64 x.Seq,.int .i64 x.Err]
def b0g:CC Kd El Outcome:=(CC.cons (Cod.int .i64) (CC.cons (Cod.int .i64) (CC.cons (Cod.int .i64) CC.nil))).iso c9b (λp=>⟨p.1,p.2.1,p.2.2.1⟩)
def a8l (x:Utf8_acceptRange):List DD:=[.int .u8 x.lo,.int .u8 x.hi]
def a2z:CC Kd El Utf8_acceptRange:=(CC.cons (Cod.int .u8) (CC.cons (Cod.int .u8) CC.nil)).iso a8l (λp=>⟨p.1,p.2.1⟩)
def b3s (x:V4 Calendar):List DD:=[.int .i64 x.x0.Week,.lst .ki64 x.x0.Closed,.int .i64 x.x1.Week,.lst .ki64 x.x1.Closed,.int .i64 x.x2.Week,.lst .ki64 x.x2.Closed,.int .i64 x.x3.Week,.lst .ki64 x.x3.Closed]
def a56:CC Kd El (V4 Calendar):=(CC.cons (Cod.int .i64) (CC.cons (Cod.lst Kd.ki64) (CC.cons (Cod.int .i64) (CC.cons (Cod.lst Kd.ki64) (CC.cons (Cod.int .i64) (CC.cons (Cod.lst Kd.ki64) (CC.cons (Cod.int .i64) (CC.cons (Cod.lst Kd.ki64) CC.nil)))))))).iso b3s (λp=>⟨⟨p.1,p.2.1⟩,⟨p.2.2.1,p.2.2.2.1⟩,⟨p.2.2.2.2.1,p.2.2.2.2.2.1⟩,⟨p.2.2.2.2.2.2.1,p.2.2.2.2.2.2.2.1⟩⟩)
def c9c (x:V7 Bool):List DD:=[.bool x.x0,.bool x.x1,.bool x.x2,.bool x.x3,.bool x.x4,.bool x.x5,.bool x.x6]
def a1m:CC Kd El (V7 Bool):=(CC.cons Cod.bool (CC.cons Cod.bool (CC.cons Cod.bool (CC.cons Cod.bool (CC.cons Cod.bool (CC.cons Cod.bool (CC.cons Cod.bool CC.nil))))))).iso c9c (λp=>⟨p.1,p.2.1,p.2.2.1,p.2.2.2.1,p.2.2.2.2.1,p.2.2.2.2.2.1,p.2.2.2.2.2.2.1⟩)
def ccK:(k:Kd)→CC Kd El (El k)
 |.kItem=>a08
 |.kPatron=>a2u
 |.kLoan=>a1l
 |.kHold=>y6
 |.kCharge=>a3m
 |.kRule=>a3z
 |.ki64=>CC.one (Cod.int .i64)
 |.kMove=>a7f
 |.kOff=>a47
 |.kbool=>CC.one Cod.bool
 |.kOutcome=>b0g
 |.kstr=>CC.one Cod.str
 |.kSOff=>CC.one (Cod.lst Kd.kOff)
 |.ku8=>CC.one (Cod.int .u8)
 |.kUtf8_acceptRange=>a2z
 |.ku16=>CC.one (Cod.int .u16)
 |.ku64=>CC.one (Cod.int .u64)
 |.kerr=>CC.one Cod.ifc
def i9o:Kd→Nat
 |.kItem=>10
 |.kPatron=>6
 |.kLoan=>6
 |.kHold=>11
 |.kCharge=>7
 |.kRule=>13
 |.ki64=>1
 |.kMove=>5
 |.kOff=>7
 |.kbool=>1
 |.kOutcome=>3
 |.kstr=>1
 |.kSOff=>1
 |.ku8=>1
 |.kUtf8_acceptRange=>2
 |.ku16=>1
 |.ku64=>1
 |.kerr=>1
def i9n (t:Nat):Option Kd:=bif Nat.beq t 347 then some .ku8 else bif Nat.beq t 346 then some .ku8 else bif Nat.beq t 302 then some .ku16 else bif Nat.beq t 300 then some .kUtf8_acceptRange else bif Nat.beq t 291 then some .ki64 else bif Nat.beq t 242 then some .ku64 else bif Nat.beq t 193 then some .ku64 else bif Nat.beq t 183 then some .ki64 else bif Nat.beq t 124 then some .ku64 else bif Nat.beq t 82 then some .kerr else bif Nat.beq t 81 then some .kerr else bif Nat.beq t 76 then some .kMove else bif Nat.beq t 74 then some .kRule else bif Nat.beq t 72 then some .kCharge else bif Nat.beq t 70 then some .kHold else bif Nat.beq t 68 then some .kLoan else bif Nat.beq t 66 then some .kPatron else bif Nat.beq t 64 then some .kItem else bif Nat.beq t 56 then some .kOutcome else bif Nat.beq t 46 then some .ki64 else bif Nat.beq t 45 then some .kOff else bif Nat.beq t 35 then some .kSOff else bif Nat.beq t 20 then some .kerr else bif Nat.beq t 12 then some .ku64 else bif Nat.beq t 11 then some .kstr else bif Nat.beq t 10 then some .kstr else bif Nat.beq t 9 then some .kstr else bif Nat.beq t 6 then some .ku8 else bif Nat.beq t 5 then some .ku8 else bif Nat.beq t 4 then some .kbool else bif Nat.beq t 3 then some .ki64 else bif Nat.beq t 2 then some .ki64 else none
def z6:List Int:=(List.range 256).map λc=>(Go.Lib.firstT c:Int)
def m8:List Utf8_acceptRange:=(List.range 16).map λi=>⟨(Go.Lib.accLo i:Int),(Go.Lib.accHi i:Int)⟩
def a15:List Int:=[0,32770,41316,42344,6160,8268,8320,8704,16,4112,32784,49152,0]
def j8:List Int:=(List.range 20).map λi=>((10 ^ i:Nat):Int)
def a3v:List Bool:=[false]
def a4k:List Bool:=[false]
def c4c (t:Nat):Option ((k:Kd)×List (El k)):=bif Nat.beq t 6 then some ⟨.kerr,a4k⟩ else bif Nat.beq t 5 then some ⟨.kerr,a3v⟩ else bif Nat.beq t 4 then some ⟨.ku64,j8⟩ else bif Nat.beq t 3 then some ⟨.ku16,a15⟩ else bif Nat.beq t 2 then some ⟨.kUtf8_acceptRange,m8⟩ else bif Nat.beq t 1 then some ⟨.ku8,z6⟩ else none
def i9q (f:Nat):Md:=bif Nat.beq f 26 then .bld else bif Nat.beq f 23 then .bld else bif Nat.beq f 141 then .inpl else bif Nat.beq f 74 then .mut else bif Nat.beq f 69 then .inpl else bif Nat.beq f 30 then .inpl else bif Nat.beq f 25 then .fresh else bif Nat.beq f 361 then .inpl else bif Nat.beq f 360 then .inpl else bif Nat.beq f 358 then .inpl else bif Nat.beq f 357 then .inpl else bif Nat.beq f 353 then .inpl else bif Nat.beq f 343 then .inpl else bif Nat.beq f 316 then .cons else bif Nat.beq f 280 then .fresh else bif Nat.beq f 279 then .cons else bif Nat.beq f 197 then .fresh else bif Nat.beq f 196 then .cons else bif Nat.beq f 191 then .mut else bif Nat.beq f 187 then .mut else bif Nat.beq f 186 then .mut else bif Nat.beq f 185 then .fresh else bif Nat.beq f 184 then .fresh else bif Nat.beq f 182 then .mut else bif Nat.beq f 101 then .mut else bif Nat.beq f 99 then .mut else bif Nat.beq f 97 then .mut else bif Nat.beq f 96 then .mut else bif Nat.beq f 95 then .mut else bif Nat.beq f 94 then .mut else bif Nat.beq f 93 then .mut else bif Nat.beq f 92 then .mut else bif Nat.beq f 91 then .mut else bif Nat.beq f 90 then .newb else bif Nat.beq f 27 then .fresh else .data
def i26 (t:Nat):Bool:=Nat.beq t 76||(Nat.beq t 74||(Nat.beq t 72||(Nat.beq t 70||(Nat.beq t 68||(Nat.beq t 66||(Nat.beq t 64||(Nat.beq t 62||(Nat.beq t 56||(Nat.beq t 45||(false))))))))))
def i9m (f:Nat):Option Kd:=bif Nat.beq f 141 then some .kOff else bif Nat.beq f 69 then some .kOff else bif Nat.beq f 30 then some .kOff else none
def i72 (n:Nat):Bool:=Nat.beq n 4
def i9d:Option (BlK Kd El):=some ⟨.ku8,blI,blJ,80,5,h3q 23 26⟩
def i73:Kd→Bool:=fun | .ku8=>true|_=>false
def i9e:Option (ByK Kd El):=some ⟨.ku8,blI,blJ⟩
def sg:Sg Kd El:=⟨λk=>(ccK k).enc,λk=>(ccK k).dec,i9o,i9n,c4c,i9q,i26,λ_=>none,i9m,i72,i9d,i73,i9e⟩
def u7 (x y:Custody):Bool:=(x.State==y.State&&(x.Branch==y.Branch&&(x.Who==y.Who&&(x.To==y.To&&true))))
def c05 (x y:Item):Bool:=(x.ID==y.ID&&(x.Record==y.Record&&(x.Branch==y.Branch&&(x.Kind==y.Kind&&(x.Price==y.Price&&(x.Call==y.Call&&(u7 x.Custody y.Custody&&true)))))))
def b0n (x y:Patron):Bool:=(x.ID==y.ID&&(x.Kind==y.Kind&&(x.Branch==y.Branch&&(x.Until==y.Until&&(x.Stopped==y.Stopped&&(x.Name==y.Name&&true))))))
def c07 (x y:Loan):Bool:=(x.Item==y.Item&&(x.Patron==y.Patron&&(x.Out==y.Out&&(x.Due==y.Due&&(x.Renewals==y.Renewals&&(x.Recalled==y.Recalled&&true))))))
def c03 (x y:Hold):Bool:=(x.ID==y.ID&&(x.Patron==y.Patron&&(x.Record==y.Record&&(x.Item==y.Item&&(x.Pickup==y.Pickup&&(x.Placed==y.Placed&&(x.State==y.State&&(x.Got==y.Got&&(x.Until==y.Until&&(x.Asleep==y.Asleep&&(x.Rank==y.Rank&&true)))))))))))
def b0m (x y:Charge):Bool:=(x.ID==y.ID&&(x.Patron==y.Patron&&(x.Item==y.Item&&(x.Day==y.Day&&(x.Kind==y.Kind&&(x.Amount==y.Amount&&(x.Paid==y.Paid&&true)))))))
def c1b (x y:Rule):Bool:=(x.Patron==y.Patron&&(x.Item==y.Item&&(x.Branch==y.Branch&&(x.Days==y.Days&&(x.Renewals==y.Renewals&&(x.Fine==y.Fine&&(x.Grace==y.Grace&&(x.MaxFine==y.MaxFine&&(x.Loans==y.Loans&&(x.Shelf==y.Shelf&&(x.Recall==y.Recall&&(x.Fixed==y.Fixed&&(x.Rank==y.Rank&&true)))))))))))))
def c09 (x y:Move):Bool:=(x.Day==y.Day&&(x.Item==y.Item&&(x.Kind==y.Kind&&(x.Branch==y.Branch&&(x.Who==y.Who&&true)))))
def a8y (x y:Outcome):Bool:=(x.Device==y.Device&&(x.Seq==y.Seq&&(x.Err==y.Err&&true)))
abbrev ZC:=CC Kd El
abbrev ZF:=FC Kd El
abbrev ZD:=Cod Kd El
abbrev Zi:ZD Int:=Cod.int .i64
abbrev Zb:ZD Bool:=Cod.bool
abbrev Zl (k:Kd):ZD (List (El k)):=Cod.lst k
abbrev Zn:ZC Unit:=CC.nil
abbrev Zz:ZF Unit:=FC.nil
section
variable {α β:Type}
abbrev Zc:ZD α→ZC β→ZC (α×β):=CC.cons
abbrev Zs:Nat→ZD α→ZF β→ZF (α×β):=FC.slot
abbrev Zp:Nat→Nat→ZF β→ZF β:=FC.ptr
abbrev Zx:Nat→ZC α→ZF β→ZF (α×β):=FC.box
end
abbrev ZN:Circ:=⟨0,[],[],[],[],[],[],⟨⟨0,[]⟩,⟨0,[]⟩,⟨0,[]⟩,⟨0,[]⟩⟩,[],0,0,false⟩
end
section
def qfn (l:List (List UInt8)) (sep:List UInt8):Option (List UInt8):=bif decide (l.length≤1073741824)&&decide ((Go.Lib.join l sep).length≤1073741824) then some (Go.Lib.join l sep) else none
def qfi (s:List UInt8) (n:Int):Option (List UInt8):=bif decide (0≤n)&&(decide (n.toNat≤1073741824)&&decide (s.length*n.toNat≤1073741824)) then some (Go.Lib.repeatL s n.toNat) else none
def qe0 (s sep:List UInt8):Option Int:=match sep with | [c]=>some ((Go.Lib.countByte s c:Nat):Int)|_=>none
def qfk (s sep:List UInt8):Option Int:=match sep with | [c]=>some (Go.Lib.indexByte s c)|_=>none
def qfp (s:List UInt8):Option (Int×Bool):=bif decide (s.length≤LIM) then some (match Go.Lib.atoiAll s with | .ok n=>(n,true) | .range=>(Go.Lib.atoiSat s,false)|_=>(0,false)) else none
def qfh (s:List UInt8) (c:Int):Option Int:=some (Go.Lib.indexByte s c.toNat.toUInt8)
def qek (s:List Loan) (i:Int) (v:List Loan):Option (List Loan):=b0q s i v
def qel (s:List Hold) (i j:Int):Option (List Hold):=a7h s i j
def qc6 (s:List Loan) (i j:Int):Option (List Loan):=a7h s i j
@[inline] def h99:Nat→Nat→List UInt8→List UInt8|0,_,a=>a|f+1,u,a=>bif decide (u<10) then UInt8.ofNat (48+u)::a else h99 f (u / 10) (UInt8.ofNat (48+u % 10)::a)
def qfo (n:Int):Option (List UInt8):=bif decide (-9223372036854775808≤n)&&decide (n≤9223372036854775807) then some (bif decide (n<0) then 45::h99 20 n.natAbs [] else h99 20 n.natAbs []) else none
def qcz (s:List UInt8):Option Bool:=bif decide (s.length≤LIM) then some (vld s) else none
def qdb (s:List UInt8):Option (List UInt8):=bif decide (s.length≤LIM)&&vld s then some (cln s) else none
end
section
set_option maxRecDepth 100000
abbrev Yaa:=List Hold
abbrev Yab:=(Int×Circ×Unit)⊕((Circ×Unit)⊕(Bool×Unit))
abbrev Yac:=(Unit)⊕(Int×Unit)
abbrev Yad:=List Loan
abbrev Yae:=(Unit)⊕(Bool×Unit)
abbrev Yaf:=List Charge
abbrev Yag:=Int×Unit
abbrev Yah:=Int×Circ×Circ×Unit
abbrev Yai:=(List Item)×Int×Int×Circ×Unit
abbrev Yaj:=Int×Int
abbrev Yak:=Unit×Circ_desk
abbrev Yal:=List Int
abbrev Yam:=(Circ×Unit)⊕(Bool×Unit)
abbrev Yan:=(Int×Int×Bool×Int×Circ×Circ×Item×Hold×Unit)⊕((Int×Bool×Circ×Circ×Hold×Unit))
abbrev Yao:=(Yad×Yad×Int×Int×Unit)⊕Yac
abbrev Yap:=((List Patron)×Int×Unit)⊕Yac
abbrev Yaq:=Yah⊕((Circ×Circ×Unit)⊕(Bool×Unit))
abbrev Yar:=Custody×Int
abbrev Yas:=List Off
abbrev Yat:=(Yad×Int×Unit)⊕Yac
abbrev Yau:=(Yaf×Int×Unit)⊕Yac
abbrev Yav:=Circ×Int×Int
abbrev Yaw:=Int×Calendar×Unit
abbrev Yax:=(Yaa×Int×Int×Int×Int×Yal×Unit)⊕((Yaa×Int×Int×Int×Yal×Unit))
abbrev Yay:=List Rule
abbrev Yaz:=(Int×Int×Int×(V7 Bool)×Int×Calendar×(V7 Bool)×Unit)⊕((Int×Int×Int×Calendar×(V7 Bool)×Unit))
abbrev YaA:=(Int×Int×Circ×Circ×Loan×Item×Unit)⊕((Int×Circ×Circ×Loan×Item×Unit)⊕(Int×Int×Circ×Unit))
abbrev YaB:=((List UInt8)×(List UInt8)×Bool×Int×Unit)⊕(((List UInt8)×Unit))
abbrev YaC:=Int×Circ×Unit
abbrev YaD:=List Outcome
abbrev YaE:=Int×Int×Int×Yal×Int×Int×(V7 Bool)×Unit
abbrev YaF:=Yaa×Int×Int×Circ×Unit
abbrev YaG:=Int×Int×Int×Calendar×Unit
abbrev YaH:=(Int×Bool×Int×Yaa×Int×Int×Item×Unit)⊕(Yag⊕Yag)
abbrev YaI:=(Yaa×Int×Bool×Yal×Int×Int×Item×Unit)⊕(Yag⊕Yag)
abbrev YaJ:=(Int×Int×Circ×Circ×Unit)⊕(Yah⊕(Bool×Unit))
abbrev YaK:=Circ×Int
abbrev YaL:=Yay×Int×Int×Int×Int×Yay×Int×Int×Unit
abbrev YaM:=Int×Int×Yaa×Unit
abbrev YaN:=(Yaf×Int×Int×Int×Int×Int×Yaf×Unit)⊕((Int×Yaf×Unit))
abbrev YaO:=Yaa×Int×Unit
abbrev YaP:=Yaa×Unit
abbrev YaQ:=Int×Int×Circ×Circ×Move×Custody×(List Item)×Unit
abbrev YaR:=Int×(List Patron)×Int×Int×Unit
abbrev YaS:=Int×Int×Yaa×Int×Int×Yaa×Unit
abbrev YaT:=Yay×Int×Int×Int×Int×Int×Unit
abbrev YaU:=Yaw⊕((Unit)⊕(Int×Int×Unit))
abbrev YaV:=(Yay×Int×Int×Unit)⊕((Yay×Int×Unit)⊕Yag)
abbrev YaW:=Yas×Int×Unit
abbrev YaX:=(Yaa×Int×Int×Int×Int×Int×Hold×Unit)⊕((Yaa×Int×Int×Int×Hold×Unit)⊕YaO)
abbrev YaY:=Yad×Int×Int×Int×Int×Unit
abbrev YaZ:=Int×Yas×Int×Int×Circ×Circ×YaD×Unit
abbrev Ya0:=Yad×Int×Loan×Unit
abbrev Ya1:=Yaf×Int×Int×Circ×Unit
abbrev Ya2:=Yaa×Int
abbrev Ya3:=Yas×Int×Int×Circ×Circ×YaD×Unit
abbrev Ya4:=Yas×Yas×Int×Int×Unit
abbrev Ya5:=(Yaa×Int×Int×Unit)⊕(YaO⊕Yag)
abbrev Ya6:=Circ×Circ×YaD×Unit
abbrev Ya7:=(Yal×Int×Int×Int×Int×Unit)⊕((Yal×Int×Int×Int×Unit))
abbrev Ya8:=(V4 Calendar)×Int×Circ×Unit
abbrev Ya9:=Int×Int×Circ×Unit
abbrev Yba:=Yai⊕Yae
abbrev Ybb:=Yal×Int×Int×Calendar×Unit
abbrev Ybc:=Int×Int×Yaf×Int×Int×Unit
abbrev Ybd:=Int×Int×Yad×Int×Int×Unit
abbrev Ybe:=(Custody×Custody×Unit)⊕(Int×Int×Custody×Unit)
abbrev Ybf:=Int×(List Move)×Int×Int×Custody×Custody×Unit
abbrev Ybg:=Yad×Int
abbrev Ybh:=Yad×Int×Int×Circ×Unit
abbrev Ybi:=(Yas×Unit)⊕Yag
abbrev Ybj:=V7 Bool
abbrev Ybk:=Yaa×Int×Hold×Yaa×Unit
abbrev Ybl:=Yaa×Yaa×Int×Int×Unit
abbrev Ybm:=Yaf×Yaf×Int×Int×Unit
abbrev Ybn:=Int×Int×Int×Yal×Unit
abbrev Ybo:=Int×Int×Calendar×Unit
abbrev Ybp:=Yaf×Int×Int×Int×Unit
abbrev Ybq:=(List Move)×Int×Int×Custody×Custody×Unit
abbrev Ybr:=YaQ⊕((Circ×Circ×Move×(List Item)×Unit))
abbrev Ybs:=YaC⊕Yae
abbrev Ybt:=List Patron
abbrev Ybu:=Int×Circ_desk
abbrev Ybv:=List UInt8
abbrev Ybw:=Yas×Int×Int×Unit
abbrev Ybx:=Option Bool
abbrev Yby:=Option Int
abbrev Ybz:=Option Yaj
abbrev YbA:=Option Yab
abbrev YbB:=Option Yak
abbrev YbC:=Option Yar
abbrev YbD:=Option YaK
abbrev YbE:=Option Yav
abbrev YbF:=Option Yaa
abbrev YbG:=Option Yat
abbrev YbH:=Option Yau
abbrev YbI:=Option Ya2
abbrev YbJ:=Option Yao
abbrev YbK:=Option Yap
abbrev YbL:=Option Yba
abbrev YbM:=Option Ybg
abbrev YbN:=Option Yaq
abbrev YbO:=Option Calendar
abbrev YbP:=Option Ybs
abbrev YbQ:=Option Yad
abbrev YbR:=Option Yal
def qdu:Ybx:=some true
def c6z:YaC→YbP:=λ(i,c,_)=>
 bif decide (i<4) then let k (v:Int) (v6:List Int):YbP:=bif decide (100<(v6.length:Int)) then some (.inr (.inr (false,()))) else some (.inl (wr .i64 (i+1),c,()));bif i==0 then k c.Cals.x0.Week c.Cals.x0.Closed else bif i==1 then k c.Cals.x1.Week c.Cals.x1.Closed else bif i==2 then k c.Cals.x2.Week c.Cals.x2.Closed else bif i==3 then k c.Cals.x3.Week c.Cals.x3.Closed else none else some (.inr (.inl (())))
def qa (c:Circ):Ybx:=
 let k12 (v:Bool):Ybx:=let k11 (v1:Bool):Ybx:=let k10 (v2:Bool):Ybx:=let k9 (v3:Bool):Ybx:=let k8 (v4:Bool):Ybx:=let k (v5:Bool):Ybx:=bif v5 then some false else match c6 c6z (0,c,()) with|some (.inl (_)) =>some true|some (.inr (v7,_)) =>some v7|none=>none;bif v4 then k true else k (decide (100<(c.Rules.length:Int)));bif v3 then k8 true else k8 (decide (200<(c.Charges.length:Int)));bif v2 then k9 true else k9 (decide (100<(c.Holds.length:Int)));bif v1 then k10 true else k10 (decide (100<(c.Loans.length:Int)));bif v then k11 true else k11 (decide (100<(c.Patrons.length:Int)));bif decide (200<(c.Moves.length:Int)) then k12 true else k12 (decide (100<(c.Items.length:Int)))
def qbb (n:Int) (low:Int) (high:Int):Ybx:=
 let k (v:Bool):Ybx:=some v;bif decide (low≤n) then k (decide (n≤high)) else k false
def qem (x:Item):Ybx:=
 match qbb x.ID 1 9999 with|some r1=>let k21 (v:Bool):Ybx:=let k20 (v6:Bool):Ybx:=let k19 (v9:Bool):Ybx:=let k18 (v12:Bool):Ybx:=let k17 (v13:Bool):Ybx:=let k (v16:Bool):Ybx:=some v16;bif v13 then match qcz x.Call with|some r15=>k r15|none=>none else k false;bif v12 then k17 (decide ((x.Call.length:Int)≤200)) else k17 false;bif v9 then match qbb x.Price 0 100000000 with|some r11=>k18 r11|none=>none else k18 false;bif v6 then match qbb x.Kind 1 9 with|some r8=>k19 r8|none=>none else k19 false;bif v then match qbb x.Branch 1 4 with|some r5=>k20 r5|none=>none else k20 false;bif r1 then match qbb x.Record 1 9999 with|some r3=>k21 r3|none=>none else k21 false|none=>none
def qdv (x:Item) (v:Int):Ybx:=
 some (x.ID==v)
def d9b {γ0:Type} (p:γ0→Item→Option Bool):((List Item)×γ0×Int×Int×Unit)→Option (((List Item)×γ0×Int×Int×Unit)⊕Yac):=λ(s,g,v,v1,_)=>
 bif decide (v1<v) then match o0 s v1 with|some x=>(match p g x with|some r=>bif r then some (.inr (.inr (v1,()))) else some (.inl (s,g,v,wr .i64 (v1+1),()))|none=>none)|none=>none else some (.inr (.inl (())))
def qc {γ0:Type} (p:γ0→Item→Option Bool) (s:List Item) (g:γ0):Yby:=
 match c6 (d9b p) (s,g,(s.length:Int),0,()) with|some (.inl (_)) =>some (-1)|some (.inr (v,_)) =>some v|none=>none
def qr (c:Circ) (item:Int):Yby:=
 match qc (λg x0=>qdv x0 g.2.1) c.Items ((),(item,())) with|some r1=>some r1|none=>none
def qbv (n:Int) (least:Int) (most:Int):Ybx:=
 let k (v:Bool):Ybx:=some v;bif decide (least≤n) then k (decide (n≤most)) else k false
def qab (branch:Int):Option Custody:=
 some (⟨1,branch,0,0⟩:Custody)
def qd7 (c:Custody):Ybx:=
 match qbv c.State 1 12 with|some r1=>(let k23 (v:Bool):Ybx:=bif v then some false else let k22 (v7:Bool):Ybx:=let k19 (v18:Bool):Ybx:=some v18;bif v7 then match qbv c.Who 1 9999 with|some r9=>bif r9 then k19 (c.To==0) else k19 false|none=>none else bif c.State==6 then match qbv c.Who 0 9999 with|some r12=>let k (v15:Bool):Ybx:=bif v15 then k19 (!(c.To==c.Branch)) else k19 false;bif r12 then match qbv c.To 1 4 with|some r14=>k r14|none=>none else k false|none=>none else let k21 (v20:Bool):Ybx:=some v20;bif c.Who==0 then k21 (c.To==0) else k21 false;bif c.State==4 then k22 (c.State==4) else bif c.State==5 then k22 (c.State==5) else bif c.State==8 then k22 (c.State==8) else bif c.State==9 then k22 (c.State==9) else k22 (c.State==10);bif !r1 then k23 true else match qbv c.Branch 1 4 with|some r3=>k23 (!r3)|none=>none)|none=>none
def qdf (state:Int) (kind:Int):Ybx:=
 match qbv state 1 12 with|some r1=>let k5 (v:Bool):Ybx:=let k (v4:Bool):Ybx:=some v4;bif v then match o0 a15 state with|some x=>bif decide (kind<0) then none else k ((wr .u16 (BitVec.ofInt 16 (x.fdiv (2 ^ (min kind.toNat 16))) &&& BitVec.ofInt 16 1).toNat)==1)|none=>none else k false;bif r1 then match qbv kind 1 15 with|some r3=>k5 r3|none=>none else k5 false|none=>none
def qcs (c:Custody) (ok:Bool):YbC:=
 bif !ok then some ((⟨0,0,0,0⟩:Custody),1) else some (c,0)
def qds (c:Custody) (m:Move):YbC:=
 match qcs (⟨6,c.Branch,m.Who,m.Branch⟩:Custody) (!(m.Branch==c.Branch)) with|some (r1,r2) =>some (r1,r2)|none=>none
def qen (c:Custody) (m:Move):YbC:=
 match qd7 c with|some r1=>(let k95 (v:Bool):YbC:=let k94 (v6:Bool):YbC:=let k93 (v9:Bool):YbC:=let k92 (v12:Bool):YbC:=let k91 (v15:Bool):YbC:=bif v15 then some ((⟨0,0,0,0⟩:Custody),1) else match qdf c.State m.Kind with|some r17=>bif !r17 then some ((⟨0,0,0,0⟩:Custody),12) else let k90 (v18:Bool):YbC:=let k89 (v19:Bool):YbC:=bif v19 then some ((⟨0,0,0,0⟩:Custody),16) else let k88 (v22:Bool):YbC:=let k84 (state79:Int) (ok80:Bool):YbC:=match qcs (⟨state79,m.Branch,m.Who,0⟩:Custody) ok80 with|some (r82,r83) =>some (r82,r83)|none=>none;let k87 (v85:Int) (v86:Custody):YbC:=some (v86,v85);bif v22 then k84 2 (m.Who==0) else bif m.Kind==7 then bif m.Who==0 then k84 2 (m.Branch==c.To) else k84 2 false else bif m.Kind==6 then match qds c m with|some (r25,r26) =>k87 r26 r25|none=>none else bif m.Kind==3 then bif m.Branch==c.Branch then k84 4 (!(m.Who==0)) else k84 4 false else bif m.Kind==5 then bif m.Branch==c.Branch then k84 5 (!(m.Who==0)) else k84 5 false else bif m.Kind==10 then bif m.Branch==c.Branch then k84 8 (!(m.Who==0)) else k84 8 false else bif m.Kind==2 then bif m.Branch==c.Branch then k84 3 (m.Who==0) else k84 3 false else bif m.Kind==8 then bif m.Branch==c.Branch then k84 7 (m.Who==0) else k84 7 false else bif m.Kind==11 then let k (v32:Bool):YbC:=match qcs (⟨9,c.Branch,c.Who,0⟩:Custody) v32 with|some (r34,r35) =>k87 r35 r34|none=>none;bif m.Branch==c.Branch then k (m.Who==0) else k false else bif m.Kind==12 then let k40 (v36:Bool):YbC:=match qcs (⟨10,c.Branch,c.Who,0⟩:Custody) v36 with|some (r38,r39) =>k87 r39 r38|none=>none;bif m.Branch==c.Branch then k40 (m.Who==0) else k40 false else bif m.Kind==13 then bif m.Branch==c.Branch then k84 11 (m.Who==0) else k84 11 false else bif m.Kind==15 then bif m.Branch==c.Branch then k84 12 (m.Who==0) else k84 12 false else k84 0 false;bif m.Kind==1 then k88 (m.Kind==1) else bif m.Kind==4 then k88 (m.Kind==4) else bif m.Kind==9 then k88 (m.Kind==9) else k88 (m.Kind==14);bif v18 then k89 (!(m.Who==c.Who)) else k89 false;bif m.Kind==3 then k90 (c.State==5) else k90 false|none=>none;bif v12 then k91 true else match qbv m.Who 0 9999 with|some r14=>k91 (!r14)|none=>none;bif v9 then k92 true else match qbv m.Branch 1 4 with|some r11=>k92 (!r11)|none=>none;bif v6 then k93 true else match qbv m.Kind 1 15 with|some r8=>k93 (!r8)|none=>none;bif v then k94 true else match qbv m.Item 1 9999 with|some r5=>k94 (!r5)|none=>none;bif !r1 then k95 true else match qbv m.Day 0 109572 with|some r3=>k95 (!r3)|none=>none)|none=>none
def b8q:Ybf→Option (Ybf⊕Ybe):=λ(item,v,v4,v5,v6,c,_)=>
 bif decide (v5<v4) then match o0 v v5 with|some x=>(bif !(x.Item==item) then some (.inl (item,v,v4,wr .i64 (v5+1),v6,c,())) else match qen c x with|some (r7,r8) =>bif !(r8==0) then some (.inr (.inr (v5,r8,(⟨0,0,0,0⟩:Custody),()))) else some (.inl (item,v,v4,wr .i64 (v5+1),v6,r7,()))|none=>none)|none=>none else some (.inr (.inl (v6,c,())))
def qar (branch:Int) (l:List Move) (item:Int):Option (Custody×Int×Int):=
 match qbv branch 1 4 with|some r1=>(bif !r1 then some ((⟨0,0,0,0⟩:Custody),(-1),1) else match qab branch with|some r3=>(match c6 b8q (item,l,(l.length:Int),0,(⟨0,0,0,0⟩:Custody),r3,()) with|some (.inl (v,c,_)) =>some (c,(-1),0)|some (.inr (v9,v10,v11,_)) =>some (v11,v9,v10)|none=>none)|none=>none)|none=>none
def d0o:Yai→Option (Yai⊕Yam):=λ(v,v1,v2,c,_)=>
 bif decide (v2<v1) then match o0 v v2 with|some x=>(match qem x with|some r3=>let k (v6:Bool):Option (Yai⊕Yam):=bif v6 then some (.inr (.inr (false,()))) else some (.inl (v,v1,wr .i64 (v2+1),c,()));bif !r3 then k true else bif decide (0<v2) then match o0 c.Items (wr .i64 (v2-1)) with|some x4=>k (decide (x.ID≤x4.ID))|none=>none else k false|none=>none)|none=>none else some (.inr (.inl (c,())))
def b9p:((List Move)×Int×Int×Circ×Unit)→Option (((List Move)×Int×Int×Circ×Unit)⊕Yam):=λ(v,v8,v9,c,_)=>
 bif decide (v9<v8) then match o0 v v9 with|some x=>(match qr c x.Item with|some r10=>bif decide (r10<0) then some (.inr (.inr (false,()))) else some (.inl (v,v8,wr .i64 (v9+1),c,()))|none=>none)|none=>none else some (.inr (.inl (c,())))
def b9q:Yai→YbL:=λ(v,v12,v13,c,_)=>
 bif decide (v13<v12) then match o0 v v13 with|some x=>(match qar x.Branch c.Moves x.ID with|some (r14,r15,r16) =>let k (v17:Bool):YbL:=bif v17 then some (.inr (.inr (false,()))) else some (.inl (v,v12,wr .i64 (v13+1),c,()));bif !(r16==0) then k true else k (!(u7 r14 x.Custody))|none=>none)|none=>none else some (.inr (.inl (())))
def qt (c:Circ):Ybx:=
 let k (v:Bool):Ybx:=bif v then some false else match c6 d0o (c.Items,(c.Items.length:Int),0,c,()) with|some (.inl (c7,_)) =>(match c6 b9p (c7.Moves,(c7.Moves.length:Int),0,c7,()) with|some (.inl (c11,_)) =>(match c6 b9q (c11.Items,(c11.Items.length:Int),0,c11,()) with|some (.inl (_)) =>some true|some (.inr (v18,_)) =>some v18|none=>none)|some (.inr (v19,_)) =>some v19|none=>none)|some (.inr (v20,_)) =>some v20|none=>none;bif decide (64<(c.Items.length:Int)) then k true else k (decide (2000<(c.Moves.length:Int)))
def qep (p:Patron):Yby:=
 let k17 (v:Bool):Yby:=let k16 (v1:Bool):Yby:=let k15 (v2:Bool):Yby:=let k14 (v13:Int):Yby:=some v13;bif v2 then k14 1 else let k12 (v3:Bool):Yby:=bif v3 then k14 2 else let k10 (v5:Bool):Yby:=let k (v8:Bool):Yby:=bif v8 then k14 3 else bif decide (200<(p.Name.length:Int)) then k14 4 else some 0;bif v5 then k true else match qdb p.Name with|some r7=>k (!(r7==p.Name))|none=>none;bif p.Name==([]) then k10 true else match qcz p.Name with|some r4=>k10 (!r4)|none=>none;bif decide (p.Until<0) then k12 true else k12 (decide (109572<p.Until));bif v1 then k15 true else k15 (decide (4<p.Branch));bif v then k16 true else k16 (decide (p.Branch<1));bif decide (p.Kind<1) then k17 true else k17 (decide (9<p.Kind))
def b8i:YaR→Option (YaR⊕Yac):=λ(last,v,v1,v2,_)=>
 bif decide (v2<v1) then match o0 v v2 with|some x=>let k6 (v3:Bool):Option (YaR⊕Yac):=let k (v4:Int):Option (YaR⊕Yac):=some (.inr (.inr (v4,())));bif v3 then k 2 else bif decide (x.ID≤last) then k 7 else match qep x with|some r5=>bif !(r5==0) then some (.inr (.inr (r5,()))) else some (.inl (x.ID,v,v1,wr .i64 (v2+1),()))|none=>none;bif decide (x.ID<1) then k6 true else k6 (decide (9999<x.ID))|none=>none else some (.inr (.inl (())))
def qa1 (l:List Patron):Yby:=
 bif decide (32<(l.length:Int)) then some 13 else match c6 b8i (0,l,(l.length:Int),0,()) with|some (.inl (_)) =>some 0|some (.inr (v,_)) =>some v|none=>none
def qfd (n:Int):Ybx:=
 let k (v:Bool):Ybx:=some v;bif decide (1≤n) then k (decide (n≤9999)) else k false
def qe9 (n:Int):Ybx:=
 let k (v:Bool):Ybx:=some v;bif decide (0≤n) then k (decide (n≤109572)) else k false
def b5b:(Yad×Yad×Int×Int×Unit)→YbJ:=λ(l,v,v1,v2,_)=>
 bif decide (v2<v1) then match o0 v v2 with|some x=>let k25 (v4:Bool):YbJ:=let k24 (v23:Int):YbJ:=some (.inr (.inr (v23,())));bif v4 then k24 7 else match qfd x.Item with|some r5=>(let k22 (v8:Bool):YbJ:=let k21 (v11:Bool):YbJ:=let k20 (v14:Bool):YbJ:=let k19 (v15:Bool):YbJ:=let k18 (v16:Bool):YbJ:=let k (v17:Bool):YbJ:=bif v17 then k24 2 else some (.inl (l,v,v1,wr .i64 (v2+1),()));bif v16 then k true else k (decide (10<x.Renewals));bif v15 then k18 true else k18 (decide (x.Renewals<0));bif v14 then k19 true else k19 (decide (x.Due<x.Out));bif v11 then k20 true else match qe9 x.Due with|some r13=>k20 (!r13)|none=>none;bif v8 then k21 true else match qe9 x.Out with|some r10=>k21 (!r10)|none=>none;bif !r5 then k22 true else match qfd x.Patron with|some r7=>k22 (!r7)|none=>none)|none=>none;bif decide (0<v2) then match o0 l (wr .i64 (v2-1)) with|some x3=>k25 (decide (x.Item≤x3.Item))|none=>none else k25 false|none=>none else some (.inr (.inl (())))
def qam (l:List Loan):Yby:=
 bif decide (64<(l.length:Int)) then some 13 else match c6 b5b (l,l,(l.length:Int),0,()) with|some (.inl (_)) =>some 0|some (.inr (v,_)) =>some v|none=>none
def qcr (n:Int) (low:Int) (high:Int):Ybx:=
 let k (v:Bool):Ybx:=some v;bif decide (low≤n) then k (decide (n≤high)) else k false
def qe7 (n:Int):Ybx:=
 match qcr n 0 109572 with|some r1=>some r1|none=>none
def qea (h:Hold):Yby:=
 match qcr h.ID 1 99999 with|some r1=>(let k41 (v:Bool):Yby:=let k40 (v6:Bool):Yby:=let k39 (v9:Bool):Yby:=let k38 (v37:Int):Yby:=some v37;bif v9 then k38 2 else match qcr h.Pickup 1 4 with|some r11=>(let k36 (v14:Bool):Yby:=let k35 (v17:Bool):Yby:=let k34 (v20:Bool):Yby:=let k33 (v23:Bool):Yby:=let k32 (v26:Bool):Yby:=bif v26 then k38 2 else match qcr h.State 1 3 with|some r28=>bif !r28 then k38 1 else let k (v29:Bool):Yby:=bif v29 then k38 12 else some 0;bif !((decide (0<h.Got))==(!(h.State==1))) then k true else k (!((decide (0<h.Until))==(h.State==3)))|none=>none;bif v23 then k32 true else match qcr h.Rank 0 9 with|some r25=>k32 (!r25)|none=>none;bif v20 then k33 true else match qe7 h.Asleep with|some r22=>k33 (!r22)|none=>none;bif v17 then k34 true else match qe7 h.Until with|some r19=>k34 (!r19)|none=>none;bif v14 then k35 true else match qcr h.Got 0 9999 with|some r16=>k35 (!r16)|none=>none;bif !r11 then k36 true else match qe7 h.Placed with|some r13=>k36 (!r13)|none=>none)|none=>none;bif v6 then k39 true else match qcr h.Item 0 9999 with|some r8=>k39 (!r8)|none=>none;bif v then k40 true else match qcr h.Record 1 9999 with|some r5=>k40 (!r5)|none=>none;bif !r1 then k41 true else match qcr h.Patron 1 9999 with|some r3=>k41 (!r3)|none=>none)|none=>none
def qc4 (a:Hold) (b:Hold):Ybx:=
 let k (v:Bool):Ybx:=some v;bif a.Patron==b.Patron then k (a.Record==b.Record) else k false
def c7a {γ0:Type} (p:γ0→Hold→Hold→Option Bool):(Yaa×γ0×Int×Int×Int×Int×Int×Unit)→Option ((Yaa×γ0×Int×Int×Int×Int×Int×Unit)⊕((Yaa×γ0×Int×Int×Unit)⊕(Bool×Unit))):=λ(l,g,i,v,v2,v3,v4,_)=>
 bif decide (v4<v3) then match o0 l v4 with|some x=>(match o0 l i with|some x5=>(match p g x x5 with|some r=>bif r then some (.inr (.inr (true,()))) else some (.inl (l,g,i,v,v2,v3,wr .i64 (v4+1),()))|none=>none)|none=>none)|none=>none else some (.inr (.inl (l,g,v,v2,())))
def d0i {γ0:Type} (p:γ0→Hold→Hold→Option Bool):(Yaa×γ0×Int×Int×Unit)→Option ((Yaa×γ0×Int×Int×Unit)⊕Yae):=λ(l,g,v,v1,_)=>
 bif decide (v1<v) then match c6 (c7a p) (l,g,v1,v,v1,v1,0,()) with|some (.inl (l6,g7,v8,v9,_)) =>some (.inl (l6,g7,v8,wr .i64 (v9+1),()))|some (.inr (v10,_)) =>some (.inr (.inr (v10,())))|none=>none else some (.inr (.inl (())))
def qg {γ0:Type} (p:γ0→Hold→Hold→Option Bool) (l:List Hold) (g:γ0):Ybx:=
 match c6 (d0i p) (l,g,(l.length:Int),0,()) with|some (.inl (_)) =>some false|some (.inr (v,_)) =>some v|none=>none
def qd8 (a:Hold) (b:Hold):Ybx:=
 let k (v:Bool):Ybx:=some v;bif a.Got==b.Got then k (decide (0<a.Got)) else k false
def d0k:Ybl→Option (Ybl⊕(YaP⊕Yag)):=λ(l,v,v1,v2,_)=>
 bif decide (v2<v1) then match o0 v v2 with|some x=>let k (v4:Bool):Option (Ybl⊕(YaP⊕Yag)):=bif v4 then some (.inr (.inr (7,()))) else match qea x with|some r5=>bif !(r5==0) then some (.inr (.inr (r5,()))) else some (.inl (l,v,v1,wr .i64 (v2+1),()))|none=>none;bif decide (0<v2) then match o0 l (wr .i64 (v2-1)) with|some x3=>k (decide (x.ID≤x3.ID))|none=>none else k false|none=>none else some (.inr (.inl (l,())))
def qk (l:List Hold):Yby:=
 bif decide (64<(l.length:Int)) then some 13 else match c6 d0k (l,l,(l.length:Int),0,()) with|some (.inl (l6,_)) =>(match qg (λg x0 x1=>qc4 x0 x1) l6 ((),()) with|some r7=>(bif r7 then some 7 else match qg (λg x0 x1=>qd8 x0 x1) l6 ((),()) with|some r9=>bif r9 then some 7 else some 0|none=>none)|none=>none)|some (.inr (v,_)) =>some v|none=>none
def qfr (n:Int):Ybx:=
 let k (v:Bool):Ybx:=some v;bif decide (1≤n) then k (decide (n≤9999)) else k false
def qeu (n:Int):Ybx:=
 let k (v:Bool):Ybx:=some v;bif decide (0≤n) then k (decide (n≤109572)) else k false
def qcu (x:Charge):Yby:=
 let k22 (v:Bool):Yby:=let k21 (v2:Bool):Yby:=let k20 (v5:Bool):Yby:=let k19 (v8:Bool):Yby:=let k18 (v17:Int):Yby:=some v17;bif v8 then k18 2 else let k16 (v9:Bool):Yby:=bif v9 then k18 1 else let k14 (v10:Bool):Yby:=let k13 (v11:Bool):Yby:=let k (v12:Bool):Yby:=bif v12 then k18 2 else some 0;bif v11 then k true else k (decide (x.Amount≤x.Paid));bif v10 then k13 true else k13 (decide (x.Paid<0));bif decide (x.Amount<1) then k14 true else k14 (decide (100000000<x.Amount));bif decide (x.Kind<1) then k16 true else k16 (decide (3<x.Kind));bif v5 then k19 true else match qeu x.Day with|some r7=>k19 (!r7)|none=>none;bif v2 then k20 true else match qfr x.Item with|some r4=>k20 (!r4)|none=>none;bif v then k21 true else match qfr x.Patron with|some r1=>k21 (!r1)|none=>none;bif decide (x.ID<1) then k22 true else k22 (decide (99999<x.ID))
def b5f:Ybm→Option (Ybm⊕Yac):=λ(l,v,v1,v2,_)=>
 bif decide (v2<v1) then match o0 v v2 with|some x=>let k (v4:Bool):Option (Ybm⊕Yac):=bif v4 then some (.inr (.inr (7,()))) else match qcu x with|some r5=>bif !(r5==0) then some (.inr (.inr (r5,()))) else some (.inl (l,v,v1,wr .i64 (v2+1),()))|none=>none;bif decide (0<v2) then match o0 l (wr .i64 (v2-1)) with|some x3=>k (decide (x.ID≤x3.ID))|none=>none else k false|none=>none else some (.inr (.inl (())))
def qax (l:List Charge):Yby:=
 bif decide (128<(l.length:Int)) then some 13 else match c6 b5f (l,l,(l.length:Int),0,()) with|some (.inl (_)) =>some 0|some (.inr (v,_)) =>some v|none=>none
def qci (n:Int) (least:Int) (most:Int):Ybx:=
 let k (v:Bool):Ybx:=some v;bif decide (least≤n) then k (decide (n≤most)) else k false
def qdj (r:Rule):Ybx:=
 match qci r.Patron 0 9 with|some r2=>let k48 (v:Bool):Ybx:=let k47 (v7:Bool):Ybx:=let k46 (v10:Bool):Ybx:=let k45 (v13:Bool):Ybx:=let k44 (v16:Bool):Ybx:=let k43 (v19:Bool):Ybx:=let k42 (v22:Bool):Ybx:=let k41 (v25:Bool):Ybx:=let k40 (v28:Bool):Ybx:=let k39 (v31:Bool):Ybx:=let k38 (v34:Bool):Ybx:=let k (v37:Bool):Ybx:=some v37;bif v34 then match qci r.Rank 0 9 with|some r36=>k r36|none=>none else k false;bif v31 then match qci r.Fixed 0 109572 with|some r33=>k38 r33|none=>none else k38 false;bif v28 then match qci r.Recall 1 60 with|some r30=>k39 r30|none=>none else k39 false;bif v25 then match qci r.Shelf 1 60 with|some r27=>k40 r27|none=>none else k40 false;bif v22 then match qci r.Loans 0 99 with|some r24=>k41 r24|none=>none else k41 false;bif v19 then match qci r.MaxFine 0 100000000 with|some r21=>k42 r21|none=>none else k42 false;bif v16 then match qci r.Grace 0 30 with|some r18=>k43 r18|none=>none else k43 false;bif v13 then match qci r.Fine 0 1000 with|some r15=>k44 r15|none=>none else k44 false;bif v10 then match qci r.Renewals 0 10 with|some r12=>k45 r12|none=>none else k45 false;bif v7 then match qci r.Days 0 365 with|some r9=>k46 r9|none=>none else k46 false;bif v then match qci r.Branch 0 4 with|some r6=>k47 r6|none=>none else k47 false;bif r2 then match qci r.Item 0 9 with|some r4=>k48 r4|none=>none else k48 false|none=>none
def qc8 (o:Rule) (v:Rule):Ybx:=
 let k3 (v1:Bool):Ybx:=let k (v2:Bool):Ybx:=some v2;bif v1 then k (o.Branch==v.Branch) else k false;bif o.Patron==v.Patron then k3 (o.Item==v.Item) else k3 false
def b8l {γ0:Type} (p:γ0→Rule→Option Bool):(Yay×γ0×Int×Int×Unit)→Option ((Yay×γ0×Int×Int×Unit)⊕Yac):=λ(s,g,v,v1,_)=>
 bif decide (v1<v) then match o0 s v1 with|some x=>(match p g x with|some r=>bif r then some (.inr (.inr (v1,()))) else some (.inl (s,g,v,wr .i64 (v1+1),()))|none=>none)|none=>none else some (.inr (.inl (())))
def qa8 {γ0:Type} (p:γ0→Rule→Option Bool) (s:List Rule) (g:γ0):Yby:=
 match c6 (b8l p) (s,g,(s.length:Int),0,()) with|some (.inl (_)) =>some (-1)|some (.inr (v,_)) =>some v|none=>none
def qfe {γ0:Type} (p:γ0→Rule→Option Bool) (s:List Rule) (g:γ0):Ybx:=
 match qa8 p s g with|some r1=>some (decide (0≤r1))|none=>none
def d9p:(Yay×Yay×Int×Int×Unit)→Option ((Yay×Yay×Int×Int×Unit)⊕Yac):=λ(l,v,v1,v2,_)=>
 bif decide (v2<v1) then match o0 v v2 with|some x=>(match qdj x with|some r3=>bif !r3 then some (.inr (.inr (2,()))) else bif decide (0≤(0:Int))&&(decide ((0:Int)≤v2)&&decide (v2≤(l.length:Int))) then match qfe (λg x0=>qc8 x0 g.2.1) ((l.take v2.toNat).drop (0:Int).toNat) ((),(x,())) with|some r5=>bif r5 then some (.inr (.inr (7,()))) else some (.inl (l,v,v1,wr .i64 (v2+1),()))|none=>none else none|none=>none)|none=>none else some (.inr (.inl (())))
def qx (l:List Rule):Yby:=
 bif decide (32<(l.length:Int)) then some 13 else match c6 d9p (l,l,(l.length:Int),0,()) with|some (.inl (_)) =>some 0|some (.inr (v,_)) =>some v|none=>none
def qdp (d:Int):Ybx:=
 let k (v:Bool):Ybx:=some v;bif decide (0≤d) then k (decide (d≤109572)) else k false
def qdn (d:Int):Ybx:=
 match qdp d with|some r1=>some (!r1)|none=>none
def b8m {γ0:Type} (p:γ0→Int→Option Bool):(Yal×γ0×Int×Int×Unit)→Option ((Yal×γ0×Int×Int×Unit)⊕Yac):=λ(s,g,v,v1,_)=>
 bif decide (v1<v) then match o0 s v1 with|some x=>(match p g x with|some r=>bif r then some (.inr (.inr (v1,()))) else some (.inl (s,g,v,wr .i64 (v1+1),()))|none=>none)|none=>none else some (.inr (.inl (())))
def qa9 {γ0:Type} (p:γ0→Int→Option Bool) (s:List Int) (g:γ0):Yby:=
 match c6 (b8m p) (s,g,(s.length:Int),0,()) with|some (.inl (_)) =>some (-1)|some (.inr (v,_)) =>some v|none=>none
def qff {γ0:Type} (p:γ0→Int→Option Bool) (s:List Int) (g:γ0):Ybx:=
 match qa9 p s g with|some r1=>some (decide (0≤r1))|none=>none
def d0q:Ybb→Option (Ybb⊕Yac):=λ(v,v4,v5,c,_)=>
 bif decide (v5<v4) then match o0 v v5 with|some x=>let k (v7:Bool):Option (Ybb⊕Yac):=bif v7 then some (.inr (.inr (7,()))) else some (.inl (v,v4,wr .i64 (v5+1),c,()));bif decide (0<v5) then match o0 c.Closed (wr .i64 (v5-1)) with|some x6=>k (decide (x≤x6))|none=>none else k false|none=>none else some (.inr (.inl (())))
def qv (c:Calendar):Yby:=
 let k9 (v:Bool):Yby:=let k (v3:Int):Yby:=some v3;bif v then k 1 else bif decide (64<(c.Closed.length:Int)) then k 13 else match qff (λg x0=>qdn x0) c.Closed ((),()) with|some r1=>(bif r1 then k 2 else match c6 d0q (c.Closed,(c.Closed.length:Int),0,c,()) with|some (.inl (_)) =>some 0|some (.inr (v8,_)) =>some v8|none=>none)|none=>none;bif decide (c.Week<0) then k9 true else k9 (decide (127≤c.Week))
def c7b:Ya8→Option (Ya8⊕Yam):=λ(v,v13,c,_)=>
 bif decide (v13<4) then let k (v14:Int) (v15:List Int):Option (Ya8⊕Yam):=match qv (⟨v14,v15⟩:Calendar) with|some r16=>bif !(r16==0) then some (.inr (.inr (false,()))) else some (.inl (v,wr .i64 (v13+1),c,()))|none=>none;bif v13==0 then k v.x0.Week v.x0.Closed else bif v13==1 then k v.x1.Week v.x1.Closed else bif v13==2 then k v.x2.Week v.x2.Closed else bif v13==3 then k v.x3.Week v.x3.Closed else none else some (.inr (.inl (c,())))
def b9n:YaF→Option (YaF⊕Yam):=λ(v,v23,v24,c,_)=>
 bif decide (v24<v23) then match o0 v v24 with|some x=>bif decide (c.NextHold≤x.ID) then some (.inr (.inr (false,()))) else some (.inl (v,v23,wr .i64 (v24+1),c,()))|none=>none else some (.inr (.inl (c,())))
def b9o:Ya1→Option (Ya1⊕Yae):=λ(v,v26,v27,c,_)=>
 bif decide (v27<v26) then match o0 v v27 with|some x=>bif decide (c.NextCharge≤x.ID) then some (.inr (.inr (false,()))) else some (.inl (v,v26,wr .i64 (v27+1),c,()))|none=>none else some (.inr (.inl (())))
def qs (c:Circ):Ybx:=
 match qa1 c.Patrons with|some r1=>(let k34 (v:Bool):Ybx:=let k33 (v6:Bool):Ybx:=let k32 (v9:Bool):Ybx:=let k31 (v12:Bool):Ybx:=bif v12 then some false else match c6 c7b (c.Cals,0,c,()) with|some (.inl (c17,_)) =>(match qbb c17.NextHold 1 100000 with|some r19=>(let k (v22:Bool):Ybx:=bif v22 then some false else match c6 b9n (c17.Holds,(c17.Holds.length:Int),0,c17,()) with|some (.inl (c25,_)) =>(match c6 b9o (c25.Charges,(c25.Charges.length:Int),0,c25,()) with|some (.inl (_)) =>some true|some (.inr (v28,_)) =>some v28|none=>none)|some (.inr (v29,_)) =>some v29|none=>none;bif !r19 then k true else match qbb c17.NextCharge 1 100000 with|some r21=>k (!r21)|none=>none)|none=>none)|some (.inr (v30,_)) =>some v30|none=>none;bif v9 then k31 true else match qx c.Rules with|some r11=>k31 (!(r11==0))|none=>none;bif v6 then k32 true else match qax c.Charges with|some r8=>k32 (!(r8==0))|none=>none;bif v then k33 true else match qk c.Holds with|some r5=>k33 (!(r5==0))|none=>none;bif !(r1==0) then k34 true else match qam c.Loans with|some r3=>k34 (!(r3==0))|none=>none)|none=>none
def qdo (p:Patron) (v:Int):Ybx:=
 some (p.ID==v)
def b82 {γ0:Type} (p:γ0→Patron→Option Bool):(Ybt×γ0×Int×Int×Unit)→Option ((Ybt×γ0×Int×Int×Unit)⊕Yac):=λ(s,g,v,v1,_)=>
 bif decide (v1<v) then match o0 s v1 with|some x=>(match p g x with|some r=>bif r then some (.inr (.inr (v1,()))) else some (.inl (s,g,v,wr .i64 (v1+1),()))|none=>none)|none=>none else some (.inr (.inl (())))
def qbh {γ0:Type} (p:γ0→Patron→Option Bool) (s:List Patron) (g:γ0):Yby:=
 match c6 (b82 p) (s,g,(s.length:Int),0,()) with|some (.inl (_)) =>some (-1)|some (.inr (v,_)) =>some v|none=>none
def qbm (l:List Patron) (vid:Int):Yby:=
 match qbh (λg x0=>qdo x0 g.2.1) l ((),(vid,())) with|some r1=>some r1|none=>none
def qc0 (l:List Patron) (vid:Int):Option (Patron×Bool):=
 match qbm l vid with|some r1=>(bif decide (r1<0) then some ((⟨0,0,0,0,false,[]⟩:Patron),false) else match o0 l r1 with|some x=>some (x,true)|none=>none)|none=>none
def qcv (vid:Int) (v:Circ):Ybx:=
 match qc0 v.Patrons vid with|some (r1,r2) =>some r2|none=>none
def d0j:Ybh→Option (Ybh⊕Yam):=λ(v,v1,v2,c,_)=>
 bif decide (v2<v1) then match o0 v v2 with|some x=>(match qcv x.Patron c with|some r3=>(let k (v6:Bool):Option (Ybh⊕Yam):=bif v6 then some (.inr (.inr (false,()))) else some (.inl (v,v1,wr .i64 (v2+1),c,()));bif !r3 then k true else match qr c x.Item with|some r5=>k (decide (r5<0))|none=>none)|none=>none)|none=>none else some (.inr (.inl (c,())))
def d9e:YaF→Option (YaF⊕Yam):=λ(v,v8,v9,c,_)=>
 bif decide (v9<v8) then match o0 v v9 with|some x=>(match qcv x.Patron c with|some r10=>bif !r10 then some (.inr (.inr (false,()))) else some (.inl (v,v8,wr .i64 (v9+1),c,()))|none=>none)|none=>none else some (.inr (.inl (c,())))
def b9j:Ya1→Option (Ya1⊕Yae):=λ(v,v12,v13,c,_)=>
 bif decide (v13<v12) then match o0 v v13 with|some x=>(match qcv x.Patron c with|some r14=>bif !r14 then some (.inr (.inr (false,()))) else some (.inl (v,v12,wr .i64 (v13+1),c,()))|none=>none)|none=>none else some (.inr (.inl (())))
def qi (c:Circ):Ybx:=
 match c6 d0j (c.Loans,(c.Loans.length:Int),0,c,()) with|some (.inl (c7,_)) =>(match c6 d9e (c7.Holds,(c7.Holds.length:Int),0,c7,()) with|some (.inl (c11,_)) =>(match c6 b9j (c11.Charges,(c11.Charges.length:Int),0,c11,()) with|some (.inl (_)) =>some true|some (.inr (v,_)) =>some v|none=>none)|some (.inr (v15,_)) =>some v15|none=>none)|some (.inr (v16,_)) =>some v16|none=>none
def qan (item:Int):Option Yag:=
 some (item,())
def qcx (n:Loan) (v:Int):Ybx:=
 some (n.Item==v)
def b17 {γ0:Type} (p:γ0→Loan→Option Bool):(Yad×γ0×Int×Int×Unit)→Option ((Yad×γ0×Int×Int×Unit)⊕Yac):=λ(s,g,v,v1,_)=>
 bif decide (v1<v) then match o0 s v1 with|some x=>(match p g x with|some r=>bif r then some (.inr (.inr (v1,()))) else some (.inl (s,g,v,wr .i64 (v1+1),()))|none=>none)|none=>none else some (.inr (.inl (())))
def qf {γ0:Type} (p:γ0→Loan→Option Bool) (s:List Loan) (g:γ0):Yby:=
 match c6 (b17 p) (s,g,(s.length:Int),0,()) with|some (.inl (_)) =>some (-1)|some (.inr (v,_)) =>some v|none=>none
def qch {γ0:Type} (p:γ0→Loan→Option Bool) (l:List Loan) (g:γ0):Option (Loan×Int):=
 match qf p l g with|some r1=>(bif decide (r1<0) then some ((⟨0,0,0,0,0,false⟩:Loan),(-1)) else match o0 l r1 with|some x=>some (x,r1)|none=>none)|none=>none
def qcl (l:List Loan) (item:Int):Option (Loan×Bool):=
 match qan item with|some r1=>(match qch (λg x0=>qcx x0 g.2.1) l ((),(r1.1,())) with|some (r3,r4) =>some (r3,decide (0≤r4))|none=>none)|none=>none
def b88:Yai→YbL:=λ(v,v1,v2,c,_)=>
 bif decide (v2<v1) then match o0 v v2 with|some x=>(match qcl c.Loans x.ID with|some (r3,r4) =>let k10 (v5:Bool):YbL:=let k9 (v6:Bool):YbL:=let k (v8:Bool):YbL:=bif v8 then some (.inr (.inr (false,()))) else some (.inl (v,v1,wr .i64 (v2+1),c,()));bif !(r4==v6) then k true else bif r4 then k (!(r3.Patron==x.Custody.Who)) else k false;bif v5 then k9 true else k9 (x.Custody.State==10);bif x.Custody.State==4 then k10 true else k10 (x.Custody.State==9)|none=>none)|none=>none else some (.inr (.inl (())))
def qbt (c:Circ):Ybx:=
 match c6 b88 (c.Items,(c.Items.length:Int),0,c,()) with|some (.inl (_)) =>some true|some (.inr (v,_)) =>some v|none=>none
def qdk (h:Hold) (v:Int):Ybx:=
 some (h.Got==v)
def b7d {γ0:Type} (p:γ0→Hold→Option Bool):(Yaa×γ0×Int×Int×Unit)→Option ((Yaa×γ0×Int×Int×Unit)⊕Yac):=λ(s,g,v,v1,_)=>
 bif decide (v1<v) then match o0 s v1 with|some x=>(match p g x with|some r=>bif r then some (.inr (.inr (v1,()))) else some (.inl (s,g,v,wr .i64 (v1+1),()))|none=>none)|none=>none else some (.inr (.inl (())))
def qb {γ0:Type} (p:γ0→Hold→Option Bool) (s:List Hold) (g:γ0):Yby:=
 match c6 (b7d p) (s,g,(s.length:Int),0,()) with|some (.inl (_)) =>some (-1)|some (.inr (v,_)) =>some v|none=>none
def qaq (c:Circ) (item:Int):Option (Hold×Bool):=
 match qb (λg x0=>qdk x0 g.2.1) c.Holds ((),(item,())) with|some r1=>(bif decide (r1<0) then some ((⟨0,0,0,0,0,0,0,0,0,0,0⟩:Hold),false) else match o0 c.Holds r1 with|some x=>some (x,true)|none=>none)|none=>none
def b5a:YaF→Option (YaF⊕Yam):=λ(v,v1,v2,c,_)=>
 bif decide (v2<v1) then match o0 v v2 with|some x=>(bif x.State==1 then some (.inl (v,v1,wr .i64 (v2+1),c,())) else match qr c x.Got with|some r3=>(let k9 (v5:Bool):Option (YaF⊕Yam):=bif v5 then some (.inr (.inr (false,()))) else match o0 c.Items r3 with|some x6=>let k (want:Int) (want7:Int) (want8:Int):Option (YaF⊕Yam):=bif !(u7 x6.Custody (⟨want,want7,x.Patron,want8⟩:Custody)) then some (.inr (.inr (false,()))) else some (.inl (v,v1,wr .i64 (v2+1),c,()));bif x.State==2 then k 6 x6.Custody.Branch x.Pickup else k 5 x.Pickup 0|none=>none;bif decide (r3<0) then k9 true else match o0 c.Items r3 with|some x4=>k9 (!(x4.Record==x.Record))|none=>none)|none=>none)|none=>none else some (.inr (.inl (c,())))
def b04:Yai→YbL:=λ(v,v11,v12,c,_)=>
 bif decide (v12<v11) then match o0 v v12 with|some x=>(match qaq c x.ID with|some (r13,r14) =>let k (v16:Bool):YbL:=bif v16 then some (.inr (.inr (false,()))) else some (.inl (v,v11,wr .i64 (v12+1),c,()));bif x.Custody.State==5 then bif !r14 then k true else k (!(r13.State==3)) else k false|none=>none)|none=>none else some (.inr (.inl (())))
def qal (c:Circ):Ybx:=
 match c6 b5a (c.Holds,(c.Holds.length:Int),0,c,()) with|some (.inl (c10,_)) =>(match c6 b04 (c10.Items,(c10.Items.length:Int),0,c10,()) with|some (.inl (_)) =>some true|some (.inr (v,_)) =>some v|none=>none)|some (.inr (v17,_)) =>some v17|none=>none
def qfy (c:Circ):Ybx:=
 match qbb c.Today 0 109572 with|some r1=>let k19 (v:Bool):Ybx:=let k18 (v6:Bool):Ybx:=let k17 (v9:Bool):Ybx:=let k16 (v12:Bool):Ybx:=let k (v15:Bool):Ybx:=some v15;bif v12 then match qal c with|some r14=>k r14|none=>none else k false;bif v9 then match qbt c with|some r11=>k16 r11|none=>none else k16 false;bif v6 then match qi c with|some r8=>k17 r8|none=>none else k17 false;bif v then match qs c with|some r5=>k18 r5|none=>none else k18 false;bif r1 then match qt c with|some r3=>k19 r3|none=>none else k19 false|none=>none
def qdi (n:Int) (least:Int) (most:Int):Ybx:=
 let k (v:Bool):Ybx:=some v;bif decide (least≤n) then k (decide (n≤most)) else k false
def qd6 (x:Off):Yby:=
 match qdi x.Device 1 9 with|some r1=>(let k24 (v:Bool):Yby:=let k23 (v6:Bool):Yby:=let k22 (v9:Bool):Yby:=let k21 (v12:Bool):Yby:=bif v12 then some 2 else match qdi x.Kind 1 3 with|some r14=>bif !r14 then some 1 else let k20 (v17:Bool):Yby:=let k (v19:Bool):Yby:=bif v19 then some 2 else some 0;bif v17 then k true else bif !(x.Kind==1) then k (!(x.Patron==0)) else k false;bif x.Kind==1 then match qdi x.Patron 1 9999 with|some r16=>k20 (!r16)|none=>none else k20 false|none=>none;bif v9 then k21 true else match qdi x.Branch 1 4 with|some r11=>k21 (!r11)|none=>none;bif v6 then k22 true else match qdi x.Item 1 9999 with|some r8=>k22 (!r8)|none=>none;bif v then k23 true else match qdi x.Day 0 109572 with|some r5=>k23 (!r5)|none=>none;bif !r1 then k24 true else match qdi x.Seq 1 9999 with|some r3=>k24 (!r3)|none=>none)|none=>none
def qcq (y:Off) (v:Off):Ybx:=
 let k (v1:Bool):Ybx:=some v1;bif v.Device==y.Device then k (v.Seq==y.Seq) else k false
def b8x {γ0:Type} (p:γ0→Off→Option Bool):(Yas×γ0×Int×Int×Unit)→Option ((Yas×γ0×Int×Int×Unit)⊕Yac):=λ(s,g,v,v1,_)=>
 bif decide (v1<v) then match o0 s v1 with|some x=>(match p g x with|some r=>bif r then some (.inr (.inr (v1,()))) else some (.inl (s,g,v,wr .i64 (v1+1),()))|none=>none)|none=>none else some (.inr (.inl (())))
def qba {γ0:Type} (p:γ0→Off→Option Bool) (s:List Off) (g:γ0):Yby:=
 match c6 (b8x p) (s,g,(s.length:Int),0,()) with|some (.inl (_)) =>some (-1)|some (.inr (v,_)) =>some v|none=>none
def qfg {γ0:Type} (p:γ0→Off→Option Bool) (s:List Off) (g:γ0):Ybx:=
 match qba p s g with|some r1=>some (decide (0≤r1))|none=>none
def b5e:(Int×Int×Yal×Unit)→Option ((Int×Int×Yal×Unit)⊕Yac):=λ(v,v1,l,_)=>
 bif decide (v1<v) then match o0 l v1 with|some _=>(match l[v1.toNat]? with|some x=>bif !(x==0) then some (.inr (.inr (x,()))) else some (.inl (v,wr .i64 (v1+1),l,()))|none=>none)|none=>none else some (.inr (.inl (())))
def qav (a:Off) (b:Off):Yby:=
 match c6 b5e ((([wr .i64 (a.Day-b.Day),wr .i64 (a.Device-b.Device),wr .i64 (a.Seq-b.Seq)]).length:Int),0,[wr .i64 (a.Day-b.Day),wr .i64 (a.Device-b.Device),wr .i64 (a.Seq-b.Seq)],()) with|some (.inl (_)) =>some 0|some (.inr (v,_)) =>some v|none=>none
def c6y {γ0:Type} (p:γ0→Off→Off→Option Int):(Yas×γ0×Int×Unit)→Option ((Yas×γ0×Int×Unit)⊕Yae):=λ(x,g,i,_)=>
 bif decide (0<i) then match o0 x i with|some x1=>(match o0 x (wr .i64 (i-1)) with|some x2=>(match p g x1 x2 with|some r=>bif decide (r<0) then some (.inr (.inr (false,()))) else some (.inl (x,g,wr .i64 (i-1),()))|none=>none)|none=>none)|none=>none else some (.inr (.inl (())))
def qa7 {γ0:Type} (p:γ0→Off→Off→Option Int) (x:List Off) (g:γ0):Ybx:=
 match c6 (c6y p) (x,g,wr .i64 ((x.length:Int)-1),()) with|some (.inl (_)) =>some true|some (.inr (v,_)) =>some v|none=>none
def d9h:Ya4→Option (Ya4⊕Ybi):=λ(l,v,v1,v2,_)=>
 bif decide (v2<v1) then match o0 v v2 with|some x=>(match qd6 x with|some r3=>bif !(r3==0) then some (.inr (.inr (r3,()))) else some (.inl (l,v,v1,wr .i64 (v2+1),()))|none=>none)|none=>none else some (.inr (.inl (l,())))
def b9l:Ya4→Option (Ya4⊕Ybi):=λ(l,v,v5,v6,_)=>
 bif decide (v6<v5) then match o0 v v6 with|some x=>bif decide (0≤(0:Int))&&(decide ((0:Int)≤v6)&&decide (v6≤(l.length:Int))) then match qfg (λg x0=>qcq x0 g.2.1) ((l.take v6.toNat).drop (0:Int).toNat) ((),(x,())) with|some r7=>bif r7 then some (.inr (.inr (7,()))) else some (.inl (l,v,v5,wr .i64 (v6+1),()))|none=>none else none|none=>none else some (.inr (.inl (l,())))
def ql (l:List Off):Yby:=
 bif decide (128<(l.length:Int)) then some 13 else match c6 d9h (l,l,(l.length:Int),0,()) with|some (.inl (l4,_)) =>(match c6 b9l (l4,l4,(l4.length:Int),0,()) with|some (.inl (l8,_)) =>(match qa7 (λg x0 x1=>qav x0 x1) l8 ((),()) with|some r9=>bif !r9 then some 3 else some 0|none=>none)|some (.inr (v,_)) =>some v|none=>none)|some (.inr (v10,_)) =>some v10|none=>none
def qc7 (n:Loan) (v:Off):Ybx:=
 some (n.Item==v.Item)
def qf7 {γ0:Type} (p:γ0→Loan→Option Bool) (s:List Loan) (g:γ0):Ybx:=
 match qf p s g with|some r1=>some (decide (0≤r1))|none=>none
def qdl (c:Circ):Option Circ_desk:=
 some (⟨c,0⟩:Circ_desk)
def qz (e:Int) (d:Circ_desk):YbB:=
 let k (v:Int):YbB:=some ((),(⟨d.c,v⟩:Circ_desk));bif d.err==0 then k e else k d.err
def qez (vid:Int) (d:Circ_desk):Option Ybu:=
 match qr d.c vid with|some r1=>let k (v3:Circ_desk):Option Ybu:=some (r1,v3);bif decide (r1<0) then match qz 9 d with|some (_,v) =>k v|none=>none else k d|none=>none
def qcm (n:Int) (d:Circ_desk):Option (Yav×Circ_desk):=
 bif !(d.err==0) then some ((ZN,0,d.err),d) else some ((d.c,n,0),d)
def qd3 (s:List Item):Option (List Item):=
 bif decide (([]:List Item).length+s.length≤LIM) then some (([])++s) else none
def qd2 (s:List Move):Option (List Move):=
 bif decide (([]:List Move).length+s.length≤LIM) then some (([])++s) else none
def qbw (i:Int) (kind:Int) (branch:Int) (who:Int) (d:Circ_desk):YbB:=
 bif !(d.err==0) then some ((),d) else match o0 d.c.Items i with|some x=>(match o0 d.c.Items i with|some x1=>(match qen x1.Custody (⟨d.c.Today,x.ID,kind,branch,who⟩:Move) with|some (r2,r3) =>let k10 (v:Bool):YbB:=let k (e:Int):YbB:=bif !(e==0) then match qz e d with|some (_,v5) =>some ((),v5)|none=>none else match qd3 d.c.Items with|some l=>(match o0 l i with|some _=>(match l[i.toNat]? with|some x7=>(match qd2 d.c.Moves with|some l9=>bif decide (l9.length+([(⟨d.c.Today,x.ID,kind,branch,who⟩:Move)]:List Move).length≤LIM) then some ((),(⟨⟨d.c.Today,l.set i.toNat (⟨x7.ID,x7.Record,x7.Branch,x7.Kind,x7.Price,x7.Call,r2⟩:Item),d.c.Patrons,d.c.Loans,d.c.Holds,d.c.Charges,d.c.Rules,d.c.Cals,l9++([(⟨d.c.Today,x.ID,kind,branch,who⟩:Move)]:List Move),d.c.NextHold,d.c.NextCharge,d.c.Local⟩,d.err⟩:Circ_desk)) else none|none=>none)|none=>none)|none=>none)|none=>none;bif v then k 13 else k r3;bif r3==0 then k10 (decide (2000≤(d.c.Moves.length:Int))) else k10 false|none=>none)|none=>none)|none=>none
def qcp (s:List Loan):YbQ:=
 bif decide (([]:List Loan).length+s.length≤LIM) then some (([])++s) else none
def qf8 (l:List Loan) (i:Int):YbQ:=
 match qcp l with|some l1=>(match qc6 l1 i (wr .i64 (i+1)) with|some l3=>some l3|none=>none)|none=>none
def qev (l:List Loan) (item:Int):Option (Yad×Loan×Int):=
 match qan item with|some r1=>(match qch (λg x0=>qcx x0 g.2.1) l ((),(r1.1,())) with|some (r3,r4) =>(bif decide (r4<0) then some ([],(⟨0,0,0,0,0,false⟩:Loan),9) else match qf8 l r4 with|some r6=>some (r6,r3,0)|none=>none)|none=>none)|none=>none
def qdg (l:List Loan) (e:Int) (d:Circ_desk):YbB:=
 let k3 (v1:Circ_desk):YbB:=let k (v2:List Loan):YbB:=some ((),(⟨⟨v1.c.Today,v1.c.Items,v1.c.Patrons,v2,v1.c.Holds,v1.c.Charges,v1.c.Rules,v1.c.Cals,v1.c.Moves,v1.c.NextHold,v1.c.NextCharge,v1.c.Local⟩,v1.err⟩:Circ_desk));bif v1.err==0 then k l else k v1.c.Loans;bif !(e==0) then match qz e d with|some (_,v) =>k3 v|none=>none else k3 d
def qe1 (key:Int) (n:Int):Ybx:=
 let k (v:Bool):Ybx:=some v;bif key==0 then k true else k (key==n)
def qco (r:Rule) (patron:Int) (item:Int) (branch:Int):Ybx:=
 match qe1 r.Patron patron with|some r2=>let k8 (v:Bool):Ybx:=let k (v7:Bool):Ybx:=some v7;bif v then match qe1 r.Branch branch with|some r6=>k r6|none=>none else k false;bif r2 then match qe1 r.Item item with|some r4=>k8 r4|none=>none else k8 false|none=>none
def b1l:Ybn→Option (Ybn⊕(Yag)):=λ(n,v,v1,l,_)=>
 bif decide (v1<v) then match o0 l v1 with|some _=>(match l[v1.toNat]? with|some x=>let k (n2:Int):Option (Ybn⊕(Yag)):=some (.inl (n2,v,wr .i64 (v1+1),l,()));bif !(x==0) then k (wr .i64 ((wr .i64 (n*2))+1)) else k (wr .i64 (n*2))|none=>none)|none=>none else some (.inr ((n,())))
def qbj (r:Rule):Yby:=
 match c6 b1l (0,(([r.Patron,r.Item,r.Branch]).length:Int),0,[r.Patron,r.Item,r.Branch],()) with|some ((n,_)) =>some n|none=>none
def b5g:YaL→Option (YaL⊕(Yag)):=λ(l,patron,item,branch,vat,v,v1,v2,_)=>
 bif decide (v2<v1) then match o0 v v2 with|some x=>(match qco x patron item branch with|some r3=>let k12 (v10:Bool):Option (YaL⊕(Yag)):=let k (vat11:Int):Option (YaL⊕(Yag)):=some (.inl (l,patron,item,branch,vat11,v,v1,wr .i64 (v2+1),()));bif v10 then k v2 else k vat;bif r3 then bif decide (vat<0) then k12 true else match qbj x with|some r5=>(match o0 l vat with|some x6=>(match qbj x6 with|some r8=>k12 (decide (r8<r5))|none=>none)|none=>none)|none=>none else k12 false|none=>none)|none=>none else some (.inr ((vat,())))
def qaz (l:List Rule) (patron:Int) (item:Int) (branch:Int):Yby:=
 match c6 b5g (l,patron,item,branch,(-1),l,(l.length:Int),0,()) with|some ((vat,_)) =>some vat|none=>none
def qdt (l:List Rule) (patron:Int) (item:Int) (branch:Int):Option (Rule×Bool):=
 match qaz l patron item branch with|some r1=>(bif decide (r1<0) then some ((⟨0,0,0,0,0,0,0,0,0,0,0,0,0⟩:Rule),false) else match o0 l r1 with|some x=>some (x,true)|none=>none)|none=>none
def qc1 (c:Circ) (vid:Int) (x:Item):Option (Rule×Bool):=
 match qc0 c.Patrons vid with|some (r1,r2) =>(bif !r2 then some ((⟨0,0,0,0,0,0,0,0,0,0,0,0,0⟩:Rule),false) else match qdt c.Rules r1.Kind x.Kind x.Branch with|some (r4,r5) =>some (r4,r5)|none=>none)|none=>none
def qc2 (c:Circ) (branch:Int):YbO:=
 match qbb branch 1 4 with|some r1=>bif !r1 then some (⟨0,[]⟩:Calendar) else let k (v:Int) (v2:List Int):YbO:=some (⟨v,v2⟩:Calendar);bif (wr .i64 (branch-1))==0 then k c.Cals.x0.Week c.Cals.x0.Closed else bif (wr .i64 (branch-1))==1 then k c.Cals.x1.Week c.Cals.x1.Closed else bif (wr .i64 (branch-1))==2 then k c.Cals.x2.Week c.Cals.x2.Closed else bif (wr .i64 (branch-1))==3 then k c.Cals.x3.Week c.Cals.x3.Closed else none|none=>none
def e7c:(Int×Calendar×Ybj×Ybj×Unit)→Option ((Int×Calendar×Ybj×Ybj×Unit)⊕((Ybj×Ybj×Unit))):=λ(v,c,v1,vopen,_)=>
 bif decide (v<7) then bif decide (v<0) then none else bif v==0 then some (.inl (wr .i64 (v+1),c,v1,(⟨(wr .i64 (BitVec.ofInt 64 (c.Week.fdiv (2 ^ (min v.toNat 64))) &&& BitVec.ofInt 64 1).toNat)==0,vopen.x1,vopen.x2,vopen.x3,vopen.x4,vopen.x5,vopen.x6⟩:V7 Bool),())) else bif v==1 then some (.inl (wr .i64 (v+1),c,v1,(⟨vopen.x0,(wr .i64 (BitVec.ofInt 64 (c.Week.fdiv (2 ^ (min v.toNat 64))) &&& BitVec.ofInt 64 1).toNat)==0,vopen.x2,vopen.x3,vopen.x4,vopen.x5,vopen.x6⟩:V7 Bool),())) else bif v==2 then some (.inl (wr .i64 (v+1),c,v1,(⟨vopen.x0,vopen.x1,(wr .i64 (BitVec.ofInt 64 (c.Week.fdiv (2 ^ (min v.toNat 64))) &&& BitVec.ofInt 64 1).toNat)==0,vopen.x3,vopen.x4,vopen.x5,vopen.x6⟩:V7 Bool),())) else bif v==3 then some (.inl (wr .i64 (v+1),c,v1,(⟨vopen.x0,vopen.x1,vopen.x2,(wr .i64 (BitVec.ofInt 64 (c.Week.fdiv (2 ^ (min v.toNat 64))) &&& BitVec.ofInt 64 1).toNat)==0,vopen.x4,vopen.x5,vopen.x6⟩:V7 Bool),())) else bif v==4 then some (.inl (wr .i64 (v+1),c,v1,(⟨vopen.x0,vopen.x1,vopen.x2,vopen.x3,(wr .i64 (BitVec.ofInt 64 (c.Week.fdiv (2 ^ (min v.toNat 64))) &&& BitVec.ofInt 64 1).toNat)==0,vopen.x5,vopen.x6⟩:V7 Bool),())) else bif v==5 then some (.inl (wr .i64 (v+1),c,v1,(⟨vopen.x0,vopen.x1,vopen.x2,vopen.x3,vopen.x4,(wr .i64 (BitVec.ofInt 64 (c.Week.fdiv (2 ^ (min v.toNat 64))) &&& BitVec.ofInt 64 1).toNat)==0,vopen.x6⟩:V7 Bool),())) else bif v==6 then some (.inl (wr .i64 (v+1),c,v1,(⟨vopen.x0,vopen.x1,vopen.x2,vopen.x3,vopen.x4,vopen.x5,(wr .i64 (BitVec.ofInt 64 (c.Week.fdiv (2 ^ (min v.toNat 64))) &&& BitVec.ofInt 64 1).toNat)==0⟩:V7 Bool),())) else none else some (.inr ((v1,vopen,())))
def qay (c:Calendar):Option Ybj:=
 match c6 e7c (0,c,(⟨false,false,false,false,false,false,false⟩:V7 Bool),(⟨false,false,false,false,false,false,false⟩:V7 Bool),()) with|some ((v,vopen,_)) =>some vopen|none=>none
def qgi (day:Int):Ybx:=
 let k (v:Bool):Ybx:=some v;bif decide (0≤day) then k (decide (day≤109572)) else k false
def qdr (day:Int):Yby:=
 match qgi day with|some r1=>bif !r1 then some (-1) else some (day.tmod 7)|none=>none
def qe2 (day:Int) (weekday:Int):Yby:=
 match qdr 0 with|some r1=>bif decide (day<(wr .i64 ((wr .i64 (weekday-r1))+7)).tmod 7) then some 0 else some (wr .i64 ((wr .i64 ((wr .i64 (day-((wr .i64 ((wr .i64 (weekday-r1))+7)).tmod 7))).tdiv 7))+1))|none=>none
def c94:(Int×Int×Int×Ybj×Int×Calendar×Ybj×Unit)→Option Yaz:=λ(vfrom,vto,n,v,v2,c,vopen,_)=>
 bif decide (v2<7) then let k8 (v3:Bool):Option Yaz:=let k (n7:Int):Option Yaz:=some (.inl (vfrom,vto,n7,v,wr .i64 (v2+1),c,vopen,()));bif v3 then match qe2 vto v2 with|some r4=>(match qe2 (wr .i64 (vfrom-1)) v2 with|some r6=>k (wr .i64 (n+(wr .i64 (r4-r6))))|none=>none)|none=>none else k n;bif v2==0 then k8 v.x0 else bif v2==1 then k8 v.x1 else bif v2==2 then k8 v.x2 else bif v2==3 then k8 v.x3 else bif v2==4 then k8 v.x4 else bif v2==5 then k8 v.x5 else bif v2==6 then k8 v.x6 else none else some (.inr ((vfrom,vto,n,c,vopen,())))
def b8g:YaE→Option (YaE⊕(Yag)):=λ(vfrom,vto,n,v,v12,v13,vopen,_)=>
 bif decide (v13<v12) then match o0 v v13 with|some x=>let k20 (v14:Bool):Option (YaE⊕(Yag)):=let k19 (v17:Bool):Option (YaE⊕(Yag)):=let k (n18:Int):Option (YaE⊕(Yag)):=some (.inl (vfrom,vto,n18,v,v12,wr .i64 (v13+1),vopen,()));bif v17 then k (wr .i64 (n-1)) else k n;bif v14 then match qdr x with|some r15=>bif r15==0 then k19 vopen.x0 else bif r15==1 then k19 vopen.x1 else bif r15==2 then k19 vopen.x2 else bif r15==3 then k19 vopen.x3 else bif r15==4 then k19 vopen.x4 else bif r15==5 then k19 vopen.x5 else bif r15==6 then k19 vopen.x6 else none|none=>none else k19 false;bif decide (vfrom≤x) then k20 (decide (x≤vto)) else k20 false|none=>none else some (.inr ((n,())))
def q9 (c:Calendar) (vfrom:Int) (vto:Int):Yby:=
 bif decide ((if 109572<vto then 109572 else vto)<(if vfrom<0 then 0 else vfrom)) then some 0 else match qay c with|some r1=>(match c6 c94 ((if vfrom<0 then 0 else vfrom),(if 109572<vto then 109572 else vto),0,r1,0,c,r1,()) with|some ((vfrom9,vto10,n,c11,vopen,_)) =>(match c6 b8g (vfrom9,vto10,n,c11.Closed,(c11.Closed.length:Int),0,vopen,()) with|some ((n21,_)) =>some n21|none=>none)|none=>none)|none=>none
def qdx (r:Rule) (c:Calendar) (due:Int) (back:Int):Yby:=
 match qv c with|some r2=>(let k10 (v:Bool):Yby:=let k (v7:Bool):Yby:=bif v7 then some 0 else match q9 c (wr .i64 (due+1)) back with|some r9=>bif decide (r9≤r.Grace) then some 0 else some (if r.MaxFine<wr .i64 (r9*r.Fine) then r.MaxFine else wr .i64 (r9*r.Fine))|none=>none;bif v then k true else match qeu back with|some r6=>k (!r6)|none=>none;bif !(r2==0) then k10 true else match qeu due with|some r4=>k10 (!r4)|none=>none)|none=>none
def qc5 (l:List Charge) (c:Charge):Option (Yaf×Int):=
 bif decide (l.length≤LIM) then bif decide (l.length+([c]:List Charge).length≤LIM) then match qax (l++([c]:List Charge)) with|some r1=>bif !(r1==0) then some ([],r1) else some (l++([c]:List Charge),0)|none=>none else none else none
def qga (vid:Int) (item:Int) (kind:Int) (amount:Int) (d:Circ_desk):YbB:=
 bif !(d.err==0) then some ((),d) else bif decide (99999<d.c.NextCharge) then match qz 13 d with|some (_,v) =>some ((),v)|none=>none else match qc5 d.c.Charges (⟨d.c.NextCharge,vid,item,d.c.Today,kind,amount,0⟩:Charge) with|some (r2,r3) =>bif !(r3==0) then match qz r3 d with|some (_,v5) =>some ((),v5)|none=>none else some ((),(⟨⟨d.c.Today,d.c.Items,d.c.Patrons,d.c.Loans,d.c.Holds,r2,d.c.Rules,d.c.Cals,d.c.Moves,d.c.NextHold,wr .i64 (d.c.NextCharge+1),d.c.Local⟩,d.err⟩:Circ_desk))|none=>none
def qdq (x:Charge) (v:Int) (v1:Int) (v2:Int):Ybx:=
 let k6 (v3:Bool):Ybx:=let k (v5:Bool):Ybx:=some v5;bif v3 then bif v2==0 then k true else k (x.Kind==v2) else k false;bif x.Patron==v then k6 (x.Item==v1) else k6 false
def b8j {γ0:Type} (p:γ0→Charge→Option Bool):(γ0×Int×Int×Yaf×Int×Int×Yaf×Unit)→Option ((γ0×Int×Int×Yaf×Int×Int×Yaf×Unit)⊕((Int×Int×Yaf×Unit))):=λ(g,paid,n,v,v1,v2,l,_)=>
 bif decide (v2<v1) then match o0 v v2 with|some x=>(match p g x with|some r=>bif r then some (.inl (g,wr .i64 (paid+x.Paid),wr .i64 (n+1),v,v1,wr .i64 (v2+1),l,())) else bif decide (l.length+([x]:List Charge).length≤LIM) then some (.inl (g,paid,n,v,v1,wr .i64 (v2+1),l++([x]:List Charge),())) else none|none=>none)|none=>none else some (.inr ((paid,n,l,())))
def qa2 {γ0:Type} (p:γ0→Charge→Option Bool) (l:List Charge) (g:γ0):Option (Yaf×Int×Int):=
 match c6 (b8j p) (g,0,0,l,(l.length:Int),0,([]:List Charge),()) with|some ((paid,n,l3,_)) =>some (l3,paid,n)|none=>none
def qcj (l:List Charge) (patron:Int) (item:Int) (kind:Int):Option (Yaf×Int):=
 match qa2 (λg x0=>qdq x0 g.2.1 g.2.2.1 g.2.2.2.1) l ((),(patron,item,kind,())) with|some (r1,r2,r3) =>some (r1,r2)|none=>none
def qd1 (i:Int) (branch:Int) (d:Circ_desk):YbB:=
 match o0 d.c.Items i with|some x=>(match qbw i 4 branch 0 d with|some (_,v) =>(bif !(v.err==0) then some ((),v) else match qev v.c.Loans x.ID with|some (r2,r3,r4) =>(match qdg r2 r4 v with|some (_,v6) =>(match qc1 v6.c r3.Patron x with|some (r8,r9) =>let k (v17:Circ_desk):YbB:=match qcj v17.c.Charges r3.Patron x.ID 2 with|some (r19,r20) =>some ((),(⟨⟨v17.c.Today,v17.c.Items,v17.c.Patrons,v17.c.Loans,v17.c.Holds,r19,v17.c.Rules,v17.c.Cals,v17.c.Moves,v17.c.NextHold,v17.c.NextCharge,v17.c.Local⟩,v17.err⟩:Circ_desk))|none=>none;bif r9 then match qc2 v6.c branch with|some r11=>(match qdx r8 r11 r3.Due v6.c.Today with|some r13=>bif !(r13==0) then match qga r3.Patron x.ID 1 r13 v6 with|some (_,v15) =>k v15|none=>none else k v6|none=>none)|none=>none else k v6|none=>none)|none=>none)|none=>none)|none=>none)|none=>none
def qfm (x:Int):Ybx:=
 some (!(x==x))
def qfs (x:Int) (y:Int):Ybx:=
 match qfm x with|some r1=>let k5 (v:Bool):Ybx:=let k (v4:Bool):Ybx:=some v4;bif v then k true else k (decide (x<y));bif r1 then match qfm y with|some r3=>k5 (!r3)|none=>none else k5 false|none=>none
def qew (x:Int):Ybx:=
 some (!(x==x))
def b8h:(Yal×Int×Int×Int×Int×Unit)→Option Ya7:=λ(x,target,n,i,j,_)=>
 bif decide (i<j) then match o0 x (wr .i64 ((wr .u64 (wr .i64 (i+j))).fdiv (2 ^ 1))) with|some x1=>(match qfs x1 target with|some r2=>let k (i3:Int) (j4:Int):Option Ya7:=some (.inl (x,target,n,i3,j4,()));bif r2 then k (wr .i64 ((wr .i64 ((wr .u64 (wr .i64 (i+j))).fdiv (2 ^ 1)))+1)) j else k i (wr .i64 ((wr .u64 (wr .i64 (i+j))).fdiv (2 ^ 1)))|none=>none)|none=>none else some (.inr ((x,target,n,i,())))
def qa0 (x:List Int) (target:Int):Option (Int×Bool):=
 match c6 b8h (x,target,(x.length:Int),0,(x.length:Int),()) with|some ((x5,target6,n,i,_)) =>let k (v13:Bool):Option (Int×Bool):=some (i,v13);bif decide (i<n) then match o0 x5 i with|some x7=>(bif x7==target6 then k true else match o0 x5 i with|some x8=>(match qew x8 with|some r9=>bif r9 then match qew target6 with|some r11=>k r11|none=>none else k false|none=>none)|none=>none)|none=>none else k false|none=>none
def qct (c:Calendar) (day:Int):Ybx:=
 match qdp day with|some r1=>(bif !r1 then some false else match qa0 c.Closed day with|some (r3,r4) =>let k (v9:Bool):Ybx:=some v9;bif !r4 then match qay c with|some r6=>(match qdr day with|some r8=>bif r8==0 then k r6.x0 else bif r8==1 then k r6.x1 else bif r8==2 then k r6.x2 else bif r8==3 then k r6.x3 else bif r8==4 then k r6.x4 else bif r8==5 then k r6.x5 else bif r8==6 then k r6.x6 else none|none=>none)|none=>none else k false|none=>none)|none=>none
def e75:Yaw→Option YaU:=λ(d,c,_)=>
 bif decide (d≤109572) then match qct c d with|some r1=>bif r1 then some (.inr (.inr (d,0,()))) else some (.inl (wr .i64 (d+1),c,()))|none=>none else some (.inr (.inl (())))
def qw (c:Calendar) (day:Int):Ybz:=
 match c6 e75 ((if day<0 then 0 else day),c,()) with|some (.inl (_)) =>some (0,2)|some (.inr (v,v2,_)) =>some (v,v2)|none=>none
def b89:YaG→Option (YaG⊕(Yag⊕(Int×Int×Unit))):=λ(d,v,v5,c,_)=>
 bif decide (v5<v) then match qw c (wr .i64 (d+1)) with|some (r6,r7) =>bif !(r7==0) then some (.inr (.inr (0,r7,()))) else some (.inl (r6,v,wr .i64 (v5+1),c,()))|none=>none else some (.inr (.inl (d,())))
def qbx (c:Calendar) (day:Int) (n:Int):Ybz:=
 let k (v:Bool):Ybz:=bif v then some (0,1) else match qdp day with|some r1=>(bif !r1 then some (0,2) else bif n==0 then match qw c day with|some (r3,r4) =>some (r3,r4)|none=>none else match c6 b89 (day,n,0,c,()) with|some (.inl (d,_)) =>some (d,0)|some (.inr (v8,v9,_)) =>some (v8,v9)|none=>none)|none=>none;bif decide (n<0) then k true else k (decide (1000<n))
def qgb (branch:Int) (n:Int) (d:Circ_desk):Option Ybu:=
 match qc2 d.c branch with|some r1=>(match qbx r1 d.c.Today n with|some (r3,r4) =>let k (v6:Circ_desk):Option Ybu:=some (r3,v6);bif !(r4==0) then match qz r4 d with|some (_,v) =>k v|none=>none else k d|none=>none)|none=>none
def qes (h:Hold) (v:Int):Ybx:=
 some (h.ID==v)
def qa5 (l:List Hold) (vid:Int):Yby:=
 match qb (λg x0=>qes x0 g.2.1) l ((),(vid,())) with|some r1=>some r1|none=>none
def qc9 (o:Hold) (v:Int) (v1:Int):Ybx:=
 let k (v2:Bool):Ybx:=some v2;bif o.Got==v then k (!(o.ID==v1)) else k false
def qde {γ0:Type} (p:γ0→Hold→Option Bool) (s:List Hold) (g:γ0):Ybx:=
 match qb p s g with|some r1=>some (decide (0≤r1))|none=>none
def qc3 (s:List Hold):YbF:=
 bif decide (([]:List Hold).length+s.length≤LIM) then some (([])++s) else none
def qfa (l:List Hold) (i:Int) (h:Hold):YbF:=
 match qc3 l with|some l1=>(match o0 l1 i with|some _=>(match l1[i.toNat]? with|some x=>some (l1.set i.toNat h)|none=>none)|none=>none)|none=>none
def qaw (l:List Hold) (vid:Int) (item:Int) (state:Int) (vuntil:Int):YbI:=
 match qa5 l vid with|some r1=>bif decide (r1<0) then some ([],9) else let k18 (v:Bool):YbI:=match qcr item 1 9999 with|some r5=>let k17 (v8:Bool):YbI:=bif v8 then some ([],1) else match o0 l r1 with|some x=>let k16 (v11:Bool):YbI:=bif v11 then some ([],12) else match qde (λg x0=>qc9 x0 g.2.1 g.2.2.1) l ((),(item,vid,())) with|some r13=>(bif r13 then some ([],7) else match qfa l r1 (⟨x.ID,x.Patron,x.Record,x.Item,x.Pickup,x.Placed,state,item,vuntil,x.Asleep,x.Rank⟩:Hold) with|some r15=>some (r15,0)|none=>none)|none=>none;bif !(x.State==1) then let k (v9:Bool):YbI:=bif v9 then k16 true else k16 (!(state==3));bif !(x.State==2) then k true else k (!(x.Got==item)) else k16 false|none=>none;bif !r5 then k17 true else bif !v then bif !(state==2) then k17 true else k17 (!(vuntil==0)) else k17 false|none=>none;bif state==3 then match qcr vuntil 1 109572 with|some r3=>k18 r3|none=>none else k18 false|none=>none
def qdh (l:List Hold) (e:Int) (d:Circ_desk):YbB:=
 let k3 (v1:Circ_desk):YbB:=let k (v2:List Hold):YbB:=some ((),(⟨⟨v1.c.Today,v1.c.Items,v1.c.Patrons,v1.c.Loans,v2,v1.c.Charges,v1.c.Rules,v1.c.Cals,v1.c.Moves,v1.c.NextHold,v1.c.NextCharge,v1.c.Local⟩,v1.err⟩:Circ_desk));bif v1.err==0 then k l else k v1.c.Holds;bif !(e==0) then match qz e d with|some (_,v) =>k3 v|none=>none else k3 d
def qd4 (i:Int) (h:Hold) (d:Circ_desk):YbB:=
 bif !(d.err==0) then some ((),d) else match o0 d.c.Items i with|some x=>(match qc1 d.c h.Patron x with|some (r1,r2) =>let k13 (days:Int):YbB:=match qbw i 5 x.Custody.Branch h.Patron d with|some (_,v) =>(match qgb x.Custody.Branch days v with|some (r5,v6) =>let k (v12:Circ_desk):YbB:=some ((),v12);bif v6.err==0 then match qaw v6.c.Holds h.ID x.ID 3 r5 with|some (r8,r9) =>(match qdh r8 r9 v6 with|some (_,v11) =>k v11|none=>none)|none=>none else k v6|none=>none)|none=>none;bif r2 then k13 r1.Shelf else k13 7|none=>none)|none=>none
def qac (a:Hold) (b:Hold):Yby:=
 some (wr .i64 (b.Rank-a.Rank))
def d9j {γ0:Type} (p:γ0→Hold→Hold→Option Int):(Int×Int×γ0×Int×Int×Yaa×Unit)→Option ((Int×Int×γ0×Int×Int×Yaa×Unit)⊕((Int×Int×γ0×Int×Yaa×Unit))):=λ(a,b,g,i,j,l,_)=>
 let k (v:Bool):Option ((Int×Int×γ0×Int×Int×Yaa×Unit)⊕((Int×Int×γ0×Int×Yaa×Unit))):=bif v then match o0 l (wr .i64 (j-1)) with|some _=>(match l[(wr .i64 (j-1)).toNat]? with|some x2=>(match o0 l j with|some _=>(match l[j.toNat]? with|some x3=>(match o0 l j with|some _=>(match l[j.toNat]? with|some x4=>(match o0 (l.set j.toNat x2) (wr .i64 (j-1)) with|some _=>(match (l.set j.toNat x2)[(wr .i64 (j-1)).toNat]? with|some x5=>some (.inl (a,b,g,i,wr .i64 (j-1),(l.set j.toNat x2).set (wr .i64 (j-1)).toNat x3,()))|none=>none)|none=>none)|none=>none)|none=>none)|none=>none)|none=>none)|none=>none)|none=>none else some (.inr ((a,b,g,i,l,())));bif decide (a<j) then match o0 l j with|some _=>(match l[j.toNat]? with|some x=>(match o0 l (wr .i64 (j-1)) with|some _=>(match l[(wr .i64 (j-1)).toNat]? with|some x1=>(match p g x x1 with|some r=>k (decide (r<0))|none=>none)|none=>none)|none=>none)|none=>none)|none=>none else k false
def d0l {γ0:Type} (p:γ0→Hold→Hold→Option Int):(Int×Int×γ0×Int×Yaa×Unit)→Option ((Int×Int×γ0×Int×Yaa×Unit)⊕(YaP)):=λ(a,b,g,i,l,_)=>
 bif decide (i<b) then match c6 (d9j p) (a,b,g,i,i,l,()) with|some ((a6,b7,g8,i9,l10,_)) =>some (.inl (a6,b7,g8,wr .i64 (i9+1),l10,()))|none=>none else some (.inr ((l,())))
def qo {γ0:Type} (p:γ0→Hold→Hold→Option Int) (data:List Hold) (a:Int) (b:Int) (g:γ0):YbF:=
 match c6 (d0l p) (a,b,g,wr .i64 (a+1),data,()) with|some ((l,_)) =>some l|none=>none
def b8p {γ0:Type} (p:γ0→Hold→Hold→Option Int):(Int×Int×Int×Int×Yaa×Unit)→Option ((Int×Int×Int×Int×Yaa×Unit)⊕(YaP)):=λ(a,b,n,i,l,_)=>
 bif decide (i<n) then match o0 l (wr .i64 (b+i)) with|some _=>(match l[(wr .i64 (b+i)).toNat]? with|some x=>(match o0 l (wr .i64 (a+i)) with|some _=>(match l[(wr .i64 (a+i)).toNat]? with|some x1=>(match o0 l (wr .i64 (a+i)) with|some _=>(match l[(wr .i64 (a+i)).toNat]? with|some x2=>(match o0 (l.set (wr .i64 (a+i)).toNat x) (wr .i64 (b+i)) with|some _=>(match (l.set (wr .i64 (a+i)).toNat x)[(wr .i64 (b+i)).toNat]? with|some x3=>some (.inl (a,b,n,wr .i64 (i+1),(l.set (wr .i64 (a+i)).toNat x).set (wr .i64 (b+i)).toNat x1,()))|none=>none)|none=>none)|none=>none)|none=>none)|none=>none)|none=>none)|none=>none)|none=>none else some (.inr ((l,())))
def qao {γ0:Type} (p:γ0→Hold→Hold→Option Int) (data:List Hold) (a:Int) (b:Int) (n:Int) (_g:γ0):YbF:=
 match c6 (b8p p) (a,b,n,0,data,()) with|some ((l,_)) =>some l|none=>none
def b5o {γ0:Type} (p:γ0→Hold→Hold→Option Int):(Int×γ0×Int×Int×Yaa×Unit)→Option ((Int×γ0×Int×Int×Yaa×Unit)⊕((Int×γ0×Int×Yaa×Unit))):=λ(m,g,i,j,l,_)=>
 bif !(i==j) then let k (i4:Int) (j5:Int) (l6:List Hold):Option ((Int×γ0×Int×Int×Yaa×Unit)⊕((Int×γ0×Int×Yaa×Unit))):=some (.inl (m,g,i4,j5,l6,()));bif decide (j<i) then match qao p l (wr .i64 (m-i)) m j g with|some l1=>k (wr .i64 (i-j)) j l1|none=>none else match qao p l (wr .i64 (m-i)) (wr .i64 ((wr .i64 (m+j))-i)) i g with|some l3=>k i (wr .i64 (j-i)) l3|none=>none else some (.inr ((m,g,i,l,())))
def qbl {γ0:Type} (p:γ0→Hold→Hold→Option Int) (data:List Hold) (a:Int) (m:Int) (b:Int) (g:γ0):YbF:=
 match c6 (b5o p) (m,g,wr .i64 (m-a),wr .i64 (b-m),data,()) with|some ((m7,g8,i,l,_)) =>(match qao p l (wr .i64 (m7-i)) m7 i g8 with|some l9=>some l9|none=>none)|none=>none
def c68 {γ0:Type} (p:γ0→Hold→Hold→Option Int):(Int×γ0×Int×Int×Yaa×Unit)→Option ((Int×γ0×Int×Int×Yaa×Unit)⊕(YaM)):=λ(a,g,i,j,l,_)=>
 bif decide (i<j) then match o0 l (wr .i64 ((wr .u64 (wr .i64 (i+j))).fdiv (2 ^ 1))) with|some _=>(match l[(wr .i64 ((wr .u64 (wr .i64 (i+j))).fdiv (2 ^ 1))).toNat]? with|some x=>(match o0 l a with|some _=>(match l[a.toNat]? with|some x1=>(match p g x x1 with|some r=>let k (i2:Int) (j3:Int):Option ((Int×γ0×Int×Int×Yaa×Unit)⊕(YaM)):=some (.inl (a,g,i2,j3,l,()));bif decide (r<0) then k (wr .i64 ((wr .i64 ((wr .u64 (wr .i64 (i+j))).fdiv (2 ^ 1)))+1)) j else k i (wr .i64 ((wr .u64 (wr .i64 (i+j))).fdiv (2 ^ 1)))|none=>none)|none=>none)|none=>none)|none=>none)|none=>none else some (.inr ((a,i,l,())))
def d0g {γ0:Type} (p:γ0→Hold→Hold→Option Int):YaM→Option (YaM⊕(YaP)):=λ(i,k,l,_)=>
 bif decide (k<wr .i64 (i-1)) then match o0 l (wr .i64 (k+1)) with|some _=>(match l[(wr .i64 (k+1)).toNat]? with|some x=>(match o0 l k with|some _=>(match l[k.toNat]? with|some x5=>(match o0 l k with|some _=>(match l[k.toNat]? with|some x6=>(match o0 (l.set k.toNat x) (wr .i64 (k+1)) with|some _=>(match (l.set k.toNat x)[(wr .i64 (k+1)).toNat]? with|some x7=>some (.inl (i,wr .i64 (k+1),(l.set k.toNat x).set (wr .i64 (k+1)).toNat x5,()))|none=>none)|none=>none)|none=>none)|none=>none)|none=>none)|none=>none)|none=>none)|none=>none else some (.inr ((l,())))
def b1m {γ0:Type} (p:γ0→Hold→Hold→Option Int):(Int×γ0×Int×Int×Yaa×Unit)→Option ((Int×γ0×Int×Int×Yaa×Unit)⊕(YaM)):=λ(m,g,i,j,l,_)=>
 bif decide (i<j) then match o0 l m with|some _=>(match l[m.toNat]? with|some x=>(match o0 l (wr .i64 ((wr .u64 (wr .i64 (i+j))).fdiv (2 ^ 1))) with|some _=>(match l[(wr .i64 ((wr .u64 (wr .i64 (i+j))).fdiv (2 ^ 1))).toNat]? with|some x9=>(match p g x x9 with|some r=>let k (i10:Int) (j11:Int):Option ((Int×γ0×Int×Int×Yaa×Unit)⊕(YaM)):=some (.inl (m,g,i10,j11,l,()));bif !(decide (r<0)) then k (wr .i64 ((wr .i64 ((wr .u64 (wr .i64 (i+j))).fdiv (2 ^ 1)))+1)) j else k i (wr .i64 ((wr .u64 (wr .i64 (i+j))).fdiv (2 ^ 1)))|none=>none)|none=>none)|none=>none)|none=>none)|none=>none else some (.inr ((m,i,l,())))
def b5x {γ0:Type} (p:γ0→Hold→Hold→Option Int):YaM→Option (YaM⊕(YaP)):=λ(i,k,l,_)=>
 bif decide (i<k) then match o0 l (wr .i64 (k-1)) with|some _=>(match l[(wr .i64 (k-1)).toNat]? with|some x=>(match o0 l k with|some _=>(match l[k.toNat]? with|some x15=>(match o0 l k with|some _=>(match l[k.toNat]? with|some x16=>(match o0 (l.set k.toNat x) (wr .i64 (k-1)) with|some _=>(match (l.set k.toNat x)[(wr .i64 (k-1)).toNat]? with|some x17=>some (.inl (i,wr .i64 (k-1),(l.set k.toNat x).set (wr .i64 (k-1)).toNat x15,()))|none=>none)|none=>none)|none=>none)|none=>none)|none=>none)|none=>none)|none=>none)|none=>none else some (.inr ((l,())))
def b1n {γ0:Type} (p:γ0→Hold→Hold→Option Int):(Int×Int×Int×γ0×Int×Int×Int×Int×Int×Yaa×Unit)→Option ((Int×Int×Int×γ0×Int×Int×Int×Int×Int×Yaa×Unit)⊕((Int×Int×Int×γ0×Int×Int×Int×Yaa×Unit))):=λ(a,m,b,g,mid,n,start,r,p19,l,_)=>
 bif decide (start<r) then match o0 l (wr .i64 (p19-(wr .i64 ((wr .u64 (wr .i64 (start+r))).fdiv (2 ^ 1))))) with|some _=>(match l[(wr .i64 (p19-(wr .i64 ((wr .u64 (wr .i64 (start+r))).fdiv (2 ^ 1))))).toNat]? with|some x=>(match o0 l (wr .i64 ((wr .u64 (wr .i64 (start+r))).fdiv (2 ^ 1))) with|some _=>(match l[(wr .i64 ((wr .u64 (wr .i64 (start+r))).fdiv (2 ^ 1))).toNat]? with|some x20=>(match p g x x20 with|some r21=>let k (start22:Int) (r23:Int):Option ((Int×Int×Int×γ0×Int×Int×Int×Int×Int×Yaa×Unit)⊕((Int×Int×Int×γ0×Int×Int×Int×Yaa×Unit))):=some (.inl (a,m,b,g,mid,n,start22,r23,p19,l,()));bif !(decide (r21<0)) then k (wr .i64 ((wr .i64 ((wr .u64 (wr .i64 (start+r))).fdiv (2 ^ 1)))+1)) r else k start (wr .i64 ((wr .u64 (wr .i64 (start+r))).fdiv (2 ^ 1)))|none=>none)|none=>none)|none=>none)|none=>none)|none=>none else some (.inr ((a,m,b,g,mid,n,start,l,())))
def qe {γ0:Type} (p:γ0→Hold→Hold→Option Int):Nat→Yaa→Int→Int→Int→γ0→Option Yaa
 |0=>λ_ _ _ _ _=>none
 |fuel+1=>λdata a m b g=>
  bif (wr .i64 (m-a))==1 then
   match c6 (c68 p) (a,g,m,b,data,()) with
   |some ((a4,i,l,_))=>
    match c6 (d0g p) (i,a4,l,()) with
    |some ((l8,_))=>
     some l8
    |none=>none
   |none=>none
  else
   bif (wr .i64 (b-m))==1 then
    match c6 (b1m p) (m,g,a,m,data,()) with
    |some ((m12,i13,l14,_))=>
     match c6 (b5x p) (i13,m12,l14,()) with
     |some ((l18,_))=>
      some l18
     |none=>none
    |none=>none
   else
    let k46:Int→Int→YbF:=λstart r=>
     match c6 (b1n p) (a,m,b,g,wr .i64 ((wr .u64 (wr .i64 (a+b))).fdiv (2 ^ 1)),wr .i64 ((wr .i64 ((wr .u64 (wr .i64 (a+b))).fdiv (2 ^ 1)))+m),start,r,wr .i64 ((wr .i64 ((wr .i64 ((wr .u64 (wr .i64 (a+b))).fdiv (2 ^ 1)))+m))-1),data,()) with
     |some ((a24,m25,b26,g27,mid,n,start28,l29,_))=>
      let k45:Bool→YbF:=λv=>
       let k44:Yaa→YbF:=λl32=>
        let k43:Bool→YbF:=λv33=>
         let k42:Yaa→YbF:=λl36=>
          let k41:Bool→YbF:=λv37=>
           let k:Yaa→YbF:=λl40=>
            some l40
           bif v37 then
            match qe p fuel l36 mid (wr .i64 (n-start28)) b26 g27 with
            |some l39=>
             k l39
            |none=>none
           else
            k l36
          bif decide (mid<wr .i64 (n-start28)) then
           k41 (decide (wr .i64 (n-start28)<b26))
          else
           k41 false
         bif v33 then
          match qe p fuel l32 a24 start28 mid g27 with
          |some l35=>
           k42 l35
          |none=>none
         else
          k42 l32
        bif decide (a24<start28) then
         k43 (decide (start28<mid))
        else
         k43 false
       bif v then
        match qbl p l29 start28 m25 (wr .i64 (n-start28)) g27 with
        |some l31=>
         k44 l31
        |none=>none
       else
        k44 l29
      bif decide (start28<m25) then
       k45 (decide (m25<wr .i64 (n-start28)))
      else
       k45 false
     |none=>none
    bif decide (wr .i64 ((wr .u64 (wr .i64 (a+b))).fdiv (2 ^ 1))<m) then
     k46 (wr .i64 ((wr .i64 ((wr .i64 ((wr .u64 (wr .i64 (a+b))).fdiv (2 ^ 1)))+m))-b)) (wr .i64 ((wr .u64 (wr .i64 (a+b))).fdiv (2 ^ 1)))
    else
     k46 a m
def d9k {γ0:Type} (p:γ0→Hold→Hold→Option Int):(Int×γ0×Int×Int×Int×Yaa×Unit)→Option ((Int×γ0×Int×Int×Int×Yaa×Unit)⊕((Int×γ0×Int×Int×Yaa×Unit))):=λ(n,g,blockSize,a,b,l,_)=>
 bif decide (b≤n) then match qo p l a b g with|some l1=>some (.inl (n,g,blockSize,b,wr .i64 (b+blockSize),l1,()))|none=>none else some (.inr ((n,g,blockSize,a,l,())))
def f9q {γ0:Type} (p:γ0→Hold→Hold→Option Int):(Int×γ0×Int×Int×Int×Yaa×Unit)→Option ((Int×γ0×Int×Int×Int×Yaa×Unit)⊕((Int×γ0×Int×Int×Yaa×Unit))):=λ(n,g,blockSize,a,b,l,_)=>
 bif decide (b≤n) then match qe p 64 l a (wr .i64 (a+blockSize)) b g with|some l5=>some (.inl (n,g,blockSize,b,wr .i64 (b+(wr .i64 (2*blockSize))),l5,()))|none=>none else some (.inr ((n,g,blockSize,a,l,())))
def d0m {γ0:Type} (p:γ0→Hold→Hold→Option Int):(Int×γ0×Int×Yaa×Unit)→Option ((Int×γ0×Int×Yaa×Unit)⊕(YaP)):=λ(n,g,blockSize,l,_)=>
 bif decide (blockSize<n) then match c6 (f9q p) (n,g,blockSize,0,wr .i64 (2*blockSize),l,()) with|some ((n6,g7,blockSize8,a,l9,_)) =>let k (l11:List Hold):Option ((Int×γ0×Int×Yaa×Unit)⊕(YaP)):=some (.inl (n6,g7,wr .i64 (blockSize8*2),l11,()));bif decide (wr .i64 (a+blockSize8)<n6) then match qe p 64 l9 a (wr .i64 (a+blockSize8)) n6 g7 with|some l10=>k l10|none=>none else k l9|none=>none else some (.inr ((l,())))
def qp {γ0:Type} (p:γ0→Hold→Hold→Option Int) (data:List Hold) (n:Int) (g:γ0):YbF:=
 match c6 (d9k p) (n,g,20,0,20,data,()) with|some ((n2,g3,blockSize,a,l,_)) =>(match qo p l a n2 g3 with|some l4=>(match c6 (d0m p) (n2,g3,blockSize,l4,()) with|some ((l12,_)) =>some l12|none=>none)|none=>none)|none=>none
def qej {γ0:Type} (p:γ0→Hold→Hold→Option Int) (x:List Hold) (g:γ0):YbF:=
 match qp p x (x.length:Int) g with|some l=>some l|none=>none
def d9d:YaS→Option (YaS⊕(YaP)):=λ(record,day,v,v1,v2,l,_)=>
 bif decide (v2<v1) then match o0 v v2 with|some x=>let k5 (v3:Bool):Option (YaS⊕(YaP)):=let k (v4:Bool):Option (YaS⊕(YaP)):=bif v4 then bif decide (l.length+([x]:List Hold).length≤LIM) then some (.inl (record,day,v,v1,wr .i64 (v2+1),l++([x]:List Hold),())) else none else some (.inl (record,day,v,v1,wr .i64 (v2+1),l,()));bif v3 then k (decide (x.Asleep≤day)) else k false;bif x.Record==record then k5 (x.State==1) else k5 false|none=>none else some (.inr ((l,())))
def qh (l:List Hold) (record:Int) (day:Int):YbF:=
 match c6 d9d (record,day,l,(l.length:Int),0,([]:List Hold),()) with|some ((l6,_)) =>(match qej (λg x0 x1=>qac x0 x1) l6 ((),()) with|some l7=>some l7|none=>none)|none=>none
def b8y:(Int×Bool×Int×Yaa×Int×Int×Item×Unit)→Option YaH:=λ(branch,vlocal,first,v,v2,v3,x,_)=>
 bif decide (v3<v2) then match o0 v v3 with|some x4=>let k9 (v5:Bool):Option YaH:=bif v5 then some (.inl (branch,vlocal,first,v,v2,wr .i64 (v3+1),x,())) else let k8 (v6:Bool):Option YaH:=bif v6 then some (.inr (.inr (x4.ID,()))) else let k (first7:Int):Option YaH:=some (.inl (branch,vlocal,first7,v,v2,wr .i64 (v3+1),x,()));bif first==0 then k x4.ID else k first;bif !vlocal then k8 true else k8 (x4.Pickup==branch);bif !(x4.Item==0) then k9 (!(x4.Item==x.ID)) else k9 false|none=>none else some (.inr (.inl (first,())))
def qbd (l:List Hold) (x:Item) (branch:Int) (day:Int) (vlocal:Bool):Yby:=
 match qh l x.Record day with|some r1=>(match c6 b8y (branch,vlocal,0,r1,(r1.length:Int),0,x,()) with|some (.inl (first,_)) =>some first|some (.inr (v,_)) =>some v|none=>none)|none=>none
def qed (c:Circ) (x:Item):Yby:=
 match qbd c.Holds x x.Custody.Branch c.Today c.Local with|some r1=>some r1|none=>none
def qfb (l:List Hold) (vid:Int):Option (Hold×Bool):=
 match qa5 l vid with|some r1=>bif decide (0≤r1) then match o0 l r1 with|some x=>some (x,true)|none=>none else some ((⟨0,0,0,0,0,0,0,0,0,0,0⟩:Hold),false)|none=>none
def qgc (i:Int) (kind:Int) (d:Circ_desk):YbB:=
 let k (v1:Circ_desk):YbB:=some ((),v1);bif d.err==0 then match o0 d.c.Items i with|some x=>(match qbw i kind x.Custody.Branch 0 d with|some (_,v) =>k v|none=>none)|none=>none else k d
def qf9 (i:Int) (d:Circ_desk):YbB:=
 bif !(d.err==0) then some ((),d) else match o0 d.c.Items i with|some x=>(match qed d.c x with|some r1=>(match qfb d.c.Holds r1 with|some (r3,r4) =>let k25 (v:Bool):YbB:=let k24 (v23:Circ_desk):YbB:=some ((),v23);bif v then match qbw i 6 x.Branch 0 d with|some (_,v6) =>k24 v6|none=>none else let k (v7:Bool):YbB:=bif v7 then match qgc i 2 d with|some (_,v9) =>k24 v9|none=>none else bif !r4 then k24 d else bif r3.Pickup==x.Custody.Branch then match qd4 i r3 d with|some (_,v11) =>k24 v11|none=>none else match qbw i 6 r3.Pickup r3.Patron d with|some (_,v13) =>bif v13.err==0 then match qaw v13.c.Holds r1 x.ID 2 0 with|some (r15,r16) =>(match qdh r15 r16 v13 with|some (_,v18) =>k24 v18|none=>none)|none=>none else k24 v13|none=>none;bif !r4 then k (!(x.Custody.State==3)) else k false;bif !r4 then k25 (!(x.Branch==x.Custody.Branch)) else k25 false|none=>none)|none=>none)|none=>none
def qee (c:Circ) (item:Int) (branch:Int):YbE:=
 match qdl c with|some d=>(match qez item d with|some (r2,v) =>(bif decide (r2<0) then match qcm 0 v with|some ((r4,r5,r6),v7) =>some (r4,r5,r6)|none=>none else match o0 c.Items r2 with|some x=>let k43 (v9:Bool):YbE:=let k42 (v23:Circ_desk):YbE:=match qaq v23.c item with|some (r25,r26) =>let k41 (v27:Bool):YbE:=let k (v32:Circ_desk):YbE:=match qaq v32.c item with|some (r34,r35) =>(match qcm r34.ID v32 with|some ((r37,r38,r39),v40) =>some (r37,r38,r39)|none=>none)|none=>none;bif v27 then match qd4 r2 r25 v23 with|some (_,v29) =>k v29|none=>none else match qf9 r2 v23 with|some (_,v31) =>k v31|none=>none;bif r26 then k41 (r25.State==2) else k41 false|none=>none;bif v9 then match qd1 r2 branch v with|some (_,v11) =>k42 v11|none=>none else bif x.Custody.State==8 then match qbw r2 4 branch 0 v with|some (_,v13) =>k42 v13|none=>none else bif x.Custody.State==11 then match qbw r2 14 branch 0 v with|some (_,v15) =>k42 v15|none=>none else bif x.Custody.State==6 then match qbw r2 7 branch 0 v with|some (_,v17) =>k42 v17|none=>none else match qz 12 v with|some (_,v19) =>k42 v19|none=>none;bif x.Custody.State==4 then k43 (x.Custody.State==4) else bif x.Custody.State==9 then k43 (x.Custody.State==9) else k43 (x.Custody.State==10)|none=>none)|none=>none)|none=>none
def b8z:Ybc→Option (Ybc⊕(Yag)):=λ(patron,vsum,v,v1,v2,_)=>
 bif decide (v2<v1) then match o0 v v2 with|some x=>let k (vsum3:Int):Option (Ybc⊕(Yag)):=some (.inl (patron,vsum3,v,v1,wr .i64 (v2+1),()));bif x.Patron==patron then k (wr .i64 (vsum+(wr .i64 (x.Amount-x.Paid)))) else k vsum|none=>none else some (.inr ((vsum,())))
def qbe (l:List Charge) (patron:Int):Yby:=
 match c6 b8z (patron,0,l,(l.length:Int),0,()) with|some ((vsum,_)) =>some vsum|none=>none
def b81:(Int×Yad×Int×Int×Yad×Unit)→Option ((Int×Yad×Int×Int×Yad×Unit)⊕((Yad×Unit))):=λ(patron,v,v1,v2,l,_)=>
 bif decide (v2<v1) then match o0 v v2 with|some x=>bif x.Patron==patron then bif decide (l.length+([x]:List Loan).length≤LIM) then some (.inl (patron,v,v1,wr .i64 (v2+1),l++([x]:List Loan),())) else none else some (.inl (patron,v,v1,wr .i64 (v2+1),l,()))|none=>none else some (.inr ((l,())))
def qbg (l:List Loan) (patron:Int):YbQ:=
 match c6 b81 (patron,l,(l.length:Int),0,([]:List Loan),()) with|some ((l3,_)) =>some l3|none=>none
def b8u:Ybd→Option (Ybd⊕(Yag)):=λ(day,n,v,v2,v3,_)=>
 bif decide (v3<v2) then match o0 v v3 with|some x=>let k (n4:Int):Option (Ybd⊕(Yag)):=some (.inl (day,n4,v,v2,wr .i64 (v3+1),()));bif decide (x.Due<day) then k (wr .i64 (n+1)) else k n|none=>none else some (.inr ((n,())))
def qb5 (l:List Loan) (patron:Int) (day:Int):Yby:=
 match qbg l patron with|some r1=>(match c6 b8u (day,0,r1,(r1.length:Int),0,()) with|some ((n,_)) =>some n|none=>none)|none=>none
def e7b:(Int×Int×Yal×(List Bool)×Unit)→Option ((Int×Int×Yal×(List Bool)×Unit)⊕((Yal×Unit))):=λ(v,v1,l,l2,_)=>
 bif decide (v1<v) then match o0 l2 v1 with|some _=>(match l2[v1.toNat]? with|some x=>bif x then bif decide (l.length+([wr .i64 (v1+1)]:List Int).length≤LIM) then some (.inl (v,wr .i64 (v1+1),l++([wr .i64 (v1+1)]:List Int),l2,())) else none else some (.inl (v,wr .i64 (v1+1),l,l2,()))|none=>none)|none=>none else some (.inr ((l,())))
def qap (p:Patron) (day:Int) (a8s:Int) (late:Int):YbR:=
 match c6 e7b ((([p.Stopped,decide (p.Until<day),decide (1000<a8s),decide (2<late)]).length:Int),0,([]:List Int),[p.Stopped,decide (p.Until<day),decide (1000<a8s),decide (2<late)],()) with|some ((l,_)) =>some l|none=>none
def qd9 (c:Circ) (p:Patron):Ybx:=
 match qbe c.Charges p.ID with|some r1=>(match qb5 c.Loans p.ID c.Today with|some r3=>(match qap p c.Today r1 r3 with|some r5=>some (decide (0<(r5.length:Int)))|none=>none)|none=>none)|none=>none
def c66:Yaw→Option YaU:=λ(d,c,_)=>
 bif decide (0≤d) then match qct c d with|some r1=>bif r1 then some (.inr (.inr (d,0,()))) else some (.inl (wr .i64 (d-1),c,()))|none=>none else some (.inr (.inl (())))
def qbu (c:Calendar) (day:Int):Ybz:=
 match c6 c66 ((if 109572<day then 109572 else day),c,()) with|some (.inl (_)) =>some (0,2)|some (.inr (v,v2,_)) =>some (v,v2)|none=>none
def qe6 (r:Rule) (c:Calendar) (day:Int) (vuntil:Int):Ybz:=
 match qci day 0 109572 with|some r2=>(let k17 (v:Bool):Ybz:=bif v then some (0,2) else let k16 (last:Int):Ybz:=let k15 (v5:Bool):Ybz:=bif v5 then some (0,15) else match qw c (if last<wr .i64 (day+r.Days) then last else wr .i64 (day+r.Days)) with|some (r7,r8) =>let k14 (v9:Bool):Ybz:=bif v9 then some (r7,0) else match qbu c last with|some (r11,r12) =>let k (v13:Bool):Ybz:=bif v13 then some (0,15) else some (r11,0);bif !(r12==0) then k true else k (decide (r11≤day))|none=>none;bif r8==0 then k14 (decide (r7≤last)) else k14 false|none=>none;bif r.Days==0 then k15 true else k15 (decide (last≤day));bif decide (0<r.Fixed) then k16 (if r.Fixed<vuntil then r.Fixed else vuntil) else k16 vuntil;bif !r2 then k17 true else match qci vuntil 0 109572 with|some r4=>k17 (!r4)|none=>none)|none=>none
def qe3 (c:Circ) (x:Item) (p:Patron) (branch:Int):Ybz:=
 let k26 (v:Bool):Ybz:=let k4 (v3:Int):Ybz:=some (0,v3);bif v then k4 12 else bif !(x.Custody.Branch==branch) then k4 1 else let k (v1:Bool):Ybz:=bif v1 then k4 16 else let k25 (_:Unit):Ybz:=match qd9 c p with|some r12=>(bif r12 then some (0,14) else match qc1 c p.ID x with|some (r14,r15) =>(let k24 (v18:Bool):Ybz:=bif v18 then some (0,15) else match qc2 c branch with|some r20=>(match qe6 r14 r20 c.Today p.Until with|some (r22,r23) =>some (r22,r23)|none=>none)|none=>none;bif !r15 then k24 true else match qbg c.Loans p.ID with|some r17=>k24 (decide (r14.Loans≤(r17.length:Int)))|none=>none)|none=>none)|none=>none;bif x.Custody.State==3 then match qed c x with|some r5=>(match qfb c.Holds r5 with|some (r7,r8) =>let k10 (v9:Bool):Ybz:=bif v9 then some (0,16) else k25 ();bif r8 then k10 (!(r7.Patron==p.ID)) else k10 false|none=>none)|none=>none else k25 ();bif x.Custody.State==5 then k (!(x.Custody.Who==p.ID)) else k false;bif !(x.Custody.State==3) then k26 (!(x.Custody.State==5)) else k26 false
def qdc (x:Loan) (v:Loan):Ybx:=
 some (decide (v.Item<x.Item))
def qcy (l:List Loan):YbM:=
 match qam l with|some r1=>bif !(r1==0) then some ([],r1) else some (l,0)|none=>none
def qbr (l:List Loan) (n:Loan):YbM:=
 match qan n.Item with|some r1=>(match qch (λg x0=>qcx x0 g.2.1) l ((),(r1.1,())) with|some (r3,r4) =>(bif decide (0≤r4) then some ([],7) else match qch (λg x0=>qdc x0 g.2.1) l ((),(n,())) with|some (r6,r7) =>let k (i:Int):YbM:=match qcp l with|some l9=>(match qek l9 i ([n]) with|some l11=>(match qcy l11 with|some (r13,r14) =>some (r13,r14)|none=>none)|none=>none)|none=>none;bif decide (r7<0) then k (l.length:Int) else k r7|none=>none)|none=>none)|none=>none
def qet (l:List Hold) (vid:Int):Option (Yaa×Hold×Int):=
 match qa5 l vid with|some r1=>(bif decide (r1<0) then some ([],(⟨0,0,0,0,0,0,0,0,0,0,0⟩:Hold),9) else match qc3 l with|some l3=>(match qel l3 r1 (wr .i64 (r1+1)) with|some l5=>(match o0 l r1 with|some x=>some (l5,x,0)|none=>none)|none=>none)|none=>none)|none=>none
def qfj (vid:Int) (d:Circ_desk):YbB:=
 let k (v5:Circ_desk):YbB:=some ((),v5);bif d.err==0 then match qet d.c.Holds vid with|some (r1,r2,r3) =>(match qdh r1 r3 d with|some (_,v) =>k v|none=>none)|none=>none else k d
def qdy (h:Hold) (x:Item):Ybx:=
 let k (v1:Bool):Ybx:=some v1;bif h.Record==x.Record then bif h.Item==0 then k true else k (h.Item==x.ID) else k false
def qdw (h:Hold) (v:Int) (v1:Item):Ybx:=
 let k5 (v2:Bool):Ybx:=let k (v4:Bool):Ybx:=some v4;bif v2 then match qdy h v1 with|some r3=>k r3|none=>none else k false;bif h.Patron==v then k5 (h.State==1) else k5 false
def qb6 (c:Circ) (item:Int) (vid:Int) (branch:Int):YbE:=
 match qdl c with|some d=>(match qez item d with|some (r2,v) =>(match qc0 c.Patrons vid with|some (r4,r5) =>let k40 (v8:Circ_desk):YbE:=bif !(v8.err==0) then some (ZN,0,v8.err) else match o0 c.Items r2 with|some x=>(match qe3 c x r4 branch with|some (r10,r11) =>(bif !(r11==0) then some (ZN,0,r11) else match qbw r2 3 branch vid v8 with|some (_,v13) =>(match qbr c.Loans (⟨item,vid,c.Today,r10,0,false⟩:Loan) with|some (r15,r16) =>(match qdg r15 r16 v13 with|some (_,v18) =>(match qaq c item with|some (r20,r21) =>(bif r21 then match qfj r20.ID v18 with|some (_,v23) =>(match qcm r10 v23 with|some ((r25,r26,r27),v28) =>some (r25,r26,r27)|none=>none)|none=>none else match qb (λg x0=>qdw x0 g.2.1 g.2.2.1) c.Holds ((),(vid,x,())) with|some r30=>let k (v34:Circ_desk):YbE:=match qcm r10 v34 with|some ((r36,r37,r38),v39) =>some (r36,r37,r38)|none=>none;bif decide (0≤r30) then match o0 c.Holds r30 with|some x31=>(match qfj x31.ID v18 with|some (_,v33) =>k v33|none=>none)|none=>none else k v18|none=>none)|none=>none)|none=>none)|none=>none)|none=>none)|none=>none)|none=>none;bif !r5 then match qz 9 v with|some (_,v7) =>k40 v7|none=>none else k40 v|none=>none)|none=>none)|none=>none
def qda (h:Hold) (v:Circ) (v1:Item):Ybx:=
 let k5 (v2:Bool):Ybx:=let k (v4:Bool):Ybx:=some v4;bif v2 then match qdy h v1 with|some r3=>k r3|none=>none else k false;bif h.State==1 then k5 (decide (h.Asleep≤v.Today)) else k5 false
def qeo (r:Rule) (c:Calendar) (n:Loan) (day:Int) (vuntil:Int):Ybz:=
 let k (v:Bool):Ybz:=bif v then some (0,15) else match qe6 r c day vuntil with|some (r2,r3) =>bif !(r3==0) then some (0,r3) else bif decide (r2≤n.Due) then some (0,15) else some (r2,0)|none=>none;bif decide (r.Renewals≤n.Renewals) then k true else k n.Recalled
def qey (l:List Loan) (i:Int) (x:Loan):YbQ:=
 match qcp l with|some l1=>(match o0 l1 i with|some _=>(match l1[i.toNat]? with|some x2=>some (l1.set i.toNat x)|none=>none)|none=>none)|none=>none
def qgh (l:List Loan) (item:Int) (due:Int):YbM:=
 match qan item with|some r1=>(match qch (λg x0=>qcx x0 g.2.1) l ((),(r1.1,())) with|some (r3,r4) =>(let k (v:Int):YbM:=some ([],v);bif decide (r4<0) then k 9 else bif r3.Recalled then k 12 else match qey l r4 (⟨r3.Item,r3.Patron,r3.Out,due,wr .i64 (r3.Renewals+1),r3.Recalled⟩:Loan) with|some r6=>(match qcy r6 with|some (r8,r9) =>some (r8,r9)|none=>none)|none=>none)|none=>none)|none=>none
def qcn (c:Circ) (item:Int):YbE:=
 match qcl c.Loans item with|some (r1,r2) =>(match qr c item with|some r4=>let k (v:Bool):YbE:=bif v then some (ZN,0,9) else match o0 c.Items r4 with|some x=>(bif !(x.Custody.State==4) then some (ZN,0,12) else match qc0 c.Patrons r1.Patron with|some (r6,r7) =>(match qd9 c r6 with|some r9=>(bif r9 then some (ZN,0,14) else match qde (λg x0=>qda x0 g.2.1 g.2.2.1) c.Holds ((),(c,x,())) with|some r11=>(bif r11 then some (ZN,0,16) else match qc1 c r6.ID x with|some (r13,r14) =>(bif !r14 then some (ZN,0,15) else match qc2 c x.Custody.Branch with|some r16=>(match qeo r13 r16 r1 c.Today r6.Until with|some (r18,r19) =>(bif !(r19==0) then some (ZN,0,r19) else match qdl c with|some d=>(match qgh c.Loans item r18 with|some (r22,r23) =>(match qdg r22 r23 d with|some (_,v25) =>(match qcm r18 v25 with|some ((r27,r28,r29),v30) =>some (r27,r28,r29)|none=>none)|none=>none)|none=>none)|none=>none)|none=>none)|none=>none)|none=>none)|none=>none)|none=>none)|none=>none)|none=>none;bif !r2 then k true else k (decide (r4<0))|none=>none)|none=>none
def qak (c:Circ) (x:Off):YbD:=
 match qf7 (λg x0=>qc7 x0 g.2.1) c.Loans ((),(x,())) with|some r1=>let k24 (v2:Bool):YbD:=let k23 (e:Int) (c7:Circ):YbD:=let k22 (v8:Bool):YbD:=let k21 (e13:Int) (c14:Circ):YbD:=let k (e19:Int) (c20:Circ):YbD:=some (c20,e19);bif x.Kind==3 then match qcn c14 x.Item with|some (r16,r17,r18) =>k r18 r16|none=>none else k e13 c14;bif v8 then match qb6 c7 x.Item x.Patron x.Branch with|some (r10,r11,r12) =>k21 r12 r10|none=>none else k21 e c7;bif e==0 then k22 (x.Kind==1) else k22 false;bif v2 then match qee c x.Item x.Branch with|some (r4,r5,r6) =>k23 r6 r4|none=>none else k23 0 c;bif x.Kind==2 then k24 true else bif x.Kind==1 then k24 r1 else k24 false|none=>none
def b5c:YaZ→Option (YaZ⊕Ya6):=λ(today,v,v4,v5,c,v6,l,_)=>
 bif decide (v5<v4) then match o0 v v5 with|some x=>let k (e:Int) (c10:Circ):Option (YaZ⊕Ya6):=bif decide (l.length+([(⟨x.Device,x.Seq,e⟩:Outcome)]:List Outcome).length≤LIM) then some (.inl (today,v,v4,wr .i64 (v5+1),c10,v6,l++([(⟨x.Device,x.Seq,e⟩:Outcome)]:List Outcome),())) else none;bif decide (x.Day≤today) then match qak (⟨x.Day,c.Items,c.Patrons,c.Loans,c.Holds,c.Charges,c.Rules,c.Cals,c.Moves,c.NextHold,c.NextCharge,c.Local⟩:Circ) x with|some (r7,r8) =>bif r8==0 then k r8 (⟨today,r7.Items,r7.Patrons,r7.Loans,r7.Holds,r7.Charges,r7.Rules,r7.Cals,r7.Moves,r7.NextHold,r7.NextCharge,r7.Local⟩:Circ) else k r8 c|none=>none else k 12 c|none=>none else some (.inr ((c,v6,l,())))
def qas (c:Circ) (l:List Off):Option (Circ×YaD):=
 match qfy c with|some r1=>(let k (v:Bool):Option (Circ×YaD):=bif v then some (c,[]) else match c6 b5c (c.Today,l,(l.length:Int),0,c,ZN,([]:List Outcome),()) with|some ((c11,v12,l13,_)) =>some (c11,l13)|none=>none;bif !r1 then k true else match ql l with|some r3=>k (!(r3==0))|none=>none)|none=>none
def qcw (s:List UInt8) (i:Int):Ybz:=
 match o0 s i with|some b=>let k35 (v:Bool):Ybz:=bif v then some (wr .i64 (b.toNat:Int),1) else let k34 (v1:Bool):Ybz:=let k33 (v2:Bool):Ybz:=let k32 (v4:Bool):Ybz:=let k31 (v6:Bool):Ybz:=let k (v8:Int) (v9:Int):Ybz:=some (v8,v9);bif v6 then match o0 s (wr .i64 (i+1)) with|some b7=>bif decide (160≤wr .i64 ((wr .i64 ((wr .i64 ((wr .i64 ((wr .i64 (b.toNat:Int))-192))*64))+(wr .i64 (b7.toNat:Int))))-128)) then k (wr .i64 ((wr .i64 ((wr .i64 ((wr .i64 ((wr .i64 (b.toNat:Int))-192))*64))+(wr .i64 (b7.toNat:Int))))-128)) 2 else k 0 0|none=>none else let k30 (v10:Bool):Ybz:=let k29 (v11:Bool):Ybz:=let k28 (v13:Bool):Ybz:=let k27 (v15:Bool):Ybz:=let k26 (v17:Bool):Ybz:=let k25 (v19:Bool):Ybz:=bif v19 then match o0 s (wr .i64 (i+1)) with|some b20=>(match o0 s (wr .i64 (i+2)) with|some b21=>let k24 (v23:Bool):Ybz:=bif v23 then some (wr .i64 ((wr .i64 ((wr .i64 ((wr .i64 ((wr .i64 ((wr .i64 (b.toNat:Int))-224))*4096))+(wr .i64 ((wr .i64 ((wr .i64 (b20.toNat:Int))-128))*64))))+(wr .i64 (b21.toNat:Int))))-128),3) else some (0,0);bif decide (2048≤wr .i64 ((wr .i64 ((wr .i64 ((wr .i64 ((wr .i64 ((wr .i64 (b.toNat:Int))-224))*4096))+(wr .i64 ((wr .i64 ((wr .i64 (b20.toNat:Int))-128))*64))))+(wr .i64 (b21.toNat:Int))))-128)) then bif decide (wr .i64 ((wr .i64 ((wr .i64 ((wr .i64 ((wr .i64 ((wr .i64 (b.toNat:Int))-224))*4096))+(wr .i64 ((wr .i64 ((wr .i64 (b20.toNat:Int))-128))*64))))+(wr .i64 (b21.toNat:Int))))-128)<55296) then k24 true else k24 (decide (57343<wr .i64 ((wr .i64 ((wr .i64 ((wr .i64 ((wr .i64 ((wr .i64 (b.toNat:Int))-224))*4096))+(wr .i64 ((wr .i64 ((wr .i64 (b20.toNat:Int))-128))*64))))+(wr .i64 (b21.toNat:Int))))-128))) else k24 false|none=>none)|none=>none else some (0,0);bif v17 then match o0 s (wr .i64 (i+2)) with|some b18=>k25 (decide ((b18.toNat:Int)<192))|none=>none else k25 false;bif v15 then match o0 s (wr .i64 (i+2)) with|some b16=>k26 (decide (128≤(b16.toNat:Int)))|none=>none else k26 false;bif v13 then match o0 s (wr .i64 (i+1)) with|some b14=>k27 (decide ((b14.toNat:Int)<192))|none=>none else k27 false;bif v11 then match o0 s (wr .i64 (i+1)) with|some b12=>k28 (decide (128≤(b12.toNat:Int)))|none=>none else k28 false;bif v10 then k29 (decide (wr .i64 (i+2)<(s.length:Int))) else k29 false;bif decide (224≤wr .i64 (b.toNat:Int)) then k30 (decide (wr .i64 (b.toNat:Int)<240)) else k30 false;bif v4 then match o0 s (wr .i64 (i+1)) with|some b5=>k31 (decide ((b5.toNat:Int)<192))|none=>none else k31 false;bif v2 then match o0 s (wr .i64 (i+1)) with|some b3=>k32 (decide (128≤(b3.toNat:Int)))|none=>none else k32 false;bif v1 then k33 (decide (wr .i64 (i+1)<(s.length:Int))) else k33 false;bif decide (194≤wr .i64 (b.toNat:Int)) then k34 (decide (wr .i64 (b.toNat:Int)<224)) else k34 false;bif decide (32≤wr .i64 (b.toNat:Int)) then k35 (decide (wr .i64 (b.toNat:Int)<127)) else k35 false|none=>none
def b8k:(Ybv×Int×Unit)→Option ((Ybv×Int×Unit)⊕Yae):=λ(s,i,_)=>
 bif decide (i<(s.length:Int)) then match qcw s i with|some (r1,r2) =>bif r2==0 then some (.inr (.inr (false,()))) else some (.inl (s,wr .i64 (i+r2),()))|none=>none else some (.inr (.inl (())))
def qa4 (s:List UInt8):Ybx:=
 match c6 b8k (s,0,()) with|some (.inl (_)) =>some true|some (.inr (v,_)) =>some v|none=>none
def qf6 (s:List UInt8) (i:Int):Yby:=
 match qcw s i with|some (r1,r2) =>some (if r2<1 then 1 else r2)|none=>none
def qf3 (c:Int):Ybx:=
 let k (v:Bool):Ybx:=some v;bif c==32 then k true else k (c==160)
def b87:(Ybv×Ybv×Bool×Int×Unit)→Option YaB:=λ(s,vout,gap,i,_)=>
 bif decide (i<(s.length:Int)) then match qcw s i with|some (r1,r2) =>(match qf6 s i with|some r4=>(match qf3 r1 with|some r6=>let k11 (vout9:List UInt8) (gap10:Bool):Option YaB:=some (.inl (s,vout9,gap10,wr .i64 (i+r4),()));bif r6 then k11 vout true else let k8 (v:Bool):Option YaB:=let k (vout7:List UInt8):Option YaB:=bif decide (0≤(i:Int))&&(decide ((i:Int)≤wr .i64 (i+r4))&&decide (wr .i64 (i+r4)≤(s.length:Int))) then bif decide (vout7.length+((s.take (wr .i64 (i+r4)).toNat).drop (i:Int).toNat).length≤LIM) then k11 (vout7++((s.take (wr .i64 (i+r4)).toNat).drop (i:Int).toNat)) false else none else none;bif v then bif decide (vout.length+([32]).length≤LIM) then k (vout++([32])) else none else k vout;bif gap then k8 (!(vout==([]))) else k8 false|none=>none)|none=>none)|none=>none else some (.inr ((vout,())))
def qbq (s:List UInt8):Option Ybv:=
 match c6 b87 (s,[],false,0,()) with|some ((vout,_)) =>some vout|none=>none
def b5p:(Ybt×Int×Unit)→YbK:=λ(l,i,_)=>
 bif decide (i<(l.length:Int)) then match o0 l i with|some x=>let k18 (v:Bool):YbK:=bif v then some (.inr (.inr (2,()))) else let k17 (v2:Bool):YbK:=bif v2 then some (.inr (.inr (7,()))) else let k16 (v3:Bool):YbK:=let k15 (v4:Bool):YbK:=let k14 (v5:Bool):YbK:=bif v5 then some (.inr (.inr (1,()))) else let k13 (v6:Bool):YbK:=bif v6 then some (.inr (.inr (2,()))) else let k12 (v8:Bool):YbK:=let k (v11:Bool):YbK:=bif v11 then some (.inr (.inr (3,()))) else bif decide (200<(x.Name.length:Int)) then some (.inr (.inr (4,()))) else some (.inl (l,wr .i64 (i+1),()));bif v8 then k true else match qbq x.Name with|some r10=>k (!(r10==x.Name))|none=>none;bif x.Name==([]) then k12 true else match qa4 x.Name with|some r7=>k12 (!r7)|none=>none;bif decide (x.Until<0) then k13 true else k13 (decide (109572<x.Until));bif v4 then k14 true else k14 (decide (4<x.Branch));bif v3 then k15 true else k15 (decide (x.Branch<1));bif decide (x.Kind<1) then k16 true else k16 (decide (9<x.Kind));bif decide (0<i) then match o0 l (wr .i64 (i-1)) with|some x1=>k17 (decide (x.ID≤x1.ID))|none=>none else k17 false;bif decide (x.ID<1) then k18 true else k18 (decide (9999<x.ID))|none=>none else some (.inr (.inl (())))
def qbp (l:List Patron):Yby:=
 bif decide (32<(l.length:Int)) then some 13 else match c6 b5p (l,0,()) with|some (.inl (_)) =>some 0|some (.inr (v,_)) =>some v|none=>none
def b5n:(Yad×Int×Unit)→YbG:=λ(l,i,_)=>
 bif decide (i<(l.length:Int)) then match o0 l i with|some x=>let k21 (v:Bool):YbG:=bif v then some (.inr (.inr (7,()))) else let k20 (v2:Bool):YbG:=let k19 (v3:Bool):YbG:=let k18 (v4:Bool):YbG:=let k17 (v5:Bool):YbG:=let k16 (v6:Bool):YbG:=let k15 (v7:Bool):YbG:=let k14 (v8:Bool):YbG:=let k13 (v9:Bool):YbG:=let k12 (v10:Bool):YbG:=let k (v11:Bool):YbG:=bif v11 then some (.inr (.inr (2,()))) else some (.inl (l,wr .i64 (i+1),()));bif v10 then k true else k (decide (10<x.Renewals));bif v9 then k12 true else k12 (decide (x.Renewals<0));bif v8 then k13 true else k13 (decide (x.Due<x.Out));bif v7 then k14 true else k14 (decide (109572<x.Due));bif v6 then k15 true else k15 (decide (x.Due<0));bif v5 then k16 true else k16 (decide (109572<x.Out));bif v4 then k17 true else k17 (decide (x.Out<0));bif v3 then k18 true else k18 (decide (9999<x.Patron));bif v2 then k19 true else k19 (decide (x.Patron<1));bif decide (x.Item<1) then k20 true else k20 (decide (9999<x.Item));bif decide (0<i) then match o0 l (wr .i64 (i-1)) with|some x1=>k21 (decide (x.Item≤x1.Item))|none=>none else k21 false|none=>none else some (.inr (.inl (())))
def qbc (l:List Loan):Yby:=
 bif decide (64<(l.length:Int)) then some 13 else match c6 b5n (l,0,()) with|some (.inl (_)) =>some 0|some (.inr (v,_)) =>some v|none=>none
def qdm (n:Int):Ybx:=
 let k (v:Bool):Ybx:=some v;bif decide (1≤n) then k (decide (n≤9999)) else k false
def qdz (n:Int):Ybx:=
 let k (v:Bool):Ybx:=some v;bif decide (0≤n) then k (decide (n≤109572)) else k false
def qfz (h:Hold):Yby:=
 let k41 (v:Bool):Yby:=let k40 (v2:Bool):Yby:=let k39 (v5:Bool):Yby:=let k38 (v9:Bool):Yby:=let k37 (v10:Bool):Yby:=let k36 (v11:Bool):Yby:=let k35 (v14:Bool):Yby:=let k34 (v18:Bool):Yby:=let k33 (v21:Bool):Yby:=let k32 (v24:Bool):Yby:=let k31 (v25:Bool):Yby:=let k30 (v26:Bool):Yby:=bif v26 then some 2 else let k29 (v27:Bool):Yby:=bif v27 then some 1 else let k (v28:Bool):Yby:=bif v28 then some 12 else some 0;bif !((decide (0<h.Got))==(!(h.State==1))) then k true else k (!((decide (0<h.Until))==(h.State==3)));bif decide (h.State<1) then k29 true else k29 (decide (3<h.State));bif v25 then k30 true else k30 (decide (9<h.Rank));bif v24 then k31 true else k31 (decide (h.Rank<0));bif v21 then k32 true else match qdz h.Asleep with|some r23=>k32 (!r23)|none=>none;bif v18 then k33 true else match qdz h.Until with|some r20=>k33 (!r20)|none=>none;bif v14 then k34 true else bif !(h.Got==0) then match qdm h.Got with|some r16=>k34 (!r16)|none=>none else k34 false;bif v11 then k35 true else match qdz h.Placed with|some r13=>k35 (!r13)|none=>none;bif v10 then k36 true else k36 (decide (4<h.Pickup));bif v9 then k37 true else k37 (decide (h.Pickup<1));bif v5 then k38 true else bif !(h.Item==0) then match qdm h.Item with|some r7=>k38 (!r7)|none=>none else k38 false;bif v2 then k39 true else match qdm h.Record with|some r4=>k39 (!r4)|none=>none;bif v then k40 true else match qdm h.Patron with|some r1=>k40 (!r1)|none=>none;bif decide (h.ID<1) then k41 true else k41 (decide (99999<h.ID))
def d0n:YaO→Option (YaO⊕(YaP⊕Yag)):=λ(l,i,_)=>
 bif decide (i<(l.length:Int)) then let k (v:Bool):Option (YaO⊕(YaP⊕Yag)):=bif v then some (.inr (.inr (7,()))) else match o0 l i with|some x2=>(match qfz x2 with|some r3=>bif !(r3==0) then some (.inr (.inr (r3,()))) else some (.inl (l,wr .i64 (i+1),()))|none=>none)|none=>none;bif decide (0<i) then match o0 l i with|some x=>(match o0 l (wr .i64 (i-1)) with|some x1=>k (decide (x.ID≤x1.ID))|none=>none)|none=>none else k false else some (.inr (.inl (l,())))
def b51:(Yaa×Int×Int×Unit)→Option Ya5:=λ(l,i,k,_)=>
 bif decide (k<i) then match o0 l i with|some x=>(match o0 l k with|some x5=>let k14 (v:Bool):Option Ya5:=let k13 (v12:Bool):Option Ya5:=bif v12 then some (.inr (.inr (7,()))) else some (.inl (l,i,wr .i64 (k+1),()));bif v then k13 true else match o0 l i with|some x8=>bif decide (0<x8.Got) then match o0 l i with|some x9=>(match o0 l k with|some x10=>k13 (x9.Got==x10.Got)|none=>none)|none=>none else k13 false|none=>none;bif x.Patron==x5.Patron then match o0 l i with|some x6=>(match o0 l k with|some x7=>k14 (x6.Record==x7.Record)|none=>none)|none=>none else k14 false|none=>none)|none=>none else some (.inr (.inl (l,i,())))
def b9m:YaO→Option (YaO⊕Yac):=λ(l,i,_)=>
 bif decide (i<(l.length:Int)) then match c6 b51 (l,i,0,()) with|some (.inl (l15,i16,_)) =>some (.inl (l15,wr .i64 (i16+1),()))|some (.inr (v,_)) =>some (.inr (.inr (v,())))|none=>none else some (.inr (.inl (())))
def qq (l:List Hold):Yby:=
 bif decide (64<(l.length:Int)) then some 13 else match c6 d0n (l,0,()) with|some (.inl (l4,_)) =>(match c6 b9m (l4,0,()) with|some (.inl (_)) =>some 0|some (.inr (v,_)) =>some v|none=>none)|some (.inr (v17,_)) =>some v17|none=>none
def qeh (n:Int):Ybx:=
 let k (v:Bool):Ybx:=some v;bif decide (0≤n) then k (decide (n≤109572)) else k false
def b44:(Yaf×Int×Unit)→YbH:=λ(l,i,_)=>
 bif decide (i<(l.length:Int)) then match o0 l i with|some x=>let k22 (v:Bool):YbH:=bif v then some (.inr (.inr (7,()))) else let k21 (v2:Bool):YbH:=let k20 (v3:Bool):YbH:=let k19 (v4:Bool):YbH:=let k18 (v5:Bool):YbH:=let k17 (v6:Bool):YbH:=let k16 (v8:Bool):YbH:=bif v8 then some (.inr (.inr (2,()))) else let k15 (v9:Bool):YbH:=bif v9 then some (.inr (.inr (1,()))) else let k14 (v10:Bool):YbH:=let k13 (v11:Bool):YbH:=let k (v12:Bool):YbH:=bif v12 then some (.inr (.inr (2,()))) else some (.inl (l,wr .i64 (i+1),()));bif v11 then k true else k (decide (x.Amount≤x.Paid));bif v10 then k13 true else k13 (decide (x.Paid<0));bif decide (x.Amount<1) then k14 true else k14 (decide (100000000<x.Amount));bif decide (x.Kind<1) then k15 true else k15 (decide (3<x.Kind));bif v6 then k16 true else match qeh x.Day with|some r7=>k16 (!r7)|none=>none;bif v5 then k17 true else k17 (decide (9999<x.Item));bif v4 then k18 true else k18 (decide (x.Item<1));bif v3 then k19 true else k19 (decide (9999<x.Patron));bif v2 then k20 true else k20 (decide (x.Patron<1));bif decide (x.ID<1) then k21 true else k21 (decide (99999<x.ID));bif decide (0<i) then match o0 l (wr .i64 (i-1)) with|some x1=>k22 (decide (x.ID≤x1.ID))|none=>none else k22 false|none=>none else some (.inr (.inl (())))
def qa3 (l:List Charge):Yby:=
 bif decide (128<(l.length:Int)) then some 13 else match c6 b44 (l,0,()) with|some (.inl (_)) =>some 0|some (.inr (v,_)) =>some v|none=>none
def qck (n:Int) (low:Int) (high:Int):Ybx:=
 let k (v:Bool):Ybx:=some v;bif decide (low≤n) then k (decide (n≤high)) else k false
def qfl (r:Rule):Ybx:=
 match qck r.Patron 0 9 with|some r2=>let k48 (v:Bool):Ybx:=let k47 (v7:Bool):Ybx:=match qck r.Days 0 365 with|some r9=>let k46 (v12:Bool):Ybx:=let k45 (v15:Bool):Ybx:=match qck r.Fine 0 1000 with|some r17=>let k44 (v20:Bool):Ybx:=let k43 (v23:Bool):Ybx:=let k42 (v24:Bool):Ybx:=let k41 (v25:Bool):Ybx:=let k40 (v28:Bool):Ybx:=let k39 (v31:Bool):Ybx:=let k38 (v34:Bool):Ybx:=let k (v37:Bool):Ybx:=some v37;bif v34 then match qck r.Rank 0 9 with|some r36=>k r36|none=>none else k false;bif v31 then match qck r.Fixed 0 109572 with|some r33=>k38 r33|none=>none else k38 false;bif v28 then match qck r.Recall 1 60 with|some r30=>k39 r30|none=>none else k39 false;bif v25 then match qck r.Shelf 1 60 with|some r27=>k40 r27|none=>none else k40 false;bif v24 then k41 v23 else k41 false;bif v7 then k42 v15 else k42 false;bif v20 then match qck r.MaxFine 0 100000000 with|some r22=>k43 r22|none=>none else k43 false;bif r17 then match qck r.Grace 0 30 with|some r19=>k44 r19|none=>none else k44 false|none=>none;bif v12 then match qck r.Loans 0 99 with|some r14=>k45 r14|none=>none else k45 false;bif r9 then match qck r.Renewals 0 10 with|some r11=>k46 r11|none=>none else k46 false|none=>none;bif v then match qck r.Branch 0 4 with|some r6=>k47 r6|none=>none else k47 false;bif r2 then match qck r.Item 0 9 with|some r4=>k48 r4|none=>none else k48 false|none=>none
def d0p:(Yay×Int×Int×Unit)→Option YaV:=λ(l,i,k,_)=>
 bif decide (k<i) then match o0 l k with|some x=>(match o0 l i with|some x2=>let k9 (v:Bool):Option YaV:=let k8 (v7:Bool):Option YaV:=bif v7 then some (.inr (.inr (7,()))) else some (.inl (l,i,wr .i64 (k+1),()));bif v then match o0 l k with|some x5=>(match o0 l i with|some x6=>k8 (x5.Branch==x6.Branch)|none=>none)|none=>none else k8 false;bif x.Patron==x2.Patron then match o0 l k with|some x3=>(match o0 l i with|some x4=>k9 (x3.Item==x4.Item)|none=>none)|none=>none else k9 false|none=>none)|none=>none else some (.inr (.inl (l,i,())))
def d9n:(Yay×Int×Unit)→Option ((Yay×Int×Unit)⊕Yac):=λ(l,i,_)=>
 bif decide (i<(l.length:Int)) then match o0 l i with|some x=>(match qfl x with|some r1=>(bif !r1 then some (.inr (.inr (2,()))) else match c6 d0p (l,i,0,()) with|some (.inl (l10,i11,_)) =>some (.inl (l10,wr .i64 (i11+1),()))|some (.inr (v,_)) =>some (.inr (.inr (v,())))|none=>none)|none=>none)|none=>none else some (.inr (.inl (())))
def qu (l:List Rule):Yby:=
 bif decide (32<(l.length:Int)) then some 13 else match c6 d9n (l,0,()) with|some (.inl (_)) =>some 0|some (.inr (v,_)) =>some v|none=>none
def b45:Yaw→Option (Yaw⊕((Calendar×Unit)⊕Yag)):=λ(i,c,_)=>
 bif decide (i<(c.Closed.length:Int)) then match o0 c.Closed i with|some x=>(let k (v:Bool):Option (Yaw⊕((Calendar×Unit)⊕Yag)):=bif v then some (.inr (.inr (2,()))) else some (.inl (wr .i64 (i+1),c,()));bif decide (x<0) then k true else match o0 c.Closed i with|some x1=>k (decide (109572<x1))|none=>none)|none=>none else some (.inr (.inl (c,())))
def a87:Yaw→Option (Yaw⊕Yac):=λ(i,c,_)=>
 bif decide (i<(c.Closed.length:Int)) then match o0 c.Closed i with|some x=>(match o0 c.Closed (wr .i64 (i-1)) with|some x3=>bif decide (x≤x3) then some (.inr (.inr (7,()))) else some (.inl (wr .i64 (i+1),c,()))|none=>none)|none=>none else some (.inr (.inl (())))
def qad (c:Calendar):Yby:=
 let k (v:Bool):Yby:=bif v then some 1 else bif decide (64<(c.Closed.length:Int)) then some 13 else match c6 b45 (0,c,()) with|some (.inl (c2,_)) =>(match c6 a87 (1,c2,()) with|some (.inl (_)) =>some 0|some (.inr (v4,_)) =>some v4|none=>none)|some (.inr (v5,_)) =>some v5|none=>none;bif decide (c.Week<0) then k true else k (decide (126<c.Week))
def b9h:(Ybt×Int×Int×Unit)→Option ((Ybt×Int×Int×Unit)⊕Yac):=λ(l,vid,i,_)=>
 bif decide (i<(l.length:Int)) then match o0 l i with|some x=>bif x.ID==vid then some (.inr (.inr (i,()))) else some (.inl (l,vid,wr .i64 (i+1),()))|none=>none else some (.inr (.inl (())))
def qcg (l:List Patron) (vid:Int):Yby:=
 match c6 b9h (l,vid,0,()) with|some (.inl (_)) =>some (-1)|some (.inr (v,_)) =>some v|none=>none
def qce (l:List Patron) (vid:Int):Option (Patron×Bool):=
 match qcg l vid with|some r1=>(bif decide (r1<0) then some ((⟨0,0,0,0,false,[]⟩:Patron),false) else match o0 l r1 with|some x=>some (x,true)|none=>none)|none=>none
def qf1 (branch:Int):Option Custody:=
 some (⟨1,branch,0,0⟩:Custody)
def qge (state:Int):Ybx:=
 let k6 (v:Bool):Ybx:=let k5 (v1:Bool):Ybx:=let k4 (v2:Bool):Ybx:=let k (v3:Bool):Ybx:=some v3;bif v2 then k true else k (state==10);bif v1 then k4 true else k4 (state==9);bif v then k5 true else k5 (state==8);bif state==4 then k6 true else k6 (state==5)
def qgk (c:Custody):Ybx:=
 let k17 (v:Bool):Ybx:=let k16 (v1:Bool):Ybx:=let k15 (v2:Bool):Ybx:=bif v2 then some false else let k10 (v9:Bool):Ybx:=some v9;bif c.State==6 then let k8 (v3:Bool):Ybx:=let k7 (v4:Bool):Ybx:=let k (v5:Bool):Ybx:=bif v5 then k10 (!(c.To==c.Branch)) else k10 false;bif v4 then k (decide (c.To≤4)) else k false;bif v3 then k7 (decide (1≤c.To)) else k7 false;bif decide (0≤c.Who) then k8 (decide (c.Who≤9999)) else k8 false else bif !(c.To==0) then some false else match qge c.State with|some r11=>let k14 (v13:Bool):Ybx:=some v13;bif r11 then bif decide (1≤c.Who) then k14 (decide (c.Who≤9999)) else k14 false else some (c.Who==0)|none=>none;bif v1 then k15 true else k15 (decide (4<c.Branch));bif v then k16 true else k16 (decide (c.Branch<1));bif decide (c.State<1) then k17 true else k17 (decide (12<c.State))
def qe4 (m:Move):Ybx:=
 let k16 (v:Bool):Ybx:=let k15 (v1:Bool):Ybx:=let k14 (v2:Bool):Ybx:=let k13 (v3:Bool):Ybx:=let k12 (v4:Bool):Ybx:=let k11 (v5:Bool):Ybx:=let k10 (v6:Bool):Ybx:=let k9 (v7:Bool):Ybx:=let k (v8:Bool):Ybx:=some v8;bif v7 then k (decide (m.Who≤9999)) else k false;bif v6 then k9 (decide (0≤m.Who)) else k9 false;bif v5 then k10 (decide (m.Branch≤4)) else k10 false;bif v4 then k11 (decide (1≤m.Branch)) else k11 false;bif v3 then k12 (decide (m.Kind≤15)) else k12 false;bif v2 then k13 (decide (1≤m.Kind)) else k13 false;bif v1 then k14 (decide (m.Item≤9999)) else k14 false;bif v then k15 (decide (1≤m.Item)) else k15 false;bif decide (0≤m.Day) then k16 (decide (m.Day≤109572)) else k16 false
def qfx (kind:Int):YbR:=
 bif kind==1 then some ([1]) else bif kind==2 then some ([2,5]) else bif kind==3 then some ([3,5]) else bif kind==4 then some ([4,8,9,10]) else let k (v:Bool):YbR:=bif v then some ([2,3]) else bif kind==6 then some ([2,3,5]) else bif kind==7 then some ([6]) else bif kind==9 then some ([7]) else bif kind==10 then some ([3]) else bif kind==11 then some ([4]) else bif kind==12 then some ([4,9]) else bif kind==13 then some ([2,3,5,6,7]) else bif kind==14 then some ([11]) else bif kind==15 then some ([1,2,3,11,10]) else some ([]);bif kind==5 then k (kind==5) else k (kind==8)
def b9a:(Int×Yal×Int×Unit)→Option ((Int×Yal×Int×Unit)⊕Yae):=λ(state,l,i,_)=>
 bif decide (i<(l.length:Int)) then match o0 l i with|some x=>bif x==state then some (.inr (.inr (true,()))) else some (.inl (state,l,wr .i64 (i+1),()))|none=>none else some (.inr (.inl (())))
def qby (state:Int) (kind:Int):Ybx:=
 match qfx kind with|some r1=>(match c6 b9a (state,r1,0,()) with|some (.inl (_)) =>some false|some (.inr (v,_)) =>some v|none=>none)|none=>none
def qgn (c:Custody) (m:Move):Ybx:=
 let k14 (v2:Bool):Ybx:=let k11 (v10:Bool):Ybx:=some v10;bif v2 then k11 (m.Who==0) else bif m.Kind==7 then bif m.Who==0 then k11 (m.Branch==c.To) else k11 false else bif m.Kind==6 then k11 (!(m.Branch==c.Branch)) else let k (v5:Bool):Ybx:=bif v5 then bif m.Branch==c.Branch then k11 (decide (1≤m.Who)) else k11 false else let k13 (v12:Bool):Ybx:=some v12;bif m.Branch==c.Branch then k13 (m.Who==0) else k13 false;bif m.Kind==3 then k (m.Kind==3) else bif m.Kind==5 then k (m.Kind==5) else k (m.Kind==10);bif m.Kind==1 then k14 (m.Kind==1) else bif m.Kind==4 then k14 (m.Kind==4) else bif m.Kind==9 then k14 (m.Kind==9) else k14 (m.Kind==14)
def qgj (kind:Int):Yby:=
 let k13 (v3:Bool):Yby:=let k (v12:Int):Yby:=some v12;bif v3 then k 2 else bif kind==2 then k 3 else bif kind==3 then k 4 else bif kind==5 then k 5 else bif kind==6 then k 6 else bif kind==8 then k 7 else bif kind==10 then k 8 else bif kind==11 then k 9 else bif kind==12 then k 10 else bif kind==13 then k 11 else some 12;bif kind==1 then k13 (kind==1) else bif kind==4 then k13 (kind==4) else bif kind==7 then k13 (kind==7) else bif kind==9 then k13 (kind==9) else k13 (kind==14)
def qec (c:Custody) (m:Move):YbC:=
 match qgk c with|some r1=>(let k26 (v:Bool):YbC:=bif v then some ((⟨0,0,0,0⟩:Custody),1) else match qby c.State m.Kind with|some r5=>bif !r5 then some ((⟨0,0,0,0⟩:Custody),12) else let k25 (v6:Bool):YbC:=let k24 (v7:Bool):YbC:=bif v7 then some ((⟨0,0,0,0⟩:Custody),16) else match qgn c m with|some r9=>(bif !r9 then some ((⟨0,0,0,0⟩:Custody),1) else match qgj m.Kind with|some r11=>let k23 (vout20:Int) (vout21:Int) (vout22:Int):YbC:=some ((⟨r11,vout20,vout21,vout22⟩:Custody),0);bif r11==2 then k23 m.Branch 0 0 else let k19 (v13:Bool):YbC:=bif v13 then k23 c.Branch m.Who 0 else bif r11==6 then k23 c.Branch m.Who m.Branch else let k (v14:Bool):YbC:=bif v14 then k23 c.Branch c.Who 0 else k23 c.Branch 0 0;bif r11==9 then k (r11==9) else k (r11==10);bif r11==4 then k19 (r11==4) else bif r11==5 then k19 (r11==5) else k19 (r11==8)|none=>none)|none=>none;bif v6 then k24 (!(m.Who==c.Who)) else k24 false;bif m.Kind==3 then k25 (c.State==5) else k25 false|none=>none;bif !r1 then k26 true else match qe4 m with|some r3=>k26 (!r3)|none=>none)|none=>none
def b86:Ybq→Option (Ybq⊕Ybe):=λ(l,item,i,v,c,_)=>
 bif decide (i<(l.length:Int)) then match o0 l i with|some x=>(bif !(x.Item==item) then some (.inl (l,item,wr .i64 (i+1),v,c,())) else match o0 l i with|some x2=>(match qec c x2 with|some (r3,r4) =>bif !(r4==0) then some (.inr (.inr (i,r4,(⟨0,0,0,0⟩:Custody),()))) else some (.inl (l,item,wr .i64 (i+1),v,r3,()))|none=>none)|none=>none)|none=>none else some (.inr (.inl (v,c,())))
def qbo (branch:Int) (l:List Move) (item:Int):Option (Custody×Int×Int):=
 let k (v:Bool):Option (Custody×Int×Int):=bif v then some ((⟨0,0,0,0⟩:Custody),(-1),1) else match qf1 branch with|some r1=>(match c6 b86 (l,item,0,(⟨0,0,0,0⟩:Custody),r1,()) with|some (.inl (v5,c,_)) =>some (c,(-1),0)|some (.inr (v6,v7,v8,_)) =>some (v8,v6,v7)|none=>none)|none=>none;bif decide (branch<1) then k true else k (decide (4<branch))
def d9i:Ya9→Option (Ya9⊕Yac):=λ(item,i,c,_)=>
 bif decide (i<(c.Items.length:Int)) then match o0 c.Items i with|some x=>bif x.ID==item then some (.inr (.inr (i,()))) else some (.inl (item,wr .i64 (i+1),c,()))|none=>none else some (.inr (.inl (())))
def qn (c:Circ) (item:Int):Yby:=
 match c6 d9i (item,0,c,()) with|some (.inl (_)) =>some (-1)|some (.inr (v,_)) =>some v|none=>none
def b48:YaC→YbA:=λ(i,c,_)=>
 bif decide (i<(c.Items.length:Int)) then match o0 c.Items i with|some x=>let k29 (v:Bool):YbA:=let k28 (v3:Bool):YbA:=let k27 (v4:Bool):YbA:=let k26 (v5:Bool):YbA:=let k25 (v6:Bool):YbA:=let k24 (v7:Bool):YbA:=bif v7 then some (.inr (.inr (false,()))) else let k23 (v8:Bool):YbA:=let k22 (v9:Bool):YbA:=let k21 (v10:Bool):YbA:=let k20 (v11:Bool):YbA:=let k19 (v13:Bool):YbA:=bif v13 then some (.inr (.inr (false,()))) else match qbo x.Branch c.Moves x.ID with|some (r15,r16,r17) =>let k (v18:Bool):YbA:=bif v18 then some (.inr (.inr (false,()))) else some (.inl (wr .i64 (i+1),c,()));bif !(r17==0) then k true else k (!(u7 r15 x.Custody))|none=>none;bif v11 then k19 true else match qa4 x.Call with|some r12=>k19 (!r12)|none=>none;bif v10 then k20 true else k20 (decide (200<(x.Call.length:Int)));bif v9 then k21 true else k21 (decide (100000000<x.Price));bif v8 then k22 true else k22 (decide (x.Price<0));bif decide (x.Kind<1) then k23 true else k23 (decide (9<x.Kind));bif v6 then k24 true else k24 (decide (4<x.Branch));bif v5 then k25 true else k25 (decide (x.Branch<1));bif v4 then k26 true else k26 (decide (9999<x.Record));bif v3 then k27 true else k27 (decide (x.Record<1));bif v then k28 true else bif decide (0<i) then match o0 c.Items (wr .i64 (i-1)) with|some x1=>k28 (decide (x.ID≤x1.ID))|none=>none else k28 false;bif decide (x.ID<1) then k29 true else k29 (decide (9999<x.ID))|none=>none else some (.inr (.inl (c,())))
def a88:YaC→YbP:=λ(i,c,_)=>
 bif decide (i<(c.Moves.length:Int)) then match o0 c.Moves i with|some x=>(match qn c x.Item with|some r31=>bif decide (r31<0) then some (.inr (.inr (false,()))) else some (.inl (wr .i64 (i+1),c,()))|none=>none)|none=>none else some (.inr (.inl (())))
def qag (c:Circ):Ybx:=
 let k (v:Bool):Ybx:=bif v then some false else match c6 b48 (0,c,()) with|some (.inl (c30,_)) =>(match c6 a88 (0,c30,()) with|some (.inl (_)) =>some true|some (.inr (v32,_)) =>some v32|none=>none)|some (.inr (v33,_)) =>some v33|none=>none;bif decide (64<(c.Items.length:Int)) then k true else k (decide (2000<(c.Moves.length:Int)))
def qd5 (u:Custody):Ybx:=
 let k2 (v:Bool):Ybx:=let k (v1:Bool):Ybx:=some v1;bif v then k true else k (u.State==10);bif u.State==4 then k2 true else k2 (u.State==9)
def b8s:(Yad×Int×Int×Unit)→Option ((Yad×Int×Int×Unit)⊕Yac):=λ(l,item,i,_)=>
 bif decide (i<(l.length:Int)) then match o0 l i with|some x=>bif x.Item==item then some (.inr (.inr (i,()))) else some (.inl (l,item,wr .i64 (i+1),()))|none=>none else some (.inr (.inl (())))
def qau (l:List Loan) (item:Int):Yby:=
 match c6 b8s (l,item,0,()) with|some (.inl (_)) =>some (-1)|some (.inr (v,_)) =>some v|none=>none
def qeg (l:List Loan) (item:Int):Option (Loan×Bool):=
 match qau l item with|some r1=>(bif decide (r1<0) then some ((⟨0,0,0,0,0,false⟩:Loan),false) else match o0 l r1 with|some x=>some (x,true)|none=>none)|none=>none
def b47:YaC→YbA:=λ(i,c,_)=>
 bif decide (i<(c.Loans.length:Int)) then match o0 c.Loans i with|some x=>(match qn c x.Item with|some r1=>(match qce c.Patrons x.Patron with|some (r3,r4) =>let k12 (v:Bool):YbA:=let k11 (v8:Bool):YbA:=let k (v10:Bool):YbA:=bif v10 then some (.inr (.inr (false,()))) else some (.inl (wr .i64 (i+1),c,()));bif v8 then k true else match o0 c.Items r1 with|some x9=>k (!(x9.Custody.Who==x.Patron))|none=>none;bif v then k11 true else match o0 c.Items r1 with|some x5=>(match qd5 x5.Custody with|some r7=>k11 (!r7)|none=>none)|none=>none;bif decide (r1<0) then k12 true else k12 (!r4)|none=>none)|none=>none)|none=>none else some (.inr (.inl (c,())))
def b02:YaC→YbP:=λ(i,c,_)=>
 bif decide (i<(c.Items.length:Int)) then match o0 c.Items i with|some x=>(match qeg c.Loans x.ID with|some (r14,r15) =>(match o0 c.Items i with|some x16=>(match qd5 x16.Custody with|some r18=>bif !(r15==r18) then some (.inr (.inr (false,()))) else some (.inl (wr .i64 (i+1),c,()))|none=>none)|none=>none)|none=>none)|none=>none else some (.inr (.inl (())))
def qaf (c:Circ):Ybx:=
 match c6 b47 (0,c,()) with|some (.inl (c13,_)) =>(match c6 b02 (0,c13,()) with|some (.inl (_)) =>some true|some (.inr (v,_)) =>some v|none=>none)|some (.inr (v19,_)) =>some v19|none=>none
def b8r:(Int×Int×Circ×Hold×Unit)→Option ((Int×Int×Circ×Hold×Unit)⊕((Hold×Unit)⊕(Bool×Hold×Unit))):=λ(item,i,c,v,_)=>
 bif decide (i<(c.Holds.length:Int)) then match o0 c.Holds i with|some x=>bif x.Got==item then match o0 c.Holds i with|some x1=>some (.inr (.inr (true,x1,())))|none=>none else some (.inl (item,wr .i64 (i+1),c,v,()))|none=>none else some (.inr (.inl (v,())))
def qat (c:Circ) (item:Int):Option (Hold×Bool):=
 match c6 b8r (item,0,c,(⟨0,0,0,0,0,0,0,0,0,0,0⟩:Hold),()) with|some (.inl (v,_)) =>some ((⟨0,0,0,0,0,0,0,0,0,0,0⟩:Hold),false)|some (.inr (v2,v3,_)) =>some (v3,v2)|none=>none
def b49:YaC→YbA:=λ(i,c,_)=>
 bif decide (i<(c.Holds.length:Int)) then match o0 c.Holds i with|some x=>(match qce c.Patrons x.Patron with|some (r1,r2) =>let k18 (v:Bool):YbA:=bif v then some (.inr (.inr (false,()))) else bif x.State==1 then some (.inl (wr .i64 (i+1),c,())) else match qn c x.Got with|some r4=>(let k17 (v6:Bool):YbA:=bif v6 then some (.inr (.inr (false,()))) else match o0 c.Items r4 with|some x7=>let k16 (v10:Bool):YbA:=bif v10 then some (.inr (.inr (false,()))) else let k15 (v14:Bool):YbA:=bif v14 then some (.inr (.inr (false,()))) else some (.inl (wr .i64 (i+1),c,()));bif x.State==2 then let k13 (v11:Bool):YbA:=bif v11 then k15 true else k15 (!(x7.Custody.Who==x.Patron));bif !(x7.Custody.State==6) then k13 true else k13 (!(x7.Custody.To==x.Pickup)) else k15 false;bif x.State==3 then let k (v8:Bool):YbA:=bif v8 then k16 true else k16 (!(x7.Custody.Who==x.Patron));bif !(x7.Custody.State==5) then k true else k (!(x7.Custody.Branch==x.Pickup)) else k16 false|none=>none;bif decide (r4<0) then k17 true else match o0 c.Items r4 with|some x5=>k17 (!(x5.Record==x.Record))|none=>none)|none=>none;bif !r2 then k18 true else k18 (decide (c.NextHold≤x.ID))|none=>none)|none=>none else some (.inr (.inl (c,())))
def b03:YaC→YbP:=λ(i,c,_)=>
 bif decide (i<(c.Items.length:Int)) then match o0 c.Items i with|some x=>(bif !(x.Custody.State==5) then some (.inl (wr .i64 (i+1),c,())) else match o0 c.Items i with|some x20=>(match qat c x20.ID with|some (r21,r22) =>let k (v:Bool):YbP:=bif v then some (.inr (.inr (false,()))) else some (.inl (wr .i64 (i+1),c,()));bif !r22 then k true else k (!(r21.State==3))|none=>none)|none=>none)|none=>none else some (.inr (.inl (())))
def qah (c:Circ):Ybx:=
 match c6 b49 (0,c,()) with|some (.inl (c19,_)) =>(match c6 b03 (0,c19,()) with|some (.inl (_)) =>some true|some (.inr (v,_)) =>some v|none=>none)|some (.inr (v23,_)) =>some v23|none=>none
def b1k:YaC→YbA:=λ(i,c,_)=>
 bif decide (i<4) then let k (v:Int) (v18:List Int):YbA:=match qad (⟨v,v18⟩:Calendar) with|some r19=>bif !(r19==0) then some (.inr (.inr (false,()))) else some (.inl (wr .i64 (i+1),c,()))|none=>none;bif i==0 then k c.Cals.x0.Week c.Cals.x0.Closed else bif i==1 then k c.Cals.x1.Week c.Cals.x1.Closed else bif i==2 then k c.Cals.x2.Week c.Cals.x2.Closed else bif i==3 then k c.Cals.x3.Week c.Cals.x3.Closed else none else some (.inr (.inl (c,())))
def a89:YaC→YbA:=λ(i,c,_)=>
 bif decide (i<(c.Charges.length:Int)) then match o0 c.Charges i with|some x=>(match qce c.Patrons x.Patron with|some (r21,r22) =>(let k (v:Bool):YbA:=bif v then some (.inr (.inr (false,()))) else some (.inl (wr .i64 (i+1),c,()));bif !r22 then k true else match o0 c.Charges i with|some x23=>k (decide (c.NextCharge≤x23.ID))|none=>none)|none=>none)|none=>none else some (.inr (.inl (c,())))
def qai (c:Circ):Ybx:=
 let k44 (v:Bool):Ybx:=let k43 (v1:Bool):Ybx:=let k42 (v2:Bool):Ybx:=let k41 (v3:Bool):Ybx:=let k40 (v4:Bool):Ybx:=bif v4 then some false else match qbp c.Patrons with|some r5=>(let k39 (v8:Bool):Ybx:=let k38 (v11:Bool):Ybx:=let k37 (v14:Bool):Ybx:=let k36 (v17:Bool):Ybx:=bif v17 then some false else match c6 b1k (0,c,()) with|some (.inl (c20,_)) =>(match c6 a89 (0,c20,()) with|some (.inl (c24,_)) =>(match qag c24 with|some r26=>let k33 (v29:Bool):Ybx:=let k (v32:Bool):Ybx:=some v32;bif v29 then match qah c24 with|some r31=>k r31|none=>none else k false;bif r26 then match qaf c24 with|some r28=>k33 r28|none=>none else k33 false|none=>none)|some (.inr (v34,_)) =>some v34|none=>none)|some (.inr (v35,_)) =>some v35|none=>none;bif v14 then k36 true else match qu c.Rules with|some r16=>k36 (!(r16==0))|none=>none;bif v11 then k37 true else match qa3 c.Charges with|some r13=>k37 (!(r13==0))|none=>none;bif v8 then k38 true else match qq c.Holds with|some r10=>k38 (!(r10==0))|none=>none;bif !(r5==0) then k39 true else match qbc c.Loans with|some r7=>k39 (!(r7==0))|none=>none)|none=>none;bif v3 then k40 true else k40 (decide (100000<c.NextCharge));bif v2 then k41 true else k41 (decide (c.NextCharge<1));bif v1 then k42 true else k42 (decide (100000<c.NextHold));bif v then k43 true else k43 (decide (c.NextHold<1));bif decide (c.Today<0) then k44 true else k44 (decide (109572<c.Today))
def qfq (x:Off):Yby:=
 let k24 (v:Bool):Yby:=let k23 (v1:Bool):Yby:=let k22 (v2:Bool):Yby:=let k21 (v3:Bool):Yby:=let k20 (v4:Bool):Yby:=let k19 (v5:Bool):Yby:=let k18 (v6:Bool):Yby:=let k17 (v7:Bool):Yby:=let k16 (v8:Bool):Yby:=bif v8 then some 2 else let k15 (v9:Bool):Yby:=bif v9 then some 1 else let k14 (v11:Bool):Yby:=let k (v13:Bool):Yby:=bif v13 then some 2 else some 0;bif v11 then k true else bif !(x.Kind==1) then k (!(x.Patron==0)) else k false;bif x.Kind==1 then bif decide (x.Patron<1) then k14 true else k14 (decide (9999<x.Patron)) else k14 false;bif decide (x.Kind<1) then k15 true else k15 (decide (3<x.Kind));bif v7 then k16 true else k16 (decide (4<x.Branch));bif v6 then k17 true else k17 (decide (x.Branch<1));bif v5 then k18 true else k18 (decide (9999<x.Item));bif v4 then k19 true else k19 (decide (x.Item<1));bif v3 then k20 true else k20 (decide (109572<x.Day));bif v2 then k21 true else k21 (decide (x.Day<0));bif v1 then k22 true else k22 (decide (9999<x.Seq));bif v then k23 true else k23 (decide (x.Seq<1));bif decide (x.Device<1) then k24 true else k24 (decide (9<x.Device))
def qfw (a:Off) (b:Off):Ybx:=
 bif !(a.Day==b.Day) then some (decide (a.Day<b.Day)) else bif !(a.Device==b.Device) then some (decide (a.Device<b.Device)) else some (decide (a.Seq<b.Seq))
def d9g:YaW→Option (YaW⊕Ybi):=λ(l,i,_)=>
 bif decide (i<(l.length:Int)) then match o0 l i with|some x=>(match qfq x with|some r1=>bif !(r1==0) then some (.inr (.inr (r1,()))) else some (.inl (l,wr .i64 (i+1),()))|none=>none)|none=>none else some (.inr (.inl (l,())))
def b50:Ybw→Option (Ybw⊕(YaW⊕Yag)):=λ(l,i,k,_)=>
 bif decide (k<i) then match o0 l i with|some x=>(match o0 l k with|some x3=>let k6 (v:Bool):Option (Ybw⊕(YaW⊕Yag)):=bif v then some (.inr (.inr (7,()))) else some (.inl (l,i,wr .i64 (k+1),()));bif x.Device==x3.Device then match o0 l i with|some x4=>(match o0 l k with|some x5=>k6 (x4.Seq==x5.Seq)|none=>none)|none=>none else k6 false|none=>none)|none=>none else some (.inr (.inl (l,i,())))
def b9k:YaW→Option (YaW⊕Ybi):=λ(l,i,_)=>
 bif decide (i<(l.length:Int)) then match c6 b50 (l,i,0,()) with|some (.inl (l7,i8,_)) =>some (.inl (l7,wr .i64 (i8+1),()))|some (.inr (v,_)) =>some (.inr (.inr (v,())))|none=>none else some (.inr (.inl (l,())))
def b1o:YaW→Option (YaW⊕Yac):=λ(l,i,_)=>
 bif decide (i<(l.length:Int)) then match o0 l (wr .i64 (i-1)) with|some x=>(match o0 l i with|some x10=>(match qfw x x10 with|some r11=>bif !r11 then some (.inr (.inr (3,()))) else some (.inl (l,wr .i64 (i+1),()))|none=>none)|none=>none)|none=>none else some (.inr (.inl (())))
def qj (l:List Off):Yby:=
 bif decide (128<(l.length:Int)) then some 13 else match c6 d9g (l,0,()) with|some (.inl (l2,_)) =>(match c6 b9k (l2,0,()) with|some (.inl (l9,_)) =>(match c6 b1o (l9,1,()) with|some (.inl (_)) =>some 0|some (.inr (v,_)) =>some v|none=>none)|some (.inr (v12,_)) =>some v12|none=>none)|some (.inr (v13,_)) =>some v13|none=>none
def qei (c:Circ) (day:Int):Option Circ:=
 some (⟨day,c.Items,c.Patrons,c.Loans,c.Holds,c.Charges,c.Rules,c.Cals,c.Moves,c.NextHold,c.NextCharge,c.Local⟩:Circ)
def b43:YaQ→Option Ybr:=λ(i,k,c,v,m,u,l,_)=>
 bif decide (k<(c.Items.length:Int)) then match o0 c.Items k with|some x=>let k6 (x5:Item):Option Ybr:=bif decide (l.length+([x5]:List Item).length≤LIM) then some (.inl (i,wr .i64 (k+1),c,v,m,u,l++([x5]:List Item),())) else none;bif k==i then k6 (⟨x.ID,x.Record,x.Branch,x.Kind,x.Price,x.Call,u⟩:Item) else k6 x|none=>none else some (.inr ((c,v,m,l,())))
def q8 (c:Circ) (item:Int) (kind:Int) (branch:Int) (who:Int):YbD:=
 match qn c item with|some r1=>(match o0 c.Items r1 with|some x=>(match qec x.Custody (⟨c.Today,item,kind,branch,who⟩:Move) with|some (r3,r4) =>(bif !(r4==0) then some (ZN,r4) else bif decide (2000≤(c.Moves.length:Int)) then some (ZN,13) else match c6 b43 (r1,0,c,ZN,(⟨c.Today,item,kind,branch,who⟩:Move),r3,([]:List Item),()) with|some ((c7,v,m,l,_)) =>bif decide (c7.Moves.length≤LIM) then bif decide (c7.Moves.length+([m]:List Move).length≤LIM) then some ({c7 with Items:=l,Moves:=c7.Moves++([m]:List Move)},0) else none else none|none=>none)|none=>none)|none=>none)|none=>none
def qgm (l:List Loan) (item:Int):Option (Yad×Loan×Int):=
 match qau l item with|some r1=>bif decide (r1<0) then some ([],(⟨0,0,0,0,0,false⟩:Loan),9) else bif decide (0≤(0:Int))&&(decide ((0:Int)≤r1)&&decide (r1≤(l.length:Int))) then bif decide (([]:List Loan).length+((l.take r1.toNat).drop (0:Int).toNat).length≤LIM) then bif decide (0≤(wr .i64 (r1+1):Int))&&(decide ((wr .i64 (r1+1):Int)≤(l.length:Int))&&decide ((l.length:Int)≤(l.length:Int))) then bif decide ((([])++((l.take r1.toNat).drop (0:Int).toNat)).length+((l.take (l.length:Int).toNat).drop (wr .i64 (r1+1):Int).toNat).length≤LIM) then match o0 l r1 with|some x=>some ((([])++((l.take r1.toNat).drop (0:Int).toNat))++((l.take (l.length:Int).toNat).drop (wr .i64 (r1+1):Int).toNat),x,0)|none=>none else none else none else none else none|none=>none
def qf5 (r:Rule) (patron:Int) (item:Int) (branch:Int):Ybx:=
 let k6 (v:Bool):Ybx:=let k5 (v2:Bool):Ybx:=let k (v4:Bool):Ybx:=some v4;bif v2 then bif r.Branch==0 then k true else k (r.Branch==branch) else k false;bif v then bif r.Item==0 then k5 true else k5 (r.Item==item) else k5 false;bif r.Patron==0 then k6 true else k6 (r.Patron==patron)
def qe5 (r:Rule):Yby:=
 let k4 (n:Int):Yby:=let k3 (n1:Int):Yby:=let k (n2:Int):Yby:=some n2;bif !(r.Branch==0) then k (wr .i64 (n1+1)) else k n1;bif !(r.Item==0) then k3 (wr .i64 (n+2)) else k3 n;bif !(r.Patron==0) then k4 4 else k4 0
def b5i:YaT→Option (YaT⊕(Yag)):=λ(l,patron,item,branch,best,i,_)=>
 bif decide (i<(l.length:Int)) then match o0 l i with|some x=>(match qf5 x patron item branch with|some r1=>let k10 (v8:Bool):Option (YaT⊕(Yag)):=let k (best9:Int):Option (YaT⊕(Yag)):=some (.inl (l,patron,item,branch,best9,wr .i64 (i+1),()));bif v8 then k i else k best;bif r1 then bif decide (best<0) then k10 true else match o0 l i with|some x2=>(match qe5 x2 with|some r4=>(match o0 l best with|some x5=>(match qe5 x5 with|some r7=>k10 (decide (r7<r4))|none=>none)|none=>none)|none=>none)|none=>none else k10 false|none=>none)|none=>none else some (.inr ((best,())))
def qb2 (l:List Rule) (patron:Int) (item:Int) (branch:Int):Yby:=
 match c6 b5i (l,patron,item,branch,(-1),0,()) with|some ((best,_)) =>some best|none=>none
def qgp (l:List Rule) (patron:Int) (item:Int) (branch:Int):Option (Rule×Bool):=
 match qb2 l patron item branch with|some r1=>(bif decide (r1<0) then some ((⟨0,0,0,0,0,0,0,0,0,0,0,0,0⟩:Rule),false) else match o0 l r1 with|some x=>some (x,true)|none=>none)|none=>none
def qdd (c:Circ) (patron:Int) (x:Item):Option (Rule×Bool):=
 match qce c.Patrons patron with|some (r1,r2) =>(bif !r2 then some ((⟨0,0,0,0,0,0,0,0,0,0,0,0,0⟩:Rule),false) else match qgp c.Rules r1.Kind x.Kind x.Branch with|some (r4,r5) =>some (r4,r5)|none=>none)|none=>none
def qm (c:Circ) (branch:Int):YbO:=
 let k (v:Int) (v1:List Int):YbO:=some (⟨v,v1⟩:Calendar);bif (wr .i64 (branch-1))==0 then k c.Cals.x0.Week c.Cals.x0.Closed else bif (wr .i64 (branch-1))==1 then k c.Cals.x1.Week c.Cals.x1.Closed else bif (wr .i64 (branch-1))==2 then k c.Cals.x2.Week c.Cals.x2.Closed else bif (wr .i64 (branch-1))==3 then k c.Cals.x3.Week c.Cals.x3.Closed else none
def qgq (day:Int):Ybx:=
 let k (v:Bool):Ybx:=some v;bif decide (0≤day) then k (decide (day≤109572)) else k false
def qfv (day:Int):Yby:=
 match qgq day with|some r1=>bif !r1 then some (-1) else some (day.tmod 7)|none=>none
def d9r:(Int×Int×Int×Int×Calendar×Unit)→Option ((Int×Int×Int×Int×Calendar×Unit)⊕(Ybo)):=λ(day,bit,w,i,c,_)=>
 bif decide (i<w) then some (.inl (day,wr .i64 (bit.tdiv 2),w,wr .i64 (i+1),c,())) else some (.inr ((day,bit,c,())))
def b52:Ybo→Option (Ybo⊕Yae):=λ(day,i,c,_)=>
 bif decide (i<(c.Closed.length:Int)) then match o0 c.Closed i with|some x=>bif x==day then some (.inr (.inr (false,()))) else some (.inl (day,wr .i64 (i+1),c,()))|none=>none else some (.inr (.inl (())))
def qy (c:Calendar) (day:Int):Ybx:=
 let k (v:Bool):Ybx:=bif v then some false else match qfv day with|some r1=>(match c6 d9r (day,c.Week,r1,0,c,()) with|some ((day2,bit,c3,_)) =>(bif (bit.tmod 2)==1 then some false else match c6 b52 (day2,0,c3,()) with|some (.inl (_)) =>some true|some (.inr (v4,_)) =>some v4|none=>none)|none=>none)|none=>none;bif decide (day<0) then k true else k (decide (109572<day))
def b5k:YaG→Option (YaG⊕(Yag)):=λ(vto,n,d,c,_)=>
 bif decide (d≤(if 109572<vto then 109572 else vto)) then match qy c d with|some r1=>let k (n2:Int):Option (YaG⊕(Yag)):=some (.inl (vto,n2,wr .i64 (d+1),c,()));bif r1 then k (wr .i64 (n+1)) else k n|none=>none else some (.inr ((n,())))
def qb4 (c:Calendar) (vfrom:Int) (vto:Int):Yby:=
 match c6 b5k (vto,0,(if vfrom<0 then 0 else vfrom),c,()) with|some ((n,_)) =>some n|none=>none
def qgo (r:Rule) (c:Calendar) (due:Int) (back:Int):Yby:=
 match qad c with|some r2=>(let k10 (v:Bool):Yby:=let k (v7:Bool):Yby:=bif v7 then some 0 else match qb4 c (wr .i64 (due+1)) back with|some r9=>bif decide (r9≤r.Grace) then some 0 else some (if r.MaxFine<wr .i64 (r9*r.Fine) then r.MaxFine else wr .i64 (r9*r.Fine))|none=>none;bif v then k true else match qeh back with|some r6=>k (!r6)|none=>none;bif !(r2==0) then k10 true else match qeh due with|some r4=>k10 (!r4)|none=>none)|none=>none
def b9f:(Yaf×Int×Charge×Yaf×Unit)→Option ((Yaf×Int×Charge×Yaf×Unit)⊕((Charge×Yaf×Unit))):=λ(l,i,c,l1,_)=>
 bif decide (i<(l.length:Int)) then match o0 l i with|some x=>bif decide (l1.length+([x]:List Charge).length≤LIM) then some (.inl (l,wr .i64 (i+1),c,l1++([x]:List Charge),())) else none|none=>none else some (.inr ((c,l1,())))
def qcd (l:List Charge) (c:Charge):Option (Yaf×Int):=
 match c6 b9f (l,0,c,([]:List Charge),()) with|some ((c2,l3,_)) =>bif decide (l3.length+([c2]:List Charge).length≤LIM) then match qa3 (l3++([c2]:List Charge)) with|some r4=>bif !(r4==0) then some ([],r4) else some (l3++([c2]:List Charge),0)|none=>none else none|none=>none
def qgf (c:Circ) (patron:Int) (item:Int) (kind:Int) (amount:Int):YbD:=
 bif decide (99999<c.NextCharge) then some (ZN,13) else match qcd c.Charges (⟨c.NextCharge,patron,item,c.Today,kind,amount,0⟩:Charge) with|some (r1,r2) =>bif !(r2==0) then some (ZN,r2) else some ({c with Charges:=r1,NextCharge:=wr .i64 (c.NextCharge+1)},0)|none=>none
def b9b:(Yaf×Int×Int×Int×Int×Int×Yaf×Unit)→Option YaN:=λ(l,patron,item,kind,paid,i,l1,_)=>
 bif decide (i<(l.length:Int)) then match o0 l i with|some x=>let k4 (v:Bool):Option YaN:=let k (v3:Bool):Option YaN:=bif v3 then some (.inl (l,patron,item,kind,wr .i64 (paid+x.Paid),wr .i64 (i+1),l1,())) else bif decide (l1.length+([x]:List Charge).length≤LIM) then some (.inl (l,patron,item,kind,paid,wr .i64 (i+1),l1++([x]:List Charge),())) else none;bif v then bif kind==0 then k true else k (x.Kind==kind) else k false;bif x.Patron==patron then k4 (x.Item==item) else k4 false|none=>none else some (.inr ((paid,l1,())))
def qbz (l:List Charge) (patron:Int) (item:Int) (kind:Int):Option (Yaf×Int):=
 match c6 b9b (l,patron,item,kind,0,0,([]:List Charge),()) with|some ((paid,l5,_)) =>some (l5,paid)|none=>none
def qgd (c:Circ) (item:Int) (branch:Int):YbD:=
 match q8 c item 4 branch 0 with|some (r1,r2) =>(bif !(r2==0) then some (ZN,r2) else match qgm r1.Loans item with|some (r4,r5,r6) =>(bif !(r6==0) then some (ZN,r6) else match qn {r1 with Loans:=r4} item with|some r8=>(match o0 r1.Items r8 with|some x=>(match qdd {r1 with Loans:=r4} r5.Patron x with|some (r10,r11) =>let k23 (fine:Int):YbD:=let k (c19:Circ):YbD:=match qbz c19.Charges r5.Patron item 2 with|some (r21,r22) =>some ({c19 with Charges:=r21},0)|none=>none;bif decide (0<fine) then match qgf {r1 with Loans:=r4} r5.Patron item 1 fine with|some (r17,r18) =>bif !(r18==0) then some (ZN,r18) else k r17|none=>none else k {r1 with Loans:=r4};bif r11 then match qm {r1 with Loans:=r4} branch with|some r13=>(match qgo r10 r13 r5.Due r1.Today with|some r15=>k23 r15|none=>none)|none=>none else k23 0|none=>none)|none=>none)|none=>none)|none=>none)|none=>none
def a97:Yaw→Option YaU:=λ(d,c,_)=>
 bif decide (d≤109572) then match qy c d with|some r1=>bif r1 then some (.inr (.inr (d,0,()))) else some (.inl (wr .i64 (d+1),c,()))|none=>none else some (.inr (.inl (())))
def qa6 (c:Calendar) (day:Int):Ybz:=
 match c6 a97 ((if day<0 then 0 else day),c,()) with|some (.inl (_)) =>some (0,2)|some (.inr (v,v2,_)) =>some (v,v2)|none=>none
def b5j:YaG→Option (YaG⊕(Yag⊕(Int×Int×Unit))):=λ(n,d,i,c,_)=>
 bif decide (i<n) then match qa6 c (wr .i64 (d+1)) with|some (r4,r5) =>bif !(r5==0) then some (.inr (.inr (0,r5,()))) else some (.inl (n,r4,wr .i64 (i+1),c,()))|none=>none else some (.inr (.inl (d,())))
def qb3 (c:Calendar) (day:Int) (n:Int):Ybz:=
 let k8 (v:Bool):Ybz:=bif v then some (0,1) else let k (v1:Bool):Ybz:=bif v1 then some (0,2) else bif n==0 then match qa6 c day with|some (r2,r3) =>some (r2,r3)|none=>none else match c6 b5j (n,day,0,c,()) with|some (.inl (d,_)) =>some (d,0)|some (.inr (v6,v7,_)) =>some (v6,v7)|none=>none;bif decide (day<0) then k true else k (decide (109572<day));bif decide (n<0) then k8 true else k8 (decide (1000<n))
def b8n:(Yaa×Int×Int×Hold×Unit)→Option ((Yaa×Int×Int×Hold×Unit)⊕((Hold×Unit)⊕(Bool×Hold×Unit))):=λ(l,vid,i,v,_)=>
 bif decide (i<(l.length:Int)) then match o0 l i with|some x=>bif x.ID==vid then match o0 l i with|some x1=>some (.inr (.inr (true,x1,())))|none=>none else some (.inl (l,vid,wr .i64 (i+1),v,()))|none=>none else some (.inr (.inl (v,())))
def qaj (l:List Hold) (vid:Int):Option (Hold×Bool):=
 match c6 b8n (l,vid,0,(⟨0,0,0,0,0,0,0,0,0,0,0⟩:Hold),()) with|some (.inl (v,_)) =>some ((⟨0,0,0,0,0,0,0,0,0,0,0⟩:Hold),false)|some (.inr (v2,v3,_)) =>some (v3,v2)|none=>none
def b80:Ybk→Option (Ybk⊕(YaP)):=λ(l,i,h,l1,_)=>
 bif decide (i<(l.length:Int)) then match o0 l i with|some x=>(let k (l3:List Hold):Option (Ybk⊕(YaP)):=some (.inl (l,wr .i64 (i+1),h,l3,()));bif x.ID==h.ID then bif decide (l1.length+([h]:List Hold).length≤LIM) then k (l1++([h]:List Hold)) else none else match o0 l i with|some x2=>bif decide (l1.length+([x2]:List Hold).length≤LIM) then k (l1++([x2]:List Hold)) else none|none=>none)|none=>none else some (.inr ((l1,())))
def qbf (l:List Hold) (h:Hold):YbF:=
 match c6 b80 (l,0,h,([]:List Hold),()) with|some ((l4,_)) =>some l4|none=>none
def b84:(Yaa×Int×Int×Int×Int×Int×Hold×Unit)→Option YaX:=λ(l,number,item,state,vuntil,i,h,_)=>
 bif decide (i<(l.length:Int)) then match o0 l i with|some x=>let k (v:Bool):Option YaX:=bif v then some (.inr (.inr ([],7,()))) else some (.inl (l,number,item,state,vuntil,wr .i64 (i+1),h,()));bif !(x.ID==number) then match o0 l i with|some x16=>k (x16.Got==item)|none=>none else k false|none=>none else some (.inr (.inl (l,item,state,vuntil,h,())))
def qbk (l:List Hold) (number:Int) (item:Int) (state:Int) (vuntil:Int):YbI:=
 match qaj l number with|some (r1,r2) =>(bif !r2 then some ([],9) else match qdm item with|some r4=>let k28 (v5:Bool):YbI:=let k27 (v10:Bool):YbI:=let k26 (v12:Bool):YbI:=bif v12 then some ([],1) else let k25 (v15:Bool):YbI:=bif v15 then some ([],12) else match c6 b84 (l,number,item,state,vuntil,0,r1,()) with|some (.inl (l17,item18,state19,vuntil20,h,_)) =>(match qbf l17 (⟨h.ID,h.Patron,h.Record,h.Item,h.Pickup,h.Placed,state19,item18,vuntil20,h.Asleep,h.Rank⟩:Hold) with|some r22=>some (r22,0)|none=>none)|some (.inr (v23,v24,_)) =>some (v23,v24)|none=>none;bif !(r1.State==1) then let k (v13:Bool):YbI:=bif v13 then k25 true else k25 (!(state==3));bif !(r1.State==2) then k true else k (!(r1.Got==item)) else k25 false;bif v10 then k26 true else bif state==2 then k26 (!(vuntil==0)) else k26 false;bif v5 then k27 true else bif state==3 then bif decide (vuntil<1) then k27 true else match qdz vuntil with|some r7=>k27 (!r7)|none=>none else k27 false;bif !r4 then k28 true else bif !(state==2) then k28 (!(state==3)) else k28 false|none=>none)|none=>none
def qeb (c:Circ) (item:Int) (h:Hold):YbD:=
 match qn c item with|some r1=>(match o0 c.Items r1 with|some x=>(match qdd c h.Patron x with|some (r3,r4) =>let k (days:Int):YbD:=match q8 c item 5 x.Custody.Branch h.Patron with|some (r6,r7) =>(bif !(r7==0) then some (ZN,r7) else match qm r6 x.Custody.Branch with|some r9=>(match qb3 r9 r6.Today days with|some (r11,r12) =>(bif !(r12==0) then some (ZN,r12) else match qbk r6.Holds h.ID item 3 r11 with|some (r14,r15) =>bif !(r15==0) then some (ZN,r15) else some ({r6 with Holds:=r14},0)|none=>none)|none=>none)|none=>none)|none=>none;bif r4 then k r3.Shelf else k 7|none=>none)|none=>none)|none=>none
def b46:(Yaa×Int×Int×Int×Int×Yal×Unit)→Option Yax:=λ(l,record,day,rank,i,l2,_)=>
 bif decide (i<(l.length:Int)) then match o0 l i with|some x=>let k6 (v:Bool):Option Yax:=let k5 (v3:Bool):Option Yax:=let k (v4:Bool):Option Yax:=bif v4 then bif decide (l2.length+([x.ID]:List Int).length≤LIM) then some (.inl (l,record,day,rank,wr .i64 (i+1),l2++([x.ID]:List Int),())) else none else some (.inl (l,record,day,rank,wr .i64 (i+1),l2,()));bif v3 then k (x.Rank==rank) else k false;bif v then k5 (decide (x.Asleep≤day)) else k5 false;bif x.State==1 then k6 (x.Record==record) else k6 false|none=>none else some (.inr ((l,record,day,rank,l2,())))
def c65:(Yaa×Int×Int×Int×Yal×Unit)→Option ((Yaa×Int×Int×Int×Yal×Unit)⊕((Yal×Unit))):=λ(l,record,day,rank,l1,_)=>
 bif decide (0≤rank) then match c6 b46 (l,record,day,rank,0,l1,()) with|some ((l7,record8,day9,rank10,l11,_)) =>some (.inl (l7,record8,day9,wr .i64 (rank10-1),l11,()))|none=>none else some (.inr ((l1,())))
def qae (l:List Hold) (record:Int) (day:Int):YbR:=
 match c6 c65 (l,record,day,9,([]:List Int),()) with|some ((l12,_)) =>some l12|none=>none
def b9c:(Yaa×Int×Bool×Yal×Int×Int×Item×Unit)→Option YaI:=λ(l,branch,vlocal,q,first,i,x,_)=>
 bif decide (i<(q.length:Int)) then match o0 q i with|some x2=>(match qaj l x2 with|some (r3,r4) =>let k8 (v:Bool):Option YaI:=bif v then some (.inl (l,branch,vlocal,q,first,wr .i64 (i+1),x,())) else let k7 (v5:Bool):Option YaI:=bif v5 then some (.inr (.inr (r3.ID,()))) else let k (first6:Int):Option YaI:=some (.inl (l,branch,vlocal,q,first6,wr .i64 (i+1),x,()));bif first==0 then k r3.ID else k first;bif vlocal then k7 (r3.Pickup==branch) else k7 false;bif !(r3.Item==0) then k8 (!(r3.Item==x.ID)) else k8 false|none=>none)|none=>none else some (.inr (.inl (first,())))
def qca (l:List Hold) (x:Item) (branch:Int) (day:Int) (vlocal:Bool):Yby:=
 match qae l x.Record day with|some r1=>(match c6 b9c (l,branch,vlocal,r1,0,0,x,()) with|some (.inl (first,_)) =>some first|some (.inr (v,_)) =>some v|none=>none)|none=>none
def qe8 (c:Circ) (item:Int):Yby:=
 match qn c item with|some r1=>(match o0 c.Items r1 with|some x=>(match qca c.Holds x x.Custody.Branch c.Today c.Local with|some r3=>some r3|none=>none)|none=>none)|none=>none
def qgl (c:Circ) (item:Int):YbD:=
 match qn c item with|some r1=>(match o0 c.Items r1 with|some x=>(match qe8 c item with|some r3=>(let k (v:Int) (v10:Circ):YbD:=some (v10,v);bif r3==0 then bif !(x.Branch==x.Custody.Branch) then match q8 c item 6 x.Branch 0 with|some (r5,r6) =>k r6 r5|none=>none else bif x.Custody.State==3 then k 0 c else match q8 c item 2 x.Custody.Branch 0 with|some (r8,r9) =>k r9 r8|none=>none else match qaj c.Holds r3 with|some (r12,r13) =>(bif r12.Pickup==x.Custody.Branch then match qeb c item r12 with|some (r15,r16) =>some (r15,r16)|none=>none else match q8 c item 6 r12.Pickup r12.Patron with|some (r18,r19) =>(bif !(r19==0) then some (ZN,r19) else match qbk r18.Holds r3 item 2 0 with|some (r21,r22) =>bif !(r22==0) then some (ZN,r22) else some ({r18 with Holds:=r21},0)|none=>none)|none=>none)|none=>none)|none=>none)|none=>none)|none=>none
def qf4 (c:Circ) (item:Int) (branch:Int):YbE:=
 match qn c item with|some r1=>(bif decide (r1<0) then some (ZN,0,9) else match o0 c.Items r1 with|some x=>(match qd5 x.Custody with|some r3=>let k38 (e21:Int) (c22:Circ):YbE:=bif !(e21==0) then some (ZN,0,e21) else match qat c22 item with|some (r24,r25) =>(let k37 (e32:Int) (c33:Circ):YbE:=bif !(e32==0) then some (ZN,0,e32) else match qat c33 item with|some (r35,r36) =>some (c33,r35.ID,0)|none=>none;bif r25 then match qeb c22 item r24 with|some (r27,r28) =>k37 r28 r27|none=>none else match qgl c22 item with|some (r30,r31) =>k37 r31 r30|none=>none)|none=>none;bif r3 then let k (v:Bool):YbE:=bif v then some (ZN,0,1) else match qgd c item branch with|some (r5,r6) =>k38 r6 r5|none=>none;bif decide (branch<1) then k true else k (decide (4<branch)) else bif x.Custody.State==8 then match q8 c item 4 branch 0 with|some (r8,r9) =>k38 r9 r8|none=>none else bif x.Custody.State==11 then match q8 c item 14 branch 0 with|some (r11,r12) =>k38 r12 r11|none=>none else bif x.Custody.State==6 then match q8 c item 7 branch 0 with|some (r14,r15) =>k38 r15 r14|none=>none else k38 12 c|none=>none)|none=>none)|none=>none
def b9e:Ybp→Option (Ybp⊕(Yag)):=λ(l,patron,n,i,_)=>
 bif decide (i<(l.length:Int)) then match o0 l i with|some x=>let k (n3:Int):Option (Ybp⊕(Yag)):=some (.inl (l,patron,n3,wr .i64 (i+1),()));bif x.Patron==patron then match o0 l i with|some x1=>(match o0 l i with|some x2=>k (wr .i64 ((wr .i64 (n+x1.Amount))-x2.Paid))|none=>none)|none=>none else k n|none=>none else some (.inr ((n,())))
def qcc (l:List Charge) (patron:Int):Yby:=
 match c6 b9e (l,patron,0,0,()) with|some ((n,_)) =>some n|none=>none
def b9d:YaY→Option (YaY⊕(Yag)):=λ(l,patron,day,k,i,_)=>
 bif decide (i<(l.length:Int)) then match o0 l i with|some x=>let k4 (v:Bool):Option (YaY⊕(Yag)):=let k3 (k2:Int):Option (YaY⊕(Yag)):=some (.inl (l,patron,day,k2,wr .i64 (i+1),()));bif v then k3 (wr .i64 (k+1)) else k3 k;bif x.Patron==patron then match o0 l i with|some x1=>k4 (decide (x1.Due<day))|none=>none else k4 false|none=>none else some (.inr ((k,())))
def qcb (l:List Loan) (patron:Int) (day:Int):Yby:=
 match c6 b9d (l,patron,day,0,0,()) with|some ((k,_)) =>some k|none=>none
def qgg (p:Patron) (day:Int) (a8s:Int) (late:Int):YbR:=
 bif p.Stopped then bif decide (([]:List Int).length+([1]:List Int).length≤LIM) then bif decide (p.Until<day) then bif decide ((([])++([1]:List Int)).length+([2]:List Int).length≤LIM) then bif decide (1000<a8s) then bif decide (((([])++([1]:List Int))++([2]:List Int)).length+([3]:List Int).length≤LIM) then bif decide (2<late) then bif decide ((((([])++([1]:List Int))++([2]:List Int))++([3]:List Int)).length+([4]:List Int).length≤LIM) then some ((((([])++([1]:List Int))++([2]:List Int))++([3]:List Int))++([4]:List Int)) else none else some (((([])++([1]:List Int))++([2]:List Int))++([3]:List Int)) else none else bif decide (2<late) then bif decide (((([])++([1]:List Int))++([2]:List Int)).length+([4]:List Int).length≤LIM) then some (((([])++([1]:List Int))++([2]:List Int))++([4]:List Int)) else none else some ((([])++([1]:List Int))++([2]:List Int)) else none else bif decide (1000<a8s) then bif decide ((([])++([1]:List Int)).length+([3]:List Int).length≤LIM) then bif decide (2<late) then bif decide (((([])++([1]:List Int))++([3]:List Int)).length+([4]:List Int).length≤LIM) then some (((([])++([1]:List Int))++([3]:List Int))++([4]:List Int)) else none else some ((([])++([1]:List Int))++([3]:List Int)) else none else bif decide (2<late) then bif decide ((([])++([1]:List Int)).length+([4]:List Int).length≤LIM) then some ((([])++([1]:List Int))++([4]:List Int)) else none else some (([])++([1]:List Int)) else none else bif decide (p.Until<day) then bif decide (([]:List Int).length+([2]:List Int).length≤LIM) then bif decide (1000<a8s) then bif decide ((([])++([2]:List Int)).length+([3]:List Int).length≤LIM) then bif decide (2<late) then bif decide (((([])++([2]:List Int))++([3]:List Int)).length+([4]:List Int).length≤LIM) then some (((([])++([2]:List Int))++([3]:List Int))++([4]:List Int)) else none else some ((([])++([2]:List Int))++([3]:List Int)) else none else bif decide (2<late) then bif decide ((([])++([2]:List Int)).length+([4]:List Int).length≤LIM) then some ((([])++([2]:List Int))++([4]:List Int)) else none else some (([])++([2]:List Int)) else none else bif decide (1000<a8s) then bif decide (([]:List Int).length+([3]:List Int).length≤LIM) then bif decide (2<late) then bif decide ((([])++([3]:List Int)).length+([4]:List Int).length≤LIM) then some ((([])++([3]:List Int))++([4]:List Int)) else none else some (([])++([3]:List Int)) else none else bif decide (2<late) then bif decide (([]:List Int).length+([4]:List Int).length≤LIM) then some (([])++([4]:List Int)) else none else some ([])
def qeq (c:Circ) (patron:Int):Ybx:=
 match qce c.Patrons patron with|some (r1,r2) =>(match qcc c.Charges patron with|some r4=>(match qcb c.Loans patron c.Today with|some r6=>(match qgg r1 c.Today r4 r6 with|some r8=>some (decide (0<(r8.length:Int)))|none=>none)|none=>none)|none=>none)|none=>none
def qef (h:Hold) (x:Item):Ybx:=
 let k (v1:Bool):Ybx:=some v1;bif h.Record==x.Record then bif h.Item==0 then k true else k (h.Item==x.ID) else k false
def b8t:Yaw→Option YaU:=λ(d,c,_)=>
 bif decide (0≤d) then match qy c d with|some r1=>bif r1 then some (.inr (.inr (d,0,()))) else some (.inl (wr .i64 (d-1),c,()))|none=>none else some (.inr (.inl (())))
def qb0 (c:Calendar) (day:Int):Ybz:=
 match c6 b8t ((if 109572<day then 109572 else day),c,()) with|some (.inl (_)) =>some (0,2)|some (.inr (v,v2,_)) =>some (v,v2)|none=>none
def qfc (r:Rule) (c:Calendar) (day:Int) (vuntil:Int):Ybz:=
 match qck day 0 109572 with|some r2=>(let k16 (v:Bool):Ybz:=bif v then some (0,2) else bif r.Days==0 then some (0,15) else let k15 (last:Int):Ybz:=bif decide (last≤day) then some (0,15) else match qa6 c (if last<wr .i64 (day+r.Days) then last else wr .i64 (day+r.Days)) with|some (r6,r7) =>let k14 (v8:Bool):Ybz:=let k13 (d:Int) (e:Int):Ybz:=let k (v12:Bool):Ybz:=bif v12 then some (0,15) else some (d,0);bif !(e==0) then k true else k (decide (d≤day));bif v8 then match qb0 c last with|some (r10,r11) =>k13 r10 r11|none=>none else k13 r6 r7;bif !(r7==0) then k14 true else k14 (decide (last<r6))|none=>none;bif decide (0<r.Fixed) then k15 (if r.Fixed<vuntil then r.Fixed else vuntil) else k15 vuntil;bif !r2 then k16 true else match qck vuntil 0 109572 with|some r4=>k16 (!r4)|none=>none)|none=>none
def qf2 (r:Rule) (c:Calendar) (n:Loan) (day:Int) (vuntil:Int):Ybz:=
 let k (v:Bool):Ybz:=bif v then some (0,15) else match qfc r c day vuntil with|some (r2,r3) =>bif !(r3==0) then some (0,r3) else bif decide (r2≤n.Due) then some (0,15) else some (r2,0)|none=>none;bif decide (r.Renewals≤n.Renewals) then k true else k n.Recalled
def qer (l:List Loan):YbM:=
 match qbc l with|some r1=>bif !(r1==0) then some ([],r1) else some (l,0)|none=>none
def qf0 (l:List Loan) (item:Int) (due:Int):YbM:=
 match qau l item with|some r1=>(bif decide (r1<0) then some ([],9) else match o0 l r1 with|some x=>bif x.Recalled then some ([],12) else bif decide (([]:List Loan).length+l.length≤LIM) then match o0 (([])++l) r1 with|some _=>(match (([])++l)[r1.toNat]? with|some x2=>(match o0 l r1 with|some x3=>(match o0 ((([])++l).set r1.toNat (⟨x2.Item,x2.Patron,x2.Out,due,x2.Renewals,x2.Recalled⟩:Loan)) r1 with|some _=>(match ((([])++l).set r1.toNat (⟨x2.Item,x2.Patron,x2.Out,due,x2.Renewals,x2.Recalled⟩:Loan))[r1.toNat]? with|some x4=>(match qer (((([])++l).set r1.toNat (⟨x2.Item,x2.Patron,x2.Out,due,x2.Renewals,x2.Recalled⟩:Loan)).set r1.toNat (⟨x4.Item,x4.Patron,x4.Out,x4.Due,wr .i64 (x3.Renewals+1),x4.Recalled⟩:Loan)) with|some (r6,r7) =>some (r6,r7)|none=>none)|none=>none)|none=>none)|none=>none)|none=>none)|none=>none else none|none=>none)|none=>none
def a60:(Int×Int×Circ×Circ×Loan×Item×Unit)→Option YaA:=λ(item,i,c,v,n,x,_)=>
 bif decide (i<(c.Holds.length:Int)) then match o0 c.Holds i with|some x7=>let k11 (v8:Bool):Option YaA:=let k (v10:Bool):Option YaA:=bif v10 then some (.inr (.inr (0,16,ZN,()))) else some (.inl (item,wr .i64 (i+1),c,v,n,x,()));bif v8 then match qef x7 x with|some r9=>k r9|none=>none else k false;bif x7.State==1 then k11 (decide (x7.Asleep≤c.Today)) else k11 false|none=>none else some (.inr (.inl (item,c,v,n,x,())))
def qb1 (c:Circ) (item:Int):YbE:=
 match qeg c.Loans item with|some (r1,r2) =>(bif !r2 then some (ZN,0,9) else match qn c item with|some r4=>(match o0 c.Items r4 with|some x=>(bif !(x.Custody.State==4) then some (ZN,0,12) else match qeq c r1.Patron with|some r6=>(bif r6 then some (ZN,0,14) else match c6 a60 (item,0,c,ZN,r1,x,()) with|some (.inl (item12,c13,v,n,x14,_)) =>(match qdd c13 n.Patron x14 with|some (r16,r17) =>(bif !r17 then some (ZN,0,15) else match qce c13.Patrons n.Patron with|some (r19,r20) =>(match qm c13 x14.Custody.Branch with|some r22=>(match qf2 r16 r22 n c13.Today r19.Until with|some (r24,r25) =>(bif !(r25==0) then some (ZN,0,r25) else match qf0 c13.Loans item12 r24 with|some (r27,r28) =>bif !(r28==0) then some (ZN,0,r28) else some ({c13 with Loans:=r27},r24,0)|none=>none)|none=>none)|none=>none)|none=>none)|none=>none)|some (.inr (v29,v30,v31,_)) =>some (v31,v29,v30)|none=>none)|none=>none)|none=>none)|none=>none)|none=>none
def b8v:Ya9→Option (Ya9⊕Yae):=λ(item,i,c,_)=>
 bif decide (i<(c.Loans.length:Int)) then match o0 c.Loans i with|some x=>bif x.Item==item then some (.inr (.inr (true,()))) else some (.inl (item,wr .i64 (i+1),c,()))|none=>none else some (.inr (.inl (())))
def qb7 (c:Circ) (item:Int):Ybx:=
 match c6 b8v (item,0,c,()) with|some (.inl (_)) =>some false|some (.inr (v,_)) =>some v|none=>none
def b9g:(Yad×Int×Int×Yad×Unit)→Option ((Yad×Int×Int×Yad×Unit)⊕((Yad×Unit))):=λ(l,patron,i,l1,_)=>
 bif decide (i<(l.length:Int)) then match o0 l i with|some x=>bif x.Patron==patron then match o0 l i with|some x2=>bif decide (l1.length+([x2]:List Loan).length≤LIM) then some (.inl (l,patron,wr .i64 (i+1),l1++([x2]:List Loan),())) else none|none=>none else some (.inl (l,patron,wr .i64 (i+1),l1,()))|none=>none else some (.inr ((l1,())))
def qcf (l:List Loan) (patron:Int):YbQ:=
 match c6 b9g (l,patron,0,[],()) with|some ((l3,_)) =>some l3|none=>none
def qfu (c:Circ) (item:Int) (patron:Int) (branch:Int):Ybz:=
 match qn c item with|some r1=>(match qce c.Patrons patron with|some (r3,r4) =>let k30 (v:Bool):Ybz:=bif v then some (0,9) else match o0 c.Items r1 with|some x=>let k29 (v5:Bool):Ybz:=bif v5 then some (0,12) else bif !(x.Custody.Branch==branch) then some (0,1) else let k28 (v6:Bool):Ybz:=bif v6 then some (0,16) else match qe8 c item with|some r8=>let k27 (v9:Bool):Ybz:=let k26 (_:Unit):Ybz:=match qeq c patron with|some r14=>(bif r14 then some (0,14) else match qdd c patron x with|some (r16,r17) =>(let k (v20:Bool):Ybz:=bif v20 then some (0,15) else match qm c branch with|some r22=>(match qfc r16 r22 c.Today r3.Until with|some (r24,r25) =>some (r24,r25)|none=>none)|none=>none;bif !r17 then k true else match qcf c.Loans patron with|some r19=>k (decide (r16.Loans≤(r19.length:Int)))|none=>none)|none=>none)|none=>none;bif v9 then match qaj c.Holds r8 with|some (r11,r12) =>bif !(r11.Patron==patron) then some (0,16) else k26 ()|none=>none else k26 ();bif x.Custody.State==3 then k27 (!(r8==0)) else k27 false|none=>none;bif x.Custody.State==5 then k28 (!(x.Custody.Who==patron)) else k28 false;bif !(x.Custody.State==3) then k29 (!(x.Custody.State==5)) else k29 false|none=>none;bif decide (r1<0) then k30 true else k30 (!r4)|none=>none)|none=>none
def b5q:Ya0→Option (Ya0⊕(Ya0)):=λ(l,k,n,_)=>
 let k2 (v:Bool):Option (Ya0⊕(Ya0)):=bif v then some (.inl (l,wr .i64 (k+1),n,())) else some (.inr ((l,k,n,())));bif decide (k<(l.length:Int)) then match o0 l k with|some x=>k2 (decide (x.Item<n.Item))|none=>none else k2 false
def qbs (l:List Loan) (n:Loan):YbM:=
 match qau l n.Item with|some r1=>(bif decide (0≤r1) then some ([],7) else match c6 b5q (l,0,n,()) with|some ((l3,k,n4,_)) =>bif decide (0≤(0:Int))&&(decide ((0:Int)≤k)&&decide (k≤(l3.length:Int))) then bif decide (([]:List Loan).length+((l3.take k.toNat).drop (0:Int).toNat).length≤LIM) then bif decide ((([])++((l3.take k.toNat).drop (0:Int).toNat)).length+([n4]:List Loan).length≤LIM) then bif decide (0≤(k:Int))&&(decide ((k:Int)≤(l3.length:Int))&&decide ((l3.length:Int)≤(l3.length:Int))) then bif decide (((([])++((l3.take k.toNat).drop (0:Int).toNat))++([n4]:List Loan)).length+((l3.take (l3.length:Int).toNat).drop (k:Int).toNat).length≤LIM) then match qer (((([])++((l3.take k.toNat).drop (0:Int).toNat))++([n4]:List Loan))++((l3.take (l3.length:Int).toNat).drop (k:Int).toNat)) with|some (r6,r7) =>some (r6,r7)|none=>none else none else none else none else none else none|none=>none)|none=>none
def b85:(Yaa×Int×Int×Hold×Hold×Yaa×Unit)→Option ((Yaa×Int×Int×Hold×Hold×Yaa×Unit)⊕((Hold×Hold×Yaa×Unit))):=λ(l,vid,i,v,h,l3,_)=>
 bif decide (i<(l.length:Int)) then match o0 l i with|some x=>bif !(x.ID==vid) then match o0 l i with|some x4=>bif decide (l3.length+([x4]:List Hold).length≤LIM) then some (.inl (l,vid,wr .i64 (i+1),v,h,l3++([x4]:List Hold),())) else none|none=>none else some (.inl (l,vid,wr .i64 (i+1),v,h,l3,()))|none=>none else some (.inr ((v,h,l3,())))
def qbn (l:List Hold) (vid:Int):Option (Yaa×Hold×Int):=
 match qaj l vid with|some (r1,r2) =>(bif !r2 then some ([],(⟨0,0,0,0,0,0,0,0,0,0,0⟩:Hold),9) else match c6 b85 (l,vid,0,(⟨0,0,0,0,0,0,0,0,0,0,0⟩:Hold),r1,([]:List Hold),()) with|some ((v,h,l5,_)) =>some (l5,h,0)|none=>none)|none=>none
def a2g:(Int×Int×Bool×Int×Circ×Circ×Item×Hold×Unit)→Option Yan:=λ(patron,due,has,i,c,v,x,h,_)=>
 let k20 (v14:Bool):Option Yan:=bif v14 then match o0 c.Holds i with|some x15=>let k19 (v16:Bool):Option Yan:=let k (v18:Bool):Option Yan:=some (.inl (patron,due,v18,wr .i64 (i+1),c,v,x,x15,()));bif v16 then match qef x15 x with|some r17=>k r17|none=>none else k false;bif x15.Patron==patron then k19 (x15.State==1) else k19 false|none=>none else some (.inr ((due,has,c,v,h,())));bif decide (i<(c.Holds.length:Int)) then k20 (!has) else k20 false
def qb9 (c:Circ) (item:Int) (patron:Int) (branch:Int):YbE:=
 match qfu c item patron branch with|some (r1,r2) =>(bif !(r2==0) then some (ZN,0,r2) else match qn c item with|some r4=>(match o0 c.Items r4 with|some x=>(match q8 c item 3 branch patron with|some (r6,r7) =>(bif !(r7==0) then some (ZN,0,r7) else match qbs r6.Loans (⟨item,patron,r6.Today,r1,0,false⟩:Loan) with|some (r9,r10) =>(bif !(r10==0) then some (ZN,0,r10) else match qat {r6 with Loans:=r9} item with|some (r12,r13) =>(match c6 a2g (patron,r1,r13,0,{r6 with Loans:=r9},ZN,x,r12,()) with|some ((due,has,c21,v,h,_)) =>let k (c26:List Hold):YbE:=some ({c21 with Holds:=c26},due,0);bif has then match qbn c21.Holds h.ID with|some (r23,r24,r25) =>bif !(r25==0) then some (ZN,0,r25) else k r23|none=>none else k c21.Holds|none=>none)|none=>none)|none=>none)|none=>none)|none=>none)|none=>none)|none=>none
def qft (c:Circ) (x:Off):YbD:=
 let k (v:Int) (v8:Circ):YbD:=some (v8,v);bif x.Kind==2 then match qf4 c x.Item x.Branch with|some (r1,r2,r3) =>k r3 r1|none=>none else bif x.Kind==3 then match qb1 c x.Item with|some (r5,r6,r7) =>k r7 r5|none=>none else match qb7 c x.Item with|some r10=>let k20 (c15:Circ):YbD:=match qb9 c15 x.Item x.Patron x.Branch with|some (r17,r18,r19) =>some (r17,r19)|none=>none;bif r10 then match qf4 c x.Item x.Branch with|some (r12,r13,r14) =>bif !(r14==0) then some (ZN,r14) else k20 r12|none=>none else k20 c|none=>none
def b5l:Ya3→Option (Ya3⊕Ya6):=λ(l,today,i,c,v,l4,_)=>
 bif decide (i<(l.length:Int)) then match o0 l i with|some x=>let k (e:Int) (c14:Circ):Option (Ya3⊕Ya6):=match o0 l i with|some x15=>(match o0 l i with|some x16=>bif decide (l4.length+([(⟨x15.Device,x16.Seq,e⟩:Outcome)]:List Outcome).length≤LIM) then some (.inl (l,today,wr .i64 (i+1),c14,v,l4++([(⟨x15.Device,x16.Seq,e⟩:Outcome)]:List Outcome),())) else none|none=>none)|none=>none;bif decide (x.Day≤today) then match o0 l i with|some x5=>(match qei c x5.Day with|some r6=>(match o0 l i with|some x7=>(match qft r6 x7 with|some (r9,r10) =>bif r10==0 then match qei r9 today with|some r12=>k r10 r12|none=>none else k r10 c|none=>none)|none=>none)|none=>none)|none=>none else k 12 c|none=>none else some (.inr ((c,v,l4,())))
def qb8 (c:Circ) (l:List Off):Option (Circ×YaD):=
 match qai c with|some r1=>(let k (v:Bool):Option (Circ×YaD):=bif v then some (c,[]) else match c6 b5l (l,c.Today,0,c,ZN,[],()) with|some ((c17,v18,l19,_)) =>some (c17,l19)|none=>none;bif !r1 then k true else match qj l with|some r3=>k (!(r3==0))|none=>none)|none=>none
def a2p:(Int×Int×Circ×Circ×Unit)→Option YaJ:=λ(i,k,a,b,_)=>
 let k17 (v:Int) (v9:List Int):Option YaJ:=bif decide (k<(v9.length:Int)) then let k16 (v10:Int) (v11:List Int):Option YaJ:=match o0 v11 k with|some x=>let k15 (v12:Int) (v13:List Int):Option YaJ:=match o0 v13 k with|some x14=>bif !(x==x14) then some (.inr (.inr (false,()))) else some (.inl (i,wr .i64 (k+1),a,b,()))|none=>none;bif i==0 then k15 b.Cals.x0.Week b.Cals.x0.Closed else bif i==1 then k15 b.Cals.x1.Week b.Cals.x1.Closed else bif i==2 then k15 b.Cals.x2.Week b.Cals.x2.Closed else bif i==3 then k15 b.Cals.x3.Week b.Cals.x3.Closed else none|none=>none;bif i==0 then k16 a.Cals.x0.Week a.Cals.x0.Closed else bif i==1 then k16 a.Cals.x1.Week a.Cals.x1.Closed else bif i==2 then k16 a.Cals.x2.Week a.Cals.x2.Closed else bif i==3 then k16 a.Cals.x3.Week a.Cals.x3.Closed else none else some (.inr (.inl (i,a,b,())));bif i==0 then k17 a.Cals.x0.Week a.Cals.x0.Closed else bif i==1 then k17 a.Cals.x1.Week a.Cals.x1.Closed else bif i==2 then k17 a.Cals.x2.Week a.Cals.x2.Closed else bif i==3 then k17 a.Cals.x3.Week a.Cals.x3.Closed else none
def a67:Yah→Option (Yah⊕Yae):=λ(i,a,b,_)=>
 bif decide (i<4) then let k24 (v:Int) (v1:List Int):Option (Yah⊕Yae):=let k23 (v2:Int) (v3:List Int):Option (Yah⊕Yae):=let k22 (v8:Bool):Option (Yah⊕Yae):=bif v8 then some (.inr (.inr (false,()))) else match c6 a2p (i,0,a,b,()) with|some (.inl (i18,a19,b20,_)) =>some (.inl (wr .i64 (i18+1),a19,b20,()))|some (.inr (v21,_)) =>some (.inr (.inr (v21,())))|none=>none;bif !(v==v2) then k22 true else let k (v4:Int) (v5:List Int):Option (Yah⊕Yae):=bif i==0 then k22 (!((v5.length:Int)==(b.Cals.x0.Closed.length:Int))) else bif i==1 then k22 (!((v5.length:Int)==(b.Cals.x1.Closed.length:Int))) else bif i==2 then k22 (!((v5.length:Int)==(b.Cals.x2.Closed.length:Int))) else bif i==3 then k22 (!((v5.length:Int)==(b.Cals.x3.Closed.length:Int))) else none;bif i==0 then k a.Cals.x0.Week a.Cals.x0.Closed else bif i==1 then k a.Cals.x1.Week a.Cals.x1.Closed else bif i==2 then k a.Cals.x2.Week a.Cals.x2.Closed else bif i==3 then k a.Cals.x3.Week a.Cals.x3.Closed else none;bif i==0 then k23 b.Cals.x0.Week b.Cals.x0.Closed else bif i==1 then k23 b.Cals.x1.Week b.Cals.x1.Closed else bif i==2 then k23 b.Cals.x2.Week b.Cals.x2.Closed else bif i==3 then k23 b.Cals.x3.Week b.Cals.x3.Closed else none;bif i==0 then k24 a.Cals.x0.Week a.Cals.x0.Closed else bif i==1 then k24 a.Cals.x1.Week a.Cals.x1.Closed else bif i==2 then k24 a.Cals.x2.Week a.Cals.x2.Closed else bif i==3 then k24 a.Cals.x3.Week a.Cals.x3.Closed else none else some (.inr (.inl (())))
def qaa (a:Circ) (b:Circ):Ybx:=
 match c6 a67 (0,a,b,()) with|some (.inl (_)) =>some true|some (.inr (v,_)) =>some v|none=>none
def d0e:Yah→YbN:=λ(i,a,b,_)=>
 bif decide (i<(a.Items.length:Int)) then match o0 a.Items i with|some x=>(match o0 b.Items i with|some x10=>bif !(c05 x x10) then some (.inr (.inr (false,()))) else some (.inl (wr .i64 (i+1),a,b,()))|none=>none)|none=>none else some (.inr (.inl (a,b,())))
def b5r:Yah→YbN:=λ(i,a,b,_)=>
 bif decide (i<(a.Patrons.length:Int)) then match o0 a.Patrons i with|some x=>(match o0 b.Patrons i with|some x13=>bif !(b0n x x13) then some (.inr (.inr (false,()))) else some (.inl (wr .i64 (i+1),a,b,()))|none=>none)|none=>none else some (.inr (.inl (a,b,())))
def b5s:Yah→YbN:=λ(i,a,b,_)=>
 bif decide (i<(a.Loans.length:Int)) then match o0 a.Loans i with|some x=>(match o0 b.Loans i with|some x16=>bif !(c07 x x16) then some (.inr (.inr (false,()))) else some (.inl (wr .i64 (i+1),a,b,()))|none=>none)|none=>none else some (.inr (.inl (a,b,())))
def b5t:Yah→YbN:=λ(i,a,b,_)=>
 bif decide (i<(a.Holds.length:Int)) then match o0 a.Holds i with|some x=>(match o0 b.Holds i with|some x19=>bif !(c03 x x19) then some (.inr (.inr (false,()))) else some (.inl (wr .i64 (i+1),a,b,()))|none=>none)|none=>none else some (.inr (.inl (a,b,())))
def b5u:Yah→YbN:=λ(i,a,b,_)=>
 bif decide (i<(a.Charges.length:Int)) then match o0 a.Charges i with|some x=>(match o0 b.Charges i with|some x22=>bif !(b0m x x22) then some (.inr (.inr (false,()))) else some (.inl (wr .i64 (i+1),a,b,()))|none=>none)|none=>none else some (.inr (.inl (a,b,())))
def b5v:Yah→YbN:=λ(i,a,b,_)=>
 bif decide (i<(a.Rules.length:Int)) then match o0 a.Rules i with|some x=>(match o0 b.Rules i with|some x25=>bif !(c1b x x25) then some (.inr (.inr (false,()))) else some (.inl (wr .i64 (i+1),a,b,()))|none=>none)|none=>none else some (.inr (.inl (a,b,())))
def b5w:Yah→YbN:=λ(i,a,b,_)=>
 bif decide (i<(a.Moves.length:Int)) then match o0 a.Moves i with|some x=>(match o0 b.Moves i with|some x28=>bif !(c09 x x28) then some (.inr (.inr (false,()))) else some (.inl (wr .i64 (i+1),a,b,()))|none=>none)|none=>none else some (.inr (.inl (a,b,())))
def qd (a:Circ) (b:Circ):Ybx:=
 let k47 (v:Bool):Ybx:=let k46 (v1:Bool):Ybx:=let k45 (v2:Bool):Ybx:=let k44 (v3:Bool):Ybx:=bif v3 then some false else let k43 (v4:Bool):Ybx:=let k42 (v5:Bool):Ybx:=let k41 (v6:Bool):Ybx:=let k40 (v7:Bool):Ybx:=let k39 (v8:Bool):Ybx:=let k (v9:Bool):Ybx:=bif v9 then some false else match c6 d0e (0,a,b,()) with|some (.inl (a11,b12,_)) =>(match c6 b5r (0,a11,b12,()) with|some (.inl (a14,b15,_)) =>(match c6 b5s (0,a14,b15,()) with|some (.inl (a17,b18,_)) =>(match c6 b5t (0,a17,b18,()) with|some (.inl (a20,b21,_)) =>(match c6 b5u (0,a20,b21,()) with|some (.inl (a23,b24,_)) =>(match c6 b5v (0,a23,b24,()) with|some (.inl (a26,b27,_)) =>(match c6 b5w (0,a26,b27,()) with|some (.inl (a29,b30,_)) =>(match qaa a29 b30 with|some r31=>some r31|none=>none)|some (.inr (v32,_)) =>some v32|none=>none)|some (.inr (v33,_)) =>some v33|none=>none)|some (.inr (v34,_)) =>some v34|none=>none)|some (.inr (v35,_)) =>some v35|none=>none)|some (.inr (v36,_)) =>some v36|none=>none)|some (.inr (v37,_)) =>some v37|none=>none)|some (.inr (v38,_)) =>some v38|none=>none;bif v8 then k true else k (!((a.Moves.length:Int)==(b.Moves.length:Int)));bif v7 then k39 true else k39 (!((a.Rules.length:Int)==(b.Rules.length:Int)));bif v6 then k40 true else k40 (!((a.Charges.length:Int)==(b.Charges.length:Int)));bif v5 then k41 true else k41 (!((a.Holds.length:Int)==(b.Holds.length:Int)));bif v4 then k42 true else k42 (!((a.Loans.length:Int)==(b.Loans.length:Int)));bif !((a.Items.length:Int)==(b.Items.length:Int)) then k43 true else k43 (!((a.Patrons.length:Int)==(b.Patrons.length:Int)));bif v2 then k44 true else k44 (!(a.Local==b.Local));bif v1 then k45 true else k45 (!(a.NextCharge==b.NextCharge));bif v then k46 true else k46 (!(a.NextHold==b.NextHold));bif !(a.Today==b.Today) then k47 true else k47 (!(a.Cals.x0.Week==b.Cals.x0.Week))
def b83:(YaD×YaD×Int×Unit)→Option ((YaD×YaD×Int×Unit)⊕Yae):=λ(a,b,i,_)=>
 bif decide (i<(a.length:Int)) then match o0 a i with|some x=>(match o0 b i with|some x1=>bif !(a8y x x1) then some (.inr (.inr (false,()))) else some (.inl (a,b,wr .i64 (i+1),()))|none=>none)|none=>none else some (.inr (.inl (())))
def qbi (a:List Outcome) (b:List Outcome):Ybx:=
 bif !((a.length:Int)==(b.length:Int)) then some false else match c6 b83 (a,b,0,()) with|some (.inl (_)) =>some true|some (.inr (v,_)) =>some v|none=>none
def qd0 (c:Circ) (l:List Off):Ybx:=
 match qa c with|some r1=>let k19 (v:Bool):Ybx:=bif v then match qdu with|some r3=>some r3|none=>none else match qas c l with|some (r5,r6) =>(match qb8 c l with|some (r8,r9) =>(match qd r5 r8 with|some r11=>let k18 (v14:Bool):Ybx:=let k (v17:Bool):Ybx:=some v17;bif v14 then match qdu with|some r16=>k r16|none=>none else k false;bif r11 then match qbi r6 r9 with|some r13=>k18 r13|none=>none else k18 false|none=>none)|none=>none)|none=>none;bif !r1 then k19 true else k19 (decide (20<(l.length:Int)))|none=>none
def qex (s:List Off):Option Yas:=
 bif decide (([]:List Off).length+s.length≤LIM) then some (([])++s) else none
end
section
set_option maxRecDepth 100000
open Go
theorem c3k:n5 y4:=n5.iso (n5.cons (i7.int _) (n5.cons (i7.int _) (n5.cons (i7.int _) (n5.cons (i7.int _) n5.nil)))) (λ_=>rfl)
theorem c3m:n5 a08:=n5.iso (n5.cons (i7.int _) (n5.cons (i7.int _) (n5.cons (i7.int _) (n5.cons (i7.int _) (n5.cons (i7.int _) (n5.cons i7.str (n5.cons (i7.int _) (n5.cons (i7.int _) (n5.cons (i7.int _) (n5.cons (i7.int _) n5.nil)))))))))) (λ_=>rfl)
theorem b3e:n5 a2u:=n5.iso (n5.cons (i7.int _) (n5.cons (i7.int _) (n5.cons (i7.int _) (n5.cons (i7.int _) (n5.cons i7.bool (n5.cons i7.str n5.nil)))))) (λ_=>rfl)
theorem c3n:n5 a1l:=n5.iso (n5.cons (i7.int _) (n5.cons (i7.int _) (n5.cons (i7.int _) (n5.cons (i7.int _) (n5.cons (i7.int _) (n5.cons i7.bool n5.nil)))))) (λ_=>rfl)
theorem c3l:n5 y6:=n5.iso (n5.cons (i7.int _) (n5.cons (i7.int _) (n5.cons (i7.int _) (n5.cons (i7.int _) (n5.cons (i7.int _) (n5.cons (i7.int _) (n5.cons (i7.int _) (n5.cons (i7.int _) (n5.cons (i7.int _) (n5.cons (i7.int _) (n5.cons (i7.int _) n5.nil))))))))))) (λ_=>rfl)
theorem b3d:n5 a3m:=n5.iso (n5.cons (i7.int _) (n5.cons (i7.int _) (n5.cons (i7.int _) (n5.cons (i7.int _) (n5.cons (i7.int _) (n5.cons (i7.int _) (n5.cons (i7.int _) n5.nil))))))) (λ_=>rfl)
theorem c3p:n5 a3z:=n5.iso (n5.cons (i7.int _) (n5.cons (i7.int _) (n5.cons (i7.int _) (n5.cons (i7.int _) (n5.cons (i7.int _) (n5.cons (i7.int _) (n5.cons (i7.int _) (n5.cons (i7.int _) (n5.cons (i7.int _) (n5.cons (i7.int _) (n5.cons (i7.int _) (n5.cons (i7.int _) (n5.cons (i7.int _) n5.nil))))))))))))) (λ_=>rfl)
theorem c0f:n5 p9:=n5.iso (n5.cons (i7.int _) (n5.cons (i7.lst _) n5.nil)) (λ_=>rfl)
theorem c3o:n5 a7f:=n5.iso (n5.cons (i7.int _) (n5.cons (i7.int _) (n5.cons (i7.int _) (n5.cons (i7.int _) (n5.cons (i7.int _) n5.nil))))) (λ_=>rfl)
theorem e12:n5 i6:=n5.iso (n5.cons (i7.int _) (n5.cons (i7.lst _) (n5.cons (i7.lst _) (n5.cons (i7.lst _) (n5.cons (i7.lst _) (n5.cons (i7.lst _) (n5.cons (i7.lst _) (n5.cons (i7.int _) (n5.cons (i7.lst _) (n5.cons (i7.int _) (n5.cons (i7.lst _) (n5.cons (i7.int _) (n5.cons (i7.lst _) (n5.cons (i7.int _) (n5.cons (i7.lst _) (n5.cons (i7.lst _) (n5.cons (i7.int _) (n5.cons (i7.int _) (n5.cons i7.bool n5.nil))))))))))))))))))) (λ_=>rfl)
theorem d2g:n5 a47:=n5.iso (n5.cons (i7.int _) (n5.cons (i7.int _) (n5.cons (i7.int _) (n5.cons (i7.int _) (n5.cons (i7.int _) (n5.cons (i7.int _) (n5.cons (i7.int _) n5.nil))))))) (λ_=>rfl)
theorem b6x:n5 w6:=n5.iso (n5.cons (i7.int _) (n5.cons (i7.lst _) (n5.cons (i7.lst _) (n5.cons (i7.lst _) (n5.cons (i7.lst _) (n5.cons (i7.lst _) (n5.cons (i7.lst _) (n5.cons (i7.int _) (n5.cons (i7.lst _) (n5.cons (i7.int _) (n5.cons (i7.lst _) (n5.cons (i7.int _) (n5.cons (i7.lst _) (n5.cons (i7.int _) (n5.cons (i7.lst _) (n5.cons (i7.lst _) (n5.cons (i7.int _) (n5.cons (i7.int _) (n5.cons i7.bool (n5.cons (i7.int _) n5.nil)))))))))))))))))))) (λ_=>rfl)
theorem b1f:n5 b0g:=n5.iso (n5.cons (i7.int _) (n5.cons (i7.int _) (n5.cons (i7.int _) n5.nil))) (λ_=>rfl)
theorem a4f:n5 a2z:=n5.iso (n5.cons (i7.int _) (n5.cons (i7.int _) n5.nil)) (λ_=>rfl)
theorem b1x:n5 a56:=n5.iso (n5.cons (i7.int _) (n5.cons (i7.lst _) (n5.cons (i7.int _) (n5.cons (i7.lst _) (n5.cons (i7.int _) (n5.cons (i7.lst _) (n5.cons (i7.int _) (n5.cons (i7.lst _) n5.nil)))))))) (λ_=>rfl)
theorem c3q:n5 a1m:=n5.iso (n5.cons i7.bool (n5.cons i7.bool (n5.cons i7.bool (n5.cons i7.bool (n5.cons i7.bool (n5.cons i7.bool (n5.cons i7.bool n5.nil))))))) (λ_=>rfl)
instance:CCC y4:=⟨c3k⟩
instance:CCC a08:=⟨c3m⟩
instance:CCC a2u:=⟨b3e⟩
instance:CCC a1l:=⟨c3n⟩
instance:CCC y6:=⟨c3l⟩
instance:CCC a3m:=⟨b3d⟩
instance:CCC a3z:=⟨c3p⟩
instance:CCC p9:=⟨c0f⟩
instance:CCC a7f:=⟨c3o⟩
instance:CCC i6:=⟨e12⟩
instance:CCC a47:=⟨d2g⟩
instance:CCC w6:=⟨b6x⟩
instance:CCC b0g:=⟨b1f⟩
instance:CCC a2z:=⟨a4f⟩
instance:CCC a56:=⟨b1x⟩
instance:CCC a1m:=⟨c3q⟩
end
end Go.Proofs.YtnajckeiaobmkaaGreatDoor
