/- OfflineParses: a part of the proof of the given statement, which is proved without conditions. -/
import Derived.Test.YtpdenibljogamaaGreatDoorZ3
import Derived.Sort.Defs
import Derived.Lib.Small
import Derived.Lib.BitFns
import Derived.Lib.DecodeN
import Derived.Lib.AtoiAll
import Derived.Lib.Repeat
import Derived.Lib.Join
import Derived.Lib.Bytealg
import Derived.Lib.SlicesCompact
import Derived.Shelf.Strings.Builder1
import Derived.Shelf.Strings.OnBuilder
import Derived.Shelf.LaysM
import Derived.Shelf.LaysC
import Derived.Shelf.Strconv.AtoiAll
import Derived.Shelf.Strconv.Itoa3
import Derived.Shelf.Strings.Search1
import Derived.Shelf.Strings.Search2
import Derived.Shelf.Strings.Search3
import Derived.Shelf.Strings.Count
import Derived.Shelf.Strings.Repeat
import Derived.Ground.Names2Prog
import Derived.Ground.NamesProg
import Derived.Test.YtpdenibljogamaaGreatDoorProg
import Derived.Tactics
import Derived.Tactics2
import Derived.WalkKit
import Derived.WalkSpells
import Derived.StillTactics
import Derived.Laws.Pointers
import Derived.Deep.RegionHeld3
import Derived.LoopTactic
import Derived.KernelRfl
import Derived.Lib.AppendIntMem
import Derived.Laws.BitsLemmas
set_option linter.all false
namespace Go.Proofs.YtpdenibljogamaaGreatDoor.Ev
open Go
def blk (c:Nat):Bool:=c==32||c==160
end Go.Proofs.YtpdenibljogamaaGreatDoor.Ev
namespace Go.Proofs.YtpdenibljogamaaGreatDoor
open Ev
open Go (IntKind)
section
set_option maxRecDepth 100000
structure Off where
 Device:Int
 Seq:Int
 Day:Int
 Kind:Int
 Item:Int
 Patron:Int
 Branch:Int
structure Outcome where
 Device:Int
 Seq:Int
 Err:Int
structure Loan where
 Item:Int
 Patron:Int
 Out:Int
 Due:Int
 Renewals:Int
 Recalled:Bool
structure Custody where
 State:Int
 Branch:Int
 Who:Int
 To:Int
structure Item where
 ID:Int
 Record:Int
 Branch:Int
 Kind:Int
 Price:Int
 Call:List UInt8
 Custody:Custody
structure Move where
 Day:Int
 Item:Int
 Kind:Int
 Branch:Int
 Who:Int
structure Patron where
 ID:Int
 Kind:Int
 Branch:Int
 Until:Int
 Stopped:Bool
 Name:List UInt8
structure Hold where
 ID:Int
 Patron:Int
 Record:Int
 Item:Int
 Pickup:Int
 Placed:Int
 State:Int
 Got:Int
 Until:Int
 Asleep:Int
 Rank:Int
structure Charge where
 ID:Int
 Patron:Int
 Item:Int
 Day:Int
 Kind:Int
 Amount:Int
 Paid:Int
structure Rule where
 Patron:Int
 Item:Int
 Branch:Int
 Days:Int
 Renewals:Int
 Fine:Int
 Grace:Int
 MaxFine:Int
 Loans:Int
 Shelf:Int
 Recall:Int
 Fixed:Int
 Rank:Int
inductive Kd where
 |kstr
 |ku8
 |kOff
 |ki64
 |kOutcome
 |kSOff
 |kLoan
 |kItem
 |kMove
 |kPatron
 |kHold
 |kCharge
 |kRule
 |ku64
 |kerr
abbrev El:Kd→Type
 |.kstr=>List UInt8
 |.ku8=>Int
 |.kOff=>Off
 |.ki64=>Int
 |.kOutcome=>Outcome
 |.kSOff=>List Off
 |.kLoan=>Loan
 |.kItem=>Item
 |.kMove=>Move
 |.kPatron=>Patron
 |.kHold=>Hold
 |.kCharge=>Charge
 |.kRule=>Rule
 |.ku64=>Int
 |.kerr=>Bool
abbrev DD:=D Kd El
abbrev Sm (R:Type):=z8 Kd El R
abbrev a52 {α β:Type} (ta:List (Nat×Nat×Kd)) (se ss bs az:List Nat) (fc:FC Kd El α) [FCC fc] (step:α→Option (α⊕β)) (oc:OC Kd El β):LD Kd El α β:=⟨ta,se,ss,bs,az,fc,step,oc⟩
instance:KdEq Kd where
 dec:=fun a b=>match a,b with
  |.kstr,.kstr=>some ⟨rfl⟩
  |.ku8,.ku8=>some ⟨rfl⟩
  |.kOff,.kOff=>some ⟨rfl⟩
  |.ki64,.ki64=>some ⟨rfl⟩
  |.kOutcome,.kOutcome=>some ⟨rfl⟩
  |.kSOff,.kSOff=>some ⟨rfl⟩
  |.kLoan,.kLoan=>some ⟨rfl⟩
  |.kItem,.kItem=>some ⟨rfl⟩
  |.kMove,.kMove=>some ⟨rfl⟩
  |.kPatron,.kPatron=>some ⟨rfl⟩
  |.kHold,.kHold=>some ⟨rfl⟩
  |.kCharge,.kCharge=>some ⟨rfl⟩
  |.kRule,.kRule=>some ⟨rfl⟩
  |.ku64,.ku64=>some ⟨rfl⟩
  |.kerr,.kerr=>some ⟨rfl⟩
  |_,_=>none
abbrev wr (k:IntKind) (n:Int):Int:=IntKind.wrap k n
def c3d (x:Off):List DD:=[.int .i64 x.Device,.int .i64 x.Seq,.int .i64 x.Day,.int .i64 x.Kind,.int .i64 x.Item,.int .i64 x.Patron,.int .i64 x.Branch]
def a0d:CC Kd El Off:=(CC.cons (Cod.int .i64) (CC.cons (Cod.int .i64) (CC.cons (Cod.int .i64) (CC.cons (Cod.int .i64) (CC.cons (Cod.int .i64) (CC.cons (Cod.int .i64) (CC.cons (Cod.int .i64) CC.nil))))))).iso c3d (fun p=>⟨p.1,p.2.1,p.2.2.1,p.2.2.2.1,p.2.2.2.2.1,p.2.2.2.2.2.1,p.2.2.2.2.2.2.1⟩)
def a93 (x:Outcome):List DD:=[.int .i64 x.Device,.int .i64 x.Seq,.int .i64 x.Err]
def a3d:CC Kd El Outcome:=(CC.cons (Cod.int .i64) (CC.cons (Cod.int .i64) (CC.cons (Cod.int .i64) CC.nil))).iso a93 (fun p=>⟨p.1,p.2.1,p.2.2.1⟩)
def b80 (x:Loan):List DD:=[.int .i64 x.Item,.int .i64 x.Patron,.int .i64 x.Out,.int .i64 x.Due,.int .i64 x.Renewals,.bool x.Recalled]
def a9v:CC Kd El Loan:=(CC.cons (Cod.int .i64) (CC.cons (Cod.int .i64) (CC.cons (Cod.int .i64) (CC.cons (Cod.int .i64) (CC.cons (Cod.int .i64) (CC.cons Cod.bool CC.nil)))))).iso b80 (fun p=>⟨p.1,p.2.1,p.2.2.1,p.2.2.2.1,p.2.2.2.2.1,p.2.2.2.2.2.1⟩)
def a92 (x:Custody):List DD:=[.int .i64 x.State,.int .i64 x.Branch,.int .i64 x.Who,.int .i64 x.To]
def a6g:CC Kd El Custody:=(CC.cons (Cod.int .i64) (CC.cons (Cod.int .i64) (CC.cons (Cod.int .i64) (CC.cons (Cod.int .i64) CC.nil)))).iso a92 (fun p=>⟨p.1,p.2.1,p.2.2.1,p.2.2.2.1⟩)
def b8z (x:Item):List DD:=[.int .i64 x.ID,.int .i64 x.Record,.int .i64 x.Branch,.int .i64 x.Kind,.int .i64 x.Price,.str x.Call,.int .i64 x.Custody.State,.int .i64 x.Custody.Branch,.int .i64 x.Custody.Who,.int .i64 x.Custody.To]
def a9u:CC Kd El Item:=(CC.cons (Cod.int .i64) (CC.cons (Cod.int .i64) (CC.cons (Cod.int .i64) (CC.cons (Cod.int .i64) (CC.cons (Cod.int .i64) (CC.cons Cod.str (CC.cons (Cod.int .i64) (CC.cons (Cod.int .i64) (CC.cons (Cod.int .i64) (CC.cons (Cod.int .i64) CC.nil)))))))))).iso b8z (fun p=>⟨p.1,p.2.1,p.2.2.1,p.2.2.2.1,p.2.2.2.2.1,p.2.2.2.2.2.1,⟨p.2.2.2.2.2.2.1,p.2.2.2.2.2.2.2.1,p.2.2.2.2.2.2.2.2.1,p.2.2.2.2.2.2.2.2.2.1⟩⟩)
def b81 (x:Move):List DD:=[.int .i64 x.Day,.int .i64 x.Item,.int .i64 x.Kind,.int .i64 x.Branch,.int .i64 x.Who]
def a9w:CC Kd El Move:=(CC.cons (Cod.int .i64) (CC.cons (Cod.int .i64) (CC.cons (Cod.int .i64) (CC.cons (Cod.int .i64) (CC.cons (Cod.int .i64) CC.nil))))).iso b81 (fun p=>⟨p.1,p.2.1,p.2.2.1,p.2.2.2.1,p.2.2.2.2.1⟩)
def b22 (x:Patron):List DD:=[.int .i64 x.ID,.int .i64 x.Kind,.int .i64 x.Branch,.int .i64 x.Until,.bool x.Stopped,.str x.Name]
def a4o:CC Kd El Patron:=(CC.cons (Cod.int .i64) (CC.cons (Cod.int .i64) (CC.cons (Cod.int .i64) (CC.cons (Cod.int .i64) (CC.cons Cod.bool (CC.cons Cod.str CC.nil)))))).iso b22 (fun p=>⟨p.1,p.2.1,p.2.2.1,p.2.2.2.1,p.2.2.2.2.1,p.2.2.2.2.2.1⟩)
def b8y (x:Hold):List DD:=[.int .i64 x.ID,.int .i64 x.Patron,.int .i64 x.Record,.int .i64 x.Item,.int .i64 x.Pickup,.int .i64 x.Placed,.int .i64 x.State,.int .i64 x.Got,.int .i64 x.Until,.int .i64 x.Asleep,.int .i64 x.Rank]
def a9t:CC Kd El Hold:=(CC.cons (Cod.int .i64) (CC.cons (Cod.int .i64) (CC.cons (Cod.int .i64) (CC.cons (Cod.int .i64) (CC.cons (Cod.int .i64) (CC.cons (Cod.int .i64) (CC.cons (Cod.int .i64) (CC.cons (Cod.int .i64) (CC.cons (Cod.int .i64) (CC.cons (Cod.int .i64) (CC.cons (Cod.int .i64) CC.nil))))))))))).iso b8y (fun p=>⟨p.1,p.2.1,p.2.2.1,p.2.2.2.1,p.2.2.2.2.1,p.2.2.2.2.2.1,p.2.2.2.2.2.2.1,p.2.2.2.2.2.2.2.1,p.2.2.2.2.2.2.2.2.1,p.2.2.2.2.2.2.2.2.2.1,p.2.2.2.2.2.2.2.2.2.2.1⟩)
def b21 (x:Charge):List DD:=[.int .i64 x.ID,.int .i64 x.Patron,.int .i64 x.Item,.int .i64 x.Day,.int .i64 x.Kind,.int .i64 x.Amount,.int .i64 x.Paid]
def a4n:CC Kd El Charge:=(CC.cons (Cod.int .i64) (CC.cons (Cod.int .i64) (CC.cons (Cod.int .i64) (CC.cons (Cod.int .i64) (CC.cons (Cod.int .i64) (CC.cons (Cod.int .i64) (CC.cons (Cod.int .i64) CC.nil))))))).iso b21 (fun p=>⟨p.1,p.2.1,p.2.2.1,p.2.2.2.1,p.2.2.2.2.1,p.2.2.2.2.2.1,p.2.2.2.2.2.2.1⟩)
def b82 (x:Rule):List DD:=[.int .i64 x.Patron,.int .i64 x.Item,.int .i64 x.Branch,.int .i64 x.Days,.int .i64 x.Renewals,.int .i64 x.Fine,.int .i64 x.Grace,.int .i64 x.MaxFine,.int .i64 x.Loans,.int .i64 x.Shelf,.int .i64 x.Recall,.int .i64 x.Fixed,.int .i64 x.Rank]
def a9x:CC Kd El Rule:=(CC.cons (Cod.int .i64) (CC.cons (Cod.int .i64) (CC.cons (Cod.int .i64) (CC.cons (Cod.int .i64) (CC.cons (Cod.int .i64) (CC.cons (Cod.int .i64) (CC.cons (Cod.int .i64) (CC.cons (Cod.int .i64) (CC.cons (Cod.int .i64) (CC.cons (Cod.int .i64) (CC.cons (Cod.int .i64) (CC.cons (Cod.int .i64) (CC.cons (Cod.int .i64) CC.nil))))))))))))).iso b82 (fun p=>⟨p.1,p.2.1,p.2.2.1,p.2.2.2.1,p.2.2.2.2.1,p.2.2.2.2.2.1,p.2.2.2.2.2.2.1,p.2.2.2.2.2.2.2.1,p.2.2.2.2.2.2.2.2.1,p.2.2.2.2.2.2.2.2.2.1,p.2.2.2.2.2.2.2.2.2.2.1,p.2.2.2.2.2.2.2.2.2.2.2.1,p.2.2.2.2.2.2.2.2.2.2.2.2.1⟩)
def ccK:(k:Kd)→CC Kd El (El k)
 |.kstr=>CC.one Cod.str
 |.ku8=>CC.one (Cod.int .u8)
 |.kOff=>a0d
 |.ki64=>CC.one (Cod.int .i64)
 |.kOutcome=>a3d
 |.kSOff=>CC.one (Cod.lst Kd.kOff)
 |.kLoan=>a9v
 |.kItem=>a9u
 |.kMove=>a9w
 |.kPatron=>a4o
 |.kHold=>a9t
 |.kCharge=>a4n
 |.kRule=>a9x
 |.ku64=>CC.one (Cod.int .u64)
 |.kerr=>CC.one Cod.ifc
def d12:Kd→Nat
 |.kstr=>1
 |.ku8=>1
 |.kOff=>7
 |.ki64=>1
 |.kOutcome=>3
 |.kSOff=>1
 |.kLoan=>6
 |.kItem=>10
 |.kMove=>5
 |.kPatron=>6
 |.kHold=>11
 |.kCharge=>7
 |.kRule=>13
 |.ku64=>1
 |.kerr=>1
def d11 (t:Nat):Option Kd:=bif Nat.beq t 357 then some .ku8 else bif Nat.beq t 356 then some .ku8 else bif Nat.beq t 301 then some .ki64 else bif Nat.beq t 225 then some .ku64 else bif Nat.beq t 166 then some .ku64 else bif Nat.beq t 157 then some .ki64 else bif Nat.beq t 118 then some .ku64 else bif Nat.beq t 105 then some .kRule else bif Nat.beq t 103 then some .kCharge else bif Nat.beq t 101 then some .kHold else bif Nat.beq t 99 then some .kLoan else bif Nat.beq t 97 then some .kPatron else bif Nat.beq t 95 then some .kItem else bif Nat.beq t 70 then some .kerr else bif Nat.beq t 69 then some .kerr else bif Nat.beq t 64 then some .kOutcome else bif Nat.beq t 61 then some .kOff else bif Nat.beq t 57 then some .kMove else bif Nat.beq t 24 then some .ki64 else bif Nat.beq t 22 then some .kSOff else bif Nat.beq t 20 then some .kerr else bif Nat.beq t 12 then some .ku64 else bif Nat.beq t 11 then some .kstr else bif Nat.beq t 10 then some .kstr else bif Nat.beq t 9 then some .kstr else bif Nat.beq t 6 then some .ku8 else bif Nat.beq t 5 then some .ku8 else bif Nat.beq t 3 then some .ki64 else bif Nat.beq t 2 then some .ki64 else none
def d8:List Int:=(List.range 20).map fun i=>((10 ^ i:Nat):Int)
def x6:List Bool:=[false]
def z6:List Bool:=[false]
def a8q (t:Nat):Option ((k:Kd)×List (El k)):=bif Nat.beq t 6 then some ⟨.kerr,z6⟩ else bif Nat.beq t 5 then some ⟨.kerr,x6⟩ else bif Nat.beq t 4 then some ⟨.ku64,d8⟩ else none
def d14 (f:Nat):Md:=bif Nat.beq f 30 then .bld else bif Nat.beq f 27 then .bld else bif Nat.beq f 130 then .mut else bif Nat.beq f 126 then .mut else bif Nat.beq f 125 then .newb else bif Nat.beq f 114 then .inpl else bif Nat.beq f 66 then .inpl else bif Nat.beq f 42 then .inpl else bif Nat.beq f 29 then .fresh else bif Nat.beq f 90 then .mut else bif Nat.beq f 39 then .fresh else .data
def c7p (t:Nat):Bool:=Nat.beq t 93||(Nat.beq t 61||(false))
def d10 (f:Nat):Option Kd:=bif Nat.beq f 114 then some .kOff else bif Nat.beq f 66 then some .kOff else bif Nat.beq f 42 then some .kOff else none
def d0o (n:Nat):Bool:=Nat.beq n 4
def d1t:Option (BlK Kd El):=some ⟨.ku8,blI,blJ,68,5,c3l 27 30⟩
def d0q:Kd→Bool:=fun | .ku8=>true|_=>false
def d1u:Option (ByK Kd El):=some ⟨.ku8,blI,blJ⟩
def sg:Sg Kd El:=⟨fun k=>(ccK k).enc,fun k=>(ccK k).dec,d12,d11,a8q,d14,c7p,fun _=>none,d10,d0o,d1t,d0q,d1u⟩
def a43 (x y:Off):Bool:=(x.Device==y.Device&&(x.Seq==y.Seq&&(x.Day==y.Day&&(x.Kind==y.Kind&&(x.Item==y.Item&&(x.Patron==y.Patron&&(x.Branch==y.Branch&&true)))))))
abbrev ZC:=CC Kd El
abbrev ZF:=FC Kd El
abbrev ZD:=Cod Kd El
abbrev Zi:ZD Int:=Cod.int .i64
abbrev Zb:ZD Bool:=Cod.bool
abbrev Zl (k:Kd):ZD (List (El k)):=Cod.lst k
abbrev Zn:ZC Unit:=CC.nil
abbrev Zz:ZF Unit:=FC.nil
section
variable {α β:Type}
abbrev Zc:ZD α→ZC β→ZC (α×β):=CC.cons
abbrev Zs:Nat→ZD α→ZF β→ZF (α×β):=FC.slot
end
end
section
def qaq (l:List (List UInt8)) (sep:List UInt8):Option (List UInt8):=bif decide (l.length≤1073741824)&&decide ((Go.Lib.join l sep).length≤1073741824) then some (Go.Lib.join l sep) else none
def qao (s:List UInt8) (n:Int):Option (List UInt8):=bif decide (0≤n)&&(decide (n.toNat≤1073741824)&&decide (s.length*n.toNat≤1073741824)) then some (Go.Lib.repeatL s n.toNat) else none
def qac (s sep:List UInt8):Option Int:=match sep with | [c]=>some ((Go.Lib.countByte s c:Nat):Int)|_=>none
def qab (s sep:List UInt8):Option Int:=match sep with | [c]=>some (Go.Lib.indexByte s c)|_=>none
def qf (s:List UInt8):Option (Int×Bool):=bif decide (s.length≤LIM) then some (match Go.Lib.atoiAll s with | .ok n=>(n,true) | .range=>(Go.Lib.atoiSat s,false)|_=>(0,false)) else none
def qd (s sep:List UInt8):Option Int:=match sep with | [c]=>some (Go.Lib.indexByte s c)|_=>none
def qy (_s:List UInt8) (_n:Int):Option (List (List UInt8)):=none
def qan (s:List UInt8) (c:Int):Option Int:=some (Go.Lib.indexByte s c.toNat.toUInt8)
@[inline] def b5p:Nat→Nat→List UInt8→List UInt8|0,_,a=>a|f+1,u,a=>bif decide (u<10) then UInt8.ofNat (48+u)::a else b5p f (u / 10) (UInt8.ofNat (48+u % 10)::a)
def qv (n:Int):Option (List UInt8):=bif decide (-9223372036854775808≤n)&&decide (n≤9223372036854775807) then some (bif decide (n<0) then 45::b5p 20 n.natAbs [] else b5p 20 n.natAbs []) else none
end
section
set_option maxRecDepth 100000
def qo:Option Bool:=some true
def qaa (s:List UInt8) (sep:List UInt8):Option ((List UInt8)×(List UInt8)×Bool):=
 match qd s sep with|some r1 =>bif decide (0≤r1) then bif decide (0≤(0:Int))&&(decide ((0:Int)≤r1)&&decide (r1≤(s.length:Int))) then bif decide (0≤(wr .i64 (r1+(sep.length:Int)):Int))&&(decide ((wr .i64 (r1+(sep.length:Int)):Int)≤(s.length:Int))&&decide ((s.length:Int)≤(s.length:Int))) then some ((s.take r1.toNat).drop (0:Int).toNat,(s.take (s.length:Int).toNat).drop (wr .i64 (r1+(sep.length:Int)):Int).toNat,true) else none else none else some (s,[],false)|none =>none
def qas (s:List UInt8) (sep:List UInt8):Option ((List UInt8)×(List UInt8)×Bool):=
 match qaa s sep with|some (r1,r2,r3) =>some (r1,r2,r3)|none =>none
def a6u:((List UInt8)×(List UInt8)×Int×Int×Int×(List (List UInt8))×Unit)→Option (((List UInt8)×(List UInt8)×Int×Int×Int×(List (List UInt8))×Unit)⊕(((List UInt8)×Int×(List (List UInt8))×Unit))):=fun (s,sep,sepSave,n,i,l,_)=>
 bif decide (i<n) then match qab s sep with|some r5 =>bif decide (r5<0) then some (.inr ((s,i,l,()))) else bif decide (0≤(0:Int))&&(decide ((0:Int)≤wr .i64 (r5+sepSave))&&decide (wr .i64 (r5+sepSave)≤(s.length:Int))) then match m3 l i with|some _ =>(match l[i.toNat]? with|some x =>bif decide (0≤(wr .i64 (r5+(sep.length:Int)):Int))&&(decide ((wr .i64 (r5+(sep.length:Int)):Int)≤(s.length:Int))&&decide ((s.length:Int)≤(s.length:Int))) then some (.inl ((s.take (s.length:Int).toNat).drop (wr .i64 (r5+(sep.length:Int)):Int).toNat,sep,sepSave,n,wr .i64 (i+1),l.set i.toNat ((s.take (wr .i64 (r5+sepSave)).toNat).drop (0:Int).toNat),())) else none|none =>none)|none =>none else none|none =>none else some (.inr ((s,i,l,())))
def qn (s:List UInt8) (sep:List UInt8) (sepSave:Int) (n:Int):Option (List (List UInt8)):=
 bif n==0 then some ([]) else bif sep==([]) then match qy s n with|some r1 =>some r1|none =>none else let k (n4:Int):Option (List (List UInt8)):=bif decide (0≤(if wr .i64 ((s.length:Int)+1)<n4 then wr .i64 ((s.length:Int)+1) else n4))&&(decide ((if wr .i64 ((s.length:Int)+1)<n4 then wr .i64 ((s.length:Int)+1) else n4)≤(LIM:Int))&&(if wr .i64 ((s.length:Int)+1)<n4 then wr .i64 ((s.length:Int)+1) else n4)==(if wr .i64 ((s.length:Int)+1)<n4 then wr .i64 ((s.length:Int)+1) else n4)) then match g8 a6u (s,sep,sepSave,wr .i64 ((if wr .i64 ((s.length:Int)+1)<n4 then wr .i64 ((s.length:Int)+1) else n4)-1),0,List.replicate (if wr .i64 ((s.length:Int)+1)<n4 then wr .i64 ((s.length:Int)+1) else n4).toNat ([]:List UInt8),()) with|some ((s6,i,l,_)) =>(match m3 l i with|some _ =>(match l[i.toNat]? with|some x =>bif decide (0≤(0:Int))&&(decide ((0:Int)≤wr .i64 (i+1))&&decide (wr .i64 (i+1)≤((l.set i.toNat s6).length:Int))) then some (((l.set i.toNat s6).take (wr .i64 (i+1)).toNat).drop (0:Int).toNat) else none|none =>none)|none =>none)|none =>none else none;bif decide (n<0) then match qac s sep with|some r3 =>k (wr .i64 (r3+1))|none =>none else k n
def qav (s:List UInt8) (sep:List UInt8):Option (List (List UInt8)):=
 match qn s sep 0 (-1) with|some r1 =>some r1|none =>none
def b3p:((List UInt8)×(List Int)×Int×Int×Unit)→Option (((List UInt8)×(List Int)×Int×Int×Unit)⊕(((List UInt8)×Unit)⊕(Int×Bool×Unit))):=fun (s,v,v1,v2,_)=>
 bif decide (v2<v1) then match m3 v v2 with|some x =>let k (v3:Bool):Option (((List UInt8)×(List Int)×Int×Int×Unit)⊕(((List UInt8)×Unit)⊕(Int×Bool×Unit))):=bif v3 then some (.inr (.inr (0,false,()))) else some (.inl (s,v,v1,wr .i64 (v2+1),()));bif decide (x<48) then k true else k (decide (57<x))|none =>none else some (.inr (.inl (s,())))
def qh (s:List UInt8):Option (Int×Bool):=
 match g8 b3p (s,blI s,((blI s).length:Int),0,()) with|some (.inl (s4,_)) =>(match qf s4 with|some (r5,r6) =>some (r5,r6)|none =>none)|some (.inr (v,v7,_)) =>some (v,v7)|none =>none
def qx (y:Int):Option Bool:=
 let k (v1:Bool):Option Bool:=some v1;bif (y.tmod 4)==0 then bif !((y.tmod 100)==0) then k true else k ((y.tmod 400)==0) else k false
def qaf (y:Int) (m:Int):Option Int:=
 let k11 (v:Bool):Option Int:=let k10 (v1:Bool):Option Int:=let k9 (v2:Bool):Option Int:=let k6 (v5:Int):Option Int:=some v5;bif v2 then k6 0 else let k (v4:Bool):Option Int:=bif v4 then k6 29 else let k8 (v7:Int):Option Int:=some v7;bif (wr .i64 (m-1))==0 then k8 31 else bif (wr .i64 (m-1))==1 then k8 28 else bif (wr .i64 (m-1))==2 then k8 31 else bif (wr .i64 (m-1))==3 then k8 30 else bif (wr .i64 (m-1))==4 then k8 31 else bif (wr .i64 (m-1))==5 then k8 30 else bif (wr .i64 (m-1))==6 then k8 31 else bif (wr .i64 (m-1))==7 then k8 31 else bif (wr .i64 (m-1))==8 then k8 30 else bif (wr .i64 (m-1))==9 then k8 31 else bif (wr .i64 (m-1))==10 then k8 30 else bif (wr .i64 (m-1))==11 then k8 31 else none;bif m==2 then match qx y with|some r3 =>k r3|none =>none else k false;bif v1 then k9 true else k9 (decide (12<m));bif v then k10 true else k10 (decide (m<1));bif decide (y<1900) then k11 true else k11 (decide (2199<y))
def b7h:(Int×Int×Int×Unit)→Option ((Int×Int×Int×Unit)⊕((Int×Unit))):=fun (y,day,k,_)=>
 bif decide (k<y) then match qx k with|some r1 =>let k3 (day2:Int):Option ((Int×Int×Int×Unit)⊕((Int×Unit))):=some (.inl (y,day2,wr .i64 (k+1),()));bif r1 then k3 (wr .i64 (day+1)) else k3 day|none =>none else some (.inr ((day,())))
def qr (y:Int):Option Int:=
 match g8 b7h (y,wr .i64 ((wr .i64 (y-1900))*365),1900,()) with|some ((day,_)) =>some day|none =>none
def qaw (y:Int) (m:Int):Option Int:=
 let k4 (v:Int):Option Int:=let k3 (v2:Bool):Option Int:=let k (n:Int):Option Int:=some n;bif v2 then k (wr .i64 (v+1)) else k v;bif decide (2<m) then match qx y with|some r1 =>k3 r1|none =>none else k3 false;bif (wr .i64 (m-1))==0 then k4 0 else bif (wr .i64 (m-1))==1 then k4 31 else bif (wr .i64 (m-1))==2 then k4 59 else bif (wr .i64 (m-1))==3 then k4 90 else bif (wr .i64 (m-1))==4 then k4 120 else bif (wr .i64 (m-1))==5 then k4 151 else bif (wr .i64 (m-1))==6 then k4 181 else bif (wr .i64 (m-1))==7 then k4 212 else bif (wr .i64 (m-1))==8 then k4 243 else bif (wr .i64 (m-1))==9 then k4 273 else bif (wr .i64 (m-1))==10 then k4 304 else bif (wr .i64 (m-1))==11 then k4 334 else none
def qz (y:Int) (m:Int) (d:Int):Option (Int×Int):=
 let k (v:Bool):Option (Int×Int):=bif v then some (0,2) else match qr y with|some r3 =>(match qaw y m with|some r5 =>some (wr .i64 ((wr .i64 ((wr .i64 (r3+r5))+d))-1),0)|none =>none)|none =>none;bif decide (d<1) then k true else match qaf y m with|some r1 =>k (decide (r1<d))|none =>none
def qax (s:List UInt8):Option (Int×Int):=
 let k18 (v:Bool):Option (Int×Int):=let k17 (v2:Bool):Option (Int×Int):=bif v2 then some (0,3) else bif decide (0≤(0:Int))&&(decide ((0:Int)≤4)&&decide (4≤(s.length:Int))) then match qh ((s.take (4:Int).toNat).drop (0:Int).toNat) with|some (r3,r4) =>bif decide (0≤(5:Int))&&(decide ((5:Int)≤7)&&decide (7≤(s.length:Int))) then match qh ((s.take (7:Int).toNat).drop (5:Int).toNat) with|some (r6,r7) =>bif decide (0≤(8:Int))&&(decide ((8:Int)≤(s.length:Int))&&decide ((s.length:Int)≤(s.length:Int))) then match qh ((s.take (s.length:Int).toNat).drop (8:Int).toNat) with|some (r9,r10) =>let k16 (v11:Bool):Option (Int×Int):=let k (v12:Bool):Option (Int×Int):=bif v12 then some (0,3) else match qz r3 r6 r9 with|some (r14,r15) =>some (r14,r15)|none =>none;bif v11 then k true else k (!r10);bif !r4 then k16 true else k16 (!r7)|none =>none else none|none =>none else none|none =>none else none;bif v then k17 true else match m3 s 7 with|some b1 =>k17 (!((b1.toNat:Int)==45))|none =>none;bif !((s.length:Int)==10) then k18 true else match m3 s 4 with|some b =>k18 (!((b.toNat:Int)==45))|none =>none
def qc (s:List UInt8) (d:Off):Option (Bool×Off):=
 match qf s with|some (r1,r2) =>let k8 (v:Bool):Option (Bool×Off):=let k7 (v3:Bool):Option (Bool×Off):=let k (v6:Bool):Option (Bool×Off):=some (v6,(⟨r1,d.Seq,d.Day,d.Kind,d.Item,d.Patron,d.Branch⟩:Off));bif v3 then match qv r1 with|some r5 =>k (r5==s)|none =>none else k false;bif v then k7 (decide ((s.length:Int)≤9)) else k7 false;bif r2 then k8 (decide (0≤r1)) else k8 false|none =>none
def qak (s:List UInt8) (d:Off):Option (Bool×Off):=
 match qf s with|some (r1,r2) =>let k8 (v:Bool):Option (Bool×Off):=let k7 (v3:Bool):Option (Bool×Off):=let k (v6:Bool):Option (Bool×Off):=some (v6,(⟨d.Device,r1,d.Day,d.Kind,d.Item,d.Patron,d.Branch⟩:Off));bif v3 then match qv r1 with|some r5 =>k (r5==s)|none =>none else k false;bif v then k7 (decide ((s.length:Int)≤9)) else k7 false;bif r2 then k8 (decide (0≤r1)) else k8 false|none =>none
def qaj (s:List UInt8) (d:Off):Option (Bool×Off):=
 match qf s with|some (r1,r2) =>let k8 (v:Bool):Option (Bool×Off):=let k7 (v3:Bool):Option (Bool×Off):=let k (v6:Bool):Option (Bool×Off):=some (v6,(⟨d.Device,d.Seq,d.Day,d.Kind,r1,d.Patron,d.Branch⟩:Off));bif v3 then match qv r1 with|some r5 =>k (r5==s)|none =>none else k false;bif v then k7 (decide ((s.length:Int)≤9)) else k7 false;bif r2 then k8 (decide (0≤r1)) else k8 false|none =>none
def qah (s:List UInt8) (d:Off):Option (Bool×Off):=
 match qf s with|some (r1,r2) =>let k8 (v:Bool):Option (Bool×Off):=let k7 (v3:Bool):Option (Bool×Off):=let k (v6:Bool):Option (Bool×Off):=some (v6,(⟨d.Device,d.Seq,d.Day,d.Kind,d.Item,d.Patron,r1⟩:Off));bif v3 then match qv r1 with|some r5 =>k (r5==s)|none =>none else k false;bif v then k7 (decide ((s.length:Int)≤9)) else k7 false;bif r2 then k8 (decide (0≤r1)) else k8 false|none =>none
def qai (s:List UInt8) (d:Off):Option (Bool×Off):=
 match qf s with|some (r1,r2) =>let k8 (v:Bool):Option (Bool×Off):=let k7 (v3:Bool):Option (Bool×Off):=let k (v6:Bool):Option (Bool×Off):=some (v6,(⟨d.Device,d.Seq,d.Day,d.Kind,d.Item,r1,d.Branch⟩:Off));bif v3 then match qv r1 with|some r5 =>k (r5==s)|none =>none else k false;bif v then k7 (decide ((s.length:Int)≤9)) else k7 false;bif r2 then k8 (decide (0≤r1)) else k8 false|none =>none
def qae (s:List UInt8):Option (Off×Bool):=
 match qav s ([32]) with|some r1 =>(bif decide ((r1.length:Int)<6) then some ((⟨0,0,0,0,0,0,0⟩:Off),false) else match m3 r1 2 with|some x =>(match qax x with|some (r3,r4) =>let k50 (v:Bool) (x9:Off):Option (Off×Bool):=let k49 (v14:Bool) (x15:Off):Option (Off×Bool):=let k48 (v20:Bool) (x21:Off):Option (Off×Bool):=let k47 (v26:Bool) (x27:Off):Option (Off×Bool):=match m3 r1 3 with|some x28 =>let k46 (v29:Bool):Option (Off×Bool):=let k45 (ok43:Bool) (x44:Off):Option (Off×Bool):=some (x44,ok43);bif v29 then match m3 r1 5 with|some x30 =>(match qai x30 (⟨x27.Device,x27.Seq,x27.Day,1,x27.Item,x27.Patron,x27.Branch⟩:Off) with|some (r32,x33) =>bif r32 then k45 v26 x33 else k45 false x33|none =>none)|none =>none else match m3 r1 3 with|some x35 =>let k42 (v36:Bool):Option (Off×Bool):=bif v36 then k45 v26 (⟨x27.Device,x27.Seq,x27.Day,2,x27.Item,x27.Patron,x27.Branch⟩:Off) else match m3 r1 3 with|some x37 =>let k (v38:Bool):Option (Off×Bool):=bif v38 then k45 v26 (⟨x27.Device,x27.Seq,x27.Day,3,x27.Item,x27.Patron,x27.Branch⟩:Off) else k45 false x27;bif x37==([114,101,110,101,119]) then k ((r1.length:Int)==6) else k false|none =>none;bif x35==([98,97,99,107]) then k42 ((r1.length:Int)==6) else k42 false|none =>none;bif x28==([108,111,97,110]) then k46 ((r1.length:Int)==7) else k46 false|none =>none;bif v20 then match m3 r1 (wr .i64 ((r1.length:Int)-1)) with|some x22 =>(match qah x22 x21 with|some (r24,x25) =>k47 r24 x25|none =>none)|none =>none else k47 false x21;bif v14 then match m3 r1 4 with|some x16 =>(match qaj x16 x15 with|some (r18,x19) =>k48 r18 x19|none =>none)|none =>none else k48 false x15;bif v then match m3 r1 1 with|some x10 =>(match qak x10 x9 with|some (r12,x13) =>k49 r12 x13|none =>none)|none =>none else k49 false x9;bif r4==0 then match m3 r1 0 with|some x5 =>(match qc x5 (⟨0,0,r3,0,0,0,0⟩:Off) with|some (r7,x8) =>k50 r7 x8|none =>none)|none =>none else k50 false (⟨0,0,r3,0,0,0,0⟩:Off)|none =>none)|none =>none)|none =>none
def q8 (n:Int) (least:Int) (most:Int):Option Bool:=
 let k (v:Bool):Option Bool:=some v;bif decide (least≤n) then k (decide (n≤most)) else k false
def qad (x:Off):Option Int:=
 match q8 x.Device 1 9 with|some r1 =>(let k24 (v:Bool):Option Int:=let k23 (v6:Bool):Option Int:=let k22 (v9:Bool):Option Int:=let k21 (v12:Bool):Option Int:=bif v12 then some 2 else match q8 x.Kind 1 3 with|some r14 =>bif !r14 then some 1 else let k20 (v17:Bool):Option Int:=let k (v19:Bool):Option Int:=bif v19 then some 2 else some 0;bif v17 then k true else bif !(x.Kind==1) then k (!(x.Patron==0)) else k false;bif x.Kind==1 then match q8 x.Patron 1 9999 with|some r16 =>k20 (!r16)|none =>none else k20 false|none =>none;bif v9 then k21 true else match q8 x.Branch 1 4 with|some r11 =>k21 (!r11)|none =>none;bif v6 then k22 true else match q8 x.Item 1 9999 with|some r8 =>k22 (!r8)|none =>none;bif v then k23 true else match q8 x.Day 0 109572 with|some r5 =>k23 (!r5)|none =>none;bif !r1 then k24 true else match q8 x.Seq 1 9999 with|some r3 =>k24 (!r3)|none =>none)|none =>none
def qw (y:Off) (v:Off):Option Bool:=
 let k (v1:Bool):Option Bool:=some v1;bif v.Device==y.Device then k (v.Seq==y.Seq) else k false
def b3r {γ0:Type} (p:γ0→Off→Option Bool):((List Off)×γ0×Int×Int×Unit)→Option (((List Off)×γ0×Int×Int×Unit)⊕((Unit)⊕(Int×Unit))):=fun (s,g,v,v1,_)=>
 bif decide (v1<v) then match m3 s v1 with|some x =>(match p g x with|some r =>bif r then some (.inr (.inr (v1,()))) else some (.inl (s,g,v,wr .i64 (v1+1),()))|none =>none)|none =>none else some (.inr (.inl (())))
def qk {γ0:Type} (p:γ0→Off→Option Bool) (s:List Off) (g:γ0):Option Int:=
 match g8 (b3r p) (s,g,(s.length:Int),0,()) with|some (.inl (_)) =>some (-1)|some (.inr (v,_)) =>some v|none =>none
def qam {γ0:Type} (p:γ0→Off→Option Bool) (s:List Off) (g:γ0):Option Bool:=
 match qk p s g with|some r1 =>some (decide (0≤r1))|none =>none
def b0m:(Int×Int×(List Int)×Unit)→Option ((Int×Int×(List Int)×Unit)⊕((Unit)⊕(Int×Unit))):=fun (v,v1,l,_)=>
 bif decide (v1<v) then match m3 l v1 with|some _ =>(match l[v1.toNat]? with|some x =>bif !(x==0) then some (.inr (.inr (x,()))) else some (.inl (v,wr .i64 (v1+1),l,()))|none =>none)|none =>none else some (.inr (.inl (())))
def qg (a:Off) (b:Off):Option Int:=
 match g8 b0m ((([wr .i64 (a.Day-b.Day),wr .i64 (a.Device-b.Device),wr .i64 (a.Seq-b.Seq)]).length:Int),0,[wr .i64 (a.Day-b.Day),wr .i64 (a.Device-b.Device),wr .i64 (a.Seq-b.Seq)],()) with|some (.inl (_)) =>some 0|some (.inr (v,_)) =>some v|none =>none
def b7e {γ0:Type} (p:γ0→Off→Off→Option Int):((List Off)×γ0×Int×Unit)→Option (((List Off)×γ0×Int×Unit)⊕((Unit)⊕(Bool×Unit))):=fun (x,g,i,_)=>
 bif decide (0<i) then match m3 x i with|some x1 =>(match m3 x (wr .i64 (i-1)) with|some x2 =>(match p g x1 x2 with|some r =>bif decide (r<0) then some (.inr (.inr (false,()))) else some (.inl (x,g,wr .i64 (i-1),()))|none =>none)|none =>none)|none =>none else some (.inr (.inl (())))
def qj {γ0:Type} (p:γ0→Off→Off→Option Int) (x:List Off) (g:γ0):Option Bool:=
 match g8 (b7e p) (x,g,wr .i64 ((x.length:Int)-1),()) with|some (.inl (_)) =>some true|some (.inr (v,_)) =>some v|none =>none
def b3o:((List Off)×(List Off)×Int×Int×Unit)→Option (((List Off)×(List Off)×Int×Int×Unit)⊕(((List Off)×Unit)⊕(Int×Unit))):=fun (l,v,v1,v2,_)=>
 bif decide (v2<v1) then match m3 v v2 with|some x =>(match qad x with|some r3 =>bif !(r3==0) then some (.inr (.inr (r3,()))) else some (.inl (l,v,v1,wr .i64 (v2+1),()))|none =>none)|none =>none else some (.inr (.inl (l,())))
def a6t:((List Off)×(List Off)×Int×Int×Unit)→Option (((List Off)×(List Off)×Int×Int×Unit)⊕(((List Off)×Unit)⊕(Int×Unit))):=fun (l,v,v5,v6,_)=>
 bif decide (v6<v5) then match m3 v v6 with|some x =>bif decide (0≤(0:Int))&&(decide ((0:Int)≤v6)&&decide (v6≤(l.length:Int))) then match qam (fun g x0=>qw x0 g.2.1) ((l.take v6.toNat).drop (0:Int).toNat) ((),(x,())) with|some r7 =>bif r7 then some (.inr (.inr (7,()))) else some (.inl (l,v,v5,wr .i64 (v6+1),()))|none =>none else none|none =>none else some (.inr (.inl (l,())))
def qb (l:List Off):Option Int:=
 bif decide (128<(l.length:Int)) then some 13 else match g8 b3o (l,l,(l.length:Int),0,()) with|some (.inl (l4,_)) =>(match g8 a6t (l4,l4,(l4.length:Int),0,()) with|some (.inl (l8,_)) =>(match qj (fun g x0 x1=>qg x0 x1) l8 ((),()) with|some r9 =>bif !r9 then some 3 else some 0|none =>none)|some (.inr (v,_)) =>some v|none =>none)|some (.inr (v10,_)) =>some v10|none =>none
def b7f:((List UInt8)×Int×(List Off)×Unit)→Option (((List UInt8)×Int×(List Off)×Unit)⊕(((List Off)×Unit)⊕((List Off)×Int×Int×Unit))):=fun (s,n,l,_)=>
 bif !(s==([])) then match qas s ([10]) with|some (r1,r2,r3) =>(match qae r1 with|some (r5,r6) =>let k (v:Bool):Option (((List UInt8)×Int×(List Off)×Unit)⊕(((List Off)×Unit)⊕((List Off)×Int×Int×Unit))):=bif v then some (.inr (.inr ([],n,3,()))) else bif decide (l.length+([r5]:List Off).length≤LIM) then some (.inl (r2,wr .i64 (n+1),l++([r5]:List Off),())) else none;bif !r3 then k true else k (!r6)|none =>none)|none =>none else some (.inr (.inl (l,())))
def ql (s:List UInt8):Option ((List Off)×Int×Int):=
 match g8 b7f (s,1,([]:List Off),()) with|some (.inl (l,_)) =>(match qb l with|some r7 =>bif !(r7==0) then some ([],0,r7) else some (l,0,0)|none =>none)|some (.inr (v,v8,v9,_)) =>some (v,v8,v9)|none =>none
def b7g:((List UInt8)×Int×Int×Unit)→Option (((List UInt8)×Int×Int×Unit)⊕(((List UInt8)×Int×Unit)⊕((List UInt8)×Int×Bool×Unit))):=fun (s,vat,i,_)=>
 bif decide (i<(s.length:Int)) then match m3 s i with|some b =>bif (b.toNat:Int)==10 then bif decide (0≤(vat:Int))&&(decide ((vat:Int)≤i)&&decide (i≤(s.length:Int))) then some (.inr (.inr ((s.take i.toNat).drop (vat:Int).toNat,wr .i64 (i+1),true,()))) else none else some (.inl (s,vat,wr .i64 (i+1),()))|none =>none else some (.inr (.inl (s,vat,())))
def qm (s:List UInt8) (vat:Int):Option ((List UInt8)×Int×Bool):=
 match g8 b7g (s,vat,vat,()) with|some (.inl (s1,vat2,_)) =>bif decide (0≤(vat2:Int))&&(decide ((vat2:Int)≤(s1.length:Int))&&decide ((s1.length:Int)≤(s1.length:Int))) then some ((s1.take (s1.length:Int).toNat).drop (vat2:Int).toNat,(s1.length:Int),false) else none|some (.inr (v,v3,v4,_)) =>some (v,v3,v4)|none =>none
def b3t:((List UInt8)×Int×Unit)→Option (((List UInt8)×Int×Unit)⊕(((List UInt8)×Unit)⊕((List UInt8)×(List UInt8)×Bool×Unit))):=fun (s,i,_)=>
 bif decide (i<(s.length:Int)) then match m3 s i with|some b =>bif (b.toNat:Int)==32 then bif decide (0≤(0:Int))&&(decide ((0:Int)≤i)&&decide (i≤(s.length:Int))) then bif decide (0≤(wr .i64 (i+1):Int))&&(decide ((wr .i64 (i+1):Int)≤(s.length:Int))&&decide ((s.length:Int)≤(s.length:Int))) then some (.inr (.inr ((s.take i.toNat).drop (0:Int).toNat,(s.take (s.length:Int).toNat).drop (wr .i64 (i+1):Int).toNat,true,()))) else none else none else some (.inl (s,wr .i64 (i+1),()))|none =>none else some (.inr (.inl (s,())))
def qq (s:List UInt8):Option ((List UInt8)×(List UInt8)×Bool):=
 match g8 b3t (s,0,()) with|some (.inl (s1,_)) =>some (s1,[],false)|some (.inr (v,v2,v3,_)) =>some (v,v2,v3)|none =>none
def b7i:((List UInt8)×Bool×(List (List UInt8))×Unit)→Option (((List UInt8)×Bool×(List (List UInt8))×Unit)⊕(((List (List UInt8))×Unit))):=fun (s,more,l,_)=>
 let k (v:Bool):Option (((List UInt8)×Bool×(List (List UInt8))×Unit)⊕(((List (List UInt8))×Unit))):=bif v then match qq s with|some (r1,r2,r3) =>bif decide (l.length+([r1]:List (List UInt8)).length≤LIM) then some (.inl (r2,r3,l++([r1]:List (List UInt8)),())) else none|none =>none else some (.inr ((l,())));bif more then k (decide ((l.length:Int)<8)) else k false
def qs (s:List UInt8):Option (List (List UInt8)):=
 match g8 b7i (s,true,[],()) with|some ((l,_)) =>some l|none =>none
def b3q:((List UInt8)×Int×Int×Unit)→Option (((List UInt8)×Int×Int×Unit)⊕((Int×Unit)⊕(Int×Bool×Unit))):=fun (s,n,i,_)=>
 bif decide (i<(s.length:Int)) then match m3 s i with|some b =>(let k (v:Bool):Option (((List UInt8)×Int×Int×Unit)⊕((Int×Unit)⊕(Int×Bool×Unit))):=bif v then some (.inr (.inr (0,false,()))) else match m3 s i with|some b4 =>some (.inl (s,wr .i64 ((wr .i64 (n*10))+(wr .i64 (wr .u8 ((b4.toNat:Int)-48)))),wr .i64 (i+1),()))|none =>none;bif decide ((b.toNat:Int)<48) then k true else match m3 s i with|some b3 =>k (decide (57<(b3.toNat:Int)))|none =>none)|none =>none else some (.inr (.inl (n,())))
def qi (s:List UInt8):Option (Int×Bool):=
 let k7 (v:Bool):Option (Int×Bool):=let k (v2:Bool):Option (Int×Bool):=bif v2 then some (0,false) else match g8 b3q (s,0,0,()) with|some (.inl (n,_)) =>some (n,true)|some (.inr (v5,v6,_)) =>some (v5,v6)|none =>none;bif v then k true else match m3 s 0 with|some b =>bif (b.toNat:Int)==48 then k (decide (1<(s.length:Int))) else k false|none =>none;bif decide ((s.length:Int)<1) then k7 true else k7 (decide (9<(s.length:Int)))
def qag (y:Int) (m:Int):Option Int:=
 let k10 (v:Bool):Option Int:=let k9 (v1:Bool):Option Int:=let k8 (v2:Bool):Option Int:=bif v2 then some 0 else let k7 (v3:Bool):Option Int:=let k6 (v4:Bool):Option Int:=let k (v5:Bool):Option Int:=bif v5 then some 29 else match m3 ([31,28,31,30,31,30,31,31,30,31,30,31]:List Int) (wr .i64 (m-1)) with|some _ =>(match ([31,28,31,30,31,30,31,31,30,31,30,31])[(wr .i64 (m-1)).toNat]? with|some x =>some x|none =>none)|none =>none;bif v4 then k (!(y==2100)) else k false;bif v3 then k6 (!(y==1900)) else k6 false;bif m==2 then k7 ((y.tmod 4)==0) else k7 false;bif v1 then k8 true else k8 (decide (12<m));bif v then k9 true else k9 (decide (m<1));bif decide (y<1900) then k10 true else k10 (decide (2199<y))
def qau (y:Int):Option Int:=
 match qag y 2 with|some r1 =>bif r1==29 then some 366 else some 365|none =>none
def b9y:(Int×Int×Int×Int×Unit)→Option ((Int×Int×Int×Int×Unit)⊕((Int×Int×Int×Unit))):=fun (y,m,n,i,_)=>
 bif decide (i<y) then match qau i with|some r2 =>some (.inl (y,m,wr .i64 (n+r2),wr .i64 (i+1),()))|none =>none else some (.inr ((y,m,n,())))
def b9z:(Int×Int×Int×Int×Unit)→Option ((Int×Int×Int×Int×Unit)⊕((Int×Unit))):=fun (y,m,n,i,_)=>
 bif decide (i<m) then match qag y i with|some r5 =>some (.inl (y,m,wr .i64 (n+r5),wr .i64 (i+1),()))|none =>none else some (.inr ((n,())))
def qe (y:Int) (m:Int) (d:Int):Option (Int×Int):=
 let k (v:Bool):Option (Int×Int):=bif v then some (0,2) else match g8 b9y (y,m,wr .i64 (d-1),1900,()) with|some ((y3,m4,n,_)) =>(match g8 b9z (y3,m4,n,1,()) with|some ((n6,_)) =>some (n6,0)|none =>none)|none =>none;bif decide (d<1) then k true else match qag y m with|some r1 =>k (decide (r1<d))|none =>none
def a7m:((List UInt8)×Int×Int×(List Int)×Unit)→Option (((List UInt8)×Int×Int×(List Int)×Unit)⊕(((List Int)×Unit)⊕(Int×Int×Unit))):=fun (s,vat,i,l,_)=>
 bif decide (i<10) then let k9 (v:Bool):Option (((List UInt8)×Int×Int×(List Int)×Unit)⊕(((List Int)×Unit)⊕(Int×Int×Unit))):=let k8 (vat6:Int) (l7:List Int):Option (((List UInt8)×Int×Int×(List Int)×Unit)⊕(((List Int)×Unit)⊕(Int×Int×Unit))):=some (.inl (s,vat6,wr .i64 (i+1),l7,()));bif v then match m3 s i with|some b =>bif !((b.toNat:Int)==45) then some (.inr (.inr (0,3,()))) else k8 (wr .i64 (vat+1)) l|none =>none else match m3 s i with|some b1 =>(let k (v3:Bool):Option (((List UInt8)×Int×Int×(List Int)×Unit)⊕(((List Int)×Unit)⊕(Int×Int×Unit))):=bif v3 then some (.inr (.inr (0,3,()))) else match m3 l vat with|some _ =>(match l[vat.toNat]? with|some x =>(match m3 s i with|some b4 =>(match m3 l vat with|some _ =>(match l[vat.toNat]? with|some x5 =>k8 vat (l.set vat.toNat (wr .i64 ((wr .i64 (10*x))+(wr .i64 (wr .u8 ((b4.toNat:Int)-48))))))|none =>none)|none =>none)|none =>none)|none =>none)|none =>none;bif decide ((b1.toNat:Int)<48) then k true else match m3 s i with|some b2 =>k (decide (57<(b2.toNat:Int)))|none =>none)|none =>none;bif i==4 then k9 true else k9 (i==7) else some (.inr (.inl (l,())))
def qu (s:List UInt8):Option (Int×Int):=
 bif !((s.length:Int)==10) then some (0,3) else match g8 a7m (s,0,0,[0,0,0],()) with|some (.inl (l,_)) =>(match m3 l 0 with|some _ =>(match l[0]? with|some x =>(match m3 l 1 with|some _ =>(match l[1]? with|some x10 =>(match m3 l 2 with|some _ =>(match l[2]? with|some x11 =>(match qe x x10 x11 with|some (r12,r13) =>some (r12,r13)|none =>none)|none =>none)|none =>none)|none =>none)|none =>none)|none =>none)|none =>none)|some (.inr (v,v14,_)) =>some (v,v14)|none =>none
def qap (s:List UInt8):Option (Off×Bool):=
 match qs s with|some r1 =>let k51 (v:Bool):Option (Off×Bool):=bif v then some ((⟨0,0,0,0,0,0,0⟩:Off),false) else match m3 r1 0 with|some x =>(match qi x with|some (r3,r4) =>(match m3 r1 1 with|some x5 =>(match qi x5 with|some (r7,r8) =>(match m3 r1 2 with|some x9 =>(match qu x9 with|some (r11,r12) =>(match m3 r1 4 with|some x13 =>(match qi x13 with|some (r15,r16) =>(match m3 r1 (wr .i64 ((r1.length:Int)-1)) with|some x17 =>(match qi x17 with|some (r19,r20) =>let k50 (v21:Bool):Option (Off×Bool):=let k49 (v22:Bool):Option (Off×Bool):=let k48 (v23:Bool):Option (Off×Bool):=let k47 (v24:Bool):Option (Off×Bool):=match m3 r1 3 with|some x25 =>let k46 (v26:Bool):Option (Off×Bool):=let k45 (x27:Int):Option (Off×Bool):=match m3 r1 3 with|some x28 =>let k44 (v29:Bool):Option (Off×Bool):=let k43 (x30:Int):Option (Off×Bool):=match m3 r1 3 with|some x31 =>let k42 (v32:Bool):Option (Off×Bool):=let k41 (ok:Bool) (x38:Int) (x39:Int):Option (Off×Bool):=let k (v40:Bool):Option (Off×Bool):=some ((⟨r3,r7,r11,x38,r15,x39,r19⟩:Off),v40);bif ok then k (!(x38==0)) else k false;bif v32 then match m3 r1 5 with|some x33 =>(match qi x33 with|some (r35,r36) =>bif v24 then k41 r36 1 r35 else k41 false 1 r35|none =>none)|none =>none else k41 v24 x30 0;bif x31==([108,111,97,110]) then k42 ((r1.length:Int)==7) else k42 false|none =>none;bif v29 then k43 3 else k43 x27;bif x28==([114,101,110,101,119]) then k44 ((r1.length:Int)==6) else k44 false|none =>none;bif v26 then k45 2 else k45 0;bif x25==([98,97,99,107]) then k46 ((r1.length:Int)==6) else k46 false|none =>none;bif v23 then k47 r20 else k47 false;bif v22 then k48 r16 else k48 false;bif v21 then k49 (r12==0) else k49 false;bif r4 then k50 r8 else k50 false|none =>none)|none =>none)|none =>none)|none =>none)|none =>none)|none =>none)|none =>none)|none =>none)|none =>none)|none =>none;bif decide ((r1.length:Int)<6) then k51 true else k51 (decide (7<(r1.length:Int)))|none =>none
def qar (x:Off):Option Int:=
 let k24 (v:Bool):Option Int:=let k23 (v1:Bool):Option Int:=let k22 (v2:Bool):Option Int:=let k21 (v3:Bool):Option Int:=let k20 (v4:Bool):Option Int:=let k19 (v5:Bool):Option Int:=let k18 (v6:Bool):Option Int:=let k17 (v7:Bool):Option Int:=let k16 (v8:Bool):Option Int:=bif v8 then some 2 else let k15 (v9:Bool):Option Int:=bif v9 then some 1 else let k14 (v11:Bool):Option Int:=let k (v13:Bool):Option Int:=bif v13 then some 2 else some 0;bif v11 then k true else bif !(x.Kind==1) then k (!(x.Patron==0)) else k false;bif x.Kind==1 then bif decide (x.Patron<1) then k14 true else k14 (decide (9999<x.Patron)) else k14 false;bif decide (x.Kind<1) then k15 true else k15 (decide (3<x.Kind));bif v7 then k16 true else k16 (decide (4<x.Branch));bif v6 then k17 true else k17 (decide (x.Branch<1));bif v5 then k18 true else k18 (decide (9999<x.Item));bif v4 then k19 true else k19 (decide (x.Item<1));bif v3 then k20 true else k20 (decide (109572<x.Day));bif v2 then k21 true else k21 (decide (x.Day<0));bif v1 then k22 true else k22 (decide (9999<x.Seq));bif v then k23 true else k23 (decide (x.Seq<1));bif decide (x.Device<1) then k24 true else k24 (decide (9<x.Device))
def qat (a:Off) (b:Off):Option Bool:=
 bif !(a.Day==b.Day) then some (decide (a.Day<b.Day)) else bif !(a.Device==b.Device) then some (decide (a.Device<b.Device)) else some (decide (a.Seq<b.Seq))
def b3n:((List Off)×Int×Unit)→Option (((List Off)×Int×Unit)⊕(((List Off)×Unit)⊕(Int×Unit))):=fun (l,i,_)=>
 bif decide (i<(l.length:Int)) then match m3 l i with|some x =>(match qar x with|some r1 =>bif !(r1==0) then some (.inr (.inr (r1,()))) else some (.inl (l,wr .i64 (i+1),()))|none =>none)|none =>none else some (.inr (.inl (l,())))
def a5i:((List Off)×Int×Int×Unit)→Option (((List Off)×Int×Int×Unit)⊕(((List Off)×Int×Unit)⊕(Int×Unit))):=fun (l,i,k,_)=>
 bif decide (k<i) then match m3 l i with|some x =>(match m3 l k with|some x3 =>let k6 (v:Bool):Option (((List Off)×Int×Int×Unit)⊕(((List Off)×Int×Unit)⊕(Int×Unit))):=bif v then some (.inr (.inr (7,()))) else some (.inl (l,i,wr .i64 (k+1),()));bif x.Device==x3.Device then match m3 l i with|some x4 =>(match m3 l k with|some x5 =>k6 (x4.Seq==x5.Seq)|none =>none)|none =>none else k6 false|none =>none)|none =>none else some (.inr (.inl (l,i,())))
def a6s:((List Off)×Int×Unit)→Option (((List Off)×Int×Unit)⊕(((List Off)×Unit)⊕(Int×Unit))):=fun (l,i,_)=>
 bif decide (i<(l.length:Int)) then match g8 a5i (l,i,0,()) with|some (.inl (l7,i8,_)) =>some (.inl (l7,wr .i64 (i8+1),()))|some (.inr (v,_)) =>some (.inr (.inr (v,())))|none =>none else some (.inr (.inl (l,())))
def a3t:((List Off)×Int×Unit)→Option (((List Off)×Int×Unit)⊕((Unit)⊕(Int×Unit))):=fun (l,i,_)=>
 bif decide (i<(l.length:Int)) then match m3 l (wr .i64 (i-1)) with|some x =>(match m3 l i with|some x10 =>(match qat x x10 with|some r11 =>bif !r11 then some (.inr (.inr (3,()))) else some (.inl (l,wr .i64 (i+1),()))|none =>none)|none =>none)|none =>none else some (.inr (.inl (())))
def qa (l:List Off):Option Int:=
 bif decide (128<(l.length:Int)) then some 13 else match g8 b3n (l,0,()) with|some (.inl (l2,_)) =>(match g8 a6s (l2,0,()) with|some (.inl (l9,_)) =>(match g8 a3t (l9,1,()) with|some (.inl (_)) =>some 0|some (.inr (v,_)) =>some v|none =>none)|some (.inr (v12,_)) =>some v12|none =>none)|some (.inr (v13,_)) =>some v13|none =>none
def b3u:((List UInt8)×Int×(List Off)×Unit)→Option (((List UInt8)×Int×(List Off)×Unit)⊕(((List Off)×Unit)⊕((List Off)×Int×Int×Unit))):=fun (s,vat,l,_)=>
 bif decide (vat<(s.length:Int)) then match qm s vat with|some (r1,r2,r3) =>(match qap r1 with|some (r5,r6) =>let k (v:Bool):Option (((List UInt8)×Int×(List Off)×Unit)⊕(((List Off)×Unit)⊕((List Off)×Int×Int×Unit))):=bif v then some (.inr (.inr ([],wr .i64 ((l.length:Int)+1),3,()))) else bif decide (l.length+([r5]:List Off).length≤LIM) then some (.inl (s,r2,l++([r5]:List Off),())) else none;bif !r6 then k true else k (!r3)|none =>none)|none =>none else some (.inr (.inl (l,())))
def qt (s:List UInt8):Option ((List Off)×Int×Int):=
 match g8 b3u (s,0,[],()) with|some (.inl (l,_)) =>(match qa l with|some r7 =>bif !(r7==0) then some ([],0,r7) else some (l,0,0)|none =>none)|some (.inr (v,v8,v9,_)) =>some (v,v8,v9)|none =>none
def b3s:((List Off)×(List Off)×Int×Unit)→Option (((List Off)×(List Off)×Int×Unit)⊕((Unit)⊕(Bool×Unit))):=fun (a,b,i,_)=>
 bif decide (i<(a.length:Int)) then match m3 a i with|some x =>(match m3 b i with|some x1 =>bif !(a43 x x1) then some (.inr (.inr (false,()))) else some (.inl (a,b,wr .i64 (i+1),()))|none =>none)|none =>none else some (.inr (.inl (())))
def qp (a:List Off) (b:List Off):Option Bool:=
 bif !((a.length:Int)==(b.length:Int)) then some false else match g8 b3s (a,b,0,()) with|some (.inl (_)) =>some true|some (.inr (v,_)) =>some v|none =>none
def q9 (s:List UInt8):Option Bool:=
 bif decide (6000<(s.length:Int)) then match qo with|some r1 =>some r1|none =>none else match ql s with|some (r3,r4,r5) =>(match qt s with|some (r7,r8,r9) =>(match qp r3 r7 with|some r11 =>let k17 (v:Bool):Option Bool:=let k16 (v12:Bool):Option Bool:=let k (v15:Bool):Option Bool:=some v15;bif v12 then match qo with|some r14 =>k r14|none =>none else k false;bif v then k16 (r5==r9) else k16 false;bif r11 then k17 (r4==r8) else k17 false|none =>none)|none =>none)|none =>none
def qal (s:List Off):Option (List Off):=
 bif decide (([]:List Off).length+s.length≤LIM) then some (([])++s) else none
end
section
set_option maxRecDepth 100000
open Go
theorem b1e:f9 a0d:=f9.iso (f9.cons (e8.int _) (f9.cons (e8.int _) (f9.cons (e8.int _) (f9.cons (e8.int _) (f9.cons (e8.int _) (f9.cons (e8.int _) (f9.cons (e8.int _) f9.nil))))))) (fun _=>rfl)
theorem a3q:f9 a3d:=f9.iso (f9.cons (e8.int _) (f9.cons (e8.int _) (f9.cons (e8.int _) f9.nil))) (fun _=>rfl)
theorem a8f:f9 a9v:=f9.iso (f9.cons (e8.int _) (f9.cons (e8.int _) (f9.cons (e8.int _) (f9.cons (e8.int _) (f9.cons (e8.int _) (f9.cons e8.bool f9.nil)))))) (fun _=>rfl)
theorem a8c:f9 a6g:=f9.iso (f9.cons (e8.int _) (f9.cons (e8.int _) (f9.cons (e8.int _) (f9.cons (e8.int _) f9.nil)))) (fun _=>rfl)
theorem a8e:f9 a9u:=f9.iso (f9.cons (e8.int _) (f9.cons (e8.int _) (f9.cons (e8.int _) (f9.cons (e8.int _) (f9.cons (e8.int _) (f9.cons e8.str (f9.cons (e8.int _) (f9.cons (e8.int _) (f9.cons (e8.int _) (f9.cons (e8.int _) f9.nil)))))))))) (fun _=>rfl)
theorem a8g:f9 a9w:=f9.iso (f9.cons (e8.int _) (f9.cons (e8.int _) (f9.cons (e8.int _) (f9.cons (e8.int _) (f9.cons (e8.int _) f9.nil))))) (fun _=>rfl)
theorem a4q:f9 a4o:=f9.iso (f9.cons (e8.int _) (f9.cons (e8.int _) (f9.cons (e8.int _) (f9.cons (e8.int _) (f9.cons e8.bool (f9.cons e8.str f9.nil)))))) (fun _=>rfl)
theorem a8d:f9 a9t:=f9.iso (f9.cons (e8.int _) (f9.cons (e8.int _) (f9.cons (e8.int _) (f9.cons (e8.int _) (f9.cons (e8.int _) (f9.cons (e8.int _) (f9.cons (e8.int _) (f9.cons (e8.int _) (f9.cons (e8.int _) (f9.cons (e8.int _) (f9.cons (e8.int _) f9.nil))))))))))) (fun _=>rfl)
theorem a4p:f9 a4n:=f9.iso (f9.cons (e8.int _) (f9.cons (e8.int _) (f9.cons (e8.int _) (f9.cons (e8.int _) (f9.cons (e8.int _) (f9.cons (e8.int _) (f9.cons (e8.int _) f9.nil))))))) (fun _=>rfl)
theorem a8h:f9 a9x:=f9.iso (f9.cons (e8.int _) (f9.cons (e8.int _) (f9.cons (e8.int _) (f9.cons (e8.int _) (f9.cons (e8.int _) (f9.cons (e8.int _) (f9.cons (e8.int _) (f9.cons (e8.int _) (f9.cons (e8.int _) (f9.cons (e8.int _) (f9.cons (e8.int _) (f9.cons (e8.int _) (f9.cons (e8.int _) f9.nil))))))))))))) (fun _=>rfl)
instance:CCC a0d:=⟨b1e⟩
instance:CCC a3d:=⟨a3q⟩
instance:CCC a9v:=⟨a8f⟩
instance:CCC a6g:=⟨a8c⟩
instance:CCC a9u:=⟨a8e⟩
instance:CCC a9w:=⟨a8g⟩
instance:CCC a4o:=⟨a4q⟩
instance:CCC a9t:=⟨a8d⟩
instance:CCC a4n:=⟨a4p⟩
instance:CCC a9x:=⟨a8h⟩
end
section
set_option maxRecDepth 100000
abbrev x0a:=Zl .kOff
abbrev x0b:=OC.r [2] [] [] (Zs 2 Zi Zz)
abbrev x0c:=Zs 5 Zi Zz
abbrev x0d:=OC.r [2,3,4] [] [] (Zs 2 x0a (Zs 3 Zi (Zs 4 Zi Zz)))
abbrev x0e:=Zc Zi (Zc Zi Zn)
abbrev x0f:=OC.xs 0 [] [] [] Zz (.r [4] [] [] (Zs 4 Zi Zz))
abbrev x0g:=OC.xs 0 [] [] [] Zz (.r [4] [] [] (Zs 4 Zb Zz))
abbrev x0h:=Cod.agg a0d
abbrev c57:ZC (Unit):=Zn
abbrev a1z:ZD (Bool):=Zb
def c74 (a:Unit):Option (Bool):=qo
abbrev a7t:ZC ((List UInt8)×(List UInt8)×Unit):=Zc Cod.str (Zc Cod.str Zn)
abbrev a19:ZD (Int):=Zi
def c72 (a:(List UInt8)×(List UInt8)×Unit):Option (Int):=qd a.1 a.2.1
abbrev b7j:ZD ((List UInt8)×(List UInt8)×Bool):=(Cod.tup3 (Zc Cod.str (Zc Cod.str (Zc Zb Zn))))
abbrev c45 {R:Type}:Sm R:=u7 a7t b7j (fun a=>qaa a.1 a.2.1)
abbrev b7z {R:Type}:Sm R:=u7 a7t b7j (fun a=>qas a.1 a.2.1)
abbrev b8j:ZC ((List UInt8)×Int×Unit):=Zc Cod.str (Zc Zi Zn)
abbrev b7k:ZD ((List (List UInt8))):=(Zl .kstr)
def c78 (a:(List UInt8)×Int×Unit):Option ((List (List UInt8))):=qy a.1 a.2.1
abbrev c9u {R:Type}:Sm R:=u7 b8j b7k c78
abbrev b4c:ZC ((List UInt8)×(List UInt8)×Unit):=a7t
abbrev c08:ZD (Int):=a19
def c0x (a:(List UInt8)×(List UInt8)×Unit):Option (Int):=qac a.1 a.2.1
abbrev b7r {R:Type}:Sm R:=u7 b4c c08 c0x
abbrev b4b:ZC ((List UInt8)×(List UInt8)×Unit):=a7t
abbrev c07:ZD (Int):=a19
def c0w (a:(List UInt8)×(List UInt8)×Unit):Option (Int):=qab a.1 a.2.1
abbrev b7q {R:Type}:Sm R:=u7 b4b c07 c0w
abbrev d0e:ZC ((List UInt8)×(List UInt8)×Int×Int×Unit):=Zc Cod.str (Zc Cod.str x0e)
abbrev c9n {R:Type}:Sm R:=u7 d0e b7k (fun a=>qn a.1 a.2.1 a.2.2.1 a.2.2.2.1)
def c2c {R:Type}:Nat→Sm R:=cl 268 c9u (cl 269 b7r (cl 270 b7q c0))
abbrev b1w:=a52 [] [] [0,1,2,3,9,10] [] [31] (Zs 0 Cod.str (Zs 1 Cod.str (Zs 2 Zi (Zs 3 Zi (FC.arr 9 31 (Zs 10 Zi (FC.own 31 Kd.kstr false Zz))))))) a6u (.x 0 [0,9,10] [] [31] (Zs 0 Cod.str (FC.arr 9 31 (Zs 10 Zi (FC.own 31 Kd.kstr false Zz)))))
def b19 {R:Type}:Lp Kd El R:=lp 11 b1w.sem l0
abbrev c5f {R:Type}:Sm R:=u7 a7t b7k (fun a=>qav a.1 a.2.1)
abbrev a2q:ZC ((List UInt8)×Unit):=Zc Cod.str Zn
abbrev c88:ZD (Int×Bool):=(Cod.tup2 (Zc Zi (Zc Cod.ifc Zn)))
def c73 (a:(List UInt8)×Unit):Option (Int×Bool):=qf a.1
abbrev c1g {R:Type}:Sm R:=u7 a2q c88 c73
abbrev c89:ZD (Int×Bool):=(Cod.tup2 (Zc Zi (Zc Zb Zn)))
abbrev c9j {R:Type}:Sm R:=u7 a2q c89 (fun a=>qh a.1)
def c16 {R:Type}:Nat→Sm R:=cl 175 c1g c0
abbrev b6c:=a52 [] [] [0,9,10,11] [] [] (Zs 0 Cod.str (Zs 9 (Zl .ku8) (Zs 10 Zi (Zs 11 Zi Zz)))) b3p (.xs 0 [0] [] [] (Zs 0 Cod.str Zz) (.r [2,3] [] [] (Zs 2 Zi (Zs 3 Zb Zz))))
def b13 {R:Type}:Lp Kd El R:=lp 2 b6c.sem l0
abbrev b8i:ZC (Int×Unit):=Zc Zi Zn
abbrev c1m {R:Type}:Sm R:=u7 b8i a1z (fun a=>qx a.1)
abbrev b4d:ZC (Int×Int×Unit):=Zc Zi (Zc Zi Zn)
abbrev c47 {R:Type}:Sm R:=u7 b4d a19 (fun a=>qaf a.1 a.2.1)
abbrev c9p {R:Type}:Sm R:=u7 b8i a19 (fun a=>qr a.1)
def c2f {R:Type}:Nat→Sm R:=cl 294 c1m c0
abbrev b6k:=a52 [] [] [0,4,5] [] [] (Zs 0 Zi (Zs 4 Zi x0c)) b7h (.x 0 [4] [] [] (Zs 4 Zi Zz))
def b2c {R:Type}:Lp Kd El R:=lp 4 b6k.sem l0
abbrev c5g {R:Type}:Sm R:=u7 b4d a19 (fun a=>qaw a.1 a.2.1)
abbrev c1t:ZC (Int×Int×Int×Unit):=Zc Zi x0e
abbrev b92:ZD (Int×Int):=(Cod.tup2 x0e)
abbrev c9v {R:Type}:Sm R:=u7 c1t b92 (fun a=>qz a.1 a.2.1 a.2.2.1)
abbrev c5h {R:Type}:Sm R:=u7 a2q b92 (fun a=>qax a.1)
abbrev c1s:ZC (Int×Unit):=b8i
abbrev b91:ZD ((List UInt8)):=Cod.str
def c77 (a:Int×Unit):Option ((List UInt8)):=qv a.1
abbrev c9t {R:Type}:Sm R:=u7 c1s b91 c77
abbrev c54:ZC ((List UInt8)×Unit×Unit):=Zc Cod.str (Zc (Cod.ptrc 100000) Zn)
abbrev c9i {R:Type}:Sm R:=b39 c54 (BC.one a0d) a1z (fun a b=>qc a.1 b)
abbrev c0l:ZC ((List UInt8)×Unit×Unit):=Zc Cod.str (Zc (Cod.ptro 100000 1) Zn)
abbrev c5b {R:Type}:Sm R:=b39 c0l (BC.one a0d) a1z (fun a b=>qak a.1 b)
abbrev c0k:ZC ((List UInt8)×Unit×Unit):=Zc Cod.str (Zc (Cod.ptro 100000 4) Zn)
abbrev c5a {R:Type}:Sm R:=b39 c0k (BC.one a0d) a1z (fun a b=>qaj a.1 b)
abbrev c0i:ZC ((List UInt8)×Unit×Unit):=Zc Cod.str (Zc (Cod.ptro 100000 6) Zn)
abbrev c48 {R:Type}:Sm R:=b39 c0i (BC.one a0d) a1z (fun a b=>qah a.1 b)
abbrev c0j:ZC ((List UInt8)×Unit×Unit):=Zc Cod.str (Zc (Cod.ptro 100000 5) Zn)
abbrev c49 {R:Type}:Sm R:=b39 c0j (BC.one a0d) a1z (fun a b=>qai a.1 b)
abbrev c09:ZD (Off×Bool):=(Cod.tup2 (Zc x0h (Zc Zb Zn)))
abbrev b7t {R:Type}:Sm R:=u7 a2q c09 (fun a=>qae a.1)
abbrev c9g {R:Type}:Sm R:=u7 c1t a1z (fun a=>q8 a.1 a.2.1 a.2.2.1)
abbrev c0h:ZC (Off×Unit):=Zc x0h Zn
abbrev b7s {R:Type}:Sm R:=u7 c0h a19 (fun a=>qad a.1)
abbrev d0g:ZC (Off×Off×Unit):=Zc x0h (Zc (Cod.cptr a0d) Zn)
abbrev c1l {R:Type}:Sm R:=u7 d0g a1z (fun a=>qw a.1 a.2.1)
abbrev c56:ZC ((List Off)×((Unit)×(Off×Unit))×Unit):=Zc x0a (Zc (Cod.fnc 34 (Zn) (Zc (Cod.cptr a0d) Zn)) Zn)
abbrev c9l {R:Type}:Sm R:=u7 c56 a19 (fun a=>qk (fun g x0=>qw x0 g.2.1) a.1 a.2.1)
def c19 {R:Type}:Nat→Sm R:=cl 34 c1l c0
abbrev b6f:=a52 [] [] [0,1,7,8] [] [] (Zs 0 x0a (Zs 1 (Cod.fnc 34 (Zn) (Zc (Cod.cptr a0d) Zn)) (Zs 7 Zi (Zs 8 Zi Zz)))) (b3r (fun g x0=>qw x0 g.2.1)) x0f
def b16 {R:Type}:Lp Kd El R:=lp 2 b6f.sem l0
abbrev b7w {R:Type}:Sm R:=u7 c56 a1z (fun a=>qam (fun g x0=>qw x0 g.2.1) a.1 a.2.1)
abbrev c55:ZC (Off×Off×Unit):=Zc x0h (Zc x0h Zn)
abbrev c1h {R:Type}:Sm R:=u7 c55 a19 (fun a=>qg a.1 a.2.1)
def c15 {R:Type}:Nat→Sm R:=c0
abbrev b6b:=a52 [] [] [22,23,24] [] [22] (FC.arr 22 22 (Zs 23 Zi (Zs 24 Zi (FC.own 22 Kd.ki64 false Zz)))) b0m x0f
def b12 {R:Type}:Lp Kd El R:=lp 2 b6b.sem l0
abbrev d0d:ZC ((List Off)×((Unit)×(Unit))×Unit):=Zc x0a (Zc (Cod.fnc 36 (Zn) (Zn)) Zn)
abbrev c1i {R:Type}:Sm R:=u7 d0d a1z (fun a=>qj (fun g x0 x1=>qg x0 x1) a.1 a.2.1)
def c18 {R:Type}:Nat→Sm R:=cl 36 c1h c0
abbrev b6e:=a52 [] [] [0,1,5] [] [] (Zs 0 x0a (Zs 1 (Cod.fnc 36 (Zn) (Zn)) x0c)) (b7e (fun g x0 x1=>qg x0 x1)) x0g
def b15 {R:Type}:Lp Kd El R:=lp 2 b6e.sem l0
abbrev c1r:ZC ((List Off)×Unit):=Zc x0a Zn
abbrev c1e {R:Type}:Sm R:=u7 c1r a19 (fun a=>qb a.1)
def c13 {R:Type}:Nat→Sm R:=cl 32 b7s (cl 33 b7w (cl 35 c1i c0))
abbrev b58:=a52 [] [] [0,11,12,13] [] [] (Zs 0 x0a (Zs 11 x0a (Zs 12 Zi (Zs 13 Zi Zz)))) b3o (.xs 0 [0] [] [] (Zs 0 x0a Zz) x0b)
abbrev b1v:=a52 [] [] [0,23,24,25] [] [] (Zs 0 x0a (Zs 23 x0a (Zs 24 Zi (Zs 25 Zi Zz)))) a6t (.xs 2 [0] [] [] (Zs 0 x0a Zz) x0b)
def a7g {R:Type}:Lp Kd El R:=lp 11 b1v.sem (lp 4 b58.sem l0)
abbrev c9a:ZD ((List Off)×Int×Int):=(Cod.tup3 (Zc x0a x0e))
abbrev c9m {R:Type}:Sm R:=u7 a2q c9a (fun a=>ql a.1)
def c2a {R:Type}:Nat→Sm R:=cl 13 c1e (cl 49 b7z (cl 50 b7t c0))
abbrev b6g:=a52 [(5,5,Kd.kOff)] [] [0,5,6] [] [5] (Zs 0 Cod.str (FC.arr 5 5 (Zs 6 Zi (FC.own 5 Kd.kOff false Zz)))) b7f (.xs 0 [5] [] [5] (FC.arr 5 5 (FC.own 5 Kd.kOff false Zz)) x0d)
def b17 {R:Type}:Lp Kd El R:=lp 3 b6g.sem l0
abbrev d09:ZD ((List UInt8)×Int×Bool):=(Cod.tup3 (Zc Cod.str (Zc Zi (Zc Zb Zn))))
abbrev c1j {R:Type}:Sm R:=u7 b8j d09 (fun a=>qm a.1 a.2.1)
def c2b {R:Type}:Nat→Sm R:=c0
abbrev b6h:=a52 [] [] [0,1,7] [] [] (Zs 0 Cod.str (Zs 1 Zi (Zs 7 Zi Zz))) b7g (.xs 0 [0,1] [] [] (Zs 0 Cod.str (Zs 1 Zi Zz)) (.r [4,5,6] [] [] (Zs 4 Cod.str (Zs 5 Zi (Zs 6 Zb Zz)))))
def b18 {R:Type}:Lp Kd El R:=lp 2 b6h.sem l0
abbrev c1k {R:Type}:Sm R:=u7 a2q b7j (fun a=>qq a.1)
def c2e {R:Type}:Nat→Sm R:=c0
abbrev b6j:=a52 [] [] [0,5] [] [] (Zs 0 Cod.str x0c) b3t (.xs 0 [0] [] [] (Zs 0 Cod.str Zz) (.r [2,3,4] [] [] (Zs 2 Cod.str (Zs 3 Cod.str (Zs 4 Zb Zz)))))
def b2b {R:Type}:Lp Kd El R:=lp 2 b6j.sem l0
abbrev c9q {R:Type}:Sm R:=u7 a2q b7k (fun a=>qs a.1)
def c2g {R:Type}:Nat→Sm R:=cl 176 c1k c0
abbrev b6l:=a52 [] [] [0,3,4] [] [6] (Zs 0 Cod.str (FC.arr 3 6 (Zs 4 Zb (FC.own 6 Kd.kstr false Zz)))) b7i (.x 0 [3] [] [6] (FC.arr 3 6 (FC.own 6 Kd.kstr false Zz)))
def b2d {R:Type}:Lp Kd El R:=lp 3 b6l.sem l0
abbrev c9k {R:Type}:Sm R:=u7 a2q c89 (fun a=>qi a.1)
def c17 {R:Type}:Nat→Sm R:=c0
abbrev b6d:=a52 [] [] [0,4,5] [] [] (Zs 0 Cod.str (Zs 4 Zi x0c)) b3q (.xs 0 [4] [] [] (Zs 4 Zi Zz) (.r [2,3] [] [] (Zs 2 Zi (Zs 3 Zb Zz))))
def b14 {R:Type}:Lp Kd El R:=lp 5 b6d.sem l0
abbrev b7u {R:Type}:Sm R:=u7 b4d a19 (fun a=>qag a.1 a.2.1)
abbrev b71 {R:Type}:Sm R:=u7 b8i a19 (fun a=>qau a.1)
abbrev c1f {R:Type}:Sm R:=u7 c1t b92 (fun a=>qe a.1 a.2.1 a.2.2.1)
def c14 {R:Type}:Nat→Sm R:=cl 209 b71 (cl 210 b7u c0)
abbrev b59:=a52 [] [] [0,1,8,9] [] [] (Zs 0 Zi (Zs 1 Zi (Zs 8 Zi (Zs 9 Zi Zz)))) b9y (.x 0 [0,1,8] [] [] (Zs 0 Zi (Zs 1 Zi (Zs 8 Zi Zz))))
abbrev b6a:=a52 [] [] [0,1,8,10] [] [] (Zs 0 Zi (Zs 1 Zi (Zs 8 Zi (Zs 10 Zi Zz)))) b9z (.x 2 [8] [] [] (Zs 8 Zi Zz))
def a7h {R:Type}:Lp Kd El R:=lp 9 b6a.sem (lp 5 b59.sem l0)
abbrev c9s {R:Type}:Sm R:=u7 a2q b92 (fun a=>qu a.1)
def c2i {R:Type}:Nat→Sm R:=cl 177 c1f c0
abbrev b6n:=a52 [] [] [0,4,5,6] [] [10] (Zs 0 Cod.str (FC.arr 4 10 (Zs 5 Zi (Zs 6 Zi (FC.own 10 Kd.ki64 false Zz))))) a7m (.xs 0 [4] [] [10] (FC.arr 4 10 (FC.own 10 Kd.ki64 false Zz)) (.r [2,3] [] [] (Zs 2 Zi (Zs 3 Zi Zz))))
def b2f {R:Type}:Lp Kd El R:=lp 6 b6n.sem l0
abbrev b7x {R:Type}:Sm R:=u7 a2q c09 (fun a=>qap a.1)
abbrev b7y {R:Type}:Sm R:=u7 c0h a19 (fun a=>qar a.1)
abbrev b70 {R:Type}:Sm R:=u7 c55 a1z (fun a=>qat a.1 a.2.1)
abbrev c1d {R:Type}:Sm R:=u7 c1r a19 (fun a=>qa a.1)
def c12 {R:Type}:Nat→Sm R:=cl 37 b7y (cl 38 b70 c0)
abbrev b57:=a52 [] [] [0,3] [] [] (Zs 0 x0a (Zs 3 Zi Zz)) b3n (.xs 0 [0] [] [] (Zs 0 x0a Zz) x0b)
abbrev b1t:=a52 [] [] [0,5,6] [] [] (Zs 0 x0a (Zs 5 Zi (Zs 6 Zi Zz))) a5i (.xs 4 [0,5] [] [] (Zs 0 x0a x0c) x0b)
abbrev b1s:=a52 [] [] [0,5] [] [] (Zs 0 x0a x0c) a6s (.xs 2 [0] [] [] (Zs 0 x0a Zz) x0b)
abbrev b1u:=a52 [] [] [0,7] [] [] (Zs 0 x0a (Zs 7 Zi Zz)) a3t (.xs 6 [] [] [] Zz x0b)
def a25 {R:Type}:Lp Kd El R:=lp 18 b1u.sem (lp 10 b1s.sem (lp 13 b1t.sem (lp 4 b57.sem l0)))
abbrev c9r {R:Type}:Sm R:=u7 a2q c9a (fun a=>qt a.1)
def c2h {R:Type}:Nat→Sm R:=cl 14 c1d (cl 51 c1j (cl 52 b7x c0))
abbrev b6m:=a52 [] [] [0,5,6] [] [13] (Zs 0 Cod.str (FC.arr 5 13 (Zs 6 Zi (FC.own 13 Kd.kOff false Zz)))) b3u (.xs 0 [5] [] [13] (FC.arr 5 13 (FC.own 13 Kd.kOff false Zz)) x0d)
def b2e {R:Type}:Lp Kd El R:=lp 3 b6m.sem l0
abbrev d0f:ZC ((List Off)×(List Off)×Unit):=Zc x0a (Zc x0a Zn)
abbrev c9o {R:Type}:Sm R:=u7 d0f a1z (fun a=>qp a.1 a.2.1)
def c2d {R:Type}:Nat→Sm R:=c0
abbrev b6i:=a52 [] [] [0,1,5] [] [] (Zs 0 x0a (Zs 1 x0a x0c)) b3s x0g
def b2a {R:Type}:Lp Kd El R:=lp 4 b6i.sem l0
abbrev c50:ZC ((List UInt8)×Unit):=a2q
abbrev d08:ZD (Bool):=a1z
def c70 (a:(List UInt8)×Unit):Option (Bool):=q9 a.1
abbrev c9h {R:Type}:Sm R:=u7 c50 d08 c70
abbrev b4g:ZC ((List (List UInt8))×(List UInt8)×Unit):=Zc (Zl .kstr) (Zc Cod.str Zn)
abbrev c1c:ZD ((List UInt8)):=b91
def c00 (a:(List (List UInt8))×(List UInt8)×Unit):Option ((List UInt8)):=qaq a.1 a.2.1
abbrev c5e {R:Type}:Sm R:=u7 b4g c1c c00
abbrev c52:ZC ((List Off)×Unit):=c1r
abbrev c87:ZD ((List Off)):=x0a
def c71 (a:(List Off)×Unit):Option ((List Off)):=qal a.1
abbrev b7v {R:Type}:Sm R:=u7 c52 c87 c71
abbrev b4f:ZC ((List UInt8)×Int×Unit):=b8j
abbrev c1b:ZD ((List UInt8)):=b91
def c0z (a:(List UInt8)×Int×Unit):Option ((List UInt8)):=qao a.1 a.2.1
abbrev c5d {R:Type}:Sm R:=u7 b4f c1b c0z
abbrev b4e:ZC ((List UInt8)×Int×Unit):=Zc Cod.str (Zc (Cod.int .u8) Zn)
abbrev c1a:ZD (Int):=a19
def c0y (a:(List UInt8)×Int×Unit):Option (Int):=qan a.1 a.2.1
abbrev c5c {R:Type}:Sm R:=u7 b4e c1a c0y
end
end Go.Proofs.YtpdenibljogamaaGreatDoor
namespace Go.Proofs.YtpdenibljogamaaGreatDoor.Ev
open Go
open Go.Shelf Go.RowKit
variable {P:Program} {ρ:Ren}
theorem a4d {w:World} {b i:Nat} {v:Value} {cs:Array Value} {t:TypeId} (h:w.heap[b]?=some (.cells cs t (0,0))) :
 (w.setCell ⟨b,i,none⟩ v).heap[b]?=some (.cells (cs.setIfInBounds i v) t (0,0))∧(∀k,k≠b→(w.setCell ⟨b,i,none⟩ v).heap[k]?=w.heap[k]?)∧(w.setCell ⟨b,i,none⟩ v).heap.size=w.heap.size∧
 (w.setCell ⟨b,i,none⟩ v).os=w.os∧(w.setCell ⟨b,i,none⟩ v).output=w.output∧(w.setCell ⟨b,i,none⟩ v).tape=w.tape:=by
 refine ⟨by simp[World.setCell,Array.getElem?_modify,h],fun k hk=>?_,by simp[World.setCell],rfl,rfl,rfl⟩;simp only[World.setCell,Array.getElem?_modify];rw[yai (fun e=>hk e.symm)]
theorem a7s.own {w:World} {blk e:Nat} {l:List UInt8} {v:Value} (h:a7s w blk e l v):w.ownsRow 0 e 1 v l.length (Lib.byteCells l)∧v.ownBlock=obk v:=by
 rcases h with ⟨rfl,rfl⟩|⟨bb,cap,cur,rfl,h1,h2,h3,h4,h5,h6⟩
 ·exact ⟨⟨rfl,.inl ⟨rfl,rfl⟩⟩,rfl⟩
 ·exact ⟨⟨by rw[Lib.byteCells_length,ybm],.inr ⟨bb,cap,cur,rfl,ya4 _,h1,h2,h3,by rw[ybm];exact h4,by rw[ybm];exact h5⟩⟩,rfl⟩
theorem a7s.of {w:World} {blk e T:Nat} {cs:Array Value} {l:List UInt8} {v:Value} {n:Nat} (hn:n=l.length) (h:w.ownsRow 0 e 1 v n (Lib.byteCells l)) (hb:w.heap[blk]?=some (.cells cs T (0,0))) (hT:T≠e):a7s w blk e l v:=by
 subst hn;obtain ⟨-,⟨h1,h2⟩|⟨g,cap,cur,h1,-,h2,h3,h4,h5,h6⟩⟩:=h
 ·exact .inl ⟨h1,yaF.1 h2⟩
 ·rw[ybm]at h5 h6;exact .inr ⟨g,cap,cur,h1,h2,h3,h4,h5,h6,fun e'=>by subst e';rw[h2]at hb;cases hb;exact hT rfl⟩
theorem a33 {f:Nat} {vs:Array Value} {w:World} {Q:Value→World→Prop} (he:∀args w,(callFunc f args).run P w=.ok (.enter f args) w) (h:Calls P f vs w fun e w'=>∃v,e=.returned v∧Q v w'):p5 P f vs w Q:=by
 unfold p5;rw[he];refine h.mono (fun e w' hq=>?_);obtain ⟨v,rfl,hv⟩:=hq;exact hv
theorem a7z {w:World} {t u ty e n:Nat} {i:TypeInfo} (ht:P.underlying t=some (.slice e)) (hu:P.underlying u=some .string) (hi:P.info? e=some i) (hz:i.zero=some (.int .u8 0)) (hsize:i.size=1) (hby:i.bytes=1)
 {v:Value} {xs:List Value} (hown:w.ownsRow 0 e 1 v n xs) {s:ByteArray} (h63:n+s.size≤maxLen) (hbytes:n+s.size≤140737488355328) {v':Value} {w':World} (hr:(Builtin.append_ #[t,u] ty #[v,.string s]).run P w=.ok v' w') :
 ∀bb,obk v'=some bb→obk v=some bb∨w.heap.size≤bb:=by
 have hsmall:n+s.size≤9223372036854775807:=by simp only[maxLen]at h63;omega
 have hxl:xs.length=n:=by simpa using hown.1
 rcases hown.2 with ⟨rfl,rfl⟩|⟨g,cap,cur,rfl,hbg,hg,hnc,hcm,hcs,htake⟩
 ·obtain ⟨v2,w2,hr2,h2,-,-⟩:=Lib.run_append_own_string (P:=P) w w.heap.size t u ty e i ht hu hi hz hsize hby (.slice none 0 0) 0 [] ⟨rfl,.inl ⟨rfl,rfl⟩⟩ s h63 hbytes (yal _);rw[hr]at hr2;cases hr2
  intro bb hbb;rcases h2.2 with ⟨h,_⟩|⟨g,cap,cur,h,hb,_⟩
  ·rw[h]at hbb;cases hbb
  ·rw[h]at hbb;cases hbb;exact .inr hb
 ·by_cases hroom:n+s.size≤cap
  ·have hr2:=Lib.run_append_room_string (P:=P) w t u ty e i ht hu hi hsize g n cap cur hg s hroom (by omega);rw[hr]at hr2;cases hr2
   exact fun bb hbb=>.inl hbb
  ·have holds:∀j u,xs[j]?=some u→w.cell? ((⟨g,0,none⟩:Addr).add j)=some u:=hown.cells (g:=g) rfl;have hr2:=Lib.run_append_grow_string (P:=P) w t u ty e i (.int .u8 0) ht hu hi hz ⟨g,0,none⟩ n cap xs (by rw[hsize];simpa using hxl) holds s (by omega) (by omega) (by rw[hby];exact growslice_fits (by omega) (by omega));rw[hr]at hr2;cases hr2
   intro bb hbb;cases hbb
   exact .inr (yal _)
theorem a0y {ops:Array Oper} {rest:List Oper} {o:Oper} {a:Act} {w:World} {Q:Exit→Act→World→Prop} (hgd:o.guard=none) (sl x:Operand) (t u:TypeId)
 (ho:o.op=.call {callee:=.builtin .append,args:=#[sl,x],argTypes:=#[t,u]})
 (e:TypeId) (i:TypeInfo) (ht:P.underlying t=some (.slice e)) (hu:P.underlying u=some .string) (hi:P.info? e=some i) (hz:i.zero=some (.int .u8 0)) (hsize:i.size=1) (hby:i.bytes=1)
 (v:Value) (n:Nat) (xs:List Value) (hs:a.eval sl=v) (hown:w.ownsRow 0 e 1 v n xs) (s:ByteArray) (hx:a.eval x=.string s) (h63:n+s.size≤maxLen) (hbytes:n+s.size≤140737488355328)
 (h:∀v' w',w'.ownsRow 0 e 1 v' (n+s.size) (xs++Lib.strCells s)→w.grownBy w' v.ownBlock→(∀bb,obk v'=some bb→obk v=some bb∨w.heap.size≤bb)→wpList P ops Q rest (a.put o.dst v') w'):wpList P ops Q (o::rest) a w:=by
 refine wpList_plain hgd fun K hK=>?_
 obtain ⟨v',w',hr,h2,h3,-⟩:=Lib.run_append_own_string (P:=P) w 0 t u o.type e i ht hu hi hz hsize hby v n xs hown s h63 hbytes (ya4 _);have h5:=a7z ht hu hi hz hsize hby hown h63 hbytes hr;unfold Oper.wp execOp;simp only[ho,resolve,invoke,builtin,Sem.run_bind,Sem.run_pure,Result.andThen_ok,List.map_toArray,yaP,List.map_nil,hs,hx,hr];exact hK _ _ (h v' w' h2 h3 h5)
theorem a5e (blk:Nat) (v:Value) (w:World):a9i blk v v w w:=⟨yal _,rfl,rfl,rfl,fun _ _ _ _=>rfl,fun _ h=>.inl h⟩
theorem a5d {blk:Nat} {v:Value} {w w':World} (h:a9i blk v v w w'):a9i blk v v w w'.drew:=h
theorem b3h {blk:Nat} {v:Value} {w w':World} (h:a9i blk v v w w') (o:Obj):a9i blk v v w (w'.alloc o):=
 ⟨ybg h.1 (by rw[World.size_alloc];omega),h.2.1,h.2.2.1,h.2.2.2.1,fun b h1 h2 h3=>(Lib.alloc_old w' o b (yat h1 h.1)).trans (h.2.2.2.2.1 b h1 h2 h3),h.2.2.2.2.2⟩
theorem b0h {blk g n cap:Nat} {w w':World} (h:a9i blk (.slice (some ⟨g,0,none⟩) n cap) (.slice (some ⟨g,0,none⟩) n cap) w w') (m:Nat):a9i blk (.slice (some ⟨g,0,none⟩) n cap) (.slice (some ⟨g,0,none⟩) n cap) w (w'.freeze ⟨g,0,none⟩ m):=by
 unfold World.freeze;split
 ·exact h
 ·refine ⟨by simpa using h.1,h.2.1,h.2.2.1,h.2.2.2.1,fun b h1 h2 h3=>?_,h.2.2.2.2.2⟩;simp only[Array.getElem?_modify];rw[yai (fun e=>h3 (by rw[←e];rfl))];exact h.2.2.2.2.1 b h1 h2 h3
set_option maxHeartbeats 2000000 in
set_option maxRecDepth 100000 in
theorem a3n (L:Lays.n169 P ρ) (X:Builder.Extra P ρ) {blk:Nat} {p v:Value} {w:World} (hbk:w.heap[blk]?=some (.cells #[p,v] (ρ.t 72) (0,0))) (q:Option Addr) {ao:Option Addr} {cap:Nat} (hv:v=.slice ao 0 cap)
 {W:World} (hSD:(Builtin.unsafeSliceData_ #[(ρ.t 37)] (ρ.t 127) #[.slice ao 0 cap]).run P w.drew=.ok (.pointer q) W) (hW:W=w.drew∨∃o,W=w.drew.alloc o) :
 Calls P (ρ.f 169) #[.pointer (some ⟨blk,0,none⟩)] w fun e w'=>∃r,e=.returned r∧r=.string ⟨#[]⟩∧a9i blk v v w w':=by
 have hUS:∀(W:World) (q:Option Addr),(Builtin.unsafeString_ #[(ρ.t 127),(ρ.t 3)] (ρ.t 9) #[.pointer q,.int .i64 0]).run P W=.ok (.string .empty) W:=fun W q=>Lib.run_unsafeString_none W _ _ _ q
 have hlt:blk<w.heap.size:=(yad.1 hbk).1;have hoW:a9i blk v v w W:=by
  rcases hW with rfl|⟨o,rfl⟩
  ·exact a5d (a5e _ _ _)
  ·exact b3h (a5d (a5e _ _ _)) o
 have hbW:W.heap[blk]?=some (.cells #[p,v] (ρ.t 72) (0,0)):=by
  rcases hW with rfl|⟨o,rfl⟩
  ·exact hbk
  ·exact (Lib.alloc_old w.drew o blk hlt).trans hbk
 subst hv;have c1:w.drew.cell? ⟨blk,1,none⟩=some (.slice ao 0 cap):=by
  have:w.drew.heap[blk]?=some (.cells #[p,.slice ao 0 cap] (ρ.t 72) (0,0)):=hbk;rw[Lib.cell_of_heap this];rfl
 have c0:w.cell? ⟨blk,1,none⟩=some (.slice ao 0 cap):=c1;have c2:W.cell? ⟨blk,1,none⟩=some (.slice ao 0 cap):=by rw[Lib.cell_of_heap hbW];rfl
 have mixed:=L.mixed;have t72:=L.t72;have a72:=L.a72;have z72:=L.z72;have v72:=L.v72;have u72:=run_underlying L.t72;have t70:=L.t70;have a70:=L.a70;have z70:=L.z70;have v70:=L.v70;have u70:=run_underlying L.t70;have t37:=L.t37;have a37:=L.a37;have z37:=L.z37;have v37:=L.v37;have u37:=run_underlying L.t37;have t127:=L.t127;have a127:=L.a127;have z127:=L.z127;have v127:=L.v127;have u127:=run_underlying L.t127;have t3:=L.t3;have a3:=L.a3;have z3:=L.z3;have v3:=L.v3;have u3:=run_underlying L.t3;have t9:=L.t9;have a9:=L.a9;have z9:=L.z9;have v9:=L.v9;have u9:=run_underlying L.t9;have t5:=X.t5;have a5:=X.a5;have z5:=X.z5;have v5:=X.v5;have u5:=run_underlying X.t5;clear hW hbW hbk
 go_enter L.f169,Body.n169_ntmps ρ
 go_wp2
 go_region_o
 all_goals (go_wp2;go_ret;exact ⟨_,rfl,rfl,hoW⟩)
set_option maxHeartbeats 2000000 in
set_option maxRecDepth 100000 in
theorem b0w (L:Lays.n169 P ρ) (X:Builder.Extra P ρ) {blk g cap:Nat} {p:Value} {cur:Array Value} {l:List UInt8} {w:World} (hbk:w.heap[blk]?=some (.cells #[p,.slice (some ⟨g,0,none⟩) l.length cap] (ρ.t 72) (0,0))) (h0:l≠[])
 (hg:w.heap[g]?=some (.cells cur (ρ.t 5) (0,0))) (hnc:l.length≤cap) (hcm:cap≤9223372036854775807) (hcs:cur.size=cap) (htake:cur.toList.take l.length=l.map (fun b=>Value.int .u8 b.toNat)) :
 Calls P (ρ.f 169) #[.pointer (some ⟨blk,0,none⟩)] w fun e w'=>∃r,e=.returned r∧r=.string ⟨l.toArray⟩∧a9i blk (.slice (some ⟨g,0,none⟩) l.length cap) (.slice (some ⟨g,0,none⟩) l.length cap) w w':=by
 have hl0:l.length≠0:=by simpa using h0
 have c1:w.drew.cell? ⟨blk,1,none⟩=some (.slice (some ⟨g,0,none⟩) l.length cap):=by
  have:w.drew.heap[blk]?=some (.cells #[p,.slice (some ⟨g,0,none⟩) l.length cap] (ρ.t 72) (0,0)):=hbk;rw[Lib.cell_of_heap this];rfl
 have hSD:(Builtin.unsafeSliceData_ #[(ρ.t 37)] (ρ.t 127) #[.slice (some ⟨g,0,none⟩) l.length cap]).run P w.drew=.ok (.pointer (some ⟨g,0,none⟩)) w.drew:=
  Lib.run_unsafeSliceData_row _ _ _ _ _ _ (by omega)
 have hUS:(Builtin.unsafeString_ #[(ρ.t 127),(ρ.t 3)] (ρ.t 9) #[.pointer (some ⟨g,0,none⟩),.int .i64 l.length]).run P w.drew=.ok (.string ⟨l.toArray⟩) (w.drew.freeze ⟨g,0,none⟩ l.length):=by
  refine Lib.run_unsafeString_row w.drew (ρ.t 127) (ρ.t 3) (ρ.t 9) (ρ.t 5) L.t127 X.cellsByte g cur.size (by have hg':w.drew.heap[g]?=some (.cells cur (ρ.t 5) (0,0)):=hg;simp[World.shape?,hg']) l h0 (by omega) (by omega) ?_;intro j x hx;have hj:j<l.length:=(zL hx)
  have h1:(cur.toList.take l.length)[j]?=some (.int .u8 x.toNat):=by rw[htake,yaG,hx];rfl
  rw[yaN,yas hj]at h1;have hg':w.drew.heap[g]?=some (.cells cur (ρ.t 5) (0,0)):=hg;rw[Addr.add_lit];simp only[World.cell?,hg',yaE];simpa using h1
 have hfin:a9i blk (.slice (some ⟨g,0,none⟩) l.length cap) (.slice (some ⟨g,0,none⟩) l.length cap) w (w.drew.freeze ⟨g,0,none⟩ l.length):=b0h (a5d (a5e _ _ _)) _;have mixed:=L.mixed;have t72:=L.t72;have a72:=L.a72;have z72:=L.z72;have v72:=L.v72;have u72:=run_underlying L.t72;have t70:=L.t70;have a70:=L.a70;have z70:=L.z70;have v70:=L.v70;have u70:=run_underlying L.t70;have t37:=L.t37;have a37:=L.a37;have z37:=L.z37;have v37:=L.v37;have u37:=run_underlying L.t37;have t127:=L.t127;have a127:=L.a127;have z127:=L.z127;have v127:=L.v127;have u127:=run_underlying L.t127;have t3:=L.t3;have a3:=L.a3;have z3:=L.z3;have v3:=L.v3;have u3:=run_underlying L.t3;have t9:=L.t9;have a9:=L.a9;have z9:=L.z9;have v9:=L.v9;have u9:=run_underlying L.t9;have t5:=X.t5;have a5:=X.a5;have z5:=X.z5;have v5:=X.v5;have u5:=run_underlying X.t5;clear htake hcs hcm hnc hg hbk h0 hl0
 go_enter L.f169,Body.n169_ntmps ρ
 go_wp2
 go_region_o
 all_goals (go_wp2;go_ret;exact ⟨_,rfl,rfl,hfin⟩)
theorem b0x (L:Lays.n169 P ρ) (X:Builder.Extra P ρ):a3c P (ρ.t 72) (ρ.t 5) (ρ.f 169):=by
 intro w blk p v l hp hb hbuf;have e169:∀args w,(callFunc (ρ.f 169) args).run P w=.ok (.enter (ρ.f 169) args) w:=enters_of L.f169 kr rfl;refine a33 e169 ?_;rcases hbuf with ⟨rfl,rfl⟩|⟨g,cap,cur,rfl,h1,h2,h3,h4,h5,h6⟩
 ·exact a3n L X hb none rfl (W:=w.drew) rfl (.inl rfl)
 ·cases l with
  |nil=>
   by_cases hc0:cap=0
   ·subst hc0;refine a3n L X hb _ rfl (Lib.run_unsafeSliceData_zero w.drew _ _ (ρ.t 5) L.t127 ⟨g,0,none⟩ 0 ((ρ.t 5),cur.size) ?_) (.inr ⟨_,rfl⟩);have hg':w.drew.heap[g]?=some (.cells cur (ρ.t 5) (0,0)):=h1;simp[World.shape?,hg']
   ·exact a3n L X hb _ rfl (Lib.run_unsafeSliceData_row _ _ _ _ _ _ hc0) (.inl rfl)
  |cons x r=>exact b0w L X hb (by simp) h1 h2 h3 h4 h5
end Go.Proofs.YtpdenibljogamaaGreatDoor.Ev
namespace Go.Proofs
open Go.Shelf
def Tryz.lays169_ren:Go.Shelf.Ren:=⟨fun|169=>30|n=>n,fun|70=>65|9=>9|0=>0|72=>68|37=>66|127=>115|3=>3|5=>5|n=>n,fun|n=>n⟩
theorem Tryz.lays169:Go.Proofs.Lays.n169 Tryz.prog Tryz.lays169_ren:={
 mixed:=by kernel_rfl
 f169:=Tryz.func30.trans (congrArg some (by kernel_rfl))
 t0:=Tryz.underlying0
 a0:=Tryz.isAgg0
 z0:=Tryz.sizeOf0
 v0:=Tryz.zeroValue0
 t3:=Tryz.underlying3
 a3:=Tryz.isAgg3
 z3:=Tryz.sizeOf3
 v3:=Tryz.zeroValue3
 t9:=Tryz.underlying9
 a9:=Tryz.isAgg9
 z9:=Tryz.sizeOf9
 v9:=Tryz.zeroValue9
 t37:=Tryz.underlying66
 a37:=Tryz.isAgg66
 z37:=Tryz.sizeOf66
 v37:=Tryz.zeroValue66
 t70:=Tryz.underlying65
 a70:=Tryz.isAgg65
 z70:=Tryz.sizeOf65
 v70:=Tryz.zeroValue65
 t72:=Tryz.underlying68
 a72:=Tryz.isAgg68
 z72:=Tryz.sizeOf68
 v72:=Tryz.zeroValue68
 t127:=Tryz.underlying115
 a127:=Tryz.isAgg115
 z127:=Tryz.sizeOf115
 v127:=Tryz.zeroValue115}
theorem Tryz.Builder_Extra_169:Builder.Extra Tryz.prog Tryz.lays169_ren:={
 sizeBuilder:=by kernel_rfl
 liesBuilder:=by kernel_rfl
 t5:=Tryz.underlying5
 a5:=Tryz.isAgg5
 z5:=Tryz.sizeOf5
 v5:=Tryz.zeroValue5
 infoByte:=by kernel_rfl
 cellsByte:=by kernel_rfl
 sizeByte:=by kernel_rfl
 neB5:=by decide}
def Tryz.lays156_ren:Go.Shelf.Ren:=⟨fun|156=>28|165=>60|166=>27|169=>30|240=>59|241=>108|276=>107|277=>202|n=>n,fun|31=>74|9=>9|3=>3|4=>4|0=>0|20=>20|72=>68|76=>71|70=>65|37=>66|75=>70|127=>115|164=>151|5=>5|80=>76|n=>n,fun|n=>n⟩
theorem Tryz.lays156:Go.Proofs.Lays.n156 Tryz.prog Tryz.lays156_ren:={
 mixed:=by kernel_rfl
 f156:=Tryz.func28.trans (congrArg some (by kernel_rfl))
 f165:=Tryz.func60.trans (congrArg some (by kernel_rfl))
 f166:=Tryz.func27.trans (congrArg some (by kernel_rfl))
 f169:=Tryz.func30.trans (congrArg some (by kernel_rfl))
 f240:=Tryz.func59.trans (congrArg some (by kernel_rfl))
 f241:=Tryz.func108.trans (congrArg some (by kernel_rfl))
 f276:=Tryz.func107.trans (congrArg some (by kernel_rfl))
 f277:=Tryz.func202.trans (congrArg some (by kernel_rfl))
 t0:=Tryz.underlying0
 a0:=Tryz.isAgg0
 z0:=Tryz.sizeOf0
 v0:=Tryz.zeroValue0
 t3:=Tryz.underlying3
 a3:=Tryz.isAgg3
 z3:=Tryz.sizeOf3
 v3:=Tryz.zeroValue3
 t4:=Tryz.underlying4
 a4:=Tryz.isAgg4
 z4:=Tryz.sizeOf4
 v4:=Tryz.zeroValue4
 t9:=Tryz.underlying9
 a9:=Tryz.isAgg9
 z9:=Tryz.sizeOf9
 v9:=Tryz.zeroValue9
 t20:=Tryz.underlying20
 a20:=Tryz.isAgg20
 z20:=Tryz.sizeOf20
 v20:=Tryz.zeroValue20
 t31:=Tryz.underlying74
 a31:=Tryz.isAgg74
 z31:=Tryz.sizeOf74
 v31:=Tryz.zeroValue74
 t37:=Tryz.underlying66
 a37:=Tryz.isAgg66
 z37:=Tryz.sizeOf66
 v37:=Tryz.zeroValue66
 t70:=Tryz.underlying65
 a70:=Tryz.isAgg65
 z70:=Tryz.sizeOf65
 v70:=Tryz.zeroValue65
 t72:=Tryz.underlying68
 a72:=Tryz.isAgg68
 z72:=Tryz.sizeOf68
 v72:=Tryz.zeroValue68
 t75:=Tryz.underlying70
 a75:=Tryz.isAgg70
 z75:=Tryz.sizeOf70
 v75:=Tryz.zeroValue70
 t76:=Tryz.underlying71
 a76:=Tryz.isAgg71
 z76:=Tryz.sizeOf71
 v76:=Tryz.zeroValue71
 t127:=Tryz.underlying115
 a127:=Tryz.isAgg115
 z127:=Tryz.sizeOf115
 v127:=Tryz.zeroValue115
 t164:=Tryz.underlying151
 a164:=Tryz.isAgg151
 z164:=Tryz.sizeOf151
 v164:=Tryz.zeroValue151}
theorem Tryz.Builder_Extra_156:Builder.Extra Tryz.prog Tryz.lays156_ren:={
 sizeBuilder:=by kernel_rfl
 liesBuilder:=by kernel_rfl
 t5:=Tryz.underlying5
 a5:=Tryz.isAgg5
 z5:=Tryz.sizeOf5
 v5:=Tryz.zeroValue5
 infoByte:=by kernel_rfl
 cellsByte:=by kernel_rfl
 sizeByte:=by kernel_rfl
 neB5:=by decide}
open Go.RowKit in
theorem Tryz.qaq_none (a:Option Addr) (c:Nat) (sep:ByteArray) (w:World) :
 Calls Tryz.prog 28 #[.slice a 0 c,.string sep] w fun e w'=>e=.returned (.string ⟨#[]⟩)∧w'=w:=Any.strings_Join_none Tryz.lays156 Tryz.Builder_Extra_156 a c sep w
open Go.RowKit in
theorem Tryz.qaq (bk o c:Nat) (xs:List ByteArray) (sep:ByteArray) (w:World) (hcells:∀(j:Nat) x,xs[j]?=some x→w.cell? ⟨bk,o+j,none⟩=some (.string x)) (hbk:bk<w.heap.size) (hN:xs.length≤140737488355328) (hcap:xs.length≤c) (hlen:(Lib.join (xs.map (·.data.toList)) sep.data.toList).length≤140737488355328) :
 Calls Tryz.prog 28 #[.slice (some ⟨bk,o,none⟩) xs.length c,.string sep] w fun e w'=>e=.returned (.string ⟨(Lib.join (xs.map (·.data.toList)) sep.data.toList).toArray⟩)∧Below w.heap.size w w':=Any.strings_Join Tryz.lays156 Tryz.Builder_Extra_156 bk o c xs sep w hcells hbk hN hcap hlen
def Tryz.laysM171_ren:Go.Shelf.Ren:=⟨fun|171=>61|243=>109|246=>203|283=>290|284=>291|285=>292|286=>293|129=>123|317=>341|318=>342|319=>343|320=>344|337=>368|338=>369|n=>n,fun|3=>3|9=>9|2=>2|4=>4|171=>266|0=>0|53=>166|37=>66|5=>5|173=>268|212=>317|51=>164|20=>20|213=>318|46=>118|232=>346|233=>347|n=>n,fun|17=>4|18=>7|19=>8|n=>n⟩
theorem Tryz.laysM171:Go.Proofs.LaysM.n171 Tryz.prog Tryz.laysM171_ren:={
 mixed:=by kernel_rfl
 f129:=Tryz.func123.trans (congrArg some (by kernel_rfl))
 f171:=Tryz.func61.trans (congrArg some (by kernel_rfl))
 f243:=Tryz.func109.trans (congrArg some (by kernel_rfl))
 f246:=Tryz.func203.trans (congrArg some (by kernel_rfl))
 f283:=Tryz.func290.trans (congrArg some (by kernel_rfl))
 f284:=Tryz.func291.trans (congrArg some (by kernel_rfl))
 f285:=Tryz.func292.trans (congrArg some (by kernel_rfl))
 f286:=Tryz.func293.trans (congrArg some (by kernel_rfl))
 f317:=Tryz.func341.trans (congrArg some (by kernel_rfl))
 f318:=Tryz.func342.trans (congrArg some (by kernel_rfl))
 f319:=Tryz.func343.trans (congrArg some (by kernel_rfl))
 f320:=Tryz.func344.trans (congrArg some (by kernel_rfl))
 f337:=Tryz.func368.trans (congrArg some (by kernel_rfl))
 f338:=Tryz.func369.trans (congrArg some (by kernel_rfl))
 t0:=Tryz.underlying0
 a0:=Tryz.isAgg0
 z0:=Tryz.sizeOf0
 v0:=Tryz.zeroValue0
 t2:=Tryz.underlying2
 a2:=Tryz.isAgg2
 z2:=Tryz.sizeOf2
 v2:=Tryz.zeroValue2
 t3:=Tryz.underlying3
 a3:=Tryz.isAgg3
 z3:=Tryz.sizeOf3
 v3:=Tryz.zeroValue3
 t4:=Tryz.underlying4
 a4:=Tryz.isAgg4
 z4:=Tryz.sizeOf4
 v4:=Tryz.zeroValue4
 t5:=Tryz.underlying5
 a5:=Tryz.isAgg5
 z5:=Tryz.sizeOf5
 v5:=Tryz.zeroValue5
 t9:=Tryz.underlying9
 a9:=Tryz.isAgg9
 z9:=Tryz.sizeOf9
 v9:=Tryz.zeroValue9
 t20:=Tryz.underlying20
 a20:=Tryz.isAgg20
 z20:=Tryz.sizeOf20
 v20:=Tryz.zeroValue20
 t37:=Tryz.underlying66
 a37:=Tryz.isAgg66
 z37:=Tryz.sizeOf66
 v37:=Tryz.zeroValue66
 t46:=Tryz.underlying118
 a46:=Tryz.isAgg118
 z46:=Tryz.sizeOf118
 v46:=Tryz.zeroValue118
 t51:=Tryz.underlying164
 a51:=Tryz.isAgg164
 z51:=Tryz.sizeOf164
 v51:=Tryz.zeroValue164
 t53:=Tryz.underlying166
 a53:=Tryz.isAgg166
 z53:=Tryz.sizeOf166
 v53:=Tryz.zeroValue166
 t171:=Tryz.underlying266
 a171:=Tryz.isAgg266
 z171:=Tryz.sizeOf266
 v171:=Tryz.zeroValue266
 t173:=Tryz.underlying268
 a173:=Tryz.isAgg268
 z173:=Tryz.sizeOf268
 v173:=Tryz.zeroValue268
 t212:=Tryz.underlying317
 a212:=Tryz.isAgg317
 z212:=Tryz.sizeOf317
 v212:=Tryz.zeroValue317
 t213:=Tryz.underlying318
 a213:=Tryz.isAgg318
 z213:=Tryz.sizeOf318
 t232:=Tryz.underlying346
 a232:=Tryz.isAgg346
 z232:=Tryz.sizeOf346
 v232:=Tryz.zeroValue346
 t233:=Tryz.underlying347
 a233:=Tryz.isAgg347
 z233:=Tryz.sizeOf347
 v233:=Tryz.zeroValue347
 g17:=by kernel_rfl
 g18:=by kernel_rfl
 g19:=by kernel_rfl
 i0:=by kernel_rfl
 i2:=by kernel_rfl
 i3:=by kernel_rfl
 i4:=by kernel_rfl
 i5:=by kernel_rfl
 i9:=by kernel_rfl
 i20:=by kernel_rfl
 i37:=by kernel_rfl
 i46:=by kernel_rfl
 i51:=by kernel_rfl
 i53:=by kernel_rfl
 i171:=by kernel_rfl
 i173:=by kernel_rfl
 i212:=by kernel_rfl
 i232:=by kernel_rfl
 i233:=by kernel_rfl
 m17:=by kernel_rfl
 m18:=by kernel_rfl
 m19:=by kernel_rfl}
open Go.RowKit Go.Sort Go.Lib in
theorem Tryz.qv (n:Int) (h0 : -9223372036854775808≤n) (h1:n≤9223372036854775807) (w:World) (htab:Lib.TabIs Tryz.prog w "internal/strconv.uint64pow10" .u64 Lib.pow10Tab) :
 Calls Tryz.prog 61 #[.int .i64 n] w fun e w'=>e=.returned (.string ⟨(Lib.itoa n).toArray⟩)∧∃k os,w'=grow (w.drewN k) os:=Any.strconv_Itoa Tryz.laysM171 n h0 h1 w htab
def Tryz.laysC172_ren:Go.Shelf.Ren:=⟨fun|172=>175|244=>272|245=>273|247=>333|279=>334|280=>335|281=>336|282=>337|287=>365|316=>366|171=>61|205=>367|321=>376|322=>377|243=>109|246=>203|283=>290|284=>291|285=>292|286=>293|129=>123|317=>341|318=>342|319=>343|320=>344|337=>368|338=>369|n=>n,fun|9=>9|3=>3|75=>70|76=>71|4=>4|5=>5|167=>301|37=>66|0=>0|85=>302|2=>2|168=>304|53=>166|175=>330|46=>118|210=>333|127=>115|145=>345|143=>343|21=>21|171=>266|173=>268|212=>317|51=>164|20=>20|213=>318|232=>346|233=>347|80=>76|n=>n,fun|15=>5|16=>6|17=>4|18=>7|19=>8|n=>n⟩
theorem Tryz.laysC172:Go.Proofs.LaysC.n172 Tryz.prog Tryz.laysC172_ren:={
 mixed:=by kernel_rfl
 f129:=Tryz.func123.trans (congrArg some (by kernel_rfl))
 f171:=Tryz.func61.trans (congrArg some (by kernel_rfl))
 f172:=Tryz.func175.trans (congrArg some (by kernel_rfl))
 f205:=Tryz.func367.trans (congrArg some (by kernel_rfl))
 f243:=Tryz.func109.trans (congrArg some (by kernel_rfl))
 f244:=Tryz.func272.trans (congrArg some (by kernel_rfl))
 f245:=Tryz.func273.trans (congrArg some (by kernel_rfl))
 f246:=Tryz.func203.trans (congrArg some (by kernel_rfl))
 f247:=Tryz.func333.trans (congrArg some (by kernel_rfl))
 f279:=Tryz.func334.trans (congrArg some (by kernel_rfl))
 f280:=Tryz.func335.trans (congrArg some (by kernel_rfl))
 f281:=Tryz.func336.trans (congrArg some (by kernel_rfl))
 f282:=Tryz.func337.trans (congrArg some (by kernel_rfl))
 f283:=Tryz.func290.trans (congrArg some (by kernel_rfl))
 f284:=Tryz.func291.trans (congrArg some (by kernel_rfl))
 f285:=Tryz.func292.trans (congrArg some (by kernel_rfl))
 f286:=Tryz.func293.trans (congrArg some (by kernel_rfl))
 f287:=Tryz.func365.trans (congrArg some (by kernel_rfl))
 f316:=Tryz.func366.trans (congrArg some (by kernel_rfl))
 f317:=Tryz.func341.trans (congrArg some (by kernel_rfl))
 f318:=Tryz.func342.trans (congrArg some (by kernel_rfl))
 f319:=Tryz.func343.trans (congrArg some (by kernel_rfl))
 f320:=Tryz.func344.trans (congrArg some (by kernel_rfl))
 f321:=Tryz.func376.trans (congrArg some (by kernel_rfl))
 f322:=Tryz.func377.trans (congrArg some (by kernel_rfl))
 f337:=Tryz.func368.trans (congrArg some (by kernel_rfl))
 f338:=Tryz.func369.trans (congrArg some (by kernel_rfl))
 t0:=Tryz.underlying0
 a0:=Tryz.isAgg0
 z0:=Tryz.sizeOf0
 v0:=Tryz.zeroValue0
 t2:=Tryz.underlying2
 a2:=Tryz.isAgg2
 z2:=Tryz.sizeOf2
 v2:=Tryz.zeroValue2
 t3:=Tryz.underlying3
 a3:=Tryz.isAgg3
 z3:=Tryz.sizeOf3
 v3:=Tryz.zeroValue3
 t4:=Tryz.underlying4
 a4:=Tryz.isAgg4
 z4:=Tryz.sizeOf4
 v4:=Tryz.zeroValue4
 t5:=Tryz.underlying5
 a5:=Tryz.isAgg5
 z5:=Tryz.sizeOf5
 v5:=Tryz.zeroValue5
 t9:=Tryz.underlying9
 a9:=Tryz.isAgg9
 z9:=Tryz.sizeOf9
 v9:=Tryz.zeroValue9
 t20:=Tryz.underlying20
 a20:=Tryz.isAgg20
 z20:=Tryz.sizeOf20
 v20:=Tryz.zeroValue20
 t21:=Tryz.underlying21
 a21:=Tryz.isAgg21
 z21:=Tryz.sizeOf21
 v21:=Tryz.zeroValue21
 t37:=Tryz.underlying66
 a37:=Tryz.isAgg66
 z37:=Tryz.sizeOf66
 v37:=Tryz.zeroValue66
 t46:=Tryz.underlying118
 a46:=Tryz.isAgg118
 z46:=Tryz.sizeOf118
 v46:=Tryz.zeroValue118
 t51:=Tryz.underlying164
 a51:=Tryz.isAgg164
 z51:=Tryz.sizeOf164
 v51:=Tryz.zeroValue164
 t53:=Tryz.underlying166
 a53:=Tryz.isAgg166
 z53:=Tryz.sizeOf166
 v53:=Tryz.zeroValue166
 t75:=Tryz.underlying70
 a75:=Tryz.isAgg70
 z75:=Tryz.sizeOf70
 v75:=Tryz.zeroValue70
 t76:=Tryz.underlying71
 a76:=Tryz.isAgg71
 z76:=Tryz.sizeOf71
 v76:=Tryz.zeroValue71
 t85:=Tryz.underlying302
 a85:=Tryz.isAgg302
 z85:=Tryz.sizeOf302
 v85:=Tryz.zeroValue302
 t127:=Tryz.underlying115
 a127:=Tryz.isAgg115
 z127:=Tryz.sizeOf115
 v127:=Tryz.zeroValue115
 t143:=Tryz.underlying343
 a143:=Tryz.isAgg343
 z143:=Tryz.sizeOf343
 v143:=Tryz.zeroValue343
 t145:=Tryz.underlying345
 a145:=Tryz.isAgg345
 z145:=Tryz.sizeOf345
 v145:=Tryz.zeroValue345
 t167:=Tryz.underlying301
 a167:=Tryz.isAgg301
 z167:=Tryz.sizeOf301
 v167:=Tryz.zeroValue301
 t168:=Tryz.underlying304
 a168:=Tryz.isAgg304
 z168:=Tryz.sizeOf304
 v168:=Tryz.zeroValue304
 t171:=Tryz.underlying266
 a171:=Tryz.isAgg266
 z171:=Tryz.sizeOf266
 v171:=Tryz.zeroValue266
 t173:=Tryz.underlying268
 a173:=Tryz.isAgg268
 z173:=Tryz.sizeOf268
 v173:=Tryz.zeroValue268
 t175:=Tryz.underlying330
 a175:=Tryz.isAgg330
 z175:=Tryz.sizeOf330
 v175:=Tryz.zeroValue330
 t210:=Tryz.underlying333
 a210:=Tryz.isAgg333
 z210:=Tryz.sizeOf333
 v210:=Tryz.zeroValue333
 t212:=Tryz.underlying317
 a212:=Tryz.isAgg317
 z212:=Tryz.sizeOf317
 v212:=Tryz.zeroValue317
 t213:=Tryz.underlying318
 a213:=Tryz.isAgg318
 z213:=Tryz.sizeOf318
 t232:=Tryz.underlying346
 a232:=Tryz.isAgg346
 z232:=Tryz.sizeOf346
 v232:=Tryz.zeroValue346
 t233:=Tryz.underlying347
 a233:=Tryz.isAgg347
 z233:=Tryz.sizeOf347
 v233:=Tryz.zeroValue347
 g15:=by kernel_rfl
 g16:=by kernel_rfl
 g17:=by kernel_rfl
 g18:=by kernel_rfl
 g19:=by kernel_rfl
 t80:=Tryz.underlying76
 a80:=Tryz.isAgg76
 z80:=Tryz.sizeOf76
 v80:=Tryz.zeroValue76
 i0:=by kernel_rfl
 i2:=by kernel_rfl
 i3:=by kernel_rfl
 i4:=by kernel_rfl
 i5:=by kernel_rfl
 i9:=by kernel_rfl
 i20:=by kernel_rfl
 i21:=by kernel_rfl
 i37:=by kernel_rfl
 i46:=by kernel_rfl
 i51:=by kernel_rfl
 i53:=by kernel_rfl
 i75:=by kernel_rfl
 i76:=by kernel_rfl
 i80:=by kernel_rfl
 i85:=by kernel_rfl
 i127:=by kernel_rfl
 i143:=by kernel_rfl
 i145:=by kernel_rfl
 i167:=by kernel_rfl
 i168:=by kernel_rfl
 i171:=by kernel_rfl
 i173:=by kernel_rfl
 i175:=by kernel_rfl
 i210:=by kernel_rfl
 i212:=by kernel_rfl
 i232:=by kernel_rfl
 i233:=by kernel_rfl
 m15:=by kernel_rfl
 m16:=by kernel_rfl
 m17:=by kernel_rfl
 m18:=by kernel_rfl
 m19:=by kernel_rfl
 c0:=by kernel_rfl
 c2:=by kernel_rfl
 c3:=by kernel_rfl
 c4:=by kernel_rfl
 c5:=by kernel_rfl
 c9:=by kernel_rfl
 c20:=by kernel_rfl
 c21:=by kernel_rfl
 c37:=by kernel_rfl
 c46:=by kernel_rfl
 c51:=by kernel_rfl
 c53:=by kernel_rfl
 c75:=by kernel_rfl
 c76:=by kernel_rfl
 c80:=by kernel_rfl
 c85:=by kernel_rfl
 c127:=by kernel_rfl
 c143:=by kernel_rfl
 c145:=by kernel_rfl
 c167:=by kernel_rfl
 c168:=by kernel_rfl
 c171:=by kernel_rfl
 c173:=by kernel_rfl
 c175:=by kernel_rfl
 c210:=by kernel_rfl
 c212:=by kernel_rfl
 c213:=by kernel_rfl
 c232:=by kernel_rfl
 c233:=by kernel_rfl}
open Go.RowKit in
theorem Tryz.qf_ok (s:ByteArray) (hmax:s.size≤9223372036854775806) (v:Int) (h:Lib.atoiAll s.data.toList=.ok v) (w:World) :
 Calls Tryz.prog 175 #[.string s] w fun e w'=>e=.returned (.tuple #[.int .i64 v,.nilIface])∧(w'=w∨∃t,w'=Lib.bytesWorld w 5 t):=Any.strconv_Atoi_ok Tryz.laysC172 s hmax v h w
open Go.RowKit in
theorem Tryz.qf_bad (s:ByteArray) (hlim:s.size≤281474976710656) (h1:∀n,Lib.atoiAll s.data.toList≠.ok n) (h2:Lib.atoiAll s.data.toList≠.range) (ev:Value) (w:World) (hv:w.cell? ⟨5,0,none⟩=some ev) (hev:ev=.nilIface∨∃te pe,ev=.iface te pe) :
 Calls Tryz.prog 175 #[.string s] w fun e w'=>∃N,e=.returned (.tuple #[.int .i64 (0),.iface 304 (.pointer (some ⟨N,0,none⟩))])∧w.heap.size≤N∧w'.heap[N]?=some (.cells #[.string ⟨#[65,116,111,105]⟩,.string s,ev] 333 (0,0))∧Below w.heap.size w w':=by
 cases h:Lib.atoiAll s.data.toList with
 |ok n=>exact absurd h (h1 n)
 |range=>exact absurd h h2
 |_=>exact Any.strconv_Atoi_syntax Tryz.laysC172 s hlim h ev w hv hev
open Go.RowKit in
theorem Tryz.qf_range (s:ByteArray) (hlim:s.size≤281474976710656) (h:Lib.atoiAll s.data.toList=.range) (ev:Value) (w:World) (hv:w.cell? ⟨6,0,none⟩=some ev) (hev:ev=.nilIface∨∃te pe,ev=.iface te pe) :
 Calls Tryz.prog 175 #[.string s] w fun e w'=>∃N,e=.returned (.tuple #[.int .i64 (Lib.atoiSat s.data.toList),.iface 304 (.pointer (some ⟨N,0,none⟩))])∧w.heap.size≤N∧w'.heap[N]?=some (.cells #[.string ⟨#[65,116,111,105]⟩,.string s,ev] 333 (0,0))∧Below w.heap.size w w':=Any.strconv_Atoi_range Tryz.laysC172 s hlim h ev w hv hev
def Tryz.lays217_ren:Go.Shelf.Ren:=⟨fun|217=>264|266=>328|n=>n,fun|9=>9|5=>5|3=>3|n=>n,fun|n=>n⟩
theorem Tryz.lays217:Go.Proofs.Lays.n217 Tryz.prog Tryz.lays217_ren:={
 mixed:=by kernel_rfl
 f217:=Tryz.func264.trans (congrArg some (by kernel_rfl))
 f266:=Tryz.func328.trans (congrArg some (by kernel_rfl))
 t3:=Tryz.underlying3
 a3:=Tryz.isAgg3
 z3:=Tryz.sizeOf3
 v3:=Tryz.zeroValue3
 t5:=Tryz.underlying5
 a5:=Tryz.isAgg5
 z5:=Tryz.sizeOf5
 v5:=Tryz.zeroValue5
 t9:=Tryz.underlying9
 a9:=Tryz.isAgg9
 z9:=Tryz.sizeOf9
 v9:=Tryz.zeroValue9}
open Go.RowKit Go.Lib in
theorem Tryz.qan (s:ByteArray) (c:Int) (w:World) :
 Calls Tryz.prog 264 #[.string s,.int .u8 c] w fun e w'=>e=.returned (.int .i64 (Lib.indexByte s.data.toList c.toNat.toUInt8))∧w'=w:=Any.stringslite_IndexByte Tryz.lays217 s c w
def Tryz.lays219_ren:Go.Shelf.Ren:=⟨fun|219=>171|217=>264|225=>265|224=>266|267=>267|266=>328|314=>329|n=>n,fun|9=>9|3=>3|4=>4|5=>5|46=>118|146=>296|51=>164|n=>n,fun|1=>0|n=>n⟩
theorem Tryz.lays219:Go.Proofs.Lays.n219 Tryz.prog Tryz.lays219_ren:={
 mixed:=by kernel_rfl
 f217:=Tryz.func264.trans (congrArg some (by kernel_rfl))
 f219:=Tryz.func171.trans (congrArg some (by kernel_rfl))
 f224:=Tryz.func266.trans (congrArg some (by kernel_rfl))
 f225:=Tryz.func265.trans (congrArg some (by kernel_rfl))
 f266:=Tryz.func328.trans (congrArg some (by kernel_rfl))
 f267:=Tryz.func267.trans (congrArg some (by kernel_rfl))
 f314:=Tryz.func329.trans (congrArg some (by kernel_rfl))
 t3:=Tryz.underlying3
 a3:=Tryz.isAgg3
 z3:=Tryz.sizeOf3
 v3:=Tryz.zeroValue3
 t4:=Tryz.underlying4
 a4:=Tryz.isAgg4
 z4:=Tryz.sizeOf4
 v4:=Tryz.zeroValue4
 t5:=Tryz.underlying5
 a5:=Tryz.isAgg5
 z5:=Tryz.sizeOf5
 v5:=Tryz.zeroValue5
 t9:=Tryz.underlying9
 a9:=Tryz.isAgg9
 z9:=Tryz.sizeOf9
 v9:=Tryz.zeroValue9
 t46:=Tryz.underlying118
 a46:=Tryz.isAgg118
 z46:=Tryz.sizeOf118
 v46:=Tryz.zeroValue118
 t51:=Tryz.underlying164
 a51:=Tryz.isAgg164
 z51:=Tryz.sizeOf164
 v51:=Tryz.zeroValue164
 t146:=Tryz.underlying296
 a146:=Tryz.isAgg296
 z146:=Tryz.sizeOf296
 v146:=Tryz.zeroValue296
 g1:=by kernel_rfl}
open Go.RowKit Go.Lib in
theorem Tryz.qd_one (s:ByteArray) (c:UInt8) (w:World) :
 Calls Tryz.prog 171 #[.string s,.string ⟨#[c]⟩] w fun e w'=>e=.returned (.int .i64 (Lib.indexByte s.data.toList c))∧w'=w:=Any.stringslite_Index_one Tryz.lays219 s c w
def Tryz.lays143_ren:Go.Shelf.Ren:=⟨fun|143=>270|219=>171|217=>264|225=>265|224=>266|267=>267|266=>328|314=>329|n=>n,fun|9=>9|3=>3|4=>4|5=>5|46=>118|146=>296|51=>164|n=>n,fun|1=>0|n=>n⟩
theorem Tryz.lays143:Go.Proofs.Lays.n143 Tryz.prog Tryz.lays143_ren:={
 mixed:=by kernel_rfl
 f143:=Tryz.func270.trans (congrArg some (by kernel_rfl))
 f217:=Tryz.func264.trans (congrArg some (by kernel_rfl))
 f219:=Tryz.func171.trans (congrArg some (by kernel_rfl))
 f224:=Tryz.func266.trans (congrArg some (by kernel_rfl))
 f225:=Tryz.func265.trans (congrArg some (by kernel_rfl))
 f266:=Tryz.func328.trans (congrArg some (by kernel_rfl))
 f267:=Tryz.func267.trans (congrArg some (by kernel_rfl))
 f314:=Tryz.func329.trans (congrArg some (by kernel_rfl))
 t3:=Tryz.underlying3
 a3:=Tryz.isAgg3
 z3:=Tryz.sizeOf3
 v3:=Tryz.zeroValue3
 t4:=Tryz.underlying4
 a4:=Tryz.isAgg4
 z4:=Tryz.sizeOf4
 v4:=Tryz.zeroValue4
 t5:=Tryz.underlying5
 a5:=Tryz.isAgg5
 z5:=Tryz.sizeOf5
 v5:=Tryz.zeroValue5
 t9:=Tryz.underlying9
 a9:=Tryz.isAgg9
 z9:=Tryz.sizeOf9
 v9:=Tryz.zeroValue9
 t46:=Tryz.underlying118
 a46:=Tryz.isAgg118
 z46:=Tryz.sizeOf118
 v46:=Tryz.zeroValue118
 t51:=Tryz.underlying164
 a51:=Tryz.isAgg164
 z51:=Tryz.sizeOf164
 v51:=Tryz.zeroValue164
 t146:=Tryz.underlying296
 a146:=Tryz.isAgg296
 z146:=Tryz.sizeOf296
 v146:=Tryz.zeroValue296
 g1:=by kernel_rfl}
open Go.RowKit Go.Lib in
theorem Tryz.qab_one (s:ByteArray) (c:UInt8) (w:World) :
 Calls Tryz.prog 270 #[.string s,.string ⟨#[c]⟩] w fun e w'=>e=.returned (.int .i64 (Lib.indexByte s.data.toList c))∧w'=w:=Any.strings_Index_one Tryz.lays143 s c w
def Tryz.lays138_ren:Go.Shelf.Ren:=⟨fun|138=>269|195=>330|218=>332|143=>270|219=>171|217=>264|225=>265|224=>266|267=>267|266=>328|314=>329|n=>n,fun|9=>9|3=>3|4=>4|5=>5|0=>0|46=>118|146=>296|51=>164|n=>n,fun|1=>0|n=>n⟩
theorem Tryz.lays138:Go.Proofs.Lays.n138 Tryz.prog Tryz.lays138_ren:={
 mixed:=by kernel_rfl
 f138:=Tryz.func269.trans (congrArg some (by kernel_rfl))
 f143:=Tryz.func270.trans (congrArg some (by kernel_rfl))
 f195:=Tryz.func330.trans (congrArg some (by kernel_rfl))
 f217:=Tryz.func264.trans (congrArg some (by kernel_rfl))
 f218:=Tryz.func332.trans (congrArg some (by kernel_rfl))
 f219:=Tryz.func171.trans (congrArg some (by kernel_rfl))
 f224:=Tryz.func266.trans (congrArg some (by kernel_rfl))
 f225:=Tryz.func265.trans (congrArg some (by kernel_rfl))
 f266:=Tryz.func328.trans (congrArg some (by kernel_rfl))
 f267:=Tryz.func267.trans (congrArg some (by kernel_rfl))
 f314:=Tryz.func329.trans (congrArg some (by kernel_rfl))
 t0:=Tryz.underlying0
 a0:=Tryz.isAgg0
 z0:=Tryz.sizeOf0
 v0:=Tryz.zeroValue0
 t3:=Tryz.underlying3
 a3:=Tryz.isAgg3
 z3:=Tryz.sizeOf3
 v3:=Tryz.zeroValue3
 t4:=Tryz.underlying4
 a4:=Tryz.isAgg4
 z4:=Tryz.sizeOf4
 v4:=Tryz.zeroValue4
 t5:=Tryz.underlying5
 a5:=Tryz.isAgg5
 z5:=Tryz.sizeOf5
 v5:=Tryz.zeroValue5
 t9:=Tryz.underlying9
 a9:=Tryz.isAgg9
 z9:=Tryz.sizeOf9
 v9:=Tryz.zeroValue9
 t46:=Tryz.underlying118
 a46:=Tryz.isAgg118
 z46:=Tryz.sizeOf118
 v46:=Tryz.zeroValue118
 t51:=Tryz.underlying164
 a51:=Tryz.isAgg164
 z51:=Tryz.sizeOf164
 v51:=Tryz.zeroValue164
 t146:=Tryz.underlying296
 a146:=Tryz.isAgg296
 z146:=Tryz.sizeOf296
 v146:=Tryz.zeroValue296
 g1:=by kernel_rfl}
open Go.RowKit Go.Lib in
theorem Tryz.qac_one (s:ByteArray) (c:UInt8) (w:World) :
 Calls Tryz.prog 269 #[.string s,.string ⟨#[c]⟩] w fun e w'=>e=.returned (.int .i64 (Lib.countByte s.data.toList c))∧w'=w:=Any.strings_Count_one Tryz.lays138 s c w
def Tryz.lays105_ren:Go.Shelf.Ren:=⟨fun|105=>207|212=>295|99=>296|165=>60|166=>27|170=>297|169=>30|263=>345|264=>346|206=>347|240=>59|241=>108|276=>107|277=>202|n=>n,fun|9=>9|3=>3|4=>4|20=>20|0=>0|46=>118|109=>271|5=>5|72=>68|76=>71|51=>164|146=>296|53=>166|148=>320|70=>65|37=>66|75=>70|127=>115|164=>151|80=>76|n=>n,fun|n=>n⟩
theorem Tryz.lays105:Go.Proofs.Lays.n105 Tryz.prog Tryz.lays105_ren:={
 mixed:=by kernel_rfl
 f99:=Tryz.func296.trans (congrArg some (by kernel_rfl))
 f105:=Tryz.func207.trans (congrArg some (by kernel_rfl))
 f165:=Tryz.func60.trans (congrArg some (by kernel_rfl))
 f166:=Tryz.func27.trans (congrArg some (by kernel_rfl))
 f169:=Tryz.func30.trans (congrArg some (by kernel_rfl))
 f170:=Tryz.func297.trans (congrArg some (by kernel_rfl))
 f206:=Tryz.func347.trans (congrArg some (by kernel_rfl))
 f212:=Tryz.func295.trans (congrArg some (by kernel_rfl))
 f240:=Tryz.func59.trans (congrArg some (by kernel_rfl))
 f241:=Tryz.func108.trans (congrArg some (by kernel_rfl))
 f263:=Tryz.func345.trans (congrArg some (by kernel_rfl))
 f264:=Tryz.func346.trans (congrArg some (by kernel_rfl))
 f276:=Tryz.func107.trans (congrArg some (by kernel_rfl))
 f277:=Tryz.func202.trans (congrArg some (by kernel_rfl))
 t0:=Tryz.underlying0
 a0:=Tryz.isAgg0
 z0:=Tryz.sizeOf0
 v0:=Tryz.zeroValue0
 t3:=Tryz.underlying3
 a3:=Tryz.isAgg3
 z3:=Tryz.sizeOf3
 v3:=Tryz.zeroValue3
 t4:=Tryz.underlying4
 a4:=Tryz.isAgg4
 z4:=Tryz.sizeOf4
 v4:=Tryz.zeroValue4
 t5:=Tryz.underlying5
 a5:=Tryz.isAgg5
 z5:=Tryz.sizeOf5
 v5:=Tryz.zeroValue5
 t9:=Tryz.underlying9
 a9:=Tryz.isAgg9
 z9:=Tryz.sizeOf9
 v9:=Tryz.zeroValue9
 t20:=Tryz.underlying20
 a20:=Tryz.isAgg20
 z20:=Tryz.sizeOf20
 v20:=Tryz.zeroValue20
 t37:=Tryz.underlying66
 a37:=Tryz.isAgg66
 z37:=Tryz.sizeOf66
 v37:=Tryz.zeroValue66
 t46:=Tryz.underlying118
 a46:=Tryz.isAgg118
 z46:=Tryz.sizeOf118
 v46:=Tryz.zeroValue118
 t51:=Tryz.underlying164
 a51:=Tryz.isAgg164
 z51:=Tryz.sizeOf164
 v51:=Tryz.zeroValue164
 t53:=Tryz.underlying166
 a53:=Tryz.isAgg166
 z53:=Tryz.sizeOf166
 v53:=Tryz.zeroValue166
 t70:=Tryz.underlying65
 a70:=Tryz.isAgg65
 z70:=Tryz.sizeOf65
 v70:=Tryz.zeroValue65
 t72:=Tryz.underlying68
 a72:=Tryz.isAgg68
 z72:=Tryz.sizeOf68
 v72:=Tryz.zeroValue68
 t75:=Tryz.underlying70
 a75:=Tryz.isAgg70
 z75:=Tryz.sizeOf70
 v75:=Tryz.zeroValue70
 t76:=Tryz.underlying71
 a76:=Tryz.isAgg71
 z76:=Tryz.sizeOf71
 v76:=Tryz.zeroValue71
 t109:=Tryz.underlying271
 a109:=Tryz.isAgg271
 z109:=Tryz.sizeOf271
 v109:=Tryz.zeroValue271
 t127:=Tryz.underlying115
 a127:=Tryz.isAgg115
 z127:=Tryz.sizeOf115
 v127:=Tryz.zeroValue115
 t146:=Tryz.underlying296
 a146:=Tryz.isAgg296
 z146:=Tryz.sizeOf296
 v146:=Tryz.zeroValue296
 t148:=Tryz.underlying320
 a148:=Tryz.isAgg320
 z148:=Tryz.sizeOf320
 v148:=Tryz.zeroValue320
 t164:=Tryz.underlying151
 a164:=Tryz.isAgg151
 z164:=Tryz.sizeOf151
 v164:=Tryz.zeroValue151}
theorem Tryz.Builder_Extra_105:Builder.Extra Tryz.prog Tryz.lays105_ren:={
 sizeBuilder:=by kernel_rfl
 liesBuilder:=by kernel_rfl
 t5:=Tryz.underlying5
 a5:=Tryz.isAgg5
 z5:=Tryz.sizeOf5
 v5:=Tryz.zeroValue5
 infoByte:=by kernel_rfl
 cellsByte:=by kernel_rfl
 sizeByte:=by kernel_rfl
 neB5:=by decide}
open Go.RowKit Go.Lib in
theorem Tryz.qao (s:ByteArray) (c:Nat) (w:World) (hc:c≤9223372036854775807) (hlen:s.size*c≤140737488355328) :
 Calls Tryz.prog 207 #[.string s,.int .i64 c] w fun e w'=>e=.returned (.string ⟨(Lib.repeatL s.data.toList c).toArray⟩)∧Below w.heap.size w w':=Any.strings_Repeat Tryz.lays105 Tryz.Builder_Extra_105 s c w hc hlen
end Go.Proofs
namespace Go.Proofs.YtpdenibljogamaaGreatDoor.Ev
open Go
open Go.Shelf Go.RowKit
set_option maxHeartbeats 1000000 in
set_option maxRecDepth 100000 in
theorem c2l {blk:Nat} {p v:Value} {w:World} (hp:p=.pointer none∨p=.pointer (some ⟨blk,0,none⟩)) (hb:w.heap[blk]?=some (.cells #[p,v] 68 (0,0))) :
 Calls Tryz.prog 59 #[.pointer (some ⟨blk,0,none⟩)] w fun e w'=>e=.returned (.tuple #[])∧w'.heap[blk]?=some (.cells #[.pointer (some ⟨blk,0,none⟩),v] 68 (0,0))∧(∀k,k≠blk→w'.heap[k]?=w.heap[k]?)∧w'.heap.size=w.heap.size∧w'.os=w.os∧w'.output=w.output∧w'.tape=w.tape:=by
 have c0:w.cell? ⟨blk,0,none⟩=some p:=by simp[World.cell?,hb]
 have hsize:(Tryz.prog.info? 68).map (·.size)=some 2:=kr;obtain ⟨j,hj,hjs⟩:=yay.1 hsize;rcases hp with rfl|rfl
 ·have hsh:w.shape? blk=some (68,2):=by simp[World.shape?,hb]
  have hfz:w.frozen? ⟨blk,0,none⟩=false:=by simp[World.frozen?,hb]
  have hl:liesAt Tryz.prog Tryz.prog.depth 68 (2 / Tryz.prog.cellsOf 68) 0 68 1=true:=kr;obtain ⟨h1,h2⟩:=a4d (i:=0) (v:=.pointer (some ⟨blk,0,none⟩)) hb;have fin:(w.setCell ⟨blk,0,none⟩ (.pointer (some ⟨blk,0,none⟩))).heap[blk]?=some (.cells #[.pointer (some ⟨blk,0,none⟩),v] 68 (0,0))∧(∀k,k≠blk→(w.setCell ⟨blk,0,none⟩ (.pointer (some ⟨blk,0,none⟩))).heap[k]?=w.heap[k]?)∧(w.setCell ⟨blk,0,none⟩ (.pointer (some ⟨blk,0,none⟩))).heap.size=w.heap.size∧(w.setCell ⟨blk,0,none⟩ (.pointer (some ⟨blk,0,none⟩))).os=w.os∧(w.setCell ⟨blk,0,none⟩ (.pointer (some ⟨blk,0,none⟩))).output=w.output∧(w.setCell ⟨blk,0,none⟩ (.pointer (some ⟨blk,0,none⟩))).tape=w.tape:=⟨h1,h2⟩
  clear h1 h2 hb
  go_enter Tryz.func59,Tryz.ntmps59
  go_wp2
  rw[Lib.run_to_unsafe w ⟨blk,0,none⟩ Tryz.underlying65 Tryz.underlying151 hj (by rw[hjs];decide) hsh (Nat.zero_lt_succ 1)];simp only[Result.andThen];rw[Oper.upon_value]
  go_wp2
  rw[run_callFunc_extern Tryz.func107 kr kr kr (e:=Extern.AbiNoEscape.same) kr];rw[Lib.run_noEscape];simp only[Result.andThen];rw[Oper.upon_value]
  go_wp2
  rw[Lib.run_from_unsafe w ⟨blk,0,none⟩ Tryz.underlying151 Tryz.underlying65 hj hsh hl];simp only[Result.andThen];rw[Oper.upon_value]
  go_wp2
  go_end0
  exact ⟨rfl,fin⟩
 ·go_enter Tryz.func59,Tryz.ntmps59
  go_wp2
  rw[Lib.run_neq_ptr_same w _ Tryz.underlying65 hj]
  go_wp2
  go_end0
  exact ⟨rfl,hb,fun _ _=>rfl,rfl,rfl,rfl,rfl⟩
set_option maxHeartbeats 2000000 in
set_option maxRecDepth 100000 in
theorem b35:a2p Tryz.prog 68 5 27:=by
 intro w blk p v l s hp hb hbuf hlen;unfold LIM at hlen;have e166:∀args w,(callFunc 27 args).run Tryz.prog w=.ok (.enter 27 args) w:=enters_of Tryz.func27 kr rfl;refine a33 e166 ?_;have hss:s.data.toList.length=s.size:=by rw[yaX];rfl
 have hib:(Tryz.prog.info? 5).map (fun i=>(i.zero,i.size,i.bytes))=some (some (.int .u8 0),1,1):=kr;obtain ⟨i0,hi,hz0,hz1,hz2⟩:=info_parts hib;have e240:∀args w,(callFunc 59 args).run Tryz.prog w=.ok (.enter 59 args) w:=enters_of Tryz.func59 kr rfl;have hblt:blk<w.heap.size:=(yad.1 hb).1
 go_enter Tryz.func27,Tryz.ntmps27
 go_wp2_with (go_at_fn 59;refine (c2l hp hb).mono ?_)
 rintro e w1 ⟨rfl,hbk,hk1,hs1,ho1,hu1,ht1⟩;have hbuf1:a7s w1 blk 5 l v:=by
  rcases hbuf with h|⟨bb,cap,cur,h1,h2,h3,h4,h5,h6,h7⟩
  ·exact .inl h
  ·exact .inr ⟨bb,cap,cur,h1,(hk1 bb h7).trans h2,h3,h4,h5,h6,h7⟩
 obtain ⟨hown,hob⟩:=hbuf1.own;have hne:v.ownBlock≠some blk:=by
  rcases hbuf1 with ⟨rfl,-⟩|⟨bb,cap,cur,rfl,-,-,-,-,-,h7⟩
  ·simp[Value.ownBlock]
  ·simpa[Value.ownBlock]using h7
 have c0:w1.cell? ⟨blk,0,none⟩=some (.pointer (some ⟨blk,0,none⟩)):=by rw[Lib.cell_of_heap hbk];rfl
 have c1:w1.cell? ⟨blk,1,none⟩=some v:=by rw[Lib.cell_of_heap hbk];rfl
 go_wp2_with (at_builtin;refine a0y rfl _ _ 66 9 rfl 5 i0 Tryz.underlying66 Tryz.underlying9 hi hz0 hz1 hz2 _ _ _ rfl hown s rfl ?c3 ?c4 ?_)
 case c3=>unfold maxLen;omega
 case c4=>omega
 intro v' w2 hown' hgrow hwhere;have hlt:blk<w1.heap.size:=by omega
 have hb2:w2.heap[blk]?=some (.cells #[.pointer (some ⟨blk,0,none⟩),v] 68 (0,0)):=by
  rw[hgrow.block blk hlt (fun e=>hne e.symm)];exact hbk
 have d0:w2.cell? ⟨blk,0,none⟩=some (.pointer (some ⟨blk,0,none⟩)):=by rw[Lib.cell_of_heap hb2];rfl
 have d1:w2.cell? ⟨blk,1,none⟩=some v:=by rw[Lib.cell_of_heap hb2];rfl
 have f1:w2.frozen? ⟨blk,1,none⟩=false:=Lib.frozen_of_heap hb2 1;have hbc:Lib.byteCells l++Lib.strCells s=Lib.byteCells (l++s.data.toList):=by simp[Lib.byteCells,Lib.strCells]
 have hbuf2:a7s w2 blk 5 (l++s.data.toList) v':=a7s.of (n:=l.length+s.size) (by rw[ya0,hss]) (by rw[←hbc];exact hown') hb2 (by decide);obtain ⟨ao,n',cap,hv'⟩:∃ao n' cap,v'=.slice ao n' cap:=by
  rcases hbuf2 with ⟨hv,_⟩|⟨g,cap,cur,hv,_⟩
  ·exact ⟨_,_,_,hv⟩
  ·exact ⟨_,_,_,hv⟩
 obtain ⟨q1,q2,q3,q4,q5,q6⟩:=a4d (i:=1) (v:=v') hb2;have fin:∃p' v'',(p'=.pointer none∨p'=.pointer (some ⟨blk,0,none⟩))∧(w2.setCell ⟨blk,1,none⟩ v').heap[blk]?=some (.cells #[p',v''] 68 (0,0))∧a7s (w2.setCell ⟨blk,1,none⟩ v') blk 5 (l++s.data.toList) v''∧a9i blk v v'' w (w2.setCell ⟨blk,1,none⟩ v'):=by
  refine ⟨_,v',.inr rfl,q1,?_,by have:=hgrow.size;omega,by rw[q4,hgrow.os,ho1],by rw[q5,hgrow.output,hu1],by rw[q6,hgrow.tape,ht1],fun b hb' hbne hbo=>?_,fun bb hbb=>?_⟩
  ·rcases hbuf2 with h|⟨bb,cap,cur,h1,h2,h3,h4,h5,h6,h7⟩
   ·exact .inl h
   ·exact .inr ⟨bb,cap,cur,h1,(q2 bb h7).trans h2,h3,h4,h5,h6,h7⟩
  ·rw[q2 b hbne,hgrow.block b (by omega) (fun e=>hbo (by rw[←hob];exact e.symm)),hk1 b hbne]
  ·rcases hwhere bb hbb with q|q
   ·exact .inl q
   ·exact .inr (by omega)
 clear q1 q2 q3 q4 q5 q6 hbuf2 hown' hgrow hbuf1 hown hwhere;subst hv'
 go_wp2
 go_ret2
 exact ⟨_,rfl,fin⟩
end Go.Proofs.YtpdenibljogamaaGreatDoor.Ev
namespace Go.Proofs.YtpdenibljogamaaGreatDoor
section
set_option maxRecDepth 100000
open Ev
open Go (IntKind)
open Go
theorem c6u:∀k,f9 (ccK k)
 |.kstr=>f9.one e8.str
 |.ku8=>f9.one (e8.int _)
 |.kOff=>b1e
 |.ki64=>f9.one (e8.int _)
 |.kOutcome=>a3q
 |.kSOff=>f9.one (e8.lst _)
 |.kLoan=>a8f
 |.kItem=>a8e
 |.kMove=>a8g
 |.kPatron=>a4q
 |.kHold=>a8d
 |.kCharge=>a4p
 |.kRule=>a8h
 |.ku64=>f9.one (e8.int _)
 |.kerr=>f9.one e8.ifc
theorem d16:SgOk sg:=c5i (cc:=ccK) (fun _=>rfl) (fun _=>rfl) c6u (by intro k x;cases k<;>rfl) (by intro k x;cases k<;>rfl) (by intro k;cases k<;>decide)
theorem eok:∀t,c7p t=true→EqOk Tryz.prog t:=b1l kr (b1l kr (c3g))
theorem d0i:BlSpec Tryz.prog sg ⟨.ku8,blI,blJ,68,5,c3l 27 30⟩:=b4w (k:=Kd.ku8) rfl c6d rfl c10 kr b35 (b0x Tryz.lays169 Tryz.Builder_Extra_169)
theorem good:GoodP Tryz.prog sg:=⟨d15 kr kr,d16,eok,(fun _ _ h=>by cases h),(fun _ h=>by cases h;exact d0i),(fun _ h=>by cases h;exact c11 id rfl (fun _=>rfl) (fun s=>List.map_id _) (fun xs=>by rw[List.map_id]))⟩
end
section
open Go Ev
open Go.Lib Go.RowKit
set_option maxRecDepth 100000
theorem b8w:∀(f u:Nat) (a:List UInt8),u<10 ^ f→b5p f u a=if f=0 then a else Lib.decDigits u++a:=by
 intro f
 induction f with
 |zero=>intro u a _;rfl
 |succ f ih=>
  intro u a h;rw[yai (by omega),Lib.decDigits];simp only[b5p,d3,yac];by_cases h1:u<10
  ·rw[yas h1,dif_pos h1];rfl
  ·rw[yai h1,dif_neg h1,ih _ _ (by rw[Nat.pow_succ]at h;omega)];have hf:f≠0:=fun e=>by subst e;simp at h;omega
   rw[yai hf,ybe];rfl
theorem c3n {n:Int} {s:List UInt8} (h:qv n=some s):(-9223372036854775808≤n∧n≤9223372036854775807)∧s=Lib.itoa n:=by
 unfold qv at h;rw[d3]at h;split at h
 ·rename_i hr;rw[yab,yac,yac]at hr;cases h
  refine ⟨hr,?_⟩;have hd:b5p 20 n.natAbs []=Lib.decDigits n.natAbs:=by
   rw[b8w 20 _ _ (by have:(10:Nat) ^ 20=100000000000000000000:=rfl;omega)];simp
  unfold Lib.itoa;rw[hd,d3];by_cases hn:n<0
  ·simp[hn]
  ·simp only[hn,decide_false,if_false,ya1];rw[show n.toNat=n.natAbs by omega]
 ·cases h
theorem b32 {w:World} {I:Nat→Nat→Prop} {mb:List Nat} (h:a54 sg w I) (hb:b2n sg w mb):Lib.TabIs Tryz.prog w "internal/strconv.uint64pow10" .u64 Lib.pow10Tab:=by
 obtain ⟨-,cs,t,m,h1,h2⟩:=hb 4 .ku64 d8 kr kr;unfold Lib.TabIs World.var?;rw[show Tryz.prog.globalNamed "internal/strconv.uint64pow10" = some 4 by kernel_rfl];simp only[ya6,h1];have hlen:d8.length=20:=by simp[d8]
 replace h2:cs.size=d8.length*1:=h2;refine congrArg some (Array.ext ?_ (fun i hi1 hi2=>?_))
 ·rw[h2];simp[hlen,Lib.pow10Tab]
 ·have hl:i<d8.length:=by omega
  obtain ⟨v,k1,-,k3⟩:=h 4 .ku64 d8 kr i hl 0 (.int .u64 d8[i]) rfl;rw[k3.int_inv]at k1;replace k1:w.cell? ⟨4,i*1+0,none⟩=some (.int .u64 d8[i]):=k1;rw[ybm,yaT]at k1;unfold World.cell? at k1;simp only[h1]at k1;have e:cs[i]=.int .u64 d8[i]:=by simpa[hi1]using k1
  rw[e];simp[d8,Lib.pow10Tab]
theorem c3m {w:World} {I J:Nat→Nat→Prop} {vs:Array Value} {n:Int} (ha:a6d sg w I J vs [.int .i64 n]):vs = #[.int .i64 n]:=by
 obtain ⟨h1,h2⟩:=ha;have h1:vs.size=1:=h1;have h0:=h2 0 vs[0] (.int .i64 n) (yaf (by omega)) rfl;apply Array.ext
 ·simp[h1]
 ·intro i hi1 hi2;have:i=0:=by omega
  subst this;simpa using h0.int_inv
theorem d0m:fnB Tryz.prog 61 Tryz.f61 []=true:=kr
theorem a6h:∀ds a r,c1s.dec ds=some a→c77 a=some r→Con Tryz.prog sg 61 ds [] (b91.enc r) []:=by
 intro ds a r hd hf;obtain ⟨code,fok,-,-⟩:=t8 Tryz.func61 d0m;have hac:f9 c1s:=f9.cons (e8.int _) f9.nil;have hw:=hac ds a hd;obtain ⟨n,⟨⟩⟩:=a;unfold Con;rw[show sg.md 61=.data by kernel_rfl];intro _ w I J vs hp ha;have hv:=c3m (n:=n) (hw.args ha);subst hv;obtain ⟨⟨h1,h2⟩,hr⟩:=c3n (n:=n) (s:=r) hf;subst hr;unfold p5;rw[MuLone.run_callFunc_enter fok.at_ fok.name fok.body _ w];refine (Tryz.qv n h1 h2 w (b32 hp.gl hp.gb)).mono ?_;rintro e w' ⟨rfl,k,os,rfl⟩;have hb:=below_grow w.heap.size w (yal _) k os;exact ⟨I,⟨hb.size,hb.os,hb.output,hb.tape,hb.block,fun _ _ h=>h,fun _ _ h=>.inl h,fun b o hi=>yat (hp.ib b o hi) hb.size⟩,.str ⟨(Lib.itoa n).toArray⟩⟩
end
section
open Go Ev
open Go.Lib Go.RowKit
set_option maxRecDepth 100000
theorem a4s {f:Nat} (hmd:sg.md f=.data) (henter:∀args w,(callFunc f args).run Tryz.prog w=.ok (.enter f args) w) {ds:List DD} {d:DD}
 (h:∀w I J vs,Pre sg w I J []→a6d sg w I J vs ds→Calls Tryz.prog f vs w fun e w'=>∃v,e=.returned v∧Below w.heap.size w w'∧DR sg w' I I v d):Con Tryz.prog sg f ds [] d []:=by
 unfold Con;rw[hmd];intro _ w I J vs hp ha;refine a33 henter ((h w I J vs hp ha).mono ?_);rintro e w' ⟨v,rfl,hb,hd⟩;exact ⟨v,rfl,I,⟨hb.size,hb.os,hb.output,hb.tape,hb.block,fun _ _ h=>h,fun _ _ h=>.inl h,fun b o hi=>yat (hp.ib b o hi) hb.size⟩,hd⟩
theorem c6a {w:World} {I J:Nat→Nat→Prop} {vs:Array Value} {d:DD} (ha:a6d sg w I J vs [d]):∃v,vs = #[v]∧DR sg w I J v d:=by
 obtain ⟨h1,h2⟩:=ha;have h1:vs.size=1:=h1;refine ⟨vs[0],?_,h2 0 vs[0] d (yaf (by omega)) rfl⟩;apply Array.ext
 ·simp[h1]
 ·intro i hi1 hi2;have:i=0:=by omega
  subst this;rfl
theorem a6f {w:World} {I J:Nat→Nat→Prop} {vs:Array Value} {d e:DD} (ha:a6d sg w I J vs [d,e]):∃v u,vs = #[v,u]∧DR sg w I J v d∧DR sg w I J u e:=by
 obtain ⟨h1,h2⟩:=ha;have h1:vs.size=2:=h1;refine ⟨vs[0],vs[1],?_,h2 0 vs[0] d (yaf (by omega)) rfl,h2 1 vs[1] e (yaf (by omega)) rfl⟩;apply Array.ext
 ·simp[h1]
 ·intro i hi1 hi2;rcases (by omega:i=0∨i=1) with rfl|rfl<;>rfl
theorem a5s {w:World} {I J:Nat→Nat→Prop} {v:Value} {s:List UInt8} (h:DR sg w I J v (.str s)):v=.string ⟨s.toArray⟩:=by
 cases h
 rfl
theorem c6c (s:List UInt8):(⟨s.toArray⟩:ByteArray).size=s.length:=rfl
theorem b1n {w:World} {I:Nat→Nat→Prop} {n:Nat} {xs:List Bool} (hg:a8q n=some ⟨.kerr,xs⟩) (hx:xs=[false]) (h:a54 sg w I):∃t v,w.cell? ⟨n,0,none⟩=some (.iface t v):=by
 subst hx;obtain ⟨v,h1,-,h2⟩:=h n .kerr [false] hg 0 (by simp) 0 (.ifc false) rfl;cases h2 with
 |ifcS t x=>exact ⟨t,x,by simpa using h1⟩
theorem b5r {w:World} {I:Nat→Nat→Prop} {n:Int} {v:Value} {b:Bool} (h:DR sg w I I v (.ifc b)):DR sg w I I (.tuple #[.int .i64 n,v]) (.tup [.int .i64 n,.ifc b]):=by
 refine .tup _ _ rfl fun i u d h1 h2=>?_
 match i,h1,h2 with
 |0,h1,h2=>cases h1;cases h2;exact .int _ _
 |1,h1,h2=>cases h1;cases h2;exact h
 |i+2,h1,h2=>simp at h1
theorem a4t:∀ds a r,a2q.dec ds=some a→c73 a=some r→Con Tryz.prog sg 175 ds [] (c88.enc r) []:=by
 intro ds a r hd hf;have hac:f9 a2q:=f9.cons e8.str f9.nil;have hw:=hac ds a hd;obtain ⟨s,⟨⟩⟩:=a;refine a4s kr (enters_of Tryz.func175 kr rfl) fun w I J vs hp ha=>?_
 obtain ⟨v,rfl,h1⟩:=c6a (d:=.str s) (hw.args ha);rw[a5s h1];have hf:qf s=some r:=hf;unfold qf at hf;rw[d3]at hf;split at hf
 rotate_left
 ·cases hf
 rename_i hl;rw[yac]at hl;have hl:s.length≤1073741824:=hl;have hsz:(⟨s.toArray⟩:ByteArray).size=s.length:=rfl;have hf:=yaL hf;cases hn:Lib.atoiAll s with
 |ok n=>
  rw[hn]at hf;subst hf;refine (Tryz.qf_ok ⟨s.toArray⟩ (by omega) n hn w).mono ?_;rintro e w' ⟨rfl,hW⟩;refine ⟨_,rfl,?_,b5r .ifcN⟩;rcases hW with rfl|⟨t,rfl⟩
  ·exact Below.refl _ _
  ·exact Lib.bytesWorld_below _ _ _
 |range=>
  rw[hn]at hf;subst hf;obtain ⟨t,x,hc⟩:=b1n (n:=6) rfl rfl hp.gl;refine (Tryz.qf_range ⟨s.toArray⟩ (by omega) hn _ w hc (.inr ⟨t,x,rfl⟩)).mono ?_;rintro e w' ⟨N,rfl,-,-,hb⟩;exact ⟨_,rfl,hb,b5r (.ifcS _ _)⟩
 |_=>
  rw[hn]at hf;subst hf;obtain ⟨t,x,hc⟩:=b1n (n:=5) rfl rfl hp.gl;refine (Tryz.qf_bad ⟨s.toArray⟩ (by omega) (fun n e=>by cases hn.symm.trans e) (fun e=>by cases hn.symm.trans e) _ w hc (.inr ⟨t,x,rfl⟩)).mono ?_;rintro e w' ⟨N,rfl,-,-,hb⟩;exact ⟨_,rfl,hb,b5r (.ifcS _ _)⟩
theorem c64:∀ds a r,a7t.dec ds=some a→c72 a=some r→Con Tryz.prog sg 171 ds [] (a19.enc r) []:=by
 intro ds a r hd hf;have hac:f9 a7t:=f9.cons e8.str (f9.cons e8.str f9.nil);have hw:=hac ds a hd;obtain ⟨s,sep,⟨⟩⟩:=a;have key:∃c,sep=[c]∧r=Lib.indexByte s c:=by
  have hf:qd s sep=some r:=hf;unfold qd at hf;split at hf
  ·exact ⟨_,rfl,(yaL hf).symm⟩
  ·cases hf
 clear hf hd;obtain ⟨c,rfl,rfl⟩:=key;refine a4s kr (enters_of Tryz.func171 kr rfl) fun w I J vs hp ha=>?_
 obtain ⟨v,u,rfl,h1,h2⟩:=a6f (d:=.str s) (e:=.str [c]) (hw.args ha);rw[a5s h1,a5s h2];refine (Tryz.qd_one ⟨s.toArray⟩ c w).mono ?_;rintro e w' ⟨rfl,rfl⟩;exact ⟨_,rfl,Below.refl _ _,.int _ _⟩
theorem c7l:∀ds a r,b8j.dec ds=some a→c78 a=some r→Con Tryz.prog sg 268 ds [] (b7k.enc r) []:=by
 intro ds a r _ hf;have hf:(none:Option (List (List UInt8)))=some r:=hf;cases hf
theorem c2x:∀ds a r,b4e.dec ds=some a→c0y a=some r→Con Tryz.prog sg 264 ds [] (c1a.enc r) []:=by
 intro ds a r hd hf;have hac:f9 b4e:=f9.cons e8.str (f9.cons (e8.int _) f9.nil);have hw:=hac ds a hd;obtain ⟨s,c,⟨⟩⟩:=a;refine a4s kr (enters_of Tryz.func264 kr rfl) fun w I J vs hp ha=>?_
 obtain ⟨v,u,rfl,h1,h2⟩:=a6f (d:=.str s) (e:=.int .u8 c) (hw.args ha);rw[a5s h1,h2.int_inv];have hf:some (Lib.indexByte s c.toNat.toUInt8)=some r:=hf;cases hf
 refine (Tryz.qan ⟨s.toArray⟩ c w).mono ?_;rintro e w' ⟨rfl,rfl⟩;exact ⟨_,rfl,Below.refl _ _,.int _ _⟩
theorem c2y:∀ds a r,b4f.dec ds=some a→c0z a=some r→Con Tryz.prog sg 207 ds [] (c1b.enc r) []:=by
 intro ds a r hd hf;have hac:f9 b4f:=f9.cons e8.str (f9.cons (e8.int _) f9.nil);have hw:=hac ds a hd;obtain ⟨s,n,⟨⟩⟩:=a;refine a4s kr (enters_of Tryz.func207 kr rfl) fun w I J vs hp ha=>?_
 obtain ⟨v,u,rfl,h1,h2⟩:=a6f (d:=.str s) (e:=.int .i64 n) (hw.args ha);rw[a5s h1,h2.int_inv];have hf:qao s n=some r:=hf;unfold qao at hf;rw[d3]at hf;split at hf
 ·rename_i hl;simp only[yab,yac]at hl;obtain ⟨l0,l1,l2⟩:=hl;cases hf
  have hn:n=(n.toNat:Int):=by omega
  have h:=Tryz.qao ⟨s.toArray⟩ n.toNat w (by omega) (by rw[c6c];omega);rw[←hn]at h;refine h.mono ?_;rintro e w' ⟨rfl,hb⟩;exact ⟨_,rfl,hb,.str ⟨(Lib.repeatL s n.toNat).toArray⟩⟩
 ·cases hf
theorem c22:∀ds a r,b4g.dec ds=some a→c00 a=some r→Con Tryz.prog sg 28 ds [] (c1c.enc r) []:=by
 intro ds a r hd hf;have hac:f9 b4g:=f9.cons (e8.lst _) (f9.cons e8.str f9.nil);have hw:=hac ds a hd;obtain ⟨l,sep,⟨⟩⟩:=a;refine a4s kr (enters_of Tryz.func28 kr rfl) fun w I J vs hp ha=>?_
 obtain ⟨v,u,rfl,h1,h2⟩:=a6f (d:=.lst Kd.kstr l) (e:=.str sep) (hw.args ha);rw[a5s h2];have hf:qaq l sep=some r:=hf;unfold qaq at hf;rw[d3]at hf;split at hf
 rotate_left
 ·cases hf
 rename_i hl;simp only[yab,yac]at hl;obtain ⟨l1,l2⟩:=hl;cases hf
 cases h1 with
 |lst0 ad cap k h=>
  refine (Tryz.qaq_none ad cap ⟨sep.toArray⟩ w).mono ?_;rintro e w' ⟨rfl,rfl⟩;exact ⟨_,rfl,Below.refl _ _,.str ⟨#[]⟩⟩
 |lst b off cap k xs cv hcap hc hv=>
  have hsz:sg.sz Kd.kstr=1:=rfl;have hcell:∀(i:Nat) (hi:i<l.length),w.cell? ⟨b,off+i,none⟩=some (.string ⟨(l[i]:List UInt8).toArray⟩):=fun i hi=>by
   obtain ⟨e1,-⟩:=hc i 0 hi (by rw[hsz];omega);rw[hsz,ybm,yaT]at e1;have e2:=hv i hi 0 (.str l[i]) rfl;rw[e1,a5s e2]
  by_cases h0:l.length=0
  ·have:l=[]:=yaF.1 h0;subst this;refine (Tryz.qaq_none (some ⟨b,off,none⟩) cap ⟨sep.toArray⟩ w).mono ?_;rintro e w' ⟨rfl,rfl⟩;exact ⟨_,rfl,Below.refl _ _,.str ⟨#[]⟩⟩
  ·have hbk:b<w.heap.size:=hp.ib _ _ (hc 0 0 (by omega) (by rw[hsz];omega)).2;have hmap:((l.map fun x:List UInt8=>(⟨x.toArray⟩:ByteArray)).map (·.data.toList))=l:=by
    rw[List.map_map];exact List.map_id l
   have h:=Tryz.qaq b off cap (l.map fun x:List UInt8=>(⟨x.toArray⟩:ByteArray)) ⟨sep.toArray⟩ w (fun j x hx=>by
    rw[yaG,yay]at hx;obtain ⟨y,hy,rfl⟩:=hx;obtain ⟨hj,rfl⟩:=yaC.1 hy;exact hcell j hj) hbk (by rw[ybl];omega) (by rw[ybl];exact hcap) (by rw[hmap];exact ybg l2 (by omega))
   rw[hmap,ybl]at h;refine h.mono ?_;rintro e w' ⟨rfl,hb⟩;exact ⟨_,rfl,hb,.str ⟨(Lib.join l sep).toArray⟩⟩
theorem b5f:∀ds a r,b4b.dec ds=some a→c0w a=some r→Con Tryz.prog sg 270 ds [] (c07.enc r) []:=by
 intro ds a r hd hf;have hac:f9 b4b:=f9.cons e8.str (f9.cons e8.str f9.nil);have hw:=hac ds a hd;obtain ⟨s,sep,⟨⟩⟩:=a;have key:∃c,sep=[c]∧r=Lib.indexByte s c:=by
  have hf:qab s sep=some r:=hf;unfold qab at hf;split at hf
  ·exact ⟨_,rfl,(yaL hf).symm⟩
  ·cases hf
 clear hf hd;obtain ⟨c,rfl,rfl⟩:=key;refine a4s kr (enters_of Tryz.func270 kr rfl) fun w I J vs hp ha=>?_
 obtain ⟨v,u,rfl,h1,h2⟩:=a6f (d:=.str s) (e:=.str [c]) (hw.args ha);rw[a5s h1,a5s h2];refine (Tryz.qab_one ⟨s.toArray⟩ c w).mono ?_;rintro e w' ⟨rfl,rfl⟩;exact ⟨_,rfl,Below.refl _ _,.int _ _⟩
theorem b5g:∀ds a r,b4c.dec ds=some a→c0x a=some r→Con Tryz.prog sg 269 ds [] (c08.enc r) []:=by
 intro ds a r hd hf;have hac:f9 b4c:=f9.cons e8.str (f9.cons e8.str f9.nil);have hw:=hac ds a hd;obtain ⟨s,sep,⟨⟩⟩:=a;have key:∃c,sep=[c]∧r=((Lib.countByte s c:Nat):Int):=by
  have hf:qac s sep=some r:=hf;unfold qac at hf;split at hf
  ·exact ⟨_,rfl,(yaL hf).symm⟩
  ·cases hf
 clear hf hd;obtain ⟨c,rfl,rfl⟩:=key;refine a4s kr (enters_of Tryz.func269 kr rfl) fun w I J vs hp ha=>?_
 obtain ⟨v,u,rfl,h1,h2⟩:=a6f (d:=.str s) (e:=.str [c]) (hw.args ha);rw[a5s h1,a5s h2];refine (Tryz.qac_one ⟨s.toArray⟩ c w).mono ?_;rintro e w' ⟨rfl,rfl⟩;exact ⟨_,rfl,Below.refl _ _,.int _ _⟩
end
section
set_option maxRecDepth 100000
open Ev
open Go (IntKind)
open Go
theorem c2v:SG Tryz.prog sg 39 @b7v:=d1x (loops:=l0) (ids:=[]) good Tryz.func39 kr kr cg0 f8 (fun a=>kr) kr
def d1j {R:Type}:Nat→Sm R:=cl 28 c5e (cl 39 b7v (cl 61 c9t (cl 175 c1g (cl 207 c5d (cl 264 c5c (cl 269 b7r (cl 270 b7q c0)))))))
theorem c2m:CG Tryz.prog sg @d1j:=(cgc (sgP c22) (cgc c2v (cgc (sgP a6h) (cgc (sgP a4t) (cgc (sgP c2y) (cgc (sgP c2x) (cgc (sgP b5g) (cgc (sgP b5f) cg0))))))))
def d1e:List Nat:=[10,11,13,15,17,19,23,25,26,29,32,33,34,35,36,40,41,42,44,49,50,53,54,55,56,57,58,62,65,66,67,68,71,87,88,89,90,95,97,98,99,100,101,102,104,110,111,114,123,124,125,126,130,171,172,173,174,179,188,195,198,204,205,206,271,286,287,294]
theorem d0n:c5t Tryz.prog d1e=true:=kr
theorem b94:b2w Tryz.prog sg d1e @d1j 40 10 [] [] (fun d bs=>some (d,bs))=some (a1z.enc true,[]):=kr
theorem c7e:∀ds a r,c57.dec ds=some a→c74 a=some r→Con Tryz.prog sg 10 ds [] (a1z.enc r) []:=d1y (rc:=a1z) (r0:=true) good d0n c2m b94
end
section
set_option maxRecDepth 100000
open Ev
open Go (IntKind)
open Go
noncomputable abbrev ZP:=Tryz.prog
theorem c2n:SG ZP sg 87 @c45:=a66 good Tryz.func87 kr kr (cgc (sgP c64) cg0) (fun a=>kr)
theorem c24:SG ZP sg 49 @b7z:=a66 good Tryz.func49 kr kr (cgc c2n cg0) (fun a=>kr)
theorem c0s:fnB ZP 172 Tryz.f172 [11]=true:=kr
theorem c6n:CG ZP sg @c2c:=(cgc (sgP c7l) (cgc (sgP b5g) (cgc (sgP b5f) cg0)))
theorem b9d:f0 ZP sg 0 Tryz.f172 @b19 11:=a0q b1w good Tryz.func172 c0s c6n f8 (fun a=>kr) kr (fun _ _=>rfl)
theorem c7d:SG ZP sg 172 @c9n:=a7r (loops:=b19) good Tryz.func172 c0s kr c6n (all_cons b9d f8) (fun a=>kr)
theorem c27:SG ZP sg 88 @c5f:=a66 good Tryz.func88 kr kr (cgc c7d cg0) (fun a=>kr)
theorem c0t:fnB ZP 173 Tryz.f173 [2]=true:=kr
theorem c6h:CG ZP sg @c16:=(cgc (sgP a4t) cg0)
theorem c32:f0 ZP sg 0 Tryz.f173 @b13 2:=a0q b6c good Tryz.func173 c0t c6h f8 (fun a=>kr) kr (fun _ _=>rfl)
theorem c67:SG ZP sg 173 @c9j:=a7r (loops:=b13) good Tryz.func173 c0t kr c6h (all_cons c32 f8) (fun a=>kr)
theorem b5i:SG ZP sg 294 @c1m:=a66 good Tryz.func294 kr kr cg0 (fun a=>kr)
theorem c2q:SG ZP sg 271 @c47:=a66 good Tryz.func271 kr kr (cgc b5i cg0) (fun a=>kr)
theorem c0v:fnB ZP 205 Tryz.f205 [4]=true:=kr
theorem c6q:CG ZP sg @c2f:=(cgc b5i cg0)
theorem c4b:f0 ZP sg 0 Tryz.f205 @b2c 4:=a0q b6k good Tryz.func205 c0v c6q f8 (fun a=>kr) kr (fun _ _=>rfl)
theorem c7h:SG ZP sg 205 @c9p:=a7r (loops:=b2c) good Tryz.func205 c0v kr c6q (all_cons c4b f8) (fun a=>kr)
theorem c28:SG ZP sg 206 @c5g:=a66 good Tryz.func206 kr kr (cgc b5i cg0) (fun a=>kr)
theorem c7m:SG ZP sg 174 @c9v:=a66 good Tryz.func174 kr kr (cgc c7h (cgc c28 (cgc c2q cg0))) (fun a=>kr)
theorem c29:SG ZP sg 89 @c5h:=a66 good Tryz.func89 kr kr (cgc c67 (cgc c7m cg0)) (fun a=>kr)
theorem c63:SG ZP sg 90 @c9i:=c6y (loops:=l0) (ids:=[]) good Tryz.func90 kr kr (cgc (sgP a6h) (cgc (sgP a4t) cg0)) f8 (fun a b=>kr)
theorem c2u:SG ZP sg 90 @c5b:=c6y (loops:=l0) (ids:=[]) good Tryz.func90 kr kr (cgc (sgP a6h) (cgc (sgP a4t) cg0)) f8 (fun a b=>kr)
theorem c2t:SG ZP sg 90 @c5a:=c6y (loops:=l0) (ids:=[]) good Tryz.func90 kr kr (cgc (sgP a6h) (cgc (sgP a4t) cg0)) f8 (fun a b=>kr)
theorem c2r:SG ZP sg 90 @c48:=c6y (loops:=l0) (ids:=[]) good Tryz.func90 kr kr (cgc (sgP a6h) (cgc (sgP a4t) cg0)) f8 (fun a b=>kr)
theorem c2s:SG ZP sg 90 @c49:=c6y (loops:=l0) (ids:=[]) good Tryz.func90 kr kr (cgc (sgP a6h) (cgc (sgP a4t) cg0)) f8 (fun a b=>kr)
theorem c2p:SG ZP sg 50 @b7t:=a66 good Tryz.func50 kr kr (cgc c27 (cgc c29 (cgc (sgi (ac:=c54) c63 (sgi (ac:=c0l) c2u (sgi (ac:=c0k) c2t (sgi (ac:=c0i) c2r (sgi (ac:=c0j) c2s sg0))))) cg0))) (fun a=>kr)
theorem c6z:SG ZP sg 65 @c9g:=a66 good Tryz.func65 kr kr cg0 (fun a=>kr)
theorem c2o:SG ZP sg 32 @b7s:=a66 good Tryz.func32 kr kr (cgc c6z cg0) (fun a=>kr)
theorem c0o:SG ZP sg 34 @c1l:=a66 good Tryz.func34 kr kr cg0 (fun a=>kr)
theorem c7v:fnB ZP 40 Tryz.f40 [2]=true:=kr
theorem c6k:CG ZP sg @c19:=(cgc c0o cg0)
theorem c35:f0 ZP sg 0 Tryz.f40 @b16 2:=a0q b6f good Tryz.func40 c7v c6k f8 (fun a=>kr) kr (fun _ _=>rfl)
theorem c7a:SG ZP sg 40 @c9l:=a7r (loops:=b16) good Tryz.func40 c7v kr c6k (all_cons c35 f8) (fun a=>kr)
theorem c2w:SG ZP sg 33 @b7w:=a66 good Tryz.func33 kr kr (cgc c0o (cgc c7a cg0)) (fun a=>kr)
theorem c7u:fnB ZP 36 Tryz.f36 [2]=true:=kr
theorem c6g:CG ZP sg @c15:=cg0
theorem c31:f0 ZP sg 0 Tryz.f36 @b12 2:=a0q b6b good Tryz.func36 c7u c6g f8 (fun a=>kr) kr (fun _ _=>rfl)
theorem c66:SG ZP sg 36 @c1h:=a7r (loops:=b12) good Tryz.func36 c7u kr c6g (all_cons c31 f8) (fun a=>kr)
theorem c7t:fnB ZP 35 Tryz.f35 [2]=true:=kr
theorem c6j:CG ZP sg @c18:=(cgc c66 cg0)
theorem c34:f0 ZP sg 0 Tryz.f35 @b15 2:=a0q b6e good Tryz.func35 c7t c6j f8 (fun a=>kr) kr (fun _ _=>rfl)
theorem c69:SG ZP sg 35 @c1i:=a7r (loops:=b15) good Tryz.func35 c7t kr c6j (all_cons c34 f8) (fun a=>kr)
theorem c3j:fnB ZP 13 Tryz.f13 [4,11]=true:=kr
theorem c2j:CG ZP sg @c13:=(cgc c2o (cgc c2w (cgc c69 cg0)))
theorem c3y:f0 ZP sg 0 Tryz.f13 @a7g 4:=a0q b58 good Tryz.func13 c3j c2j f8 (fun a=>kr) kr (fun _ _=>rfl)
theorem b9c:f0 ZP sg 0 Tryz.f13 @a7g 11:=a0q b1v good Tryz.func13 c3j c2j f8 (fun a=>kr) kr (fun _ _=>rfl)
theorem c62:SG ZP sg 13 @c1e:=a7r (loops:=a7g) good Tryz.func13 c3j kr c2j (all_cons c3y (all_cons b9c f8)) (fun a=>kr)
theorem c7r:fnB ZP 23 Tryz.f23 [3]=true:=kr
theorem c6l:CG ZP sg @c2a:=(cgc c62 (cgc c24 (cgc c2p cg0)))
theorem c36:f0 ZP sg 0 Tryz.f23 @b17 3:=a0q b6g good Tryz.func23 c7r c6l f8 (fun a=>kr) kr (fun _ _=>rfl)
theorem c7b:SG ZP sg 23 @c9m:=a7r (loops:=b17) good Tryz.func23 c7r kr c6l (all_cons c36 f8) (fun a=>kr)
theorem c7w:fnB ZP 51 Tryz.f51 [2]=true:=kr
theorem c6m:CG ZP sg @c2b:=cg0
theorem c38:f0 ZP sg 0 Tryz.f51 @b18 2:=a0q b6h good Tryz.func51 c7w c6m f8 (fun a=>kr) kr (fun _ _=>rfl)
theorem c7c:SG ZP sg 51 @c1j:=a7r (loops:=b18) good Tryz.func51 c7w kr c6m (all_cons c38 f8) (fun a=>kr)
theorem c0u:fnB ZP 176 Tryz.f176 [2]=true:=kr
theorem c6p:CG ZP sg @c2e:=cg0
theorem c4a:f0 ZP sg 0 Tryz.f176 @b2b 2:=a0q b6j good Tryz.func176 c0u c6p f8 (fun a=>kr) kr (fun _ _=>rfl)
theorem c7g:SG ZP sg 176 @c1k:=a7r (loops:=b2b) good Tryz.func176 c0u kr c6p (all_cons c4a f8) (fun a=>kr)
theorem c7x:fnB ZP 91 Tryz.f91 [3]=true:=kr
theorem c6r:CG ZP sg @c2g:=(cgc c7g cg0)
theorem c4c:f0 ZP sg 0 Tryz.f91 @b2d 3:=a0q b6l good Tryz.func91 c7x c6r f8 (fun a=>kr) kr (fun _ _=>rfl)
theorem c7i:SG ZP sg 91 @c9q:=a7r (loops:=b2d) good Tryz.func91 c7x kr c6r (all_cons c4c f8) (fun a=>kr)
theorem c7y:fnB ZP 92 Tryz.f92 [5]=true:=kr
theorem c6i:CG ZP sg @c17:=cg0
theorem c33:f0 ZP sg 0 Tryz.f92 @b14 5:=a0q b6d good Tryz.func92 c7y c6i f8 (fun a=>kr) kr (fun _ _=>rfl)
theorem c68:SG ZP sg 92 @c9k:=a7r (loops:=b14) good Tryz.func92 c7y kr c6i (all_cons c33 f8) (fun a=>kr)
theorem b5h:SG ZP sg 210 @b7u:=a66 good Tryz.func210 kr kr cg0 (fun a=>kr)
theorem c26:SG ZP sg 209 @b71:=a66 good Tryz.func209 kr kr (cgc b5h cg0) (fun a=>kr)
theorem b5w:fnB ZP 177 Tryz.f177 [5,9]=true:=kr
theorem c2k:CG ZP sg @c14:=(cgc c26 (cgc b5h cg0))
theorem c3z:f0 ZP sg 0 Tryz.f177 @a7h 5:=a0q b59 good Tryz.func177 b5w c2k f8 (fun a=>kr) kr (fun _ _=>rfl)
theorem c30:f0 ZP sg 0 Tryz.f177 @a7h 9:=a0q b6a good Tryz.func177 b5w c2k f8 (fun a=>kr) kr (fun _ _=>rfl)
theorem c65:SG ZP sg 177 @c1f:=a7r (loops:=a7h) good Tryz.func177 b5w kr c2k (all_cons c3z (all_cons c30 f8)) (fun a=>kr)
theorem c7z:fnB ZP 93 Tryz.f93 [6]=true:=kr
theorem c6t:CG ZP sg @c2i:=(cgc c65 cg0)
theorem c4e:f0 ZP sg 0 Tryz.f93 @b2f 6:=a0q b6n good Tryz.func93 c7z c6t f8 (fun a=>kr) kr (fun _ _=>rfl)
theorem c7k:SG ZP sg 93 @c9s:=a7r (loops:=b2f) good Tryz.func93 c7z kr c6t (all_cons c4e f8) (fun a=>kr)
theorem c2z:SG ZP sg 52 @b7x:=a66 good Tryz.func52 kr kr (cgc c7i (cgc c68 (cgc c7k cg0))) (fun a=>kr)
theorem c23:SG ZP sg 37 @b7y:=a66 good Tryz.func37 kr kr cg0 (fun a=>kr)
theorem c25:SG ZP sg 38 @b70:=a66 good Tryz.func38 kr kr cg0 (fun a=>kr)
theorem b5v:fnB ZP 14 Tryz.f14 [4,10,13,18]=true:=kr
theorem b5b:CG ZP sg @c12:=(cgc c23 (cgc c25 cg0))
theorem c3x:f0 ZP sg 0 Tryz.f14 @a25 4:=a0q b57 good Tryz.func14 b5v b5b f8 (fun a=>kr) kr (fun _ _=>rfl)
theorem b1y:f0 ZP sg 0 Tryz.f14 @a25 13:=a0q b1t good Tryz.func14 b5v b5b f8 (fun a=>kr) kr (fun _ _=>rfl)
theorem b9a:f0 ZP sg 0 Tryz.f14 @a25 10:=a0q b1s good Tryz.func14 b5v b5b (all_cons b1y f8) (fun a=>kr) kr (fun _ _=>rfl)
theorem b9b:f0 ZP sg 0 Tryz.f14 @a25 18:=a0q b1u good Tryz.func14 b5v b5b f8 (fun a=>kr) kr (fun _ _=>rfl)
theorem c61:SG ZP sg 14 @c1d:=a7r (loops:=a25) good Tryz.func14 b5v kr b5b (all_cons c3x (all_cons b9a (all_cons b1y (all_cons b9b f8)))) (fun a=>kr)
theorem c7s:fnB ZP 24 Tryz.f24 [3]=true:=kr
theorem c6s:CG ZP sg @c2h:=(cgc c61 (cgc c7c (cgc c2z cg0)))
theorem c4d:f0 ZP sg 0 Tryz.f24 @b2e 3:=a0q b6m good Tryz.func24 c7s c6s f8 (fun a=>kr) kr (fun _ _=>rfl)
theorem c7j:SG ZP sg 24 @c9r:=a7r (loops:=b2e) good Tryz.func24 c7s kr c6s (all_cons c4d f8) (fun a=>kr)
theorem c7q:fnB ZP 17 Tryz.f17 [4]=true:=kr
theorem c6o:CG ZP sg @c2d:=cg0
theorem c39:f0 ZP sg 0 Tryz.f17 @b2a 4:=a0q b6i good Tryz.func17 c7q c6o f8 (fun a=>kr) kr (fun _ _=>rfl)
theorem c7f:SG ZP sg 17 @c9o:=a7r (loops:=b2a) good Tryz.func17 c7q kr c6o (all_cons c39 f8) (fun a=>kr)
theorem c60:SG ZP sg 6 @c9h:=a66 good Tryz.func6 kr kr (cgc (sgP c7e) (cgc c7f (cgc c7b (cgc c7j cg0)))) (fun a=>kr)
end
section
open Ev
open Go (IntKind)
section
variable {α β σ X:Type}
theorem b27 {step:α→Option (α⊕β)}:∀{n m:Nat} {a:α} {b:β},n≤m→l3 step n a=some b→l3 step m a=some b:=by
 intro n
 induction n with
 |zero=>intro m a b _ h;cases h
 |succ n ih=>
  intro m a b hm h;obtain ⟨m,rfl⟩:∃k,m=k+1:=⟨m-1,by omega⟩
  simp only[l3]at h ⊢;cases h1:step a with
  |none=>rw[h1]at h;cases h
  |some x=>
   rw[h1]at h;cases x with
   |inl a'=>exact ih (by omega) h
   |inr b'=>exact h
theorem o1 {step:α→Option (α⊕β)} {a:α} {b:β} (n:Nat) (hn:n≤a9k) (h:l3 step n a=some b):g8 step a=some b:=b27 hn h
theorem a5z {step:α→Option (α⊕β)} (Inv:α→Prop) (μ:α→Nat) (f:α→β)
 (h:∀a,Inv a→(∃a',step a=some (.inl a')∧Inv a'∧μ a'<μ a∧f a'=f a)∨step a=some (.inr (f a))) {a:α} (ha:Inv a) (hm:μ a<a9k):g8 step a=some (f a):=by
 have key:∀n a,Inv a→μ a<n→l3 step n a=some (f a):=by
  intro n
  induction n with
  |zero=>intro a _ h;omega
  |succ n ih=>
   intro a hi hn;simp only[l3];rcases h a hi with ⟨a',h1,h2,h3,h4⟩|h1
   ·rw[h1];simp only;rw[ih a' h2 (by omega),h4]
   ·rw[h1]
 exact key a9k a ha hm
def a30 (f:Nat→X→σ→σ⊕β) (fin:σ→β):Nat→List X→σ→β
 |_,[],s=>fin s
 |i,x::l,s=>match f i x s with
  |.inl s'=>a30 f fin (i+1) l s'
  |.inr b=>b
theorem a9g {step:α→Option (α⊕β)} (Inv:Nat→σ→Prop) (enc:Nat→σ→α) (l:List X) (f:Nat→X→σ→σ⊕β) (fin:σ→β) (hl:l.length<a9k)
 (h0:∀s,Inv l.length s→step (enc l.length s)=some (.inr (fin s)))
 (h1:∀i x s,l[i]?=some x→Inv i s→(step (enc i s)=some (match f i x s with | .inl s'=>.inl (enc (i+1) s') | .inr b=>.inr b))∧∀s',f i x s=.inl s'→Inv (i+1) s')
 (s:σ) (hs:Inv 0 s):g8 step (enc 0 s)=some (a30 f fin 0 l s):=by
 have key:∀k i s,i+k=l.length→Inv i s→l3 step (k+1) (enc i s)=some (a30 f fin i (l.drop i) s):=by
  intro k
  induction k with
  |zero=>
   intro i s hi hs;have:i=l.length:=by omega
   subst this;rw[List.drop_length];simp only[l3,h0 s hs,a30]
  |succ k ih=>
   intro i s hi hs;have hlt:i<l.length:=by omega
   obtain ⟨e1,e2⟩:=h1 i l[i] s (yaa hlt) hs;rw[List.drop_eq_getElem_cons hlt];rw[l3,e1];simp only[a30];cases hf:f i l[i] s with
   |inl s'=>simp only;exact ih (i+1) s' (by omega) (e2 s' hf)
   |inr b=>rfl
 have:=key l.length 0 s (by omega) hs;exact o1 (l.length+1) (by omega) (by simpa using this)
theorem a2l {step:α→Option (α⊕β)} (enc:Nat→σ→α) (l:List X) (f:Nat→X→σ→σ⊕β) (fin:σ→β) (hl:l.length<a9k)
 (h0:∀s,step (enc l.length s)=some (.inr (fin s)))
 (h1:∀i x s,l[i]?=some x→step (enc i s)=some (match f i x s with | .inl s'=>.inl (enc (i+1) s') | .inr b=>.inr b))
 (s:σ):g8 step (enc 0 s)=some (a30 f fin 0 l s):=
 a9g (fun _ _=>True) enc l f fin hl (fun s _=>h0 s) (fun i x s hx _=>⟨h1 i x s hx,fun _ _=>trivial⟩) s trivial
def a57 (f:Nat→X→Int):Nat→List X→Int
 |_,[]=>0
 |i,x::l=>if f i x==0 then a57 f (i+1) l else f i x
theorem b7o {f:Nat→X→Int} {d:β} {g:Int→β}:∀{l:List X} {i:Nat},a30 (σ:=Unit) (fun i x _=>if f i x==0 then .inl () else .inr (g (f i x))) (fun _=>d) i l ()=if a57 f i l==0 then d else g (a57 f i l):=by
 intro l
 induction l with
 |nil=>intros;rfl
 |cons x l ih=>
  intro i;simp only[a30,a57];by_cases h:(f i x==0)=true
  ·simp only[h,ybp];exact ih
  ·have h2:¬f i x=0:=fun e=>h (by simp[e])
   simp[h2]
theorem b23 {f:Nat→X→Int}:∀{l:List X} {i:Nat},a57 f i l=0↔∀k x,l[k]?=some x→f (i+k) x=0:=by
 intro l
 induction l with
 |nil=>intro i;simp[a57]
 |cons y l ih=>
  intro i;simp only[a57];constructor
  ·intro h k x hk;split at h
   ·rename_i h1;cases k with
    |zero=>simp at hk;subst hk;simpa using h1
    |succ k=>have:=(ih (i:=i+1)).1 h k x (by simpa using hk);rwa [show i+(k+1)=i+1+k by omega]
   ·rename_i h1;exfalso;apply h1;simp[h]
  ·intro h;have h0:=h 0 y rfl;simp only[yaT]at h0;rw[h0];simp only[beq_self_eq_true,ybp];exact ih.2 (fun k x hk=>by have:=h (k+1) x (by simpa using hk);rwa [show i+(k+1)=i+1+k by omega]at this)
end
section
variable {α β σ X:Type} {step:α→Option (α⊕β)}
def b1m (a:α) (g:Int→β) (e:Int):Option (α⊕β):=if e==0 then some (.inl a) else some (.inr (g e))
theorem a6z (enc:Nat→α) (l:List X) (f:Nat→X→Int) (d:β) (g:Int→β) (hl:l.length<1000000000) (h0:step (enc l.length)=some (.inr d))
 (h1:∀i x,l[i]?=some x→step (enc i)=b1m (enc (i+1)) g (f i x)):g8 step (enc 0)=some (if a57 f 0 l==0 then d else g (a57 f 0 l)):=by
 have h:=a2l (step:=step) (fun i (_:Unit)=>enc i) l (fun i x _=>if f i x==0 then .inl () else .inr (g (f i x))) (fun _=>d) (by show l.length<18446744073709551616;omega) (fun _=>h0)
  (fun i x _ hx=>by rw[h1 i x hx];unfold b1m;split<;>rfl) ()
 rw[h,b7o]
def a69 (p:X→Bool) (g:Nat→X→β) (d:β):Nat→List X→β
 |_,[]=>d
 |i,x::l=>bif p x then g i x else a69 p g d (i+1) l
theorem b0z (enc:Nat→α) (l:List X) (p:X→Bool) (g:Nat→X→β) (d:β) (hl:l.length<1000000000) (h0:step (enc l.length)=some (.inr d))
 (h1:∀i x,l[i]?=some x→step (enc i)=bif p x then some (.inr (g i x)) else some (.inl (enc (i+1)))):g8 step (enc 0)=some (a69 p g d 0 l):=by
 have h:=a2l (step:=step) (fun i (_:Unit)=>enc i) l (fun i x _=>if p x then .inr (g i x) else .inl ()) (fun _=>d) (by show l.length<18446744073709551616;omega) (fun _=>h0)
  (fun i x _ hx=>by rw[h1 i x hx];cases p x<;>rfl) ()
 rw[h];have key:∀(l:List X) (i:Nat),a30 (σ:=Unit) (fun i x _=>if p x then .inr (g i x) else .inl ()) (fun _=>d) i l ()=a69 p g d i l:=by
  intro l
  induction l with
  |nil=>intro i;rfl
  |cons x l ih=>
   intro i;simp only[a30,a69];cases p x with
   |true=>rfl
   |false=>exact ih _
 rw[key]
def a55 (p:Nat→X→Bool):Nat→List X→Bool
 |_,[]=>true
 |i,x::l=>p i x&&a55 p (i+1) l
theorem y4 (enc:Nat→α) (l:List X) (p:Nat→X→Bool) (b d:β) (hl:l.length<1000000000) (h0:step (enc l.length)=some (.inr d))
 (h1:∀i x,l[i]?=some x→step (enc i)=bif p i x then some (.inl (enc (i+1))) else some (.inr b)):g8 step (enc 0)=some (bif a55 p 0 l then d else b):=by
 have h:=a2l (step:=step) (fun i (_:Unit)=>enc i) l (fun i x _=>if p i x then .inl () else .inr b) (fun _=>d) (by show l.length<18446744073709551616;omega) (fun _=>h0)
  (fun i x _ hx=>by rw[h1 i x hx];cases p i x<;>rfl) ()
 rw[h];have key:∀(l:List X) (i:Nat),a30 (σ:=Unit) (fun i x _=>if p i x then .inl () else .inr b) (fun _=>d) i l ()=bif a55 p i l then d else b:=by
  intro l
  induction l with
  |nil=>intro i;rfl
  |cons x l ih=>
   intro i;simp only[a30,a55];cases p i x with
   |true=>exact ih _
   |false=>rfl
 rw[key]
theorem a1p {p:X→Bool}:∀{l:List X} {i:Nat},a55 (fun _=>p) i l=l.all p:=by
 intro l
 induction l with
 |nil=>intros;rfl
 |cons x l ih=>intro i;simp only[a55,yba];rw[ih]
theorem b4i {p:Nat→X→Bool}:∀{l:List X} {i:Nat},a55 p i l=true↔∀k x,l[k]?=some x→p (i+k) x=true:=by
 intro l
 induction l with
 |nil=>intro i;simp[a55]
 |cons y l ih=>
  intro i;simp only[a55,yab];rw[ih];constructor
  ·rintro ⟨h0,h⟩ k x hk;cases k with
   |zero=>simp at hk;subst hk;exact h0
   |succ k=>have:=h k x (by simpa using hk);rwa [show i+(k+1)=i+1+k by omega]
  ·intro h;exact ⟨h 0 y rfl,fun k x hk=>by have:=h (k+1) x (by simpa using hk);rwa [show i+(k+1)=i+1+k by omega]at this⟩
end
theorem a0b {n:Int} (h1 : -9223372036854775808≤n) (h2:n≤9223372036854775807):wr .i64 n=n:=by
 unfold wr;rw[IntKind.wrap_i64];omega
theorem j5 {n:Nat} (h:n<9223372036854775807):wr .i64 ((n:Int)+1)=((n+1:Nat):Int):=by
 rw[a0b (by omega) (by omega)];rfl
theorem b00 {j:Nat} (h:j<1000000000):wr .i64 (((j+1:Nat):Int)-1)=(j:Int):=by
 rw[show ((j+1:Nat):Int)-1=(j:Int) by omega];exact a0b (by omega) (by omega)
theorem d1z {j:Nat}:decide ((0:Int)<((j+1:Nat):Int))=true:=by rw[yac];omega
theorem k5 {α:Type} (l:List α) (i:Nat):m3 l (i:Int)=l[i]?:=by
 unfold m3;simp
theorem a6e:LIM=1073741824:=rfl
theorem w3:a9k=18446744073709551616:=rfl
end
section
open Ev
open Go (IntKind)
theorem dlt {i n:Nat} (h:i<n):decide ((i:Int)<(n:Int))=true:=by simpa using h
theorem dge {n:Nat}:decide ((n:Int)<(n:Int))=false:=by simp
end
section
open Ev
open Go (IntKind)
set_option maxRecDepth 100000
def lp (y:Int):Bool:=(y.tmod 4==0)&&(!(y.tmod 100==0)||(y.tmod 400==0))
def lpN (n:Nat):Bool:=lp ((1900+n:Nat):Int)
def lcN:Nat→Nat
 |0=>0
 |k+1=>lcN k+(if lpN k then 1 else 0)
def ny (n:Nat):Int:=((365*n+lcN n:Nat):Int)
def yl (l:Bool):Int:=if l then 366 else 365
theorem b64 (n:Nat):ny (n+1)=ny n+yl (lpN n):=by
 unfold ny yl;simp only[lcN];split<;>omega
theorem c8j (n:Nat):lcN n≤n:=by
 induction n with
 |zero=>exact yal 0
 |succ n ih=>simp only[lcN];split<;>omega
theorem b63 {a b:Nat} (h:a≤b):ny a≤ny b:=by
 induction b with
 |zero=>
  have:a=0:=by omega
  subst this;exact ybo _
 |succ b ih=>
  rcases Nat.eq_or_lt_of_le h with e|e
  ·subst e;exact ybo _
  ·have h1:=ih (by omega);have h2:=b64 b;have h3:365≤yl (lpN b):=by unfold yl;split<;>omega
   omega
theorem d1l:ny 0=0:=rfl
theorem c8o:ny 300=109573:=kr
def bf (l:Bool):Nat→Int
 |0=>0|1=>0|2=>31|3=>yl l-306|4=>yl l-275|5=>yl l-245|6=>yl l-214|7=>yl l-184|8=>yl l-153|9=>yl l-122|10=>yl l-92|11=>yl l-61|12=>yl l-31
 |_=>yl l
theorem a9q (l:Bool):∀m,1≤m→m≤12→bf l m+28≤bf l (m+1)∧bf l (m+1)≤bf l m+31
 |0,h,_=>by omega
 |1,_,_=>by cases l<;>decide
 |2,_,_=>by cases l<;>decide
 |3,_,_=>by cases l<;>decide
 |4,_,_=>by cases l<;>decide
 |5,_,_=>by cases l<;>decide
 |6,_,_=>by cases l<;>decide
 |7,_,_=>by cases l<;>decide
 |8,_,_=>by cases l<;>decide
 |9,_,_=>by cases l<;>decide
 |10,_,_=>by cases l<;>decide
 |11,_,_=>by cases l<;>decide
 |12,_,_=>by cases l<;>decide
 |m+13,_,h=>by omega
theorem b4u (l:Bool) {a b:Nat} (ha:1≤a) (h:a≤b) (hb:b≤13):bf l a≤bf l b:=by
 induction b with
 |zero=>omega
 |succ b ih=>
  rcases Nat.eq_or_lt_of_le h with e|e
  ·subst e;exact ybo _
  ·have h1:=ih (by omega) (by omega);have:=(a9q l b (by omega) (by omega)).1;omega
theorem a32 (l:Bool) {m:Nat} (h1:1≤m) (h2:m≤13):0≤bf l m∧bf l m≤366:=by
 have a:=b4u l (yal 1) h1 h2;have b:=b4u l h1 h2 (yal 13);have c:bf l 1=0:=rfl;have d:bf l 13≤366:=by cases l<;>decide
 omega
theorem c4w (y:Int):qx y=some (lp y):=by
 unfold qx lp;cases (y.tmod 4==0)<;>cases (y.tmod 100==0)<;>cases (y.tmod 400==0)<;>rfl
theorem d03 {n:Nat} (hn:n≤300):qr ((1900+n:Nat):Int)=some (ny n):=by
 unfold qr;have e0:wr .i64 ((wr .i64 (((1900+n:Nat):Int)-1900))*365)=((365*n:Nat):Int):=by
  rw[a0b (n:=((1900+n:Nat):Int)-1900) (by omega) (by omega),a0b (by omega) (by omega)];omega
 rw[e0];have h:=a5z (step:=b7h) (fun a=>∃i,i≤n∧a=(((1900+n:Nat):Int),((365*n+lcN i:Nat):Int),((1900+i:Nat):Int),())) (fun a=>(a.1-a.2.2.1).toNat) (fun _=>(ny n,())) (fun a ha=>by
  obtain ⟨i,hi,rfl⟩:=ha;have hl:=c8j i;by_cases e:i=n
  ·subst e;refine .inr ?_;simp only[b7h];rw[show decide (((1900+i:Nat):Int)<((1900+i:Nat):Int))=false by simp];rfl
  ·refine .inl ⟨(((1900+n:Nat):Int),((365*n+lcN (i+1):Nat):Int),((1900+(i+1):Nat):Int),()),?_,⟨i+1,by omega,rfl⟩,by show (((1900+n:Nat):Int)-((1900+(i+1):Nat):Int)).toNat<(((1900+n:Nat):Int)-((1900+i:Nat):Int)).toNat;omega,rfl⟩;simp only[b7h,c4w];rw[show decide (((1900+i:Nat):Int)<((1900+n:Nat):Int))=true by rw[yac];omega];simp only[yah];have e1:wr .i64 (((1900+i:Nat):Int)+1)=((1900+(i+1):Nat):Int):=by rw[a0b (by omega) (by omega)];omega
   have e2:wr .i64 (((365*n+lcN i:Nat):Int)+1)=((365*n+lcN i+1:Nat):Int):=by rw[a0b (by omega) (by omega)];omega
   rw[e1,e2];have e3:lp ((1900+i:Nat):Int)=lpN i:=rfl;rw[e3];simp only[lcN];cases lpN i<;>rfl) (a:=(((1900+n:Nat):Int),((365*n:Nat):Int),1900,())) ⟨0,by omega,rfl⟩ (by show (((1900+n:Nat):Int)-1900).toNat<a9k;rw[w3];omega)
 rw[h]
theorem c83 (y:Int):∀{m:Nat},1≤m→m≤12→qaw y (m:Int)=some (bf (lp y) m):=by
 intro m h1 h2;have hl:=c4w y;have:m=1∨m=2∨m=3∨m=4∨m=5∨m=6∨m=7∨m=8∨m=9∨m=10∨m=11∨m=12:=by omega
 unfold qaw;rw[hl];generalize lp y=l;rcases this with rfl|rfl|rfl|rfl|rfl|rfl|rfl|rfl|rfl|rfl|rfl|rfl<;>cases l<;>rfl
theorem a39 {n:Nat} (h:n≤300):0≤ny n∧ny n≤109573:=by
 have a:=b63 (ya4 n);have b:=b63 h;rw[d1l]at a;rw[c8o]at b;exact ⟨a,b⟩
theorem c8l {n:Nat} (h:n<300):(((((1900+n:Nat):Int)).tmod 4==0)&&(!(((1900+n:Nat):Int)==1900)&&!(((1900+n:Nat):Int)==2100)))=lpN n:=by
 unfold lpN lp;have e:∀k:Nat,(((1900+n:Nat):Int)).tmod (k:Int)=(((1900+n) % k:Nat):Int):=fun k=>by rw[Int.tmod_eq_emod_of_nonneg (by omega)];rfl
 rw[show (4:Int)=((4:Nat):Int) from rfl,show (100:Int)=((100:Nat):Int) from rfl,show (400:Int)=((400:Nat):Int) from rfl,e,e,e];rw[yaZ];simp only[yab,yaO,yaz,ya7,yaI,ne_eq];omega
theorem b7c {n m:Nat} (hn:n<300) (m1:1≤m) (m2:m≤12):qag ((1900+n:Nat):Int) (m:Int)=some (bf (lpN n) (m+1)-bf (lpN n) m):=by
 unfold qag;rw[show decide (((1900+n:Nat):Int)<1900)=false by rw[yaj];omega,show decide (2199<((1900+n:Nat):Int))=false by rw[yaj];omega,
  show decide ((m:Int)<1)=false by rw[yaj];omega,show decide (12<(m:Int))=false by rw[yaj];omega]
 have hr:=c8l hn;simp only[yao];have:m=1∨m=2∨m=3∨m=4∨m=5∨m=6∨m=7∨m=8∨m=9∨m=10∨m=11∨m=12:=by omega
 generalize ((((1900+n:Nat):Int)).tmod 4==0)=a at hr;generalize (((1900+n:Nat):Int)==1900)=b at hr;generalize (((1900+n:Nat):Int)==2100)=c at hr;generalize lpN n=l at hr;subst hr;rcases this with rfl|rfl|rfl|rfl|rfl|rfl|rfl|rfl|rfl|rfl|rfl|rfl<;>cases a<;>cases b<;>cases c<;>rfl
theorem c82 {n:Nat} (hn:n<300):qau ((1900+n:Nat):Int)=some (yl (lpN n)):=by
 unfold qau;have h:=b7c (m:=2) hn (by omega) (by omega);have h:qag ((1900+n:Nat):Int) 2=some (bf (lpN n) 3-bf (lpN n) 2):=h;rw[h];generalize lpN n=l;cases l<;>rfl
end
section
open Ev
open Go (IntKind Lit)
def wi (n lo hi:Int):Bool:=decide (lo≤n)&&decide (n≤hi)
theorem d0t (n lo hi:Int):q8 n lo hi=some (wi n lo hi):=by
 unfold q8 wi;cases h:decide (lo≤n)<;>simp[h]
theorem c9z (n lo hi:Int):(decide (n<lo)||decide (hi<n))=!wi n lo hi:=by
 unfold wi;rw[yaZ];simp only[yaO,yaz,Bool.and_eq_false_iff,yac,yaj];omega
def chk (x:Off):Int:=
 bif (((!wi x.Device 1 9||!wi x.Seq 1 9999)||!wi x.Day 0 109572)||!wi x.Item 1 9999)||!wi x.Branch 1 4 then 2
 else bif !wi x.Kind 1 3 then 1
 else bif (x.Kind==1&&!wi x.Patron 1 9999)||(!(x.Kind==1)&&!(x.Patron==0)) then 2 else 0
theorem c8t (x:Off):qad x=some (chk x):=by
 unfold qad chk;simp -zeta only[d0t];generalize wi x.Device 1 9=a1;generalize wi x.Seq 1 9999=a2;generalize wi x.Day 0 109572=a3;generalize wi x.Item 1 9999=a4;generalize wi x.Branch 1 4=a5;generalize wi x.Kind 1 3=a6;generalize (x.Kind==1)=a7;generalize wi x.Patron 1 9999=a8;generalize (x.Patron==0)=a9;dsimp only;cases a1
 ·rfl
 cases a2
 ·rfl
 cases a3
 ·rfl
 cases a4
 ·rfl
 cases a5
 ·rfl
 cases a6
 ·rfl
 cases a7<;>cases a8<;>cases a9<;>rfl
theorem c8y (x:Off):qar x=some (chk x):=by
 unfold qar chk;simp only[←c9z];generalize decide (x.Device<1)=a1;generalize decide (9<x.Device)=b1;generalize decide (x.Seq<1)=a2;generalize decide (9999<x.Seq)=b2;generalize decide (x.Day<0)=a3;generalize decide (109572<x.Day)=b3;generalize decide (x.Item<1)=a4;generalize decide (9999<x.Item)=b4;generalize decide (x.Branch<1)=a5;generalize decide (4<x.Branch)=b5;generalize decide (x.Kind<1)=a6;generalize decide (3<x.Kind)=b6;generalize (x.Kind==1)=a7;generalize decide (x.Patron<1)=a8;generalize decide (9999<x.Patron)=b8;generalize (x.Patron==0)=a9;cases a1
 rotate_left
 ·rfl
 cases b1
 rotate_left
 ·rfl
 cases a2
 rotate_left
 ·rfl
 cases b2
 rotate_left
 ·rfl
 cases a3
 rotate_left
 ·rfl
 cases b3
 rotate_left
 ·rfl
 cases a4
 rotate_left
 ·rfl
 cases b4
 rotate_left
 ·rfl
 cases a5
 rotate_left
 ·rfl
 cases b5
 rotate_left
 ·rfl
 cases a6
 rotate_left
 ·rfl
 cases b6
 rotate_left
 ·rfl
 cases a7<;>cases a8<;>cases b8<;>cases a9<;>rfl
def a6p (x y:Off):Bool:=x.Device==y.Device&&x.Seq==y.Seq
theorem b55 (x y:Off):a6p x y=a6p y x:=by
 unfold a6p;rw[yaZ];simp only[yab,ya7];omega
theorem b25 {X:Type} {p:X→Bool}:∀(l:List X) (i:Nat),(match a69 (β:=Unit⊕(Int×Unit)) p (fun i _=>.inr ((i:Int),())) (.inl ()) i l with | .inl _=>some (-1:Int) | .inr (v,_)=>some v).map (fun r=>decide (0≤r))=some (l.any p):=by
 intro l
 induction l with
 |nil=>intro i;rfl
 |cons x l ih=>
  intro i;simp only[a69,List.any_cons];cases p x with
  |true=>simp
  |false=>simp only[yao,Bool.false_or];exact ih _
theorem d0y {γ:Type} {q:γ→Off→Option Bool} {p:Off→Bool} {g:γ} (hq:∀x,q g x=some (p x)) {l:List Off} (hl:l.length<1000000000) :
 qk q l g=(match a69 (β:=Unit⊕(Int×Unit)) p (fun i _=>.inr ((i:Int),())) (.inl ()) 0 l with | .inl _=>some (-1:Int) | .inr (v,_)=>some v):=by
 unfold qk;have h:=b0z (step:=b3r q) (fun i=>(l,g,(l.length:Int),(i:Int),())) l p (fun i _=>.inr ((i:Int),())) (.inl ()) hl
  (by simp only[b3r,dge,yao])
  (fun i x hx=>by
   have hi:=(zL hx)
   simp only[b3r,dlt hi,k5,hx,yah,hq,j5 (show i<9223372036854775807 by omega)])
 rw[show g8 (b3r q) (l,g,(l.length:Int),0,())=_ from h];cases a69 (β:=Unit⊕(Int×Unit)) p (fun i _=>.inr ((i:Int),())) (.inl ()) 0 l<;>rfl
theorem c8w {γ:Type} {q:γ→Off→Option Bool} {p:Off→Bool} {g:γ} (hq:∀x,q g x=some (p x)) {l:List Off} (hl:l.length<1000000000) :
 qam q l g=some (l.any p):=by
 unfold qam;rw[d0y hq hl,←b25 l 0];cases a69 (β:=Unit⊕(Int×Unit)) p (fun i _=>.inr ((i:Int),())) (.inl ()) 0 l<;>rfl
def b24 (l:List Off):Int:=a57 (fun _ x=>chk x) 0 l
theorem b9x {l:List Off} (hl:l.length<1000000000):g8 b3o (l,l,(l.length:Int),0,())=some (if b24 l==0 then .inl (l,()) else .inr (b24 l,())):=
 a6z (step:=b3o) (fun i=>(l,l,(l.length:Int),(i:Int),())) l (fun _ x=>chk x) (.inl (l,())) (fun e=>.inr (e,())) hl
  (by simp only[b3o,dge,yao])
  (fun i x hx=>by
   have hi:=(zL hx)
   simp only[b3o,dlt hi,k5,hx,yah,c8t,j5 (show i<9223372036854775807 by omega),b1m];by_cases h:chk x=0
   ·rw[h];rfl
   ·rw[show (chk x==0)=false by simpa using h];rfl)
theorem b9w {l:List Off} (hl:l.length<1000000000):g8 b3n (l,0,())=some (if b24 l==0 then .inl (l,()) else .inr (b24 l,())):=
 a6z (step:=b3n) (fun i=>(l,(i:Int),())) l (fun _ x=>chk x) (.inl (l,())) (fun e=>.inr (e,())) hl
  (by simp only[b3n,dge,yao])
  (fun i x hx=>by
   have hi:=(zL hx)
   simp only[b3n,dlt hi,k5,hx,yah,c8y,j5 (show i<9223372036854775807 by omega),b1m];by_cases h:chk x=0
   ·rw[h];rfl
   ·rw[show (chk x==0)=false by simpa using h];rfl)
def a81 (l:List Off):Bool:=a55 (fun i x=>!(l.take i).any (fun y=>a6p x y)) 0 l
theorem d06 (y v:Off):qw y v=some (a6p v y):=by
 unfold qw a6p;cases v.Device==y.Device<;>rfl
theorem b7d {l:List Off} (hl:l.length<1000000):g8 a6t (l,l,(l.length:Int),0,())=some (bif a81 l then .inl (l,()) else .inr (7,())):=
 y4 (step:=a6t) (fun i=>(l,l,(l.length:Int),(i:Int),())) l (fun i x=>!(l.take i).any (fun y=>a6p x y)) (.inr (7,())) (.inl (l,())) (by omega)
  (by simp only[a6t,dge,yao])
  (fun i x hx=>by
   have hi:=(zL hx)
   have g1:(decide ((0:Int)≤(0:Int))&&(decide ((0:Int)≤(i:Int))&&decide ((i:Int)≤(l.length:Int))))=true:=by
    simp only[yab,yac];omega
   have e0:((l.take ((i:Int)).toNat).drop ((0:Int)).toNat)=l.take i:=by simp
   simp only[a6t,dlt hi,k5,hx,yah,g1,e0];rw[c8w (p:=fun y=>a6p x y) (fun y=>d06 y x) (by rw[List.length_take];omega)];simp only[j5 (show i<9223372036854775807 by omega)];cases (l.take i).any (fun y=>a6p x y)<;>rfl)
theorem b7a {l:List Off} {i:Nat} {x:Off} (hx:l[i]?=some x) (hl:l.length<1000000):g8 a5i (l,(i:Int),0,())=some (bif !(l.take i).any (fun y=>a6p x y) then .inl (l,(i:Int),()) else .inr (7,())):=by
 have hi:=(zL hx)
 have ht:(l.take i).length=i:=by rw[List.length_take];omega
 have h:=y4 (step:=a5i) (fun k=>(l,(i:Int),(k:Int),())) (l.take i) (fun _ y=>!a6p x y) (.inr (7,())) (.inl (l,(i:Int),())) (by omega)
  (by rw[ht];simp only[a5i,dge,yao])
  (fun k y hy=>by
   have hk:k<i:=by have:=(zL hy);omega
   have hy2:l[k]?=some y:=by rw[yaN]at hy;rwa [yas hk]at hy
   simp -zeta only[a5i,dlt hk,k5,hx,hy2,yah,j5 (show k<9223372036854775807 by omega)];unfold a6p;cases x.Device==y.Device<;>cases x.Seq==y.Seq<;>rfl)
 rw[show g8 a5i (l,(i:Int),0,())=_ from h,a1p];have e:∀l:List Off,l.all (fun y=>!a6p x y)=!l.any (fun y=>a6p x y):=by
  intro l
  induction l with
  |nil=>rfl
  |cons z l ih=>rw[yba,List.any_cons,ih,Bool.not_or]
 rw[e]
theorem b69 {l:List Off} (hl:l.length<1000000):g8 a6s (l,0,())=some (bif a81 l then .inl (l,()) else .inr (7,())):=
 y4 (step:=a6s) (fun i=>(l,(i:Int),())) l (fun i x=>!(l.take i).any (fun y=>a6p x y)) (.inr (7,())) (.inl (l,())) (by omega)
  (by simp only[a6s,dge,yao])
  (fun i x hx=>by
   have hi:=(zL hx)
   simp only[a6s,dlt hi,yah,b7a hx hl];cases (l.take i).any (fun y=>a6p x y) with
   |true=>rfl
   |false=>simp only[Bool.not_false,yah,j5 (show i<9223372036854775807 by omega)])
theorem b65 {l:List Off} (h:a81 l=true):∀(i j:Nat) (x y:Off),l[i]?=some x→l[j]?=some y→a6p x y=true→i=j:=by
 unfold a81 at h;rw[b4i]at h;have key:∀(i j:Nat) (x y:Off),l[i]?=some x→l[j]?=some y→j<i→a6p x y=false:=by
  intro i j x y hx hy hji;have:=h i x hx;rw[yaE]at this;simp only[yaz,List.any_eq_false]at this;have hm:y∈l.take i:=yan (i:=j) (by rw[yaN,yas hji];exact hy);simpa using this y hm
 intro i j x y hx hy hk;rcases Nat.lt_trichotomy i j with q|q|q
 ·rw[b55,key j i y x hy hx q]at hk;cases hk
 ·exact q
 ·rw[key i j x y hx hy q]at hk;cases hk
end
section
open Ev
open Go (IntKind Lit)
def ltO (a b:Off):Bool:=bif !(a.Day==b.Day) then decide (a.Day<b.Day) else bif !(a.Device==b.Device) then decide (a.Device<b.Device) else decide (a.Seq<b.Seq)
theorem c81 (a b:Off):qat a b=some (ltO a b):=by
 unfold qat ltO;cases a.Day==b.Day<;>cases a.Device==b.Device<;>rfl
theorem a7i (a b:Off):ltO a b=true↔a.Day<b.Day∨(a.Day=b.Day∧(a.Device<b.Device∨(a.Device=b.Device∧a.Seq<b.Seq))):=by
 unfold ltO;cases h1:a.Day==b.Day with
 |false=>
  have:a.Day≠b.Day:=by simpa using h1
  simp only[Bool.not_false,yah,yac];omega
 |true=>
  have e1:a.Day=b.Day:=by simpa using h1
  cases h2:a.Device==b.Device with
  |false=>
   have:a.Device≠b.Device:=by simpa using h2
   simp only[yaQ,Bool.not_false,yah,yao,yac];omega
  |true=>
   have:a.Device=b.Device:=by simpa using h2
   simp only[yaQ,yao,yac];omega
theorem c4l (a:Off):ltO a a=false:=by
 cases h:ltO a a with
 |false=>rfl
 |true=>rw[a7i]at h;omega
theorem b61 {a b c:Off} (h:ltO a b=true) (k:ltO b c=true):ltO a c=true:=by
 rw[a7i]at *;omega
theorem c4m {a b:Off} (h:ltO a b=false) (k:ltO b a=false):a6p a b=true:=by
 rw[Bool.eq_false_iff]at h k;unfold a6p;simp only[yab,ya7];rw[ne_eq,a7i]at h k;omega
structure OkN (x:Off):Prop where
 d0:0≤x.Day
 d1:x.Day≤109572
 v0:1≤x.Device
 v1:x.Device≤9
 s0:1≤x.Seq
 s1:x.Seq≤9999
theorem c6w {x:Off} (h:chk x=0):OkN x:=by
 unfold chk at h;cases h1:(((!wi x.Device 1 9||!wi x.Seq 1 9999)||!wi x.Day 0 109572)||!wi x.Item 1 9999)||!wi x.Branch 1 4 with
 |true=>rw[h1]at h;cases h
 |false=>
  simp only[Bool.or_eq_false_iff,Bool.not_eq_false']at h1;obtain ⟨⟨⟨⟨a,b⟩,c⟩,-⟩,-⟩:=h1;unfold wi at a b c;simp only[yab,yac]at a b c;exact ⟨c.1,c.2,a.1,a.2,b.1,b.2⟩
def cmO (a b:Off):Int:=if wr .i64 (a.Day-b.Day)=0 then (if wr .i64 (a.Device-b.Device)=0 then wr .i64 (a.Seq-b.Seq) else wr .i64 (a.Device-b.Device)) else wr .i64 (a.Day-b.Day)
theorem d0x (a b:Off):qg a b=some (cmO a b):=by
 unfold qg cmO;generalize wr .i64 (a.Day-b.Day)=x;generalize wr .i64 (a.Device-b.Device)=y;generalize wr .i64 (a.Seq-b.Seq)=z;have step:∀(k:Nat) (v:Int),([x,y,z]:List Int)[k]?=some v→b0m ((([x,y,z]:List Int).length:Int),(k:Int),[x,y,z],())=if v=0 then some (.inl ((([x,y,z]:List Int).length:Int),((k+1:Nat):Int),[x,y,z],())) else some (.inr (.inr (v,()))):=fun k v hv=>by
  have hk:=(zL hv)
  have h3:([x,y,z]:List Int).length=3:=rfl;simp only[b0m,dlt hk,k5,hv,yah,yaM,j5 (show k<9223372036854775807 by omega)];by_cases h:v=0
  ·rw[yas h,show (v==0)=true by simpa using h];rfl
  ·rw[yai h,show (v==0)=false by simpa using h];rfl
 have hw:g8 b0m ((([x,y,z]:List Int).length:Int),0,[x,y,z],())=some (if x=0 then (if y=0 then (if z=0 then .inl () else .inr (z,())) else .inr (y,())) else .inr (x,())):=by
  refine o1 4 (by rw[w3];omega) ?_;have s0:b0m ((([x,y,z]:List Int).length:Int),0,[x,y,z],())=if x=0 then some (.inl ((([x,y,z]:List Int).length:Int),((0+1:Nat):Int),[x,y,z],())) else some (.inr (.inr (x,()))):=step 0 x rfl
  have s1:=step 1 y rfl;have s2:=step 2 z rfl;have s3:b0m ((([x,y,z]:List Int).length:Int),((2+1:Nat):Int),[x,y,z],())=some (.inr (.inl ())):=rfl;rw[l3,s0];by_cases hx:x=0
  ·rw[yas hx,yas hx];simp only;rw[l3,s1];by_cases hy:y=0
   ·rw[yas hy,yas hy];simp only;rw[l3,s2];by_cases hz:z=0
    ·rw[yas hz,yas hz];simp only;rw[l3,s3]
    ·rw[yai hz,yai hz]
   ·rw[yai hy,yai hy]
  ·rw[yai hx,yai hx]
 rw[hw];by_cases hx:x=0
 ·rw[yas hx,yas hx];by_cases hy:y=0
  ·rw[yas hy,yas hy];by_cases hz:z=0
   ·rw[yas hz,hz]
   ·rw[yai hz]
  ·rw[yai hy,yai hy]
 ·rw[yai hx,yai hx]
theorem c6x {a b:Off} (ha:OkN a) (hb:OkN b):decide (cmO a b<0)=ltO a b:=by
 obtain ⟨a1,a2,a3,a4,a5,a6⟩:=ha;obtain ⟨b1,b2,b3,b4,b5,b6⟩:=hb;rw[yaZ,yac,a7i];unfold cmO;rw[a0b (n:=a.Day-b.Day) (by omega) (by omega),a0b (n:=a.Device-b.Device) (by omega) (by omega),a0b (n:=a.Seq-b.Seq) (by omega) (by omega)];by_cases h1:a.Day-b.Day=0
 ·rw[yas h1];by_cases h2:a.Device-b.Device=0
  ·rw[yas h2];omega
  ·rw[yai h2];omega
 ·rw[yai h1];omega
def srt (l:List Off):Bool:=(List.range (l.length-1)).all fun i=>match l[i+1]?,l[i]? with|some x,some y=>!decide (cmO x y<0)|_,_=>true
theorem b74 {l:List Off} (hl:l.length<1000000):qj (fun (g:Unit×Unit) x0 x1=>qg x0 x1) l ((),())=some (srt l):=by
 unfold qj;rcases Nat.eq_zero_or_pos l.length with h0|hpos
 ·have:l=[]:=yaF.1 h0;subst this;rfl
 ·have e:wr .i64 ((l.length:Int)-1)=((l.length-1:Nat):Int):=by rw[a0b (by omega) (by omega)];omega
  rw[e];have hlen:((List.range (l.length-1)).reverse).length=l.length-1:=by simp
  have h:=y4 (step:=b7e (fun (g:Unit×Unit) x0 x1=>qg x0 x1)) (fun j=>(l,((),()),((l.length-1-j:Nat):Int),())) (List.range (l.length-1)).reverse
   (fun _ i=>match l[i+1]?,l[i]? with|some x,some y=>!decide (cmO x y<0)|_,_=>true) (.inr (false,())) (.inl ()) (by omega)
   (by rw[hlen,Nat.sub_self];rfl)
   (fun j q hq=>by
    have hj:j<l.length-1:=by have:=(zL hq);omega
    have eq:q=l.length-1-1-j:=by
     rw[List.getElem?_reverse (by simpa using hj)]at hq;simp only[List.length_range]at hq;rw[List.getElem?_range (by omega)]at hq;exact (yaL hq).symm
    have e1:l.length-1-j=q+1:=by omega
    have h1:q+1<l.length:=by omega
    have h2:q<l.length:=by omega
    have p0:decide ((0:Int)<((q+1:Nat):Int))=true:=d1z;simp only[b7e,e1,p0,yah,k5,b00 (show q<1000000000 by omega),yaa h1,yaa h2,d0x];rw[show l.length-1-(j+1)=q by omega];cases decide (cmO l[q+1] l[q]<0)<;>rfl)
  rw[show g8 (b7e (fun (g:Unit×Unit) x0 x1=>qg x0 x1)) (l,((),()),((l.length-1:Nat):Int),())=_ from h,a1p,List.all_reverse];unfold srt;cases (List.range (l.length-1)).all fun i=>match l[i+1]?,l[i]? with|some x,some y=>!decide (cmO x y<0)|_,_=>true<;>rfl
def asB (l:List Off):Bool:=(List.range (l.length-1)).all fun i=>match l[i+1]?,l[i]? with|some x,some y=>ltO y x|_,_=>true
theorem b7b {l:List Off} (hl:l.length<1000000) (hpos:0<l.length):g8 a3t (l,1,())=some (bif asB l then .inl () else .inr (3,())):=by
 have hlen:(List.range (l.length-1)).length=l.length-1:=by simp
 have h:=y4 (step:=a3t) (fun j=>(l,((j+1:Nat):Int),())) (List.range (l.length-1)) (fun _ i=>match l[i+1]?,l[i]? with|some x,some y=>ltO y x|_,_=>true) (.inr (3,())) (.inl ()) (by omega)
  (by
   rw[hlen,show l.length-1+1=l.length by omega];simp only[a3t,dge,yao])
  (fun j q hq=>by
   have hj:j<l.length-1:=by have:=(zL hq);omega
   have eq:q=j:=by
    rw[List.getElem?_range hj]at hq;exact (yaL hq).symm
   subst eq;have h1:q+1<l.length:=by omega
   have h2:q<l.length:=by omega
   simp only[a3t,dlt h1,yah,k5,b00 (show q<1000000000 by omega),yaa h1,yaa h2,c81];rw[j5 (show q+1<9223372036854775807 by omega)];cases ltO l[q] l[q+1]<;>rfl)
 rw[show g8 a3t (l,1,())=_ from h,a1p];rfl
theorem b3m:g8 a3t ([],1,())=some (.inl ()):=o1 1 (by rw[w3];omega) rfl
theorem c3h {l:List Off} (h:b24 l=0):∀x∈l,OkN x:=by
 unfold b24 at h;rw[b23]at h;intro x hx;obtain ⟨i,hi⟩:=List.getElem?_of_mem hx;exact c6w (h i x hi)
theorem c5j {l:List Off} (h:b24 l=0) (ho:a81 l=true):srt l=asB l:=by
 have hk:=c3h h;unfold srt asB;rw[yaZ,yag,yag];have key:∀i∈List.range (l.length-1),(match l[i+1]?,l[i]? with|some x,some y=>!decide (cmO x y<0)|_,_=>true)=(match l[i+1]?,l[i]? with|some x,some y=>ltO y x|_,_=>true):=fun i hi=>by
  rw[List.mem_range]at hi;have h1:i+1<l.length:=by omega
  have h2:i<l.length:=by omega
  rw[yaa h1,yaa h2];simp only;rw[c6x (hk _ (List.getElem_mem h1)) (hk _ (List.getElem_mem h2))];cases hlt:ltO l[i+1] l[i]with
  |true=>
   cases hlt2:ltO l[i] l[i+1]with
   |false=>rfl
   |true=>have:=b61 hlt hlt2;rw[c4l]at this;cases this
  |false=>
   cases hlt2:ltO l[i] l[i+1]with
   |true=>rfl
   |false=>
    have:=b65 ho (i+1) i _ _ (yaa h1) (yaa h2) (c4m hlt hlt2);omega
 constructor
 ·intro H i hi;rw[←key i hi];exact H i hi
 ·intro H i hi;rw[key i hi];exact H i hi
def rtO (l:List Off):Int:=bif decide (128<(l.length:Int)) then 13 else if b24 l==0 then (bif a81 l then (bif asB l then 0 else 3) else 7) else b24 l
theorem d0v {l:List Off} (hl:l.length<1000000):qb l=some (rtO l):=by
 unfold qb rtO;cases decide (128<(l.length:Int)) with
 |true=>rfl
 |false=>
  simp only[yao];rw[b9x (by omega)];by_cases h:b24 l=0
  ·rw[h];simp only[beq_self_eq_true,ybp];rw[b7d hl];cases ho:a81 l with
   |false=>rfl
   |true=>
    simp only[yah];rw[b74 hl];simp only;rw[c5j h ho];cases asB l<;>rfl
  ·rw[show (b24 l==0)=false by simpa using h];rfl
theorem d0u {l:List Off} (hl:l.length<1000000):qa l=some (rtO l):=by
 unfold qa rtO;cases decide (128<(l.length:Int)) with
 |true=>rfl
 |false=>
  simp only[yao];rw[b9w (by omega)];by_cases h:b24 l=0
  ·rw[h];simp only[beq_self_eq_true,ybp];rw[b69 hl];cases ho:a81 l with
   |false=>rfl
   |true=>
    simp only[yah];rcases Nat.eq_zero_or_pos l.length with h0|hpos
    ·have:l=[]:=yaF.1 h0;subst this;rw[b3m];rfl
    ·rw[b7b hl hpos];cases asB l<;>rfl
  ·rw[show (b24 l==0)=false by simpa using h];rfl
end
section
open Ev
open Go (IntKind)
set_option maxRecDepth 100000
def dec (n:Int):List UInt8:=b5p 20 n.natAbs []
theorem b1q {n:Int} (h0:0≤n) (h1:n≤9223372036854775807):qv n=some (dec n):=by
 unfold qv dec;rw[show (decide (-9223372036854775808≤n)&&decide (n≤9223372036854775807))=true by rw[yab,yac,yac];omega,
  show decide (n<0)=false by rw[yaj];omega]
 rfl
theorem b4v (s:List UInt8):(blI s).length=s.length:=ybl ..
end
section
open Ev
open Go (IntKind)
set_option maxRecDepth 100000
def g6 (c:UInt8):List UInt8→List UInt8×List UInt8×Bool
 | []=>([],[],false)
 |b::s=>if b=c then ([],s,true) else (b::(g6 c s).1,(g6 c s).2.1,(g6 c s).2.2)
theorem a35 (c:UInt8):∀s,(g6 c s).2.2=true→s=(g6 c s).1++c::(g6 c s).2.1
 | [],h=>by cases h
 |b::s,h=>by
  unfold g6 at h ⊢;by_cases hb:b=c
  ·rw[yas hb,hb];rfl
  ·rw[yai hb]at h ⊢;have:=a35 c s h;simp only[List.cons_append];rw[←this]
theorem a2f (c:UInt8):∀s,(g6 c s).2.2=false→(g6 c s).1=s∧(g6 c s).2.1=[]
 | [],h=>⟨rfl,rfl⟩
 |b::s,h=>by
  unfold g6 at h ⊢;by_cases hb:b=c
  ·rw[yas hb]at h;cases h
  ·rw[yai hb]at h ⊢;obtain ⟨h1,h2⟩:=a2f c s h;exact ⟨by simp only[h1],h2⟩
theorem a4w (c:UInt8):∀s,c∉(g6 c s).1
 | []=>by simp[g6]
 |b::s=>by
  unfold g6;by_cases hb:b=c
  ·rw[yas hb];simp
  ·rw[yai hb];simp only[yax,not_or];exact ⟨fun e=>hb e.symm,a4w c s⟩
theorem a34 (c:UInt8):∀s,Go.Lib.indexByte s c=(bif (g6 c s).2.2 then ((g6 c s).1.length:Int) else -1)
 | []=>rfl
 |b::s=>by
  unfold Go.Lib.indexByte g6;by_cases hb:b=c
  ·rw[yas (by simpa using hb),yas hb];rfl
  ·rw[yai (by simpa using hb),yai hb,a34 c s];cases (g6 c s).2.2
   ·rfl
   ·simp only[yah];have hne:¬((((g6 c s).1.length:Int) == -1)=true):=by
     intro e;have:=ya7.1 e;omega
    rw[yai hne];simp
theorem a1h (c:UInt8) (s:List UInt8):(g6 c s).2.2=true→(g6 c s).1.length+1+(g6 c s).2.1.length=s.length:=fun h=>by
 have:=congrArg List.length (a35 c s h);simp at this;omega
theorem a12 (c:UInt8) (s:List UInt8):(g6 c s).2.2=true→s.count c=(g6 c s).2.1.count c+1:=fun h=>by
 have:=congrArg (List.count c) (a35 c s h);rw[List.count_append,List.count_eq_zero_of_not_mem (a4w c s),List.count_cons_self]at this;omega
theorem a1s (c:UInt8) (s:List UInt8):(g6 c s).2.2=false→s.count c=0:=fun h=>by
 have:=a4w c s;rw[(a2f c s h).1]at this;exact List.count_eq_zero_of_not_mem this
theorem a68 (c:UInt8) (s:List UInt8) (h:(g6 c s).2.2=true):s.take (g6 c s).1.length=(g6 c s).1∧s.drop ((g6 c s).1.length+1)=(g6 c s).2.1:=by
 have e:=a35 c s h;generalize (g6 c s).1=t at e;generalize (g6 c s).2.1=r at e;subst e;exact ⟨by simp,by rw[←List.drop_drop];simp⟩
theorem d00:decide ((0:Int)≤0)=true:=rfl
theorem a2u {a b:Int} (h:a≤b):decide (a≤b)=true:=by rw[yac];exact h
theorem a2m {a b:Int} (h:a<b):decide (a<b)=true:=by rw[yac];exact h
theorem a3r {a b:Int} (h:¬a<b):decide (a<b)=false:=by rw[yaj];exact h
theorem d1k {a b:Int} (h:¬a≤b):decide (a≤b)=false:=by rw[yaj];exact h
theorem c8s {c:UInt8} {s:List UInt8} (hs:s.length<1000000000):qaa s [c]=some (g6 c s):=by
 unfold qaa;cases h:(g6 c s).2.2 with
 |true=>
  have hl:=a1h c s h;obtain ⟨h1,h2⟩:=a68 c s h;have hi:qd s [c]=some ((g6 c s).1.length:Int):=by
   show some (Go.Lib.indexByte s c)=_
   rw[a34,h];rfl
  rw[hi];dsimp only;rw[show wr .i64 (((g6 c s).1.length:Int)+(([c]:List UInt8).length:Int))=(((g6 c s).1.length+1:Nat):Int) by rw[List.length_singleton,a0b (by omega) (by omega)];omega];rw[a2u (show (0:Int)≤((g6 c s).1.length:Int) by omega),a2u (show ((g6 c s).1.length:Int)≤(s.length:Int) by omega),a2u (show (0:Int)≤(((g6 c s).1.length+1:Nat):Int) by omega),
   a2u (show (((g6 c s).1.length+1:Nat):Int)≤(s.length:Int) by omega),a2u (ybo (s.length:Int)),d00]
  simp only[ya2,yah,yaM,List.take_length,h1,h2,Int.toNat_zero,List.drop_zero];rw[←h]
 |false=>
  have hi:qd s [c]=some (-1):=by
   show some (Go.Lib.indexByte s c)=_
   rw[a34,h];rfl
  rw[hi];dsimp only;rw[show decide ((0:Int)≤-1)=false from rfl];obtain ⟨h1,h2⟩:=a2f c s h;simp only[yao];have:g6 c s=((g6 c s).1,(g6 c s).2.1,(g6 c s).2.2):=rfl;rw[this,h1,h2,h]
theorem c8z {c:UInt8} {s:List UInt8} (hs:s.length<1000000000):qas s [c]=some (g6 c s):=by
 unfold qas;rw[c8s hs]
def b2j (c:UInt8):Nat→List UInt8→List (List UInt8)
 |0,s=>[s]
 |k+1,s=>bif (g6 c s).2.2 then (g6 c s).1::b2j c k (g6 c s).2.1 else [s]
def m0 (c:UInt8) (s:List UInt8):List (List UInt8):=b2j c (s.count c) s
theorem a9a (c:UInt8):∀(k:Nat) (s:List UInt8),s.count c≤k→b2j c k s=m0 c s:=by
 intro k
 induction k with
 |zero=>intro s h;unfold m0;rw[show s.count c=0 by omega]
 |succ k ih=>
  intro s h;cases hf:(g6 c s).2.2 with
  |false=>
   unfold m0;rw[a1s c s hf];show (bif (g6 c s).2.2 then _ else _)=_
   rw[hf];rfl
  |true=>
   have hc:=a12 c s hf;unfold m0;rw[hc];show (bif (g6 c s).2.2 then _ else _)=(bif (g6 c s).2.2 then _ else _)
   rw[hf];simp only[yah];rw[ih _ (by omega)];rfl
theorem a0k (c:UInt8) (s:List UInt8):m0 c s=bif (g6 c s).2.2 then (g6 c s).1::m0 c (g6 c s).2.1 else [s]:=by
 cases hf:(g6 c s).2.2 with
 |false=>unfold m0;rw[a1s c s hf];rfl
 |true=>
  have hc:=a12 c s hf;rw[←a9a c (s.count c) s (yal _),hc];show (bif (g6 c s).2.2 then _ else _)=_
  rw[hf];simp only[yah];rw[a9a c _ _ (yal _)]
theorem b31:∀(k:Nat) (s:List UInt8) (dn:List (List UInt8)),s.count 32=k→s.length<1000000000→dn.length+k<1000000000→
 ∃(t:List UInt8) (l:List (List UInt8)),l.length=dn.length+k+1∧l3 a6u (k+1) (s,[32],0,((dn.length+k:Nat):Int),(dn.length:Int),dn++List.replicate (k+1) [],())=some (t,((dn.length+k:Nat):Int),l,())∧l.set (dn.length+k) t=dn++m0 32 s:=by
 intro k
 induction k with
 |zero=>
  intro s dn h0 hs hd;refine ⟨s,dn++List.replicate 1 [],by simp,?_,?_⟩
  ·simp only[l3,a6u,yaT];rw[show decide ((dn.length:Int)<(dn.length:Int))=false by simp];rfl
  ·have:(g6 32 s).2.2=false:=by
    cases hf:(g6 32 s).2.2 with
    |false=>rfl
    |true=>have:=a12 32 s hf;omega
   rw[a0k,this];simp[List.set_append]
 |succ k ih=>
  intro s dn h0 hs hd;have hf:(g6 32 s).2.2=true:=by
   cases hf:(g6 32 s).2.2 with
   |true=>rfl
   |false=>have:=a1s 32 s hf;omega
  have hl:=a1h 32 s hf;have hc:=a12 32 s hf;obtain ⟨h1,h2⟩:=a68 32 s hf;obtain ⟨t,l,e1,e2,e3⟩:=ih (g6 32 s).2.1 (dn++[(g6 32 s).1]) (by omega) (by omega) (by simp;omega);have en:(dn++[(g6 32 s).1]).length+k=dn.length+(k+1):=by simp;omega
  rw[en]at e1 e2 e3;refine ⟨t,l,by omega,?_,?_⟩
  ·rw[l3];simp only[a6u];rw[a2m (show (dn.length:Int)<((dn.length+(k+1):Nat):Int) by omega)];have hidx:qab s [32]=some (((g6 32 s).1.length:Nat):Int):=by
    show some (Go.Lib.indexByte s 32)=_
    rw[a34,hf];rfl
   rw[yah,hidx];dsimp only;rw[a3r (show ¬((g6 32 s).1.length:Int)<0 by omega)];rw[show wr .i64 (((g6 32 s).1.length:Int)+0)=((g6 32 s).1.length:Int) by rw[a0b (by omega) (by omega)];omega,
    show wr .i64 (((g6 32 s).1.length:Int)+(([32]:List UInt8).length:Int))=(((g6 32 s).1.length+1:Nat):Int) by rw[List.length_singleton,a0b (by omega) (by omega)];omega]
   rw[d00,a2u (show (0:Int)≤((g6 32 s).1.length:Int) by omega),a2u (show ((g6 32 s).1.length:Int)≤(s.length:Int) by omega),a2u (show (0:Int)≤(((g6 32 s).1.length+1:Nat):Int) by omega),
    a2u (show (((g6 32 s).1.length+1:Nat):Int)≤(s.length:Int) by omega),a2u (ybo (s.length:Int)),k5,yaM,j5 (by omega)]
   have hg:(dn++List.replicate (k+1+1) ([]:List UInt8))[dn.length]?=some []:=by simp
   simp only[hg,ya2,yah,yao,yaM,List.take_length,h1,h2,Int.toNat_zero,List.drop_zero];have hset:(dn++List.replicate (k+1+1) ([]:List UInt8)).set dn.length (g6 32 s).1=(dn++[(g6 32 s).1])++List.replicate (k+1) []:=by
    rw[List.set_append_right _ _ (yal _),Nat.sub_self,List.replicate_succ,List.set_cons_zero];simp
   rw[hset];have en2:(dn++[(g6 32 s).1]).length=dn.length+1:=by simp
   rw[en2]at e2;exact e2
  ·rw[e3,a0k 32 s,hf];simp
theorem b30 (c:UInt8):∀(k:Nat) (s:List UInt8),s.count c=k→(m0 c s).length=k+1:=by
 intro k
 induction k with
 |zero=>intro s h;unfold m0;rw[h];rfl
 |succ k ih=>
  intro s h;have hf:(g6 c s).2.2=true:=by
   cases hf:(g6 c s).2.2 with
   |true=>rfl
   |false=>have:=a1s c s hf;omega
  have hc:=a12 c s hf;rw[a0k,hf];simp only[yah,yaS];rw[ih _ (by omega)]
theorem c06 {s:List UInt8} (hs:s.length<100000000):qav s [32]=some (m0 32 s):=by
 unfold qav qn;rw[show ((-1:Int)==0)=false from rfl,show (([32]:List UInt8)==[])=false from rfl,show decide ((-1:Int)<0)=true from rfl];have hcnt:qac s [32]=some ((s.count 32:Nat):Int):=rfl;have hcl:s.count 32≤s.length:=List.count_le_length;simp -zeta only[yah,yao,hcnt];rw[j5 (by omega),j5 (by omega)];simp only;rw[yai (show ¬((s.length+1:Nat):Int)<((s.count 32+1:Nat):Int) by omega)];rw[a2u (show (0:Int)≤((s.count 32+1:Nat):Int) by omega),a2u (show ((s.count 32+1:Nat):Int)≤(LIM:Int) by rw[a6e];omega)];rw[show wr .i64 (((s.count 32+1:Nat):Int)-1)=((s.count 32:Nat):Int) from b00 (by omega),yaM];obtain ⟨t,l,e1,e2,e3⟩:=b31 (s.count 32) s [] rfl (by omega) (by simp;omega);have e2:l3 a6u (s.count 32+1) (s,[32],0,((s.count 32:Nat):Int),0,List.replicate (s.count 32+1) [],())=some (t,((s.count 32:Nat):Int),l,()):=by
  simpa using e2
 rw[o1 _ (by rw[w3];omega) e2];simp only[beq_self_eq_true,ya2,yah];simp at e1 e3;rw[k5,yaM,yaa (show s.count 32<l.length by omega),j5 (by omega)];simp only;rw[d00,a2u (show (0:Int)≤((s.count 32+1:Nat):Int) by omega),a2u (show ((s.count 32+1:Nat):Int)≤((l.set (s.count 32) t).length:Int) by rw[List.length_set];omega)];simp only[ya2,yah,yaM,Int.toNat_zero,List.drop_zero];rw[List.take_of_length_le (by rw[List.length_set];omega),e3]
theorem d02 {s:List UInt8} (hs:s.length<1000000000):qq s=some (g6 32 s):=by
 unfold qq;have key:∀(k:Nat) (dn r:List UInt8),r.length=k→s=dn++r→32∉dn→
  l3 b3t (k+1) (s,(dn.length:Int),())=some (bif (g6 32 r).2.2 then .inr (dn++(g6 32 r).1,(g6 32 r).2.1,true,()) else .inl (s,())):=by
  intro k
  induction k with
  |zero=>
   intro dn r h0 hs' hf;have hr:r=[]:=yaF.1 h0;subst hr;simp only[l3,b3t];rw[a3r (show ¬(dn.length:Int)<(s.length:Int) by rw[hs'];simp)];rfl
  |succ k ih=>
   intro dn r h0 hs' hf
   match r,h0 with
   |b::r,h0=>
   have hlen:dn.length+(r.length+1)=s.length:=by rw[hs'];simp
   rw[l3];simp only[b3t];rw[a2m (show (dn.length:Int)<(s.length:Int) by omega),k5,show s[dn.length]?=some b by rw[hs'];simp];simp only[yah];by_cases hb:b=32
   ·subst hb;rw[show (((32:UInt8).toNat:Int)==32)=true from rfl,d00,a2u (show (0:Int)≤(dn.length:Int) by omega),a2u (show (dn.length:Int)≤(s.length:Int) by omega),j5 (by omega),
     a2u (show (0:Int)≤((dn.length+1:Nat):Int) by omega),a2u (show ((dn.length+1:Nat):Int)≤(s.length:Int) by omega),a2u (ybo (s.length:Int))]
    simp only[ya2,yah,yaM,List.take_length,Int.toNat_zero,List.drop_zero];have hc:g6 32 (32::r)=([],r,true):=by simp[g6]
    rw[hc];simp only[yah,List.append_nil];rw[hs'];simp[List.drop_append]
   ·rw[show ((b.toNat:Int)==32)=false by
     rw[yaI];intro e;apply hb;apply UInt8.toNat_inj.1;have:b.toNat=32:=by omega
     rw[this];rfl]
    simp only[yao];rw[j5 (by omega)];have:=ih (dn++[b]) r (by simpa using h0) (by rw[hs'];simp) (by simp;exact ⟨hf,fun e=>hb e.symm⟩);have hc:g6 32 (b::r)=(b::(g6 32 r).1,(g6 32 r).2.1,(g6 32 r).2.2):=by simp[g6,hb]
    rw[hc];simp only[ya0,yaS,ybk,yaE]at this;rw[this];simp
 have h:=key s.length [] s rfl rfl (by simp);have h:l3 b3t (s.length+1) (s,0,())=_:=h;rw[o1 _ (by rw[w3];omega) h];cases hf:(g6 32 s).2.2 with
 |true=>
  simp only[yah,List.nil_append];rw[←hf]
 |false=>
  simp only[yao];obtain ⟨h1,h2⟩:=a2f 32 s hf;have:g6 32 s=((g6 32 s).1,(g6 32 s).2.1,(g6 32 s).2.2):=rfl;rw[this,h1,h2,hf]
theorem b34:∀(k:Nat) (s:List UInt8) (m:Bool) (l:List (List UInt8)),l.length+k=8→s.length<1000000000→(m=false→s=[])→
 l3 b7i (k+1) (s,m,l,())=some (l++(bif m then (m0 32 s).take k else []),()):=by
 intro k
 induction k with
 |zero=>
  intro s m l hl hs hm;simp only[l3,b7i];rw[show decide ((l.length:Int)<8)=false by rw[yaj];omega];cases m<;>simp
 |succ k ih=>
  intro s m l hl hs hm;rw[l3];simp only[b7i];cases m with
  |false=>simp
  |true=>
   simp only[yah];rw[a2m (show (l.length:Int)<8 by omega),d02 hs];simp only[yah,yaS,ybk];rw[show decide (l.length+(0+1)≤LIM)=true by rw[yac,a6e];omega];simp only[yah];cases hf:(g6 32 s).2.2 with
   |true=>
    have hln:=a1h 32 s hf;rw[ih (g6 32 s).2.1 true (l++[(g6 32 s).1]) (by simp;omega) (by omega) (fun e=>by cases e),a0k 32 s,hf];simp
   |false=>
    obtain ⟨h1,h2⟩:=a2f 32 s hf;rw[ih (g6 32 s).2.1 false (l++[(g6 32 s).1]) (by simp;omega) (by rw[h2];simp) (fun _=>h2),a0k 32 s,hf,h1];simp
theorem d04 {s:List UInt8} (hs:s.length<1000000000):qs s=some ((m0 32 s).take 8):=by
 unfold qs;rw[o1 9 (by rw[w3];omega) (b34 8 s true [] rfl hs (fun e=>by cases e))];rfl
end
section
open Ev
open Go (IntKind)
set_option maxRecDepth 100000
def dgt (c:UInt8):Bool:=decide (48≤c.toNat)&&decide (c.toNat≤57)
def val:List UInt8→Nat→Nat
 | [],a=>a
 |c::r,a=>val r (10*a+(c.toNat-48))
def nlz (s:List UInt8):Bool:=decide (s.length=1)||!(s.head?==some 48)
def a0j (s:List UInt8):Bool:=(decide (1≤s.length)&&decide (s.length≤9))&&(nlz s&&s.all dgt)
theorem a7p:∀(w:List UInt8) (c:UInt8) (a:Nat),val (w++[c]) a=10*val w a+(c.toNat-48)
 | [],c,a=>rfl
 |d::w,c,a=>by simp only[List.cons_append,val];exact a7p w c _
theorem a5w:∀(s:List UInt8) (a:Nat),s.all dgt=true→a*10 ^ s.length≤val s a∧val s a<(a+1)*10 ^ s.length
 | [],a,_=>by simp[val]
 |c::s,a,h=>by
  simp only[yba,yab,dgt,yac]at h;obtain ⟨h1,h2⟩:=a5w s (10*a+(c.toNat-48)) h.2;simp only[val,yaS,Nat.pow_succ];have e1:a*(10 ^ s.length*10)≤(10*a+(c.toNat-48))*10 ^ s.length:=by
   rw[ybc (10 ^ s.length) 10,←Nat.mul_assoc];exact yaA _ (by omega)
  have e2:(10*a+(c.toNat-48)+1)*10 ^ s.length≤(a+1)*(10 ^ s.length*10):=by
   rw[ybc (10 ^ s.length) 10,←Nat.mul_assoc];exact yaA _ (by omega)
  omega
theorem b42 (c:UInt8) (h:dgt c=true):UInt8.ofNat (48+(c.toNat-48))=c:=by
 simp only[dgt,yab,yac]at h;apply UInt8.toNat_inj.1;rw[show 48+(c.toNat-48)=c.toNat by omega];simp
theorem a3a {u:Nat} (h:u<10):(UInt8.ofNat (48+u)).toNat=48+u:=by
 have:u=0∨u=1∨u=2∨u=3∨u=4∨u=5∨u=6∨u=7∨u=8∨u=9:=by omega
 rcases this with rfl|rfl|rfl|rfl|rfl|rfl|rfl|rfl|rfl|rfl<;>rfl
theorem b5q:∀(f u:Nat) (a:List UInt8),u<10 ^ f→1≤f→∃w,b5p f u a=w++a∧w≠[]∧w.all dgt=true∧nlz w=true∧val w 0=u∧(1≤u→w.head?≠some 48):=by
 intro f
 induction f with
 |zero=>intro u a _ h;omega
 |succ f ih=>
  intro u a hu _;rw[b5p];by_cases h:u<10
  ·rw[show decide (u<10)=true by rw[yac];exact h];refine ⟨[UInt8.ofNat (48+u)],rfl,by simp,by simp[dgt,a3a h];omega,by simp[nlz],by show 10*0+((UInt8.ofNat (48+u)).toNat-48)=u;rw[a3a h];omega,fun h1 e=>?_⟩;simp only[List.head?_cons,yae]at e;have:=congrArg UInt8.toNat e;rw[a3a h]at this;have e48:(48:UInt8).toNat=48:=rfl;omega
  ·rw[show decide (u<10)=false by rw[yaj];exact h];have hf:1≤f:=by
    rcases f with _|f
    ·simp at hu;omega
    ·omega
   obtain ⟨w,e1,e2,e3,e4,e5,e6⟩:=ih (u / 10) (UInt8.ofNat (48+u % 10)::a) (by rw[Nat.div_lt_iff_lt_mul (by omega)];rw[Nat.pow_succ]at hu;exact hu) hf;have hm:u % 10<10:=Nat.mod_lt _ (by omega);have hh:w.head?≠some 48:=e6 (by omega)
   match w,e2,hh with
   |b::w,_,hh=>
   have hh':b≠48:=fun e=>hh (by simp[e])
   refine ⟨(b::w)++[UInt8.ofNat (48+u % 10)],by simp only[yao];rw[e1];simp,by simp,?_,?_,?_,fun _=>?_⟩
   ·rw[List.all_append,e3];simp[dgt,a3a hm];omega
   ·simp[nlz,hh']
   ·rw[a7p,e5,a3a hm];omega
   ·simp[hh']
theorem b8x:∀(f:Nat) (s:List UInt8) (a:List UInt8),s.length≤f→s≠[]→s.all dgt=true→nlz s=true→b5p f (val s 0) a=s++a:=by
 intro f
 induction f with
 |zero=>intro s a h h0;exact absurd (yaF.1 (by omega)) h0
 |succ f ih=>
  intro s a hl h0 hd hn;obtain ⟨w,c,rfl⟩:∃w c,s=w++[c]:=⟨s.dropLast,s.getLast h0,(List.dropLast_concat_getLast h0).symm⟩
  rw[List.all_append,yab]at hd;have hc:dgt c=true:=by simpa using hd.2
  have hc':=hc;simp only[dgt,yab,yac]at hc';rw[a7p,b5p];by_cases hw:w=[]
  ·subst hw;show (bif decide (10*0+(c.toNat-48)<10) then _ else _)=_
   rw[show decide (10*0+(c.toNat-48)<10)=true by rw[yac];omega];show UInt8.ofNat (48+(10*0+(c.toNat-48)))::a=_
   rw[Nat.mul_zero,yaE,b42 c hc];rfl
  ·match w,hw with
   |b::w,_=>
   have hb:b≠48:=by
    intro e;simp[nlz,e]at hn
   have hb':dgt b=true:=by simp at hd;exact hd.1.1
   have h1:1≤val (b::w) 0:=by
    have hbb:=hb';simp only[dgt,yab,yac]at hbb;have hbn:b.toNat≠48:=fun e=>hb (UInt8.toNat_inj.1 (by rw[e];rfl))
    have hwd:w.all dgt=true:=by have:=hd.1;rw[yba,yab]at this;exact this.2
    have:=(a5w w (10*0+(b.toNat-48)) hwd).1;have hp:0<10 ^ w.length:=Nat.pow_pos (show 0<10 by omega);have h2:1*10 ^ w.length≤(10*0+(b.toNat-48))*10 ^ w.length:=yaA _ (by omega);simp only[val];omega
   rw[show decide (10*val (b::w) 0+(c.toNat-48)<10)=false by rw[yaj];omega];simp only[yao];rw[show (10*val (b::w) 0+(c.toNat-48)) / 10=val (b::w) 0 by omega,show (10*val (b::w) 0+(c.toNat-48)) % 10=c.toNat-48 by omega,b42 c hc,
    ih (b::w) (c::a) (by simp at hl ⊢;omega) (by simp) hd.1 (by simp[nlz,hb])]
   simp
theorem d1n:(10:Nat) ^ 9=1000000000:=by decide
theorem a1x {s:List UInt8} (h:a0j s=true):1≤s.length∧s.length≤9∧nlz s=true∧s.all dgt=true:=by
 unfold a0j at h;simp only[yab,yac]at h;exact ⟨h.1.1,h.1.2,h.2.1,h.2.2⟩
theorem c1p {s:List UInt8} (h:s.all dgt=true) (hl:s.length≤9):val s 0<1000000000:=by
 have h1:=(a5w s 0 h).2;have h2:(10:Nat) ^ s.length≤10 ^ 9:=Nat.pow_le_pow_right (by omega) hl;rw[d1n]at h2;omega
theorem c3c {s:List UInt8} (h:a0j s=true):dec ((val s 0:Nat):Int)=s:=by
 obtain ⟨h1,h2,h3,h4⟩:=a1x h;unfold dec;rw[Int.natAbs_natCast,b8x 20 s [] (by omega) (fun e=>by subst e;simp at h1) h4 h3,List.append_nil]
theorem c3b {n:Int} (h0:0≤n) (h1:n≤9223372036854775807) (hl:(dec n).length≤9):a0j (dec n)=true∧((val (dec n) 0:Nat):Int)=n:=by
 have hp:(10:Nat) ^ 20=100000000000000000000:=by decide
 obtain ⟨w,e1,e2,e3,e4,e5,-⟩:=b5q 20 n.natAbs [] (by omega) (by omega);have hd:dec n=w:=by unfold dec;rw[e1,List.append_nil]
 rw[hd]at hl ⊢;refine ⟨?_,by rw[e5];omega⟩;unfold a0j;simp only[yab,yac];refine ⟨⟨?_,hl⟩,e4,e3⟩;rcases w with _|⟨b,w⟩
 ·exact absurd rfl e2
 ·simp
theorem a3s:∀(s:List UInt8) (a:Nat),s.all dgt=true→a*10 ^ s.length+10 ^ s.length≤1000000000000000000→Go.Lib.parseUint10 a s=.ok (val s a)
 | [],a,_,_=>rfl
 |c::s,a,h,hb=>by
  simp only[yba,yab]at h;have hc:=h.1;simp only[dgt,yab,yac]at hc;simp only[yaS,Nat.pow_succ]at hb;have hp:0<10 ^ s.length:=Nat.pow_pos (show 0<10 by omega);have ha:a<1000000000000000000:=by
   rcases ybb a 1000000000000000000 with h|h
   ·exact h
   ·have:1000000000000000000*1≤a*(10 ^ s.length*10):=Nat.mul_le_mul h (by omega);omega
  simp only[Go.Lib.parseUint10];rw[yas hc,yai (by omega),yai (by omega),ybc a 10];refine a3s s _ h.2 ?_;have e:(10*a+(c.toNat-48))*10 ^ s.length+10 ^ s.length≤a*(10 ^ s.length*10)+10 ^ s.length*10:=by
   have:(10*a+(c.toNat-48))*10 ^ s.length≤(10*a+9)*10 ^ s.length:=yaA _ (by omega);have e2:(10*a+9)*10 ^ s.length=a*(10 ^ s.length*10)+9*10 ^ s.length:=by rw[yaV,ybc (10 ^ s.length) 10,←Nat.mul_assoc,ybc a 10]
   omega
  omega
theorem a1f {s:List UInt8} (h:s.all dgt=true) (h1:1≤s.length) (h2:s.length≤9):Go.Lib.atoiAll s=.ok ((val s 0:Nat):Int):=by
 match s,h1 with
 |c::r,_=>
 have hc:dgt c=true:=by simp at h;exact h.1
 simp only[dgt,yab,yac]at hc;have hv:=c1p h h2;have hpw:(10:Nat) ^ (c::r).length≤10 ^ 9:=Nat.pow_le_pow_right (by omega) h2;rw[d1n]at hpw;unfold Go.Lib.atoiAll;simp only;rw[yai (show ¬(c.toNat=43∨c.toNat=45) by omega)];unfold Go.Lib.parseMag;rw[yai (by simp),a3s _ 0 h (by rw[Nat.zero_mul];omega)];simp only;rw[yai (by omega),yai (by omega),yai (by omega)]
theorem b09 {s:List UInt8} (hs:s.length≤1000000):∃n b,qf s=some (n,b)∧(-9223372036854775808≤n∧n≤9223372036854775807)∧(a0j s=true→n=((val s 0:Nat):Int)∧b=true):=by
 have ha:qf s=some (match Go.Lib.atoiAll s with | .ok n=>(n,true) | .range=>(Go.Lib.atoiSat s,false)|_=>(0,false)):=by
  unfold qf;rw[show decide (s.length≤LIM)=true by rw[yac,a6e];omega];rfl
 cases hn:Go.Lib.atoiAll s with
 |ok n=>
  refine ⟨n,true,by rw[ha,hn],?_,fun h=>?_⟩
  ·unfold Go.Lib.atoiAll at hn;split at hn
   ·cases hn
   ·simp only at hn;split at hn
    ·cases hn
    ·cases hn
    ·split at hn
     ·cases hn
     ·split at hn
      ·cases hn
      ·injection hn with hn;split at hn<;>omega
  ·obtain ⟨h1,h2,h3,h4⟩:=a1x h;rw[a1f h4 h1 h2]at hn;injection hn with hn;exact ⟨hn.symm,rfl⟩
 |range=>
  refine ⟨_,false,by rw[ha,hn],?_,fun h=>?_⟩
  ·unfold Go.Lib.atoiSat;split<;>omega
  ·obtain ⟨h1,h2,h3,h4⟩:=a1x h;rw[a1f h4 h1 h2]at hn;cases hn
 |_=>
  refine ⟨0,false,by rw[ha,hn],by omega,fun h=>?_⟩;obtain ⟨h1,h2,h3,h4⟩:=a1x h;rw[a1f h4 h1 h2]at hn;cases hn
theorem b90:∀(k:Nat) (s dn r:List UInt8) (a:Nat),r.length=k→s=dn++r→s.length≤9→dn.all dgt=true→a=val dn 0→
 l3 b3q (k+1) (s,(a:Int),(dn.length:Int),())=some (bif r.all dgt then .inl (((val s 0:Nat):Int),()) else .inr (0,false,())):=by
 intro k
 induction k with
 |zero=>
  intro s dn r a h0 hs hl hd ha;have hr:r=[]:=yaF.1 h0;subst hr;rw[List.append_nil]at hs;subst hs;simp only[l3,b3q];rw[a3r (show ¬(s.length:Int)<(s.length:Int) by omega),ha];rfl
 |succ k ih=>
  intro s dn r a h0 hs hl hd ha
  match r,h0 with
  |b::r,h0=>
  have hlen:dn.length+(r.length+1)=s.length:=by rw[hs];simp
  rw[l3];simp only[b3q];rw[a2m (show (dn.length:Int)<(s.length:Int) by omega),k5,show s[dn.length]?=some b by rw[hs];simp];simp only[yah,yba];have hb0:b.toNat<256:=b.toNat_lt;by_cases hb:dgt b=true
  ·have hb':=hb;simp only[dgt,yab,yac]at hb';rw[show decide ((b.toNat:Int)<48)=false by rw[yaj];omega,show decide ((57:Int)<(b.toNat:Int))=false by rw[yaj];omega];simp only[yao,hb,Bool.true_and];have hav:a<1000000000:=by rw[ha];exact c1p hd (by omega)
   have e1:wr .u8 ((b.toNat:Int)-48)=((b.toNat-48:Nat):Int):=by
    unfold wr IntKind.wrap;simp only[IntKind.bits,IntKind.signed];have:((b.toNat:Int)-48)=((b.toNat-48:Nat):Int):=by omega
    rw[this];have h9:b.toNat-48≤9:=by omega
    generalize b.toNat-48=u at h9;have:u=0∨u=1∨u=2∨u=3∨u=4∨u=5∨u=6∨u=7∨u=8∨u=9:=by omega
    rcases this with rfl|rfl|rfl|rfl|rfl|rfl|rfl|rfl|rfl|rfl<;>rfl
   rw[e1,j5 (by omega)];rw[show wr .i64 (wr .i64 ((a:Int)*10)+wr .i64 ((b.toNat-48:Nat):Int))=((10*a+(b.toNat-48):Nat):Int) by
    rw[a0b (n:=(a:Int)*10) (by omega) (by omega),a0b (n:=((b.toNat-48:Nat):Int)) (by omega) (by omega),a0b (by omega) (by omega)];omega]
   have:=ih s (dn++[b]) r (10*a+(b.toNat-48)) (by simpa using h0) (by rw[hs];simp) hl (by rw[List.all_append,hd];simp[hb]) (by rw[a7p,ha]);simp only[ya0,yaS,ybk,yaE]at this;rw[this]
  ·have hb':¬(48≤b.toNat∧b.toNat≤57):=by simpa[dgt]using hb
   have hbf:dgt b=false:=by simpa using hb
   rw[hbf];by_cases h48:(b.toNat:Int)<48
   ·rw[a2m h48];rfl
   ·rw[a3r h48,a2m (show (57:Int)<(b.toNat:Int) by omega)];rfl
theorem a7l (s:List UInt8) (hs:s.length≤1000000):qi s=some (if a0j s then (((val s 0:Nat):Int),true) else (0,false)):=by
 unfold qi;dsimp only;by_cases h1:(s.length:Int)<1
 ·rw[a2m h1];have:a0j s=false:=by unfold a0j;rw[show decide (1≤s.length)=false by rw[yaj];omega];rfl
  rw[this];rfl
 ·rw[a3r h1];simp only[yao];by_cases h9:(9:Int)<(s.length:Int)
  ·rw[a2m h9];have:a0j s=false:=by unfold a0j;rw[show decide (s.length≤9)=false by rw[yaj];omega];simp
   rw[this];rfl
  ·rw[a3r h9];simp only[yao]
   match s,h1,h9 with
   |b::r,h1,h9=>
   rw[show m3 (b::r) 0=some b from rfl];dsimp only;have hlp:=b90 (b::r).length (b::r) [] (b::r) 0 rfl rfl (by omega) rfl rfl;have hlp:l3 b3q ((b::r).length+1) (b::r,0,0,())=_:=hlp;have hw:=o1 _ (by rw[w3];omega) hlp;have hnum:a0j (b::r)=(nlz (b::r)&&(b::r).all dgt):=by
    unfold a0j;rw[show decide (1≤(b::r).length)=true by simp,show decide ((b::r).length≤9)=true by rw[yac];omega];rfl
   rw[hnum];have hb48:((b.toNat:Int)==48)=(b==48):=by
    rw[yaZ,ya7,ya7];constructor
    ·intro e;apply UInt8.toNat_inj.1;have:b.toNat=48:=by omega
     rw[this];rfl
    ·intro e;rw[e];rfl
   rw[hb48,hw];by_cases hz:(b==48)=true
   ·rw[hz];simp only[yah];by_cases hl:(1:Int)<((b::r).length:Int)
    ·rw[a2m hl];have:nlz (b::r)=false:=by
      unfold nlz;rw[show decide ((b::r).length=1)=false by rw[yaj];omega];simpa using hz
     rw[this];rfl
    ·rw[a3r hl];have:nlz (b::r)=true:=by
      unfold nlz;have h11:1≤(b::r).length:=by simp
      rw[show decide ((b::r).length=1)=true by rw[yac];omega];rfl
     rw[this];cases (b::r).all dgt<;>rfl
   ·have hz:(b==48)=false:=by simpa using hz
    rw[hz];have:nlz (b::r)=true:=by
     unfold nlz;simp only[List.head?_cons];rw[show ((some b:Option UInt8)==some 48)=false by simpa using hz];simp
    rw[this];cases (b::r).all dgt<;>rfl
end
section
open Ev
open Go (IntKind)
set_option maxRecDepth 100000
def b38 (y m:Nat):Int:=bif decide (1900≤y∧y<2200∧1≤m∧m≤12) then bf (lpN (y-1900)) (m+1)-bf (lpN (y-1900)) m else 0
def ofS (y m d:Nat):Int×Int:=bif decide (d<1)||decide (b38 y m<(d:Int)) then (0,2) else (ny (y-1900)+bf (lpN (y-1900)) m+d-1,0)
theorem c8v (y m:Nat):qaf (y:Int) (m:Int)=some (b38 y m):=by
 unfold qaf b38;dsimp only;by_cases h1:y<1900
 ·rw[a2m (show (y:Int)<1900 by omega),show decide (1900≤y∧y<2200∧1≤m∧m≤12)=false by rw[yaj];omega];rfl
 ·rw[a3r (show ¬(y:Int)<1900 by omega)];simp only[yao];by_cases h2:2199<y
  ·rw[a2m (show (2199:Int)<(y:Int) by omega),show decide (1900≤y∧y<2200∧1≤m∧m≤12)=false by rw[yaj];omega];rfl
  ·rw[a3r (show ¬(2199:Int)<(y:Int) by omega)];simp only[yao];by_cases h3:m<1
   ·rw[a2m (show (m:Int)<1 by omega),show decide (1900≤y∧y<2200∧1≤m∧m≤12)=false by rw[yaj];omega];rfl
   ·rw[a3r (show ¬(m:Int)<1 by omega)];simp only[yao];by_cases h4:12<m
    ·rw[a2m (show (12:Int)<(m:Int) by omega),show decide (1900≤y∧y<2200∧1≤m∧m≤12)=false by rw[yaj];omega];rfl
    ·rw[a3r (show ¬(12:Int)<(m:Int) by omega),show decide (1900≤y∧y<2200∧1≤m∧m≤12)=true by rw[yac];omega,c4w];have hl:lp (y:Int)=lpN (y-1900):=by unfold lpN;rw[show 1900+(y-1900)=y by omega]
     rw[hl];generalize lpN (y-1900)=l;have:m=1∨m=2∨m=3∨m=4∨m=5∨m=6∨m=7∨m=8∨m=9∨m=10∨m=11∨m=12:=by omega
     rcases this with rfl|rfl|rfl|rfl|rfl|rfl|rfl|rfl|rfl|rfl|rfl|rfl<;>cases l<;>rfl
theorem qag_eq' (y m:Nat):qag (y:Int) (m:Int)=some (b38 y m):=by
 by_cases h:1900≤y∧y<2200∧1≤m∧m≤12
 ·have e:=b7c (n:=y-1900) (m:=m) (by omega) h.2.2.1 h.2.2.2;rw[show 1900+(y-1900)=y by omega]at e;rw[e];unfold b38;rw[show decide (1900≤y∧y<2200∧1≤m∧m≤12)=true by rw[yac];exact h];rfl
 ·have e:b38 y m=0:=by
   unfold b38;rw[show decide (1900≤y∧y<2200∧1≤m∧m≤12)=false by rw[yaj];exact h];rfl
  rw[e];unfold qag;dsimp only;by_cases h1:y<1900
  ·rw[a2m (show (y:Int)<1900 by omega)];rfl
  ·rw[a3r (show ¬(y:Int)<1900 by omega)];simp only[yao];by_cases h2:2199<y
   ·rw[a2m (show (2199:Int)<(y:Int) by omega)];rfl
   ·rw[a3r (show ¬(2199:Int)<(y:Int) by omega)];simp only[yao];by_cases h3:m<1
    ·rw[a2m (show (m:Int)<1 by omega)];rfl
    ·rw[a3r (show ¬(m:Int)<1 by omega),a2m (show (12:Int)<(m:Int) by omega)];rfl
theorem b1x {y m d:Nat} (h1:¬d<1) (h2:¬b38 y m<(d:Int)):1900≤y∧y<2200∧1≤m∧m≤12∧b38 y m=bf (lpN (y-1900)) (m+1)-bf (lpN (y-1900)) m:=by
 unfold b38 at h2 ⊢;by_cases h:1900≤y∧y<2200∧1≤m∧m≤12
 ·rw[show decide (1900≤y∧y<2200∧1≤m∧m≤12)=true by rw[yac];exact h];exact ⟨h.1,h.2.1,h.2.2.1,h.2.2.2,rfl⟩
 ·rw[show decide (1900≤y∧y<2200∧1≤m∧m≤12)=false by rw[yaj];exact h]at h2;simp only[yao]at h2;omega
theorem d07 (y m d:Nat):qz (y:Int) (m:Int) (d:Int)=some (ofS y m d):=by
 unfold qz ofS;dsimp only;rw[c8v];by_cases h1:d<1
 ·rw[a2m (show (d:Int)<1 by omega),show decide (d<1)=true by rw[yac];exact h1];rfl
 ·rw[a3r (show ¬(d:Int)<1 by omega),show decide (d<1)=false by rw[yaj];exact h1];simp only[yao,Bool.false_or];by_cases h2:b38 y m<(d:Int)
  ·rw[a2m h2];rfl
  ·rw[a3r h2];obtain ⟨a1,a2,a3,a4,a5⟩:=b1x h1 h2;have e1:=d03 (n:=y-1900) (by omega);rw[show 1900+(y-1900)=y by omega]at e1;have e2:=c83 (y:Int) a3 a4;have hl:lp (y:Int)=lpN (y-1900):=by unfold lpN;rw[show 1900+(y-1900)=y by omega]
   rw[hl]at e2;rw[e1,e2];simp only[yao];have hb:=a39 (n:=y-1900) (by omega);have hbb:=a32 (lpN (y-1900)) a3 (show m≤13 by omega);have hst:=a9q (lpN (y-1900)) m a3 a4;rw[a5]at h2;rw[a0b (n:=ny (y-1900)+bf (lpN (y-1900)) m) (by omega) (by omega),a0b (n:=ny (y-1900)+bf (lpN (y-1900)) m+(d:Int)) (by omega) (by omega),a0b (by omega) (by omega)]
theorem d0w (y m d:Nat):qe (y:Int) (m:Int) (d:Int)=some (ofS y m d):=by
 unfold qe ofS;dsimp only;rw[qag_eq'];by_cases h1:d<1
 ·rw[a2m (show (d:Int)<1 by omega),show decide (d<1)=true by rw[yac];exact h1];rfl
 ·rw[a3r (show ¬(d:Int)<1 by omega),show decide (d<1)=false by rw[yaj];exact h1];simp only[yao,Bool.false_or];by_cases h2:b38 y m<(d:Int)
  ·rw[a2m h2];rfl
  ·rw[a3r h2];simp only[yao];obtain ⟨a1,a2,a3,a4,a5⟩:=b1x h1 h2;obtain ⟨n,rfl⟩:∃n,y=1900+n:=⟨y-1900,by omega⟩
   rw[Nat.add_sub_cancel_left]at a5 ⊢;have hb:=a39 (n:=n) (by omega);have hbb:=a32 (lpN n) a3 (show m≤13 by omega);have hst:=a9q (lpN n) m a3 a4;rw[a5]at h2;have hw:=a5z (step:=b9y) (fun a=>∃i,i≤n∧a=(((1900+n:Nat):Int),(m:Int),(d:Int)-1+ny i,((1900+i:Nat):Int),())) (fun a=>(a.1-a.2.2.2.1).toNat) (fun _=>(((1900+n:Nat):Int),(m:Int),(d:Int)-1+ny n,())) (fun a ha=>by
    obtain ⟨i,hi,rfl⟩:=ha;simp only[b9y,c82 (show i<300 by omega)];have hbi:=a39 (n:=i) (by omega);by_cases e:i=n
    ·subst e;refine .inr ?_;rw[a3r (show ¬((1900+i:Nat):Int)<((1900+i:Nat):Int) by omega)];rfl
    ·refine .inl ⟨(((1900+n:Nat):Int),(m:Int),(d:Int)-1+ny (i+1),((1900+(i+1):Nat):Int),()),?_,⟨i+1,by omega,rfl⟩,by show (((1900+n:Nat):Int)-((1900+(i+1):Nat):Int)).toNat<(((1900+n:Nat):Int)-((1900+i:Nat):Int)).toNat;omega,trivial⟩;rw[a2m (show ((1900+i:Nat):Int)<((1900+n:Nat):Int) by omega)];simp only[yah];have hs:=b64 i;have hbi2:=a39 (n:=i+1) (by omega);rw[j5 (by omega),show wr .i64 ((d:Int)-1+ny i+yl (lpN i))=(d:Int)-1+ny (i+1) by rw[a0b (by omega) (by omega)];omega];rfl) (a:=(((1900+n:Nat):Int),(m:Int),(d:Int)-1,1900,())) ⟨0,by omega,by rw[d1l,Int.add_zero];rfl⟩ (by show (((1900+n:Nat):Int)-1900).toNat<a9k;rw[w3];omega)
   rw[a0b (n:=(d:Int)-1) (by omega) (by omega),hw];simp only;have hw2:=a5z (step:=b9z) (fun a=>∃i:Nat,1≤i∧i≤m∧a=(((1900+n:Nat):Int),(m:Int),(d:Int)-1+ny n+bf (lpN n) i,(i:Int),())) (fun a=>(a.2.1-a.2.2.2.1).toNat) (fun _=>((d:Int)-1+ny n+bf (lpN n) m,())) (fun a ha=>by
    obtain ⟨i,hi,hi2,rfl⟩:=ha;simp only[b9z,b7c (show n<300 by omega) hi (show i≤12 by omega)];have hbi:=a32 (lpN n) hi (show i≤13 by omega);by_cases e:i=m
    ·subst e;refine .inr ?_;rw[a3r (show ¬(i:Int)<(i:Int) by omega)];rfl
    ·refine .inl ⟨(((1900+n:Nat):Int),(m:Int),(d:Int)-1+ny n+bf (lpN n) (i+1),((i+1:Nat):Int),()),?_,⟨i+1,by omega,by omega,rfl⟩,by show ((m:Int)-((i+1:Nat):Int)).toNat<((m:Int)-(i:Int)).toNat;omega,trivial⟩;rw[a2m (show (i:Int)<(m:Int) by omega)];simp only[yah];have hbi2:=a32 (lpN n) (show 1≤i+1 by omega) (show i+1≤13 by omega);rw[j5 (by omega),show wr .i64 ((d:Int)-1+ny n+bf (lpN n) i+(bf (lpN n) (i+1)-bf (lpN n) i))=(d:Int)-1+ny n+bf (lpN n) (i+1) by rw[a0b (by omega) (by omega)];omega]) (a:=(((1900+n:Nat):Int),(m:Int),(d:Int)-1+ny n,1,())) ⟨1,by omega,a3,by show _=(_,_,(d:Int)-1+ny n+0,_,());rw[Int.add_zero];rfl⟩ (by show ((m:Int)-1).toNat<a9k;rw[w3];omega)
   rw[hw2];simp only;rw[show (d:Int)-1+ny n+bf (lpN n) m=ny n+bf (lpN n) m+(d:Int)-1 by omega]
def b20 (a b c d e f g h i j:UInt8):Int×Int:=
 bif (dgt a&&(dgt b&&(dgt c&&(dgt d&&((e==45)&&(dgt f&&(dgt g&&((h==45)&&(dgt i&&dgt j))))))))) then ofS (val [a,b,c,d] 0) (val [f,g] 0) (val [i,j] 0) else (0,3)
def w9 (s:List UInt8):Int×Int:=match s with
 | [a,b,c,d,e,f,g,h,i,j]=>b20 a b c d e f g h i j
 |_=>(0,3)
theorem ten {s:List UInt8} (h:s.length=10):∃a b c d e f g h i j,s=[a,b,c,d,e,f,g,h,i,j]:=by
 match s,h with
 | [a,b,c,d,e,f,g,h,i,j],_=>exact ⟨a,b,c,d,e,f,g,h,i,j,rfl⟩
theorem c05 {s:List UInt8} (h:s.length≠10):w9 s=(0,3):=by
 unfold w9;split
 ·exact absurd rfl h
 ·rfl
theorem b45 (e:UInt8):((e.toNat:Int)==45)=(e==45):=by
 rw[yaZ,ya7,ya7];constructor
 ·intro h;apply UInt8.toNat_inj.1;have:e.toNat=45:=by omega
  rw[this];rfl
 ·intro h;rw[h];rfl
theorem c8m (b:UInt8):(decide ((b.toNat:Int)<48)||decide ((57:Int)<(b.toNat:Int)))=!dgt b:=by
 unfold dgt;rw[yaZ];simp only[yaO,yac,yaz,Bool.and_eq_false_iff,yaj];omega
theorem c4u {t:List UInt8} (h1:1≤t.length) (h2:t.length≤9):qh t=some (bif t.all dgt then (((val t 0:Nat):Int),true) else (0,false)):=by
 unfold qh;have hw:=y4 (step:=b3p) (fun i=>(t,blI t,((blI t).length:Int),(i:Int),())) t (fun _ b=>dgt b) (.inr (0,false,())) (.inl (t,())) (by omega)
  (by simp only[b3p,b4v];rw[a3r (show ¬(t.length:Int)<(t.length:Int) by omega)];rfl)
  (fun i x hx=>by
   obtain ⟨hi,-⟩:=yaC.1 hx;simp only[b3p,b4v];have hg:(blI t)[i]?=some (x.toNat:Int):=by unfold blI;rw[yaG,hx];rfl
   rw[a2m (show (i:Int)<(t.length:Int) by omega),k5,hg];simp only[yah];have hn:=c8m x;rw[j5 (by omega)];cases hd:dgt x with
   |true=>
    rw[hd,yaQ,Bool.or_eq_false_iff]at hn;rw[hn.1,hn.2];rfl
   |false=>
    rw[hd,Bool.not_false,yaO]at hn;rcases hn with hn|hn
    ·rw[hn];rfl
    ·rw[hn];cases decide ((x.toNat:Int)<48)<;>rfl)
 rw[a1p]at hw;have hw:g8 b3p (t,blI t,((blI t).length:Int),0,())=_:=hw;rw[hw];cases hd:t.all dgt with
 |false=>rfl
 |true=>
  simp only[yah];have ha:qf t=some (((val t 0:Nat):Int),true):=by
   unfold qf;rw[show decide (t.length≤LIM)=true by rw[yac,a6e];omega,a1f hd h1 h2];rfl
  rw[ha]
theorem c84 {s:List UInt8} (hs:s.length<1000000000):qax s=some (w9 s):=by
 by_cases hl:s.length=10
 ·obtain ⟨a,b,c,d,e,f,g,h,i,j,rfl⟩:=ten hl;unfold qax;dsimp only;have g4:m3 [a,b,c,d,e,f,g,h,i,j] 4=some e:=rfl;have g7:m3 [a,b,c,d,e,f,g,h,i,j] 7=some h:=rfl;have t1:([a,b,c,d,e,f,g,h,i,j].take (4:Int).toNat).drop (0:Int).toNat=[a,b,c,d]:=rfl;have t2:([a,b,c,d,e,f,g,h,i,j].take (7:Int).toNat).drop (5:Int).toNat=[f,g]:=rfl;have t3:([a,b,c,d,e,f,g,h,i,j].take (([a,b,c,d,e,f,g,h,i,j].length:Int)).toNat).drop (8:Int).toNat=[i,j]:=rfl;rw[g4,g7,t1,t2,t3,c4u (t:=[a,b,c,d]) (by simp) (by simp),c4u (t:=[f,g]) (by simp) (by simp),c4u (t:=[i,j]) (by simp) (by simp)];dsimp only;rw[show (!((([a,b,c,d,e,f,g,h,i,j]:List UInt8).length:Int)==10))=false from rfl,
   show (decide (0≤(0:Int))&&(decide ((0:Int)≤4)&&decide ((4:Int)≤(([a,b,c,d,e,f,g,h,i,j]:List UInt8).length:Int))))=true from rfl,
   show (decide (0≤(5:Int))&&(decide ((5:Int)≤7)&&decide ((7:Int)≤(([a,b,c,d,e,f,g,h,i,j]:List UInt8).length:Int))))=true from rfl,
   show (decide (0≤(8:Int))&&(decide ((8:Int)≤(([a,b,c,d,e,f,g,h,i,j]:List UInt8).length:Int))&&decide ((([a,b,c,d,e,f,g,h,i,j]:List UInt8).length:Int)≤(([a,b,c,d,e,f,g,h,i,j]:List UInt8).length:Int))))=true from rfl]
  rw[b45,b45];show _=some (b20 a b c d e f g h i j)
  unfold b20;have e1:[a,b,c,d].all dgt=(dgt a&&(dgt b&&(dgt c&&dgt d))):=by simp
  have e2:[f,g].all dgt=(dgt f&&dgt g):=by simp
  have e3:[i,j].all dgt=(dgt i&&dgt j):=by simp
  have e4:(dgt a&&(dgt b&&(dgt c&&(dgt d&&((e==45)&&(dgt f&&(dgt g&&((h==45)&&(dgt i&&dgt j)))))))))=([a,b,c,d].all dgt&&((e==45)&&([f,g].all dgt&&((h==45)&&[i,j].all dgt)))):=by
   rw[e1,e2,e3];simp only[Bool.and_assoc]
  rw[e4];have ho:=d07 (val [a,b,c,d] 0) (val [f,g] 0) (val [i,j] 0);generalize [a,b,c,d].all dgt=x1;generalize [f,g].all dgt=x2;generalize [i,j].all dgt=x3;generalize (e==45)=x4;generalize (h==45)=x5;cases x4
  ·cases x1<;>rfl
  cases x5
  ·cases x1<;>cases x2<;>rfl
  cases x1
  ·cases x2<;>cases x3<;>rfl
  cases x2
  ·cases x3<;>rfl
  cases x3
  ·rfl
  simp only[yaQ,yao,yah,ya2];rw[ho]
 ·rw[c05 hl];unfold qax;dsimp only;rw[show ((s.length:Int)==10)=false by rw[yaI];omega];rfl
theorem n7 {α β:Type} {step:α→Option (α⊕β)} {n:Nat} {a a':α} {b:β} {c:Bool} (h:step a=some (bif c then .inl a' else .inr b)):l3 step (n+1) a=bif c then l3 step n a' else some b:=by
 rw[l3,h];cases c<;>rfl
theorem c90 {b:UInt8} (h:dgt b=true):wr .i64 (wr .u8 ((b.toNat:Int)-48))=((b.toNat-48:Nat):Int):=by
 simp only[dgt,yab,yac]at h;have e:((b.toNat:Int)-48)=((b.toNat-48:Nat):Int):=by omega
 rw[e];have h9:b.toNat-48≤9:=by omega
 generalize b.toNat-48=u at h9;have:u=0∨u=1∨u=2∨u=3∨u=4∨u=5∨u=6∨u=7∨u=8∨u=9:=by omega
 rcases this with rfl|rfl|rfl|rfl|rfl|rfl|rfl|rfl|rfl|rfl<;>rfl
theorem j4 {s:List UInt8} {k:Nat} {vat x:Nat} {l:List Int} {b:UInt8} (hk:k<10) (h4:k≠4) (h7:k≠7) (hb:s[k]?=some b) (hl:l[vat]?=some (x:Int)) (hx:x<100000) :
 a7m (s,(vat:Int),(k:Int),l,())=some (bif dgt b then .inl (s,(vat:Int),((k+1:Nat):Int),l.set vat ((10*x+(b.toNat-48):Nat):Int),()) else .inr (.inr (0,3,()))):=by
 simp only[a7m];rw[a2m (show (k:Int)<10 by omega),show ((k:Int)==4)=false by rw[yaI];omega,show ((k:Int)==7)=false by rw[yaI];omega,k5,hb,k5,hl,yaM,hl];simp only[yah,yao];have hn:=c8m b;rw[j5 (by omega)];cases hd:dgt b with
 |true=>
  rw[hd,yaQ,Bool.or_eq_false_iff]at hn;rw[hn.1,hn.2,c90 hd];simp only[yao,yah];have hd':=hd;simp only[dgt,yab,yac]at hd';rw[show wr .i64 (wr .i64 (10*(x:Int))+((b.toNat-48:Nat):Int))=((10*x+(b.toNat-48):Nat):Int) by
   rw[a0b (n:=10*(x:Int)) (by omega) (by omega),a0b (by omega) (by omega)];omega]
 |false=>
  rw[hd,Bool.not_false,yaO]at hn;rcases hn with hn|hn
  ·rw[hn];rfl
  ·rw[hn];cases decide ((b.toNat:Int)<48)<;>rfl
theorem a29 {s:List UInt8} {k:Nat} {vat:Nat} {l:List Int} {b:UInt8} (hk:k=4∨k=7) (hv:vat<10) (hb:s[k]?=some b) :
 a7m (s,(vat:Int),(k:Int),l,())=some (bif (b==45) then .inl (s,((vat+1:Nat):Int),((k+1:Nat):Int),l,()) else .inr (.inr (0,3,()))):=by
 simp only[a7m];rw[a2m (show (k:Int)<10 by omega),k5,hb,j5 (n:=k) (by omega),j5 (n:=vat) (by omega)];rcases hk with rfl|rfl
 ·rw[show (((4:Nat):Int)==4)=true from rfl];simp only[yah,b45];cases (b==45)<;>rfl
 ·rw[show (((7:Nat):Int)==4)=false from rfl,show (((7:Nat):Int)==7)=true from rfl];simp only[yah,yao,b45];cases (b==45)<;>rfl
theorem a08 {b:UInt8}:dgt b=true→b.toNat-48≤9:=fun h=>by simp only[dgt,yab,yac]at h;omega
theorem c86 (s:List UInt8):qu s=some (w9 s):=by
 unfold qu;by_cases hl:s.length=10
 ·rw[show ((s.length:Int)==10)=true by rw[ya7];omega];obtain ⟨a,b,c,d,e,f,g,h,i,j,rfl⟩:=ten hl;simp only[yaQ,yao];show _=some (b20 a b c d e f g h i j)
  by_cases hall:(dgt a&&(dgt b&&(dgt c&&(dgt d&&((e==45)&&(dgt f&&(dgt g&&((h==45)&&(dgt i&&dgt j)))))))))=true
  ·
   have hall':=hall;simp only[yab]at hall';obtain ⟨ha,hb,hc,hd,he,hf,hg,hh,hi,hj⟩:=hall';have la:=a08 ha;have lb:=a08 hb;have lc:=a08 hc;have ld:=a08 hd;have lf:=a08 hf;have lg:=a08 hg;have li:=a08 hi;have lj:=a08 hj;have hit:l3 a7m 11 ([a,b,c,d,e,f,g,h,i,j],0,0,[0,0,0],())=some (.inl ([((val [a,b,c,d] 0:Nat):Int),((val [f,g] 0:Nat):Int),((val [i,j] 0:Nat):Int)],())):=by
    have s0:=j4 (s:=[a,b,c,d,e,f,g,h,i,j]) (k:=0) (vat:=0) (x:=0) (l:=[0,0,0]) (b:=a) (by omega) (by omega) (by omega) rfl rfl (by omega);have s1:=j4 (s:=[a,b,c,d,e,f,g,h,i,j]) (k:=1) (vat:=0) (x:=10*0+(a.toNat-48)) (l:=[((10*0+(a.toNat-48):Nat):Int),0,0]) (b:=b) (by omega) (by omega) (by omega) rfl rfl (by omega);have s2:=j4 (s:=[a,b,c,d,e,f,g,h,i,j]) (k:=2) (vat:=0) (x:=10*(10*0+(a.toNat-48))+(b.toNat-48)) (l:=[((10*(10*0+(a.toNat-48))+(b.toNat-48):Nat):Int),0,0]) (b:=c) (by omega) (by omega) (by omega) rfl rfl (by omega);have s3:=j4 (s:=[a,b,c,d,e,f,g,h,i,j]) (k:=3) (vat:=0) (x:=10*(10*(10*0+(a.toNat-48))+(b.toNat-48))+(c.toNat-48)) (l:=[((10*(10*(10*0+(a.toNat-48))+(b.toNat-48))+(c.toNat-48):Nat):Int),0,0]) (b:=d) (by omega) (by omega) (by omega) rfl rfl (by omega);have s4:=a29 (s:=[a,b,c,d,e,f,g,h,i,j]) (k:=4) (vat:=0) (l:=[((val [a,b,c,d] 0:Nat):Int),0,0]) (b:=e) (by omega) (by omega) rfl;have s5:=j4 (s:=[a,b,c,d,e,f,g,h,i,j]) (k:=5) (vat:=1) (x:=0) (l:=[((val [a,b,c,d] 0:Nat):Int),0,0]) (b:=f) (by omega) (by omega) (by omega) rfl rfl (by omega);have s6:=j4 (s:=[a,b,c,d,e,f,g,h,i,j]) (k:=6) (vat:=1) (x:=10*0+(f.toNat-48)) (l:=[((val [a,b,c,d] 0:Nat):Int),((10*0+(f.toNat-48):Nat):Int),0]) (b:=g) (by omega) (by omega) (by omega) rfl rfl (by omega);have s7:=a29 (s:=[a,b,c,d,e,f,g,h,i,j]) (k:=7) (vat:=1) (l:=[((val [a,b,c,d] 0:Nat):Int),((val [f,g] 0:Nat):Int),0]) (b:=h) (by omega) (by omega) rfl;have s8:=j4 (s:=[a,b,c,d,e,f,g,h,i,j]) (k:=8) (vat:=2) (x:=0) (l:=[((val [a,b,c,d] 0:Nat):Int),((val [f,g] 0:Nat):Int),0]) (b:=i) (by omega) (by omega) (by omega) rfl rfl (by omega);have s9:=j4 (s:=[a,b,c,d,e,f,g,h,i,j]) (k:=9) (vat:=2) (x:=10*0+(i.toNat-48)) (l:=[((val [a,b,c,d] 0:Nat):Int),((val [f,g] 0:Nat):Int),((10*0+(i.toNat-48):Nat):Int)]) (b:=j) (by omega) (by omega) (by omega) rfl rfl (by omega);rw[ha]at s0;rw[hb]at s1;rw[hc]at s2;rw[hd]at s3;rw[he]at s4;rw[hf]at s5;rw[hg]at s6;rw[hh]at s7;rw[hi]at s8;rw[hj]at s9;have t0:l3 a7m 11 ([a,b,c,d,e,f,g,h,i,j],0,0,[0,0,0],())=_:=n7 s0;rw[t0];refine Eq.trans (n7 s1) ?_;refine Eq.trans (n7 s2) ?_;refine Eq.trans (n7 s3) ?_;refine Eq.trans (n7 s4) ?_;refine Eq.trans (n7 s5) ?_;refine Eq.trans (n7 s6) ?_;refine Eq.trans (n7 s7) ?_;refine Eq.trans (n7 s8) ?_;refine Eq.trans (n7 s9) ?_;rfl
   rw[o1 11 (by rw[w3];omega) hit];unfold b20;rw[hall];have ho:=d0w (val [a,b,c,d] 0) (val [f,g] 0) (val [i,j] 0);simp only[yah];rw[←ho];show (match qe _ _ _ with|some (r12,r13)=>some (r12,r13)|none=>none)=_
   cases qe ((val [a,b,c,d] 0:Nat):Int) ((val [f,g] 0:Nat):Int) ((val [i,j] 0:Nat):Int)<;>rfl
  ·
   have hall:(dgt a&&(dgt b&&(dgt c&&(dgt d&&((e==45)&&(dgt f&&(dgt g&&((h==45)&&(dgt i&&dgt j)))))))))=false:=by simpa using hall
   have hit:l3 a7m 11 ([a,b,c,d,e,f,g,h,i,j],0,0,[0,0,0],())=some (.inr (0,3,())):=by
    have s0:=j4 (s:=[a,b,c,d,e,f,g,h,i,j]) (k:=0) (vat:=0) (x:=0) (l:=[0,0,0]) (b:=a) (by omega) (by omega) (by omega) rfl rfl (by omega);refine Eq.trans (n7 s0) ?_;cases ha:dgt a with
    |false=>rfl
    |true=>
    have la:=a08 ha;have s1:=j4 (s:=[a,b,c,d,e,f,g,h,i,j]) (k:=1) (vat:=0) (x:=10*0+(a.toNat-48)) (l:=[((10*0+(a.toNat-48):Nat):Int),0,0]) (b:=b) (by omega) (by omega) (by omega) rfl rfl (by omega);refine Eq.trans (n7 s1) ?_;cases hb:dgt b with
    |false=>rfl
    |true=>
    have lb:=a08 hb;have s2:=j4 (s:=[a,b,c,d,e,f,g,h,i,j]) (k:=2) (vat:=0) (x:=10*(10*0+(a.toNat-48))+(b.toNat-48)) (l:=[((10*(10*0+(a.toNat-48))+(b.toNat-48):Nat):Int),0,0]) (b:=c) (by omega) (by omega) (by omega) rfl rfl (by omega);refine Eq.trans (n7 s2) ?_;cases hc:dgt c with
    |false=>rfl
    |true=>
    have lc:=a08 hc;have s3:=j4 (s:=[a,b,c,d,e,f,g,h,i,j]) (k:=3) (vat:=0) (x:=10*(10*(10*0+(a.toNat-48))+(b.toNat-48))+(c.toNat-48)) (l:=[((10*(10*(10*0+(a.toNat-48))+(b.toNat-48))+(c.toNat-48):Nat):Int),0,0]) (b:=d) (by omega) (by omega) (by omega) rfl rfl (by omega);refine Eq.trans (n7 s3) ?_;cases hd:dgt d with
    |false=>rfl
    |true=>
    have s4:=a29 (s:=[a,b,c,d,e,f,g,h,i,j]) (k:=4) (vat:=0) (l:=[((val [a,b,c,d] 0:Nat):Int),0,0]) (b:=e) (by omega) (by omega) rfl;refine Eq.trans (n7 s4) ?_;cases he:(e==45) with
    |false=>rfl
    |true=>
    have s5:=j4 (s:=[a,b,c,d,e,f,g,h,i,j]) (k:=5) (vat:=1) (x:=0) (l:=[((val [a,b,c,d] 0:Nat):Int),0,0]) (b:=f) (by omega) (by omega) (by omega) rfl rfl (by omega);refine Eq.trans (n7 s5) ?_;cases hf:dgt f with
    |false=>rfl
    |true=>
    have lf:=a08 hf;have s6:=j4 (s:=[a,b,c,d,e,f,g,h,i,j]) (k:=6) (vat:=1) (x:=10*0+(f.toNat-48)) (l:=[((val [a,b,c,d] 0:Nat):Int),((10*0+(f.toNat-48):Nat):Int),0]) (b:=g) (by omega) (by omega) (by omega) rfl rfl (by omega);refine Eq.trans (n7 s6) ?_;cases hg:dgt g with
    |false=>rfl
    |true=>
    have s7:=a29 (s:=[a,b,c,d,e,f,g,h,i,j]) (k:=7) (vat:=1) (l:=[((val [a,b,c,d] 0:Nat):Int),((val [f,g] 0:Nat):Int),0]) (b:=h) (by omega) (by omega) rfl;refine Eq.trans (n7 s7) ?_;cases hh:(h==45) with
    |false=>rfl
    |true=>
    have s8:=j4 (s:=[a,b,c,d,e,f,g,h,i,j]) (k:=8) (vat:=2) (x:=0) (l:=[((val [a,b,c,d] 0:Nat):Int),((val [f,g] 0:Nat):Int),0]) (b:=i) (by omega) (by omega) (by omega) rfl rfl (by omega);refine Eq.trans (n7 s8) ?_;cases hi:dgt i with
    |false=>rfl
    |true=>
    have li:=a08 hi;have s9:=j4 (s:=[a,b,c,d,e,f,g,h,i,j]) (k:=9) (vat:=2) (x:=10*0+(i.toNat-48)) (l:=[((val [a,b,c,d] 0:Nat):Int),((val [f,g] 0:Nat):Int),((10*0+(i.toNat-48):Nat):Int)]) (b:=j) (by omega) (by omega) (by omega) rfl rfl (by omega);refine Eq.trans (n7 s9) ?_;cases hj:dgt j with
    |false=>rfl
    |true=>rw[ha,hb,hc,hd,he,hf,hg,hh,hi,hj]at hall;cases hall
   rw[o1 11 (by rw[w3];omega) hit];unfold b20;rw[hall];rfl
 ·rw[c05 hl,show ((s.length:Int)==10)=false by rw[yaI];omega];rfl
end
section
open Ev
open Go (IntKind)
set_option maxRecDepth 100000
def a03:List UInt8:=[108,111,97,110]
def a02:List UInt8:=[98,97,99,107]
def t7:List UInt8:=[114,101,110,101,119]
def b26 (a b c e f:List UInt8):Bool:=((w9 c).2==0)&&(a0j a&&(a0j b&&(a0j e&&a0j f)))
def mkO (a b c e f:List UInt8) (k p:Int):Off:=⟨(val a 0:Nat),(val b 0:Nat),(w9 c).1,k,(val e 0:Nat),p,(val f 0:Nat)⟩
def a18 (w:List (List UInt8)):Option Off:=match w with
 | [a,b,c,k,e,f]=>bif b26 a b c e f then (bif k==a02 then some (mkO a b c e f 2 0) else bif k==t7 then some (mkO a b c e f 3 0) else none) else none
 | [a,b,c,k,e,p,f]=>bif b26 a b c e f&&(k==a03&&a0j p) then some (mkO a b c e f 1 (val p 0:Nat)) else none
 |_=>none
def atv (s:List UInt8):Int:=match qf s with|some (n,_)=>n|none=>0
theorem a1g {s:List UInt8} (hs:s.length≤1000000) (h:a0j s=true):atv s=((val s 0:Nat):Int):=by
 obtain ⟨n,b,h1,-,h2⟩:=b09 hs;unfold atv;rw[h1];exact (h2 h).1
theorem a8z {s:List UInt8} (hs:s.length≤1000000) {α:Type} (mk:Int→Bool→α) :
 (match qf s with
  |some (r1,r2)=>
   let k8:Bool→Option α:=fun v=>
    let k7:Bool→Option α:=fun v3=>
     let k:Bool→Option α:=fun v6=>some (mk r1 v6)
     bif v3 then (match qv r1 with|some r5=>k (r5==s)|none=>none) else k false
    bif v then k7 (decide ((s.length:Int)≤9)) else k7 false
   bif r2 then k8 (decide (0≤r1)) else k8 false
  |none=>none)=some (mk (atv s) (a0j s)):=by
 obtain ⟨n,b,h1,⟨h2,h3⟩,h4⟩:=b09 hs;have ha:atv s=n:=by unfold atv;rw[h1]
 rw[ha,h1];dsimp only;cases hn:a0j s with
 |true=>
  obtain ⟨rfl,rfl⟩:=h4 hn;have hsp:=a1x hn;rw[a2u (show (0:Int)≤((val s 0:Nat):Int) by omega),a2u (show (s.length:Int)≤9 by omega),b1q (by omega) h3,c3c hn];simp
 |false=>
  cases b with
  |false=>rfl
  |true=>
   simp only[yah];by_cases h0:0≤n
   ·rw[a2u h0];by_cases hl:(s.length:Int)≤9
    ·rw[a2u hl,b1q h0 h3];simp only[yah];rw[show (dec n==s)=false by
      rw[yaI];intro e;have:=(c3b h0 h3 (by rw[e];omega)).1;rw[e,hn]at this;cases this]
    ·rw[d1k hl];rfl
   ·rw[d1k h0];rfl
theorem b9n {s:List UInt8} (hs:s.length≤1000000) (d:Off):qc s d=some (a0j s,⟨atv s,d.Seq,d.Day,d.Kind,d.Item,d.Patron,d.Branch⟩):=a8z hs (fun r v=>(v,(⟨r,d.Seq,d.Day,d.Kind,d.Item,d.Patron,d.Branch⟩:Off)))
theorem b9o {s:List UInt8} (hs:s.length≤1000000) (d:Off):qak s d=some (a0j s,⟨d.Device,atv s,d.Day,d.Kind,d.Item,d.Patron,d.Branch⟩):=a8z hs (fun r v=>(v,(⟨d.Device,r,d.Day,d.Kind,d.Item,d.Patron,d.Branch⟩:Off)))
theorem b9p {s:List UInt8} (hs:s.length≤1000000) (d:Off):qaj s d=some (a0j s,⟨d.Device,d.Seq,d.Day,d.Kind,atv s,d.Patron,d.Branch⟩):=a8z hs (fun r v=>(v,(⟨d.Device,d.Seq,d.Day,d.Kind,r,d.Patron,d.Branch⟩:Off)))
theorem b9q {s:List UInt8} (hs:s.length≤1000000) (d:Off):qai s d=some (a0j s,⟨d.Device,d.Seq,d.Day,d.Kind,d.Item,atv s,d.Branch⟩):=a8z hs (fun r v=>(v,(⟨d.Device,d.Seq,d.Day,d.Kind,d.Item,r,d.Branch⟩:Off)))
theorem b9r {s:List UInt8} (hs:s.length≤1000000) (d:Off):qah s d=some (a0j s,⟨d.Device,d.Seq,d.Day,d.Kind,d.Item,d.Patron,atv s⟩):=a8z hs (fun r v=>(v,(⟨d.Device,d.Seq,d.Day,d.Kind,d.Item,d.Patron,r⟩:Off)))
theorem a6y (c:UInt8):∀(k:Nat) (s:List UInt8),s.count c=k→∀w∈m0 c s,w.length≤s.length:=by
 intro k
 induction k with
 |zero=>
  intro s h w hw;unfold m0 at hw;rw[h]at hw;simp only[b2j,ybj]at hw;rw[hw];exact yal _
 |succ k ih=>
  intro s h w hw;have hf:(g6 c s).2.2=true:=by
   cases hf:(g6 c s).2.2 with
   |true=>rfl
   |false=>have:=a1s c s hf;omega
  have hc:=a12 c s hf;have hl:=a1h c s hf;rw[a0k,hf]at hw;simp only[yah,yax]at hw;rcases hw with rfl|hw
  ·omega
  ·have:=ih _ (by omega) w hw;omega
def c3w (r1:List (List UInt8)) (v26:Bool) (x27:Off):Option (Off×Bool):=
 match m3 r1 3 with
 |some x28=>
  let k46:Bool→Option (Off×Bool):=fun v29=>
   let k45:Bool→Off→Option (Off×Bool):=fun ok43 x44=>
    some (x44,ok43)
   bif v29 then
    match m3 r1 5 with
    |some x30=>
     match qai x30 (⟨x27.Device,x27.Seq,x27.Day,1,x27.Item,x27.Patron,x27.Branch⟩:Off) with
     |some (r32,x33)=>
      bif r32 then
       k45 v26 x33
      else
       k45 false x33
     |none=>none
    |none=>none
   else
    match m3 r1 3 with
    |some x35=>
     let k42:Bool→Option (Off×Bool):=fun v36=>
      bif v36 then
       k45 v26 (⟨x27.Device,x27.Seq,x27.Day,2,x27.Item,x27.Patron,x27.Branch⟩:Off)
      else
       match m3 r1 3 with
       |some x37=>
        let k:Bool→Option (Off×Bool):=fun v38=>
         bif v38 then
          k45 v26 (⟨x27.Device,x27.Seq,x27.Day,3,x27.Item,x27.Patron,x27.Branch⟩:Off)
         else
          k45 false x27
        bif x37==([114,101,110,101,119]) then
         k ((r1.length:Int)==6)
        else
         k false
       |none=>none
     bif x35==([98,97,99,107]) then
      k42 ((r1.length:Int)==6)
     else
      k42 false
    |none=>none
  bif x28==([108,111,97,110]) then
   k46 ((r1.length:Int)==7)
  else
   k46 false
 |none=>none
theorem a49 {s a b c e f:List UInt8} {r1:List (List UInt8)} (hs:s.length<1000000) (hr:m0 32 s=r1) (h6:6≤r1.length) (g0:m3 r1 0=some a) (g1:m3 r1 1=some b) (g2:m3 r1 2=some c) (g4:m3 r1 4=some e)
 (gl:m3 r1 (wr .i64 ((r1.length:Int)-1))=some f) (hm:∀w∈r1,w.length≤1000000):∃x,qae s=c3w r1 (b26 a b c e f) x∧(b26 a b c e f=true→x=⟨atv a,atv b,(w9 c).1,0,atv e,0,atv f⟩):=by
 have mem:∀{i:Int} {w:List UInt8},m3 r1 i=some w→w.length≤1000000:=fun {i w} h=>by
  unfold m3 at h;rw[d3]at h;split at h
  ·exact hm w (yan h)
  ·cases h
 unfold qae;rw[c06 (by omega),hr];have hd:qax c=some ((w9 c).1,(w9 c).2):=c84 (by have:=mem g2;omega);have hlt:decide ((r1.length:Int)<6)=false:=a3r (by omega);simp -zeta only[g0,g1,g2,g4,gl,hd,hlt,yao,b9n (mem g0),b9o (mem g1),b9p (mem g4),b9r (mem gl)];unfold b26;cases ((w9 c).2==0)
 ·exact ⟨⟨0,0,(w9 c).1,0,0,0,0⟩,rfl,fun h=>by cases h⟩
 cases a0j a
 ·exact ⟨⟨atv a,0,(w9 c).1,0,0,0,0⟩,rfl,fun h=>by cases h⟩
 cases a0j b
 ·exact ⟨⟨atv a,atv b,(w9 c).1,0,0,0,0⟩,rfl,fun h=>by cases h⟩
 cases a0j e
 ·exact ⟨⟨atv a,atv b,(w9 c).1,0,atv e,0,0⟩,rfl,fun h=>by cases h⟩
 cases a0j f
 ·exact ⟨⟨atv a,atv b,(w9 c).1,0,atv e,0,atv f⟩,rfl,fun h=>by cases h⟩
 exact ⟨⟨atv a,atv b,(w9 c).1,0,atv e,0,atv f⟩,rfl,fun _=>rfl⟩
theorem a7c {r1:List (List UInt8)} {v:Bool} {x:Off} {k p:List UInt8} (g3:m3 r1 3=some k) (g5:m3 r1 5=some p) (hp:p.length≤1000000):c3w r1 v x =
 bif (k==a03)&&((r1.length:Int)==7) then some (⟨x.Device,x.Seq,x.Day,1,x.Item,atv p,x.Branch⟩,a0j p&&v)
 else bif (k==a02)&&((r1.length:Int)==6) then some (⟨x.Device,x.Seq,x.Day,2,x.Item,x.Patron,x.Branch⟩,v)
 else bif (k==t7)&&((r1.length:Int)==6) then some (⟨x.Device,x.Seq,x.Day,3,x.Item,x.Patron,x.Branch⟩,v) else some (x,false):=by
 unfold c3w;rw[g3,g5];simp -zeta only[b9q hp];have e1:(k==([108,111,97,110]:List UInt8))=(k==a03):=rfl;have e2:(k==([98,97,99,107]:List UInt8))=(k==a02):=rfl;have e3:(k==([114,101,110,101,119]:List UInt8))=(k==t7):=rfl;rw[e1,e2,e3];generalize (k==a03)=b1;generalize (k==a02)=b2;generalize (k==t7)=b3;generalize ((r1.length:Int)==7)=b7;generalize ((r1.length:Int)==6)=b6;cases b1<;>cases b7<;>cases b2<;>cases b6<;>cases b3<;>first|rfl|(cases a0j p<;>rfl)
theorem c8u {s:List UInt8} (hs:s.length<1000000):∃x,qae s=some (x,(a18 (m0 32 s)).isSome)∧∀y,a18 (m0 32 s)=some y→x=y:=by
 have hm:∀w∈m0 32 s,w.length≤1000000:=fun w hw=>by have:=a6y 32 _ s rfl w hw;omega
 by_cases h6:(m0 32 s).length<6
 ·refine ⟨⟨0,0,0,0,0,0,0⟩,?_,?_⟩
  ·unfold qae;rw[c06 (by omega)];dsimp only;rw[a2m (show ((m0 32 s).length:Int)<6 by omega)];have:a18 (m0 32 s)=none:=by
    unfold a18;split
    ·rename_i h;rw[h]at h6;simp at h6
    ·rename_i h;rw[h]at h6;simp at h6
    ·rfl
   rw[this];rfl
  ·intro y h;unfold a18 at h;split at h
   ·rename_i e;rw[e]at h6;simp at h6
   ·rename_i e;rw[e]at h6;simp at h6
   ·cases h
 ·generalize hr:m0 32 s=r1 at h6 hm
  match r1,h6,hm,hr with
  | [],h6,_,_=>simp at h6
  | [_],h6,_,_=>simp at h6
  | [_,_],h6,_,_=>simp at h6
  | [_,_,_],h6,_,_=>simp at h6
  | [_,_,_,_],h6,_,_=>simp at h6
  | [_,_,_,_,_],h6,_,_=>simp at h6
  | [a,b,c,k,e,f],h6,hm,hr=>
   obtain ⟨x,e1,e2⟩:=a49 hs hr (by simp) (a:=a) (b:=b) (c:=c) (e:=e) (f:=f) rfl rfl rfl rfl rfl hm;rw[e1,a7c (k:=k) (p:=f) rfl rfl (hm f (by simp))];rw[show ((([a,b,c,k,e,f]:List (List UInt8)).length:Int)==7)=false from rfl,show ((([a,b,c,k,e,f]:List (List UInt8)).length:Int)==6)=true from rfl];simp only[Bool.and_false,yao,Bool.and_true,a18];have hA:b26 a b c e f=true→x=⟨((val a 0:Nat):Int),((val b 0:Nat):Int),(w9 c).1,0,((val e 0:Nat):Int),0,((val f 0:Nat):Int)⟩:=fun h=>by
    rw[e2 h];unfold b26 at h;simp only[yab]at h;rw[a1g (hm a (by simp)) h.2.1,a1g (hm b (by simp)) h.2.2.1,a1g (hm e (by simp)) h.2.2.2.1,a1g (hm f (by simp)) h.2.2.2.2]
   cases h5:b26 a b c e f with
   |false=>
    cases (k==a02) with
    |true=>exact ⟨_,rfl,fun y h=>by cases h⟩
    |false=>cases (k==t7)<;>exact ⟨_,rfl,fun y h=>by cases h⟩
   |true=>
    have hx:=hA h5;subst hx;cases (k==a02) with
    |true=>exact ⟨_,rfl,fun y h=>by cases h;rfl⟩
    |false=>
     cases (k==t7) with
     |true=>exact ⟨_,rfl,fun y h=>by cases h;rfl⟩
     |false=>exact ⟨_,rfl,fun y h=>by cases h⟩
  | [a,b,c,k,e,p,f],h6,hm,hr=>
   obtain ⟨x,e1,e2⟩:=a49 hs hr (by simp) (a:=a) (b:=b) (c:=c) (e:=e) (f:=f) rfl rfl rfl rfl rfl hm;rw[e1,a7c (k:=k) (p:=p) rfl rfl (hm p (by simp))];rw[show ((([a,b,c,k,e,p,f]:List (List UInt8)).length:Int)==7)=true from rfl,show ((([a,b,c,k,e,p,f]:List (List UInt8)).length:Int)==6)=false from rfl];simp only[Bool.and_false,yao,Bool.and_true,a18];have hA:b26 a b c e f=true→x=⟨((val a 0:Nat):Int),((val b 0:Nat):Int),(w9 c).1,0,((val e 0:Nat):Int),0,((val f 0:Nat):Int)⟩:=fun h=>by
    rw[e2 h];unfold b26 at h;simp only[yab]at h;rw[a1g (hm a (by simp)) h.2.1,a1g (hm b (by simp)) h.2.2.1,a1g (hm e (by simp)) h.2.2.2.1,a1g (hm f (by simp)) h.2.2.2.2]
   cases h5:b26 a b c e f with
   |false=>
    cases (k==a03) with
    |true=>cases a0j p<;>exact ⟨_,rfl,fun y h=>by cases h⟩
    |false=>exact ⟨_,rfl,fun y h=>by cases h⟩
   |true=>
    have hx:=hA h5;subst hx;cases (k==a03) with
    |true=>
     cases hp:a0j p with
     |true=>
      have hv:=a1g (hm p (by simp)) hp;rw[hv];exact ⟨_,rfl,fun y h=>by cases h;rfl⟩
     |false=>exact ⟨_,rfl,fun y h=>by cases h⟩
    |false=>exact ⟨_,rfl,fun y h=>by cases h⟩
  |a::b::c::k::e::p::q::z::r,h6,hm,hr=>
   have hlen:(a::b::c::k::e::p::q::z::r).length=r.length+8:=by simp
   have hcnt:=b30 32 _ s rfl;rw[hr,hlen]at hcnt;have hcl:s.count 32≤s.length:=List.count_le_length;obtain ⟨f,hf⟩:∃f,m3 (a::b::c::k::e::p::q::z::r) (wr .i64 (((a::b::c::k::e::p::q::z::r).length:Int)-1))=some f:=by
    rw[hlen,show wr .i64 (((r.length+8:Nat):Int)-1)=((r.length+7:Nat):Int) by rw[a0b (by omega) (by omega)];omega,k5];exact ⟨_,yaa (by rw[hlen];omega)⟩
   obtain ⟨x,e1,e2⟩:=a49 hs hr (by simp) (a:=a) (b:=b) (c:=c) (e:=e) (f:=f) rfl rfl rfl rfl hf hm;rw[e1,a7c (k:=k) (p:=p) rfl rfl (hm p (by simp))];rw[hlen,show (((r.length+8:Nat):Int)==7)=false by rw[yaI];omega,show (((r.length+8:Nat):Int)==6)=false by rw[yaI];omega];simp only[Bool.and_false,yao,a18];exact ⟨x,rfl,fun y h=>by cases h⟩
theorem c8x {s:List UInt8} (hs:s.length<1000000):∃x,qap s=some (x,(a18 (m0 32 s)).isSome)∧∀y,a18 (m0 32 s)=some y→x=y:=by
 have hm:∀w∈m0 32 s,w.length≤1000000:=fun w hw=>by have:=a6y 32 _ s rfl w hw;omega
 unfold qap;rw[d04 (by omega)];generalize m0 32 s=r1 at hm
 match r1,hm with
 | [],_=>exact ⟨_,rfl,fun y h=>by cases h⟩
 | [_],_=>exact ⟨_,rfl,fun y h=>by cases h⟩
 | [_,_],_=>exact ⟨_,rfl,fun y h=>by cases h⟩
 | [_,_,_],_=>exact ⟨_,rfl,fun y h=>by cases h⟩
 | [_,_,_,_],_=>exact ⟨_,rfl,fun y h=>by cases h⟩
 | [_,_,_,_,_],_=>exact ⟨_,rfl,fun y h=>by cases h⟩
 |a::b::c::k::e::p::q::z::r,_=>
  refine ⟨⟨0,0,0,0,0,0,0⟩,?_,fun y h=>by cases h⟩;have:(a::b::c::k::e::p::q::z::r).take 8=[a,b,c,k,e,p,q,z]:=by simp
  rw[this];rfl
 | [a,b,c,k,e,f],hm=>
  have:([a,b,c,k,e,f]:List (List UInt8)).take 8=[a,b,c,k,e,f]:=rfl;rw[this];simp -zeta only[];have g0:m3 [a,b,c,k,e,f] 0=some a:=rfl;have g1:m3 [a,b,c,k,e,f] 1=some b:=rfl;have g2:m3 [a,b,c,k,e,f] 2=some c:=rfl;have g3:m3 [a,b,c,k,e,f] 3=some k:=rfl;have g4:m3 [a,b,c,k,e,f] 4=some e:=rfl;have g5:m3 [a,b,c,k,e,f] 5=some f:=rfl;have gl:m3 [a,b,c,k,e,f] (wr .i64 ((([a,b,c,k,e,f]:List (List UInt8)).length:Int)-1))=some f:=rfl;have c6:decide ((([a,b,c,k,e,f]:List (List UInt8)).length:Int)<6)=false:=rfl;have c7:decide ((7:Int)<(([a,b,c,k,e,f]:List (List UInt8)).length:Int))=false:=rfl;have d7:((([a,b,c,k,e,f]:List (List UInt8)).length:Int)==7)=false:=rfl;have d6:((([a,b,c,k,e,f]:List (List UInt8)).length:Int)==6)=true:=rfl;have na:=a7l a (hm a (by simp));have nb:=a7l b (hm b (by simp));have ne:=a7l e (hm e (by simp));have nf:=a7l f (hm f (by simp));have hd:qu c=some ((w9 c).1,(w9 c).2):=c86 c;simp -zeta only[g0,g1,g2,g3,g4,g5,gl,c6,c7,d7,d6,yao,na,nb,ne,nf,hd];have e1:(k==([108,111,97,110]:List UInt8))=(k==a03):=rfl;have e2:(k==([98,97,99,107]:List UInt8))=(k==a02):=rfl;have e3:(k==([114,101,110,101,119]:List UInt8))=(k==t7):=rfl;rw[e1,e2,e3];have hbr:(k==a02)=true→(k==t7)=false:=fun h=>by rw[ya7]at h;subst h;rfl
  simp -zeta only[a18,b26,mkO];cases a0j a
  ·cases (k==a03)<;>cases (k==a02)<;>cases (k==t7)<;>cases ((w9 c).2==0)<;>exact ⟨_,rfl,fun y h=>by cases h⟩
  cases a0j b
  ·cases (k==a03)<;>cases (k==a02)<;>cases (k==t7)<;>cases ((w9 c).2==0)<;>exact ⟨_,rfl,fun y h=>by cases h⟩
  cases hd:((w9 c).2==0)
  ·cases (k==a03)<;>cases (k==a02)<;>cases (k==t7)<;>exact ⟨_,rfl,fun y h=>by cases h⟩
  cases a0j e
  ·cases (k==a03)<;>cases (k==a02)<;>cases (k==t7)<;>exact ⟨_,rfl,fun y h=>by cases h⟩
  cases a0j f
  ·cases (k==a03)<;>cases (k==a02)<;>cases (k==t7)<;>exact ⟨_,rfl,fun y h=>by cases h⟩
  cases hkb:(k==a02)
  ·cases (k==a03)<;>cases (k==t7)<;>first|exact ⟨_,rfl,fun y h=>by cases h;rfl⟩|exact ⟨_,rfl,fun y h=>by cases h⟩
  ·rw[hbr hkb];cases (k==a03)<;>exact ⟨_,rfl,fun y h=>by cases h;rfl⟩
 | [a,b,c,k,e,p,f],hm=>
  have:([a,b,c,k,e,p,f]:List (List UInt8)).take 8=[a,b,c,k,e,p,f]:=rfl;rw[this];simp -zeta only[];have g0:m3 [a,b,c,k,e,p,f] 0=some a:=rfl;have g1:m3 [a,b,c,k,e,p,f] 1=some b:=rfl;have g2:m3 [a,b,c,k,e,p,f] 2=some c:=rfl;have g3:m3 [a,b,c,k,e,p,f] 3=some k:=rfl;have g4:m3 [a,b,c,k,e,p,f] 4=some e:=rfl;have g5:m3 [a,b,c,k,e,p,f] 5=some p:=rfl;have gl:m3 [a,b,c,k,e,p,f] (wr .i64 ((([a,b,c,k,e,p,f]:List (List UInt8)).length:Int)-1))=some f:=rfl;have c6:decide ((([a,b,c,k,e,p,f]:List (List UInt8)).length:Int)<6)=false:=rfl;have c7:decide ((7:Int)<(([a,b,c,k,e,p,f]:List (List UInt8)).length:Int))=false:=rfl;have d7:((([a,b,c,k,e,p,f]:List (List UInt8)).length:Int)==7)=true:=rfl;have d6:((([a,b,c,k,e,p,f]:List (List UInt8)).length:Int)==6)=false:=rfl;have na:=a7l a (hm a (by simp));have nb:=a7l b (hm b (by simp));have ne:=a7l e (hm e (by simp));have nf:=a7l f (hm f (by simp));have np:=a7l p (hm p (by simp));have hd:qu c=some ((w9 c).1,(w9 c).2):=c86 c;simp -zeta only[g0,g1,g2,g3,g4,g5,gl,c6,c7,d7,d6,yao,na,nb,ne,nf,np,hd];have e1:(k==([108,111,97,110]:List UInt8))=(k==a03):=rfl;have e2:(k==([98,97,99,107]:List UInt8))=(k==a02):=rfl;have e3:(k==([114,101,110,101,119]:List UInt8))=(k==t7):=rfl;rw[e1,e2,e3];simp -zeta only[a18,b26,mkO];cases a0j a
  ·cases (k==a03)<;>cases (k==a02)<;>cases (k==t7)<;>cases ((w9 c).2==0)<;>cases a0j p<;>exact ⟨_,rfl,fun y h=>by cases h⟩
  cases a0j b
  ·cases (k==a03)<;>cases (k==a02)<;>cases (k==t7)<;>cases ((w9 c).2==0)<;>cases a0j p<;>exact ⟨_,rfl,fun y h=>by cases h⟩
  cases hd:((w9 c).2==0)
  ·cases (k==a03)<;>cases (k==a02)<;>cases (k==t7)<;>cases a0j p<;>exact ⟨_,rfl,fun y h=>by cases h⟩
  cases a0j e
  ·cases (k==a03)<;>cases (k==a02)<;>cases (k==t7)<;>cases a0j p<;>exact ⟨_,rfl,fun y h=>by cases h⟩
  cases a0j f
  ·cases (k==a03)<;>cases (k==a02)<;>cases (k==t7)<;>cases a0j p<;>exact ⟨_,rfl,fun y h=>by cases h⟩
  cases (k==a03)<;>cases (k==a02)<;>cases (k==t7)<;>cases a0j p<;>first|exact ⟨_,rfl,fun y h=>by cases h;rfl⟩|exact ⟨_,rfl,fun y h=>by cases h⟩
end
section
open Ev
open Go (IntKind)
set_option maxRecDepth 100000
def pzL:Nat→List UInt8→List Off→List Off⊕Int
 |0,_,l=>.inl l
 |k+1,s,l=>bif s.isEmpty then .inl l else
  bif (g6 10 s).2.2 then (match a18 (m0 32 (g6 10 s).1) with
   |some x=>pzL k (g6 10 s).2.1 (l++[x])
   |none=>.inr ((l.length+1:Nat):Int))
  else .inr ((l.length+1:Nat):Int)
def c8q:List Off⊕Int→((List Off)×Unit)⊕((List Off)×Int×Int×Unit)
 |.inl l=>.inl (l,())
 |.inr n=>.inr ([],n,3,())
theorem a4x (c:UInt8) (s:List UInt8):(g6 c s).1.length≤s.length:=by
 cases h:(g6 c s).2.2 with
 |true=>have:=a1h c s h;omega
 |false=>rw[(a2f c s h).1];exact yal _
theorem isE {s:List UInt8}:(s==([]:List UInt8))=s.isEmpty:=by cases s<;>rfl
theorem b3j:∀(k:Nat) (s:List UInt8) (l:List Off),s.length≤k→l.length+k<1000000→l3 b7f (k+1) (s,((l.length+1:Nat):Int),l,())=some (c8q (pzL (k+1) s l)):=by
 intro k
 induction k with
 |zero=>
  intro s l hs hl;have:s=[]:=yaF.1 (by omega);subst this;rfl
 |succ k ih=>
  intro s l hs hl;rw[l3];unfold pzL;simp only[b7f];rw[isE];cases he:s.isEmpty with
  |true=>rfl
  |false=>
   have hle:=a4x 10 s;obtain ⟨x,e1,e2⟩:=c8u (s:=(g6 10 s).1) (by omega);rw[c8z (by omega)];simp only[Bool.not_false,yah,yao,e1];cases hf:(g6 10 s).2.2 with
   |false=>rfl
   |true=>
    have hlen:=a1h 10 s hf;simp only[yaQ,yao,yah];cases hz:a18 (m0 32 (g6 10 s).1) with
    |none=>rfl
    |some y=>
     have hx:=e2 y hz;subst hx;simp only[Option.isSome_some,yaQ,yao];rw[show decide (l.length+([x]:List Off).length≤LIM)=true by rw[yac,a6e,List.length_singleton];omega,j5 (by omega)];have:=ih (g6 10 s).2.1 (l++[x]) (by omega) (by simp;omega);rw[show (l++[x]).length=l.length+1 by simp]at this;exact this
theorem c4v:∀(k:Nat) (s dn r:List UInt8) (vat:Nat),r.length=k→s=dn++r→s.length<1000000000→vat≤dn.length→10∉dn.drop vat→
 l3 b7g (k+1) (s,(vat:Int),(dn.length:Int),())=some (bif (g6 10 r).2.2 then .inr (dn.drop vat++(g6 10 r).1,((dn.length+(g6 10 r).1.length+1:Nat):Int),true,()) else .inl (s,(vat:Int),())):=by
 intro k
 induction k with
 |zero=>
  intro s dn r vat h0 hs hb hv hf;have hr:r=[]:=yaF.1 h0;subst hr;simp only[l3,b7g];rw[a3r (show ¬(dn.length:Int)<(s.length:Int) by rw[hs];simp)];rfl
 |succ k ih=>
  intro s dn r vat h0 hs hb hv hf
  match r,h0 with
  |b::r,h0=>
  have hlen:dn.length+(r.length+1)=s.length:=by rw[hs];simp
  rw[l3];simp only[b7g];rw[a2m (show (dn.length:Int)<(s.length:Int) by omega),k5,show s[dn.length]?=some b by rw[hs];simp];simp only[yah];by_cases hbb:b=10
  ·subst hbb;rw[show (((10:UInt8).toNat:Int)==10)=true from rfl,a2u (show (0:Int)≤(vat:Int) by omega),a2u (show (vat:Int)≤(dn.length:Int) by omega),a2u (show (dn.length:Int)≤(s.length:Int) by omega),j5 (by omega)];simp only[ya2,yah,yaM];have hc:g6 10 (10::r)=([],r,true):=by simp[g6]
   rw[hc];simp only[yah,List.append_nil,ybk,yaT];rw[show s.take dn.length=dn by rw[hs];simp]
  ·rw[show ((b.toNat:Int)==10)=false by
    rw[yaI];intro e;apply hbb;apply UInt8.toNat_inj.1;have:b.toNat=10:=by omega
    rw[this];rfl]
   simp only[yao];rw[j5 (by omega)];have:=ih s (dn++[b]) r vat (by simpa using h0) (by rw[hs];simp) hb (by simp;omega) (by rw[List.drop_append_of_le_length hv];simp;exact ⟨hf,fun e=>hbb e.symm⟩);have hc:g6 10 (b::r)=(b::(g6 10 r).1,(g6 10 r).2.1,(g6 10 r).2.2):=by simp[g6,hbb]
   rw[hc];simp only[ya0,yaS,ybk,yaE]at this;rw[this,List.drop_append_of_le_length hv];simp only[ybe,List.singleton_append,yaS];rw[show dn.length+1+(g6 10 r).1.length+1=dn.length+((g6 10 r).1.length+1)+1 by omega]
theorem d01 {s:List UInt8} {vat:Nat} (hs:s.length<1000000000) (hv:vat≤s.length):qm s (vat:Int)=some ((g6 10 (s.drop vat)).1,(if (g6 10 (s.drop vat)).2.2 then ((vat+(g6 10 (s.drop vat)).1.length+1:Nat):Int) else (s.length:Int)),(g6 10 (s.drop vat)).2.2):=by
 unfold qm;have hd:(s.drop vat).length=s.length-vat:=List.length_drop;have h:=c4v (s.drop vat).length s (s.take vat) (s.drop vat) vat rfl (List.take_append_drop vat s).symm hs (by simp;omega) (by rw[ybi (by simp;omega)];simp);have htl:(s.take vat).length=vat:=by simp;omega
 rw[htl,ybi (show (s.take vat).length≤vat by omega),List.nil_append]at h;rw[o1 _ (by rw[w3];omega) h];cases hf:(g6 10 (s.drop vat)).2.2 with
 |true=>simp
 |false=>
  simp only[yao];rw[a2u (show (0:Int)≤(vat:Int) by omega),a2u (show (vat:Int)≤(s.length:Int) by omega),a2u (ybo (s.length:Int))];simp only[ya2,yah,yaM,List.take_length];rw[(a2f 10 _ hf).1];rfl
theorem b0i:∀(k:Nat) (s:List UInt8) (vat:Nat) (l:List Off),s.length<1000000→vat≤s.length→s.length-vat≤k→l.length+k<1000000→l3 b3u (k+1) (s,(vat:Int),l,())=some (c8q (pzL (k+1) (s.drop vat) l)):=by
 intro k
 induction k with
 |zero=>
  intro s vat l hs hv hk hl;have hd:s.drop vat=[]:=ybi (by omega);rw[hd];simp only[l3,b3u];rw[a3r (show ¬(vat:Int)<(s.length:Int) by omega)];rfl
 |succ k ih=>
  intro s vat l hs hv hk hl;rw[l3];unfold pzL;simp only[b3u];have hd:(s.drop vat).length=s.length-vat:=List.length_drop;by_cases he:vat<s.length
  ·have hne:(s.drop vat).isEmpty=false:=by rw[List.isEmpty_eq_false_iff];intro e;rw[e]at hd;simp at hd;omega
   have hle:=a4x 10 (s.drop vat);obtain ⟨x,e1,e2⟩:=c8x (s:=(g6 10 (s.drop vat)).1) (by omega);rw[a2m (show (vat:Int)<(s.length:Int) by omega),d01 (by omega) hv,hne];simp only[yah,yao,e1];rw[j5 (n:=l.length) (by omega)];cases hf:(g6 10 (s.drop vat)).2.2 with
   |false=>
    cases (a18 (m0 32 (g6 10 (s.drop vat)).1)).isSome<;>rfl
   |true=>
    have hlen:=a1h 10 (s.drop vat) hf;simp only[yaQ,yah];cases hz:a18 (m0 32 (g6 10 (s.drop vat)).1) with
    |none=>rfl
    |some y=>
     have hx:=e2 y hz;subst hx;simp only[Option.isSome_some,yaQ,yao];rw[show decide (l.length+([x]:List Off).length≤LIM)=true by rw[yac,a6e,List.length_singleton];omega];have:=ih s (vat+(g6 10 (s.drop vat)).1.length+1) (l++[x]) hs (by omega) (by omega) (by simp;omega);rw[show s.drop (vat+(g6 10 (s.drop vat)).1.length+1)=(g6 10 (s.drop vat)).2.1 by
      rw[ybh,←List.drop_drop];exact (a68 10 (s.drop vat) hf).2]at this
     exact this
  ·rw[a3r (show ¬(vat:Int)<(s.length:Int) by omega)];have:s.drop vat=[]:=ybi (by omega);rw[this];rfl
def c4t (s:List UInt8):(List Off)×Int×Int:=match pzL (s.length+1) s []with
 |.inl l=>bif rtO l==0 then (l,0,0) else ([],0,rtO l)
 |.inr n=>([],n,3)
theorem b0l:∀(k:Nat) (s:List UInt8) (l m:List Off),pzL k s l=.inl m→m.length≤l.length+k:=by
 intro k
 induction k with
 |zero=>intro s l m h;cases h;omega
 |succ k ih=>
  intro s l m h;unfold pzL at h;rw[d3]at h;split at h
  ·cases h;omega
  ·rw[d3]at h;split at h
   ·split at h
    ·have:=ih _ _ _ h;simp at this;omega
    ·cases h
   ·cases h
theorem d0z {s:List UInt8} (hs:s.length<900000):ql s=some (c4t s):=by
 unfold ql;have h:=b3j s.length s [] (yal _) (by simp;omega);have h:l3 b7f (s.length+1) (s,1,([]:List Off),())=_:=h;rw[o1 _ (by rw[w3];omega) h];unfold c4t;cases hp:pzL (s.length+1) s []with
 |inl l=>
  have:=b0l _ _ _ _ hp;simp only[c8q];rw[d0v (by simp at this;omega)];simp only;cases hr:(rtO l==0)<;>rfl
 |inr n=>rfl
theorem d05 {s:List UInt8} (hs:s.length<900000):qt s=some (c4t s):=by
 unfold qt;have h:=b0i s.length s 0 [] (by omega) (by omega) (by omega) (by simp;omega);have h:l3 b3u (s.length+1) (s,0,([]:List Off),())=some (c8q (pzL (s.length+1) s [])):=h;rw[o1 _ (by rw[w3];omega) h];unfold c4t;cases hp:pzL (s.length+1) s []with
 |inl l=>
  have:=b0l _ _ _ _ hp;simp only[c8q];rw[d0u (by simp at this;omega)];simp only;cases hr:(rtO l==0)<;>rfl
 |inr n=>rfl
theorem b1k (x:Off):a43 x x=true:=by unfold a43;simp
theorem b7n {a:List Off} (ha:a.length<1000000):qp a a=some true:=by
 unfold qp;rw[show ((a.length:Int)==(a.length:Int))=true by simp];simp only[yaQ,yao];have h:=y4 (step:=b3s) (fun i=>(a,a,(i:Int),())) a (fun _ x=>a43 x x) (.inr (false,())) (.inl ()) (by omega)
  (by simp only[b3s];rw[a3r (show ¬(a.length:Int)<(a.length:Int) by omega)];rfl)
  (fun i x hx=>by
   obtain ⟨hi,-⟩:=yaC.1 hx;simp only[b3s];rw[a2m (show (i:Int)<(a.length:Int) by omega),k5,hx,j5 (by omega)];simp only[yah,b1k];rfl)
 rw[a1p]at h;have h:g8 b3s (a,a,0,())=_:=h;rw[h,show a.all (fun x=>a43 x x)=true by rw[yag];intro x _;exact b1k x];rfl
theorem b9v {s:List UInt8} (hs:s.length<900000):(c4t s).1.length<1000000:=by
 unfold c4t;cases hp:pzL (s.length+1) s []with
 |inl l=>
  have:=b0l _ _ _ _ hp;simp only;cases (rtO l==0) with
  |true=>simp at this ⊢;omega
  |false=>simp
 |inr n=>simp
theorem a27 (s:List UInt8):q9 s=some true:=by
 unfold q9;have hal:qo=some true:=rfl;cases h1:decide (6000<(s.length:Int)) with
 |true=>simp only[yah,hal]
 |false=>
  rw[yaj]at h1;simp only[yao];rw[d0z (by omega),d05 (by omega)];have hl:=b9v (s:=s) (by omega);generalize c4t s=p at hl;obtain ⟨a,b,c⟩:=p;simp only[b7n hl,beq_self_eq_true,yah,hal]
end
end Go.Proofs.YtpdenibljogamaaGreatDoor
