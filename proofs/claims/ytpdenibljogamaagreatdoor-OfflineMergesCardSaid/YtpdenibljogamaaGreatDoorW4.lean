/- OfflineMerges: a part of the proof of the given statement, which is proved without conditions. -/
import Derived.Test.YtpdenibljogamaaGreatDoorW3
import Derived.Sort.Defs
import Derived.Lib.Small
import Derived.Lib.BitFns
import Derived.Lib.DecodeN
import Derived.Lib.Atoi
import Derived.Lib.Repeat
import Derived.Lib.Join
import Derived.Lib.Bytealg
import Derived.Shelf.Strings.Builder1
import Derived.Shelf.Strings.OnBuilder
import Derived.Shelf.LaysM
import Derived.Shelf.Strconv.Itoa3
import Derived.Shelf.Strconv.Atoi
import Derived.Shelf.Strings.Repeat
import Derived.Shelf.Strings.Search3
import Derived.Shelf.Strings.Count
import Derived.Ground.NamesProg
import Derived.Ground.Names2Prog
import Derived.Test.YtpdenibljogamaaGreatDoorProg
import Derived.Tactics
import Derived.Tactics2
import Derived.WalkKit
import Derived.WalkSpells
import Derived.StillTactics
import Derived.Laws.Pointers
import Derived.Deep.RegionHeld3
import Derived.LoopTactic
import Derived.KernelRfl
import Derived.Lib.AppendIntMem
import Derived.Shelf.RegionOpenPlain
import Derived.Lib.Walk
import Derived.Lib.AppendZerosOnto
import Derived.Lib.AppendZeros
import Derived.Laws.Externs
import Derived.Laws.CopyOwn
import Derived.Deep.RegionLaw
import Derived.Shelf.SlGeneric
import Derived.Shelf.SlSortCmp.WholeK
import Derived.Ground.SlsfProg
import Derived.Shelf.SlSortCmp.NoneTotal
import Derived.Laws.BitsLemmas
import Derived.Sort.AssemblyPlain
import Derived.Shelf.SlSortCmp.Insertion
set_option linter.all false
namespace Go.Proofs.YtpdenibljogamaaGreatDoor.Ev
open Go
def blk (c:Nat):Bool:=c==32||c==160
def a9l {α:Type} [Inhabited α] (cf:α→α→Int) (s:List α):List α:=(Go.Sort.pdq (fun x y=>decide (cf x y<0)) s.toArray 0 s.length (Go.Lib.bitLen s.length) true true).toList
def a3r (x y:Int):Int:=if x=0 then y else x
end Go.Proofs.YtpdenibljogamaaGreatDoor.Ev
namespace Go.Proofs.YtpdenibljogamaaGreatDoor
open Ev
open Go (IntKind)
section
set_option maxRecDepth 100000
structure Off where
 Device:Int
 Seq:Int
 Day:Int
 Kind:Int
 Item:Int
 Patron:Int
 Branch:Int
structure Outcome where
 Device:Int
 Seq:Int
 Err:Int
structure Loan where
 Item:Int
 Patron:Int
 Out:Int
 Due:Int
 Renewals:Int
 Recalled:Bool
structure Custody where
 State:Int
 Branch:Int
 Who:Int
 To:Int
structure Item where
 ID:Int
 Record:Int
 Branch:Int
 Kind:Int
 Price:Int
 Call:List UInt8
 Custody:Custody
structure Move where
 Day:Int
 Item:Int
 Kind:Int
 Branch:Int
 Who:Int
structure Patron where
 ID:Int
 Kind:Int
 Branch:Int
 Until:Int
 Stopped:Bool
 Name:List UInt8
structure Hold where
 ID:Int
 Patron:Int
 Record:Int
 Item:Int
 Pickup:Int
 Placed:Int
 State:Int
 Got:Int
 Until:Int
 Asleep:Int
 Rank:Int
structure Charge where
 ID:Int
 Patron:Int
 Item:Int
 Day:Int
 Kind:Int
 Amount:Int
 Paid:Int
structure Rule where
 Patron:Int
 Item:Int
 Branch:Int
 Days:Int
 Renewals:Int
 Fine:Int
 Grace:Int
 MaxFine:Int
 Loans:Int
 Shelf:Int
 Recall:Int
 Fixed:Int
 Rank:Int
inductive Kd where
 |kOff
 |kSOff
 |ki64
 |kOutcome
 |kstr
 |kLoan
 |kItem
 |kMove
 |kPatron
 |kHold
 |kCharge
 |kRule
 |ku8
 |ku64
abbrev El:Kd→Type
 |.kOff=>Off
 |.kSOff=>List Off
 |.ki64=>Int
 |.kOutcome=>Outcome
 |.kstr=>List UInt8
 |.kLoan=>Loan
 |.kItem=>Item
 |.kMove=>Move
 |.kPatron=>Patron
 |.kHold=>Hold
 |.kCharge=>Charge
 |.kRule=>Rule
 |.ku8=>Int
 |.ku64=>Int
abbrev DD:=D Kd El
abbrev Sm (R:Type):=u0 Kd El R
abbrev a8i {α β:Type} (ta:List (Nat×Nat×Kd)) (se ss bs az:List Nat) (fc:FC Kd El α) [FCC fc] (step:α→Option (α⊕β)) (oc:OC Kd El β):LD Kd El α β:=⟨ta,se,ss,bs,az,fc,step,oc⟩
instance:KdEq Kd where
 dec:=fun a b=>match a,b with
  |.kOff,.kOff=>some ⟨rfl⟩
  |.kSOff,.kSOff=>some ⟨rfl⟩
  |.ki64,.ki64=>some ⟨rfl⟩
  |.kOutcome,.kOutcome=>some ⟨rfl⟩
  |.kstr,.kstr=>some ⟨rfl⟩
  |.kLoan,.kLoan=>some ⟨rfl⟩
  |.kItem,.kItem=>some ⟨rfl⟩
  |.kMove,.kMove=>some ⟨rfl⟩
  |.kPatron,.kPatron=>some ⟨rfl⟩
  |.kHold,.kHold=>some ⟨rfl⟩
  |.kCharge,.kCharge=>some ⟨rfl⟩
  |.kRule,.kRule=>some ⟨rfl⟩
  |.ku8,.ku8=>some ⟨rfl⟩
  |.ku64,.ku64=>some ⟨rfl⟩
  |_,_=>none
abbrev wr (k:IntKind) (n:Int):Int:=IntKind.wrap k n
def b92 (x:Off):List DD:=[.int .i64 x.Device,.int .i64 x.Seq,.int .i64 x.Day,.int .i64 x.Kind,.int .i64 x.Item,.int .i64 x.Patron,.int .i64 x.Branch]
def w3:CC Kd El Off:=(CC.cons (Cod.int .i64) (CC.cons (Cod.int .i64) (CC.cons (Cod.int .i64) (CC.cons (Cod.int .i64) (CC.cons (Cod.int .i64) (CC.cons (Cod.int .i64) (CC.cons (Cod.int .i64) CC.nil))))))).iso b92 (fun p=>⟨p.1,p.2.1,p.2.2.1,p.2.2.2.1,p.2.2.2.2.1,p.2.2.2.2.2.1,p.2.2.2.2.2.2.1⟩)
def a83 (x:Outcome):List DD:=[.int .i64 x.Device,.int .i64 x.Seq,.int .i64 x.Err]
def a2f:CC Kd El Outcome:=(CC.cons (Cod.int .i64) (CC.cons (Cod.int .i64) (CC.cons (Cod.int .i64) CC.nil))).iso a83 (fun p=>⟨p.1,p.2.1,p.2.2.1⟩)
def b6u (x:Loan):List DD:=[.int .i64 x.Item,.int .i64 x.Patron,.int .i64 x.Out,.int .i64 x.Due,.int .i64 x.Renewals,.bool x.Recalled]
def a8s:CC Kd El Loan:=(CC.cons (Cod.int .i64) (CC.cons (Cod.int .i64) (CC.cons (Cod.int .i64) (CC.cons (Cod.int .i64) (CC.cons (Cod.int .i64) (CC.cons Cod.bool CC.nil)))))).iso b6u (fun p=>⟨p.1,p.2.1,p.2.2.1,p.2.2.2.1,p.2.2.2.2.1,p.2.2.2.2.2.1⟩)
def a82 (x:Custody):List DD:=[.int .i64 x.State,.int .i64 x.Branch,.int .i64 x.Who,.int .i64 x.To]
def a5c:CC Kd El Custody:=(CC.cons (Cod.int .i64) (CC.cons (Cod.int .i64) (CC.cons (Cod.int .i64) (CC.cons (Cod.int .i64) CC.nil)))).iso a82 (fun p=>⟨p.1,p.2.1,p.2.2.1,p.2.2.2.1⟩)
def b6t (x:Item):List DD:=[.int .i64 x.ID,.int .i64 x.Record,.int .i64 x.Branch,.int .i64 x.Kind,.int .i64 x.Price,.str x.Call,.int .i64 x.Custody.State,.int .i64 x.Custody.Branch,.int .i64 x.Custody.Who,.int .i64 x.Custody.To]
def a8r:CC Kd El Item:=(CC.cons (Cod.int .i64) (CC.cons (Cod.int .i64) (CC.cons (Cod.int .i64) (CC.cons (Cod.int .i64) (CC.cons (Cod.int .i64) (CC.cons Cod.str (CC.cons (Cod.int .i64) (CC.cons (Cod.int .i64) (CC.cons (Cod.int .i64) (CC.cons (Cod.int .i64) CC.nil)))))))))).iso b6t (fun p=>⟨p.1,p.2.1,p.2.2.1,p.2.2.2.1,p.2.2.2.2.1,p.2.2.2.2.2.1,⟨p.2.2.2.2.2.2.1,p.2.2.2.2.2.2.2.1,p.2.2.2.2.2.2.2.2.1,p.2.2.2.2.2.2.2.2.2.1⟩⟩)
def b6v (x:Move):List DD:=[.int .i64 x.Day,.int .i64 x.Item,.int .i64 x.Kind,.int .i64 x.Branch,.int .i64 x.Who]
def a8t:CC Kd El Move:=(CC.cons (Cod.int .i64) (CC.cons (Cod.int .i64) (CC.cons (Cod.int .i64) (CC.cons (Cod.int .i64) (CC.cons (Cod.int .i64) CC.nil))))).iso b6v (fun p=>⟨p.1,p.2.1,p.2.2.1,p.2.2.2.1,p.2.2.2.2.1⟩)
def b1w (x:Patron):List DD:=[.int .i64 x.ID,.int .i64 x.Kind,.int .i64 x.Branch,.int .i64 x.Until,.bool x.Stopped,.str x.Name]
def a3n:CC Kd El Patron:=(CC.cons (Cod.int .i64) (CC.cons (Cod.int .i64) (CC.cons (Cod.int .i64) (CC.cons (Cod.int .i64) (CC.cons Cod.bool (CC.cons Cod.str CC.nil)))))).iso b1w (fun p=>⟨p.1,p.2.1,p.2.2.1,p.2.2.2.1,p.2.2.2.2.1,p.2.2.2.2.2.1⟩)
def b6s (x:Hold):List DD:=[.int .i64 x.ID,.int .i64 x.Patron,.int .i64 x.Record,.int .i64 x.Item,.int .i64 x.Pickup,.int .i64 x.Placed,.int .i64 x.State,.int .i64 x.Got,.int .i64 x.Until,.int .i64 x.Asleep,.int .i64 x.Rank]
def a8q:CC Kd El Hold:=(CC.cons (Cod.int .i64) (CC.cons (Cod.int .i64) (CC.cons (Cod.int .i64) (CC.cons (Cod.int .i64) (CC.cons (Cod.int .i64) (CC.cons (Cod.int .i64) (CC.cons (Cod.int .i64) (CC.cons (Cod.int .i64) (CC.cons (Cod.int .i64) (CC.cons (Cod.int .i64) (CC.cons (Cod.int .i64) CC.nil))))))))))).iso b6s (fun p=>⟨p.1,p.2.1,p.2.2.1,p.2.2.2.1,p.2.2.2.2.1,p.2.2.2.2.2.1,p.2.2.2.2.2.2.1,p.2.2.2.2.2.2.2.1,p.2.2.2.2.2.2.2.2.1,p.2.2.2.2.2.2.2.2.2.1,p.2.2.2.2.2.2.2.2.2.2.1⟩)
def b1v (x:Charge):List DD:=[.int .i64 x.ID,.int .i64 x.Patron,.int .i64 x.Item,.int .i64 x.Day,.int .i64 x.Kind,.int .i64 x.Amount,.int .i64 x.Paid]
def a3m:CC Kd El Charge:=(CC.cons (Cod.int .i64) (CC.cons (Cod.int .i64) (CC.cons (Cod.int .i64) (CC.cons (Cod.int .i64) (CC.cons (Cod.int .i64) (CC.cons (Cod.int .i64) (CC.cons (Cod.int .i64) CC.nil))))))).iso b1v (fun p=>⟨p.1,p.2.1,p.2.2.1,p.2.2.2.1,p.2.2.2.2.1,p.2.2.2.2.2.1,p.2.2.2.2.2.2.1⟩)
def b6w (x:Rule):List DD:=[.int .i64 x.Patron,.int .i64 x.Item,.int .i64 x.Branch,.int .i64 x.Days,.int .i64 x.Renewals,.int .i64 x.Fine,.int .i64 x.Grace,.int .i64 x.MaxFine,.int .i64 x.Loans,.int .i64 x.Shelf,.int .i64 x.Recall,.int .i64 x.Fixed,.int .i64 x.Rank]
def a8u:CC Kd El Rule:=(CC.cons (Cod.int .i64) (CC.cons (Cod.int .i64) (CC.cons (Cod.int .i64) (CC.cons (Cod.int .i64) (CC.cons (Cod.int .i64) (CC.cons (Cod.int .i64) (CC.cons (Cod.int .i64) (CC.cons (Cod.int .i64) (CC.cons (Cod.int .i64) (CC.cons (Cod.int .i64) (CC.cons (Cod.int .i64) (CC.cons (Cod.int .i64) (CC.cons (Cod.int .i64) CC.nil))))))))))))).iso b6w (fun p=>⟨p.1,p.2.1,p.2.2.1,p.2.2.2.1,p.2.2.2.2.1,p.2.2.2.2.2.1,p.2.2.2.2.2.2.1,p.2.2.2.2.2.2.2.1,p.2.2.2.2.2.2.2.2.1,p.2.2.2.2.2.2.2.2.2.1,p.2.2.2.2.2.2.2.2.2.2.1,p.2.2.2.2.2.2.2.2.2.2.2.1,p.2.2.2.2.2.2.2.2.2.2.2.2.1⟩)
def ccK:(k:Kd)→CC Kd El (El k)
 |.kOff=>w3
 |.kSOff=>CC.one (Cod.lst Kd.kOff)
 |.ki64=>CC.one (Cod.int .i64)
 |.kOutcome=>a2f
 |.kstr=>CC.one Cod.str
 |.kLoan=>a8s
 |.kItem=>a8r
 |.kMove=>a8t
 |.kPatron=>a3n
 |.kHold=>a8q
 |.kCharge=>a3m
 |.kRule=>a8u
 |.ku8=>CC.one (Cod.int .u8)
 |.ku64=>CC.one (Cod.int .u64)
def c7d:Kd→Nat
 |.kOff=>7
 |.kSOff=>1
 |.ki64=>1
 |.kOutcome=>3
 |.kstr=>1
 |.kLoan=>6
 |.kItem=>10
 |.kMove=>5
 |.kPatron=>6
 |.kHold=>11
 |.kCharge=>7
 |.kRule=>13
 |.ku8=>1
 |.ku64=>1
def c7c (t:Nat):Option Kd:=bif Nat.beq t 357 then some .ku8 else bif Nat.beq t 356 then some .ku8 else bif Nat.beq t 301 then some .ki64 else bif Nat.beq t 225 then some .ku64 else bif Nat.beq t 166 then some .ku64 else bif Nat.beq t 157 then some .ki64 else bif Nat.beq t 118 then some .ku64 else bif Nat.beq t 105 then some .kRule else bif Nat.beq t 103 then some .kCharge else bif Nat.beq t 101 then some .kHold else bif Nat.beq t 99 then some .kLoan else bif Nat.beq t 97 then some .kPatron else bif Nat.beq t 95 then some .kItem else bif Nat.beq t 64 then some .kOutcome else bif Nat.beq t 61 then some .kOff else bif Nat.beq t 57 then some .kMove else bif Nat.beq t 24 then some .ki64 else bif Nat.beq t 22 then some .kSOff else bif Nat.beq t 12 then some .ku64 else bif Nat.beq t 11 then some .kstr else bif Nat.beq t 10 then some .kstr else bif Nat.beq t 9 then some .kstr else bif Nat.beq t 6 then some .ku8 else bif Nat.beq t 5 then some .ku8 else bif Nat.beq t 3 then some .ki64 else bif Nat.beq t 2 then some .ki64 else none
def c9:List Int:=(List.range 20).map fun i=>((10 ^ i:Nat):Int)
def b0r (t:Nat):Option ((k:Kd)×List (El k)):=bif Nat.beq t 4 then some ⟨.ku64,c9⟩ else none
def c7f (f:Nat):Md:=bif Nat.beq f 30 then .bld else bif Nat.beq f 27 then .bld else bif Nat.beq f 130 then .mut else bif Nat.beq f 126 then .mut else bif Nat.beq f 125 then .newb else bif Nat.beq f 114 then .inpl else bif Nat.beq f 90 then .mut else bif Nat.beq f 66 then .inpl else bif Nat.beq f 29 then .fresh else bif Nat.beq f 42 then .inpl else bif Nat.beq f 39 then .fresh else .data
def c3o (t:Nat):Bool:=Nat.beq t 93||(Nat.beq t 61||(false))
def c7b (f:Nat):Option Kd:=bif Nat.beq f 114 then some .kOff else bif Nat.beq f 66 then some .kOff else bif Nat.beq f 42 then some .kOff else none
def c6c (n:Nat):Bool:=Nat.beq n 4
def c67:Option (BlK Kd El):=some ⟨.ku8,blI,blJ,68,5,c0c 27 30⟩
def c6d:Kd→Bool:=fun | .ku8=>true|_=>false
def sg:Sg Kd El:=⟨fun k=>(ccK k).enc,fun k=>(ccK k).dec,c7d,c7c,b0r,c7f,c3o,fun _=>none,c7b,c6c,c67,c6d⟩
def m5 (x y:Off):Bool:=(x.Device==y.Device&&(x.Seq==y.Seq&&(x.Day==y.Day&&(x.Kind==y.Kind&&(x.Item==y.Item&&(x.Patron==y.Patron&&(x.Branch==y.Branch&&true)))))))
abbrev ZC:=CC Kd El
abbrev ZF:=FC Kd El
abbrev ZD:=Cod Kd El
abbrev Zi:ZD Int:=Cod.int .i64
abbrev Zb:ZD Bool:=Cod.bool
abbrev Zl (k:Kd):ZD (List (El k)):=Cod.lst k
abbrev Zn:ZC Unit:=CC.nil
abbrev Zz:ZF Unit:=FC.nil
section
variable {α β:Type}
abbrev Zc:ZD α→ZC β→ZC (α×β):=CC.cons
abbrev Zs:Nat→ZD α→ZF β→ZF (α×β):=FC.slot
abbrev Zp:Nat→Nat→ZF β→ZF β:=FC.ptr
abbrev Zx:Nat→ZC α→ZF β→ZF (α×β):=FC.box
end
end
section
def okO (x:Off):Bool:=(decide (-1000000≤x.Day)&&decide (x.Day≤1000000))&&((decide (-1000000≤x.Device)&&decide (x.Device≤1000000))&&(decide (-1000000≤x.Seq)&&decide (x.Seq≤1000000)))
abbrev a5b:={x:Off // okO x=true}
instance:Inhabited a5b:=⟨⟨⟨0,0,0,0,0,0,0⟩,rfl⟩⟩
def b75:List Off→Option (List a5b) | []=>some []|x::l=>if h:okO x=true then (match b75 l with|some t=>some (⟨x,h⟩::t)|none=>none) else none
def cfO (a b:Off):Int:=a3r (a.Day-b.Day) (a3r (a.Device-b.Device) (a.Seq-b.Seq))
def qo {γ0:Type} (p:γ0→Off→Off→Option Int) (s:List Off) (g:γ0):Option (List Off):=bif decide (s.length≤LIM) then (match b75 s with|some t=>some ((a9l (fun a b:a5b=>cfO a.1 b.1) t).map (fun x=>x.1))|none=>none) else none
def qr (l:List (List UInt8)) (sep:List UInt8):Option (List UInt8):=bif decide (l.length≤1073741824)&&decide ((Go.Lib.join l sep).length≤1073741824) then some (Go.Lib.join l sep) else none
def qw (s:List UInt8) (n:Int):Option (List UInt8):=bif decide (0≤n)&&(decide (n.toNat≤1073741824)&&decide (s.length*n.toNat≤1073741824)) then some (Go.Lib.repeatL s n.toNat) else none
def qt (s sep:List UInt8):Option Int:=match sep with | [c]=>some ((Go.Lib.countByte s c:Nat):Int)|_=>none
def qx (s sep:List UInt8):Option Int:=match sep with | [c]=>some (Go.Lib.indexByte s c)|_=>none
def qz (s:List UInt8):Option (Int×Bool):=bif decide (s.length≤18) then (match Go.Lib.atoi s with|some n=>some (n,true)|none=>none) else none
def qv (s:List UInt8) (c:Int):Option Int:=some (Go.Lib.indexByte s c.toNat.toUInt8)
@[inline] def c1x:Nat→Nat→List UInt8→List UInt8|0,_,a=>a|f+1,u,a=>bif decide (u<10) then UInt8.ofNat (48+u)::a else c1x f (u / 10) (UInt8.ofNat (48+u % 10)::a)
def qy (n:Int):Option (List UInt8):=bif decide (-9223372036854775808≤n)&&decide (n≤9223372036854775807) then some (bif decide (n<0) then 45::c1x 20 n.natAbs [] else c1x 20 n.natAbs []) else none
end
section
set_option maxRecDepth 100000
def ql:Option Bool:=some true
def qn (n:Int) (least:Int) (most:Int):Option Bool:=
 let k (v:Bool):Option Bool:=some v;bif decide (least≤n) then k (decide (n≤most)) else k false
def qj (x:Off):Option Int:=
 match qn x.Device 1 9 with|some r1 =>(let k24 (v:Bool):Option Int:=let k23 (v6:Bool):Option Int:=let k22 (v9:Bool):Option Int:=let k21 (v12:Bool):Option Int:=bif v12 then some 2 else match qn x.Kind 1 3 with|some r14 =>bif !r14 then some 1 else let k20 (v17:Bool):Option Int:=let k (v19:Bool):Option Int:=bif v19 then some 2 else some 0;bif v17 then k true else bif !(x.Kind==1) then k (!(x.Patron==0)) else k false;bif x.Kind==1 then match qn x.Patron 1 9999 with|some r16 =>k20 (!r16)|none =>none else k20 false|none =>none;bif v9 then k21 true else match qn x.Branch 1 4 with|some r11 =>k21 (!r11)|none =>none;bif v6 then k22 true else match qn x.Item 1 9999 with|some r8 =>k22 (!r8)|none =>none;bif v then k23 true else match qn x.Day 0 109572 with|some r5 =>k23 (!r5)|none =>none;bif !r1 then k24 true else match qn x.Seq 1 9999 with|some r3 =>k24 (!r3)|none =>none)|none =>none
def qk (y:Off) (v:Off):Option Bool:=
 let k (v1:Bool):Option Bool:=some v1;bif v.Device==y.Device then k (v.Seq==y.Seq) else k false
def a9p {γ0:Type} (p:γ0→Off→Option Bool):((List Off)×γ0×Int×Int×Unit)→Option (((List Off)×γ0×Int×Int×Unit)⊕((Unit)⊕(Int×Unit))):=fun (s,g,v,v1,_)=>
 bif decide (v1<v) then match a09 s v1 with|some x =>(match p g x with|some r =>bif r then some (.inr (.inr (v1,()))) else some (.inl (s,g,v,wr .i64 (v1+1),()))|none =>none)|none =>none else some (.inr (.inl (())))
def qd {γ0:Type} (p:γ0→Off→Option Bool) (s:List Off) (g:γ0):Option Int:=
 match e7 (a9p p) (s,g,(s.length:Int),0,()) with|some (.inl (_)) =>some (-1)|some (.inr (v,_)) =>some v|none =>none
def qu {γ0:Type} (p:γ0→Off→Option Bool) (s:List Off) (g:γ0):Option Bool:=
 match qd p s g with|some r1 =>some (decide (0≤r1))|none =>none
def a9r:(Int×Int×(List Int)×Unit)→Option ((Int×Int×(List Int)×Unit)⊕((Unit)⊕(Int×Unit))):=fun (v,v1,l,_)=>
 bif decide (v1<v) then match a09 l v1 with|some _ =>(match l[v1.toNat]? with|some x =>bif !(x==0) then some (.inr (.inr (x,()))) else some (.inl (v,wr .i64 (v1+1),l,()))|none =>none)|none =>none else some (.inr (.inl (())))
def qf (a:Off) (b:Off):Option Int:=
 match e7 a9r ((([wr .i64 (a.Day-b.Day),wr .i64 (a.Device-b.Device),wr .i64 (a.Seq-b.Seq)]).length:Int),0,[wr .i64 (a.Day-b.Day),wr .i64 (a.Device-b.Device),wr .i64 (a.Seq-b.Seq)],()) with|some (.inl (_)) =>some 0|some (.inr (v,_)) =>some v|none =>none
def b5n {γ0:Type} (p:γ0→Off→Off→Option Int):((List Off)×γ0×Int×Unit)→Option (((List Off)×γ0×Int×Unit)⊕((Unit)⊕(Bool×Unit))):=fun (x,g,i,_)=>
 bif decide (0<i) then match a09 x i with|some x1 =>(match a09 x (wr .i64 (i-1)) with|some x2 =>(match p g x1 x2 with|some r =>bif decide (r<0) then some (.inr (.inr (false,()))) else some (.inl (x,g,wr .i64 (i-1),()))|none =>none)|none =>none)|none =>none else some (.inr (.inl (())))
def qg {γ0:Type} (p:γ0→Off→Off→Option Int) (x:List Off) (g:γ0):Option Bool:=
 match e7 (b5n p) (x,g,wr .i64 ((x.length:Int)-1),()) with|some (.inl (_)) =>some true|some (.inr (v,_)) =>some v|none =>none
def b2j:((List Off)×(List Off)×Int×Int×Unit)→Option (((List Off)×(List Off)×Int×Int×Unit)⊕(((List Off)×Unit)⊕(Int×Unit))):=fun (l,v,v1,v2,_)=>
 bif decide (v2<v1) then match a09 v v2 with|some x =>(match qj x with|some r3 =>bif !(r3==0) then some (.inr (.inr (r3,()))) else some (.inl (l,v,v1,wr .i64 (v2+1),()))|none =>none)|none =>none else some (.inr (.inl (l,())))
def a5r:((List Off)×(List Off)×Int×Int×Unit)→Option (((List Off)×(List Off)×Int×Int×Unit)⊕(((List Off)×Unit)⊕(Int×Unit))):=fun (l,v,v5,v6,_)=>
 bif decide (v6<v5) then match a09 v v6 with|some x =>bif decide (0≤(0:Int))&&(decide ((0:Int)≤v6)&&decide (v6≤(l.length:Int))) then match qu (fun g x0=>qk x0 g.2.1) ((l.take v6.toNat).drop (0:Int).toNat) ((),(x,())) with|some r7 =>bif r7 then some (.inr (.inr (7,()))) else some (.inl (l,v,v5,wr .i64 (v6+1),()))|none =>none else none|none =>none else some (.inr (.inl (l,())))
def qb (l:List Off):Option Int:=
 bif decide (128<(l.length:Int)) then some 13 else match e7 b2j (l,l,(l.length:Int),0,()) with|some (.inl (l4,_)) =>(match e7 a5r (l4,l4,(l4.length:Int),0,()) with|some (.inl (l8,_)) =>(match qg (fun g x0 x1=>qf x0 x1) l8 ((),()) with|some r9 =>bif !r9 then some 3 else some 0|none =>none)|some (.inr (v,_)) =>some v|none =>none)|some (.inr (v10,_)) =>some v10|none =>none
def qs (s:List Off):Option (List Off):=
 bif decide (([]:List Off).length+s.length≤LIM) then some (([])++s) else none
def qm (x:Off) (v:Off):Option Bool:=
 let k (v1:Bool):Option Bool:=some v1;bif x.Device==v.Device then k (x.Seq==v.Seq) else k false
def a9o:((List Off)×(List Off)×Int×Int×(List (List Off))×Unit)→Option (((List Off)×(List Off)×Int×Int×(List (List Off))×Unit)⊕(((List Off)×(List Off)×Unit)⊕((List Off)×Int×Unit))):=fun (a,b,v,v1,l,_)=>
 bif decide (v1<v) then match a09 l v1 with|some _ =>(match l[v1.toNat]? with|some x =>(match qb x with|some r2 =>bif !(r2==0) then some (.inr (.inr ([],r2,()))) else some (.inl (a,b,v,wr .i64 (v1+1),l,()))|none =>none)|none =>none)|none =>none else some (.inr (.inl (a,b,())))
def a4h:((List Off)×(List Off)×Int×Int×(List Off)×Unit)→Option (((List Off)×(List Off)×Int×Int×(List Off)×Unit)⊕(((List Off)×Unit)⊕((List Off)×Int×Unit))):=fun (a,v,v5,v6,l,_)=>
 bif decide (v6<v5) then match a09 v v6 with|some x =>(match qd (fun g x0=>qm x0 g.2.1) a ((),(x,())) with|some r7 =>(bif decide (r7<0) then bif decide (l.length+([x]:List Off).length≤LIM) then some (.inl (a,v,v5,wr .i64 (v6+1),l++([x]:List Off),())) else none else match a09 a r7 with|some x8 =>bif !(m5 x8 x) then some (.inr (.inr ([],7,()))) else some (.inl (a,v,v5,wr .i64 (v6+1),l,()))|none =>none)|none =>none)|none =>none else some (.inr (.inl (l,())))
def qc (a:List Off) (b:List Off):Option ((List Off)×Int):=
 match e7 a9o (a,b,(([a,b]).length:Int),0,[a,b],()) with|some (.inl (a3,b4,_)) =>(match qs a3 with|some l =>(match e7 a4h (a3,b4,(b4.length:Int),0,l,()) with|some (.inl (l9,_)) =>(bif decide (128<(l9.length:Int)) then some ([],13) else match qo (fun g x0 x1=>qf x0 x1) l9 ((),()) with|some l11 =>some (l11,0)|none =>none)|some (.inr (v,v12,_)) =>some (v,v12)|none =>none)|none =>none)|some (.inr (v13,v14,_)) =>some (v13,v14)|none =>none
def q8 (x:Off):Option Int:=
 let k24 (v:Bool):Option Int:=let k23 (v1:Bool):Option Int:=let k22 (v2:Bool):Option Int:=let k21 (v3:Bool):Option Int:=let k20 (v4:Bool):Option Int:=let k19 (v5:Bool):Option Int:=let k18 (v6:Bool):Option Int:=let k17 (v7:Bool):Option Int:=let k16 (v8:Bool):Option Int:=bif v8 then some 2 else let k15 (v9:Bool):Option Int:=bif v9 then some 1 else let k14 (v11:Bool):Option Int:=let k (v13:Bool):Option Int:=bif v13 then some 2 else some 0;bif v11 then k true else bif !(x.Kind==1) then k (!(x.Patron==0)) else k false;bif x.Kind==1 then bif decide (x.Patron<1) then k14 true else k14 (decide (9999<x.Patron)) else k14 false;bif decide (x.Kind<1) then k15 true else k15 (decide (3<x.Kind));bif v7 then k16 true else k16 (decide (4<x.Branch));bif v6 then k17 true else k17 (decide (x.Branch<1));bif v5 then k18 true else k18 (decide (9999<x.Item));bif v4 then k19 true else k19 (decide (x.Item<1));bif v3 then k20 true else k20 (decide (109572<x.Day));bif v2 then k21 true else k21 (decide (x.Day<0));bif v1 then k22 true else k22 (decide (9999<x.Seq));bif v then k23 true else k23 (decide (x.Seq<1));bif decide (x.Device<1) then k24 true else k24 (decide (9<x.Device))
def qq (a:Off) (b:Off):Option Bool:=
 bif !(a.Day==b.Day) then some (decide (a.Day<b.Day)) else bif !(a.Device==b.Device) then some (decide (a.Device<b.Device)) else some (decide (a.Seq<b.Seq))
def b2i:((List Off)×Int×Unit)→Option (((List Off)×Int×Unit)⊕(((List Off)×Unit)⊕(Int×Unit))):=fun (l,i,_)=>
 bif decide (i<(l.length:Int)) then match a09 l i with|some x =>(match q8 x with|some r1 =>bif !(r1==0) then some (.inr (.inr (r1,()))) else some (.inl (l,wr .i64 (i+1),()))|none =>none)|none =>none else some (.inr (.inl (l,())))
def a4g:((List Off)×Int×Int×Unit)→Option (((List Off)×Int×Int×Unit)⊕(((List Off)×Int×Unit)⊕(Int×Unit))):=fun (l,i,k,_)=>
 bif decide (k<i) then match a09 l i with|some x =>(match a09 l k with|some x3 =>let k6 (v:Bool):Option (((List Off)×Int×Int×Unit)⊕(((List Off)×Int×Unit)⊕(Int×Unit))):=bif v then some (.inr (.inr (7,()))) else some (.inl (l,i,wr .i64 (k+1),()));bif x.Device==x3.Device then match a09 l i with|some x4 =>(match a09 l k with|some x5 =>k6 (x4.Seq==x5.Seq)|none =>none)|none =>none else k6 false|none =>none)|none =>none else some (.inr (.inl (l,i,())))
def a5q:((List Off)×Int×Unit)→Option (((List Off)×Int×Unit)⊕(((List Off)×Unit)⊕(Int×Unit))):=fun (l,i,_)=>
 bif decide (i<(l.length:Int)) then match e7 a4g (l,i,0,()) with|some (.inl (l7,i8,_)) =>some (.inl (l7,wr .i64 (i8+1),()))|some (.inr (v,_)) =>some (.inr (.inr (v,())))|none =>none else some (.inr (.inl (l,())))
def a2u:((List Off)×Int×Unit)→Option (((List Off)×Int×Unit)⊕((Unit)⊕(Int×Unit))):=fun (l,i,_)=>
 bif decide (i<(l.length:Int)) then match a09 l (wr .i64 (i-1)) with|some x =>(match a09 l i with|some x10 =>(match qq x x10 with|some r11 =>bif !r11 then some (.inr (.inr (3,()))) else some (.inl (l,wr .i64 (i+1),()))|none =>none)|none =>none)|none =>none else some (.inr (.inl (())))
def qa (l:List Off):Option Int:=
 bif decide (128<(l.length:Int)) then some 13 else match e7 b2i (l,0,()) with|some (.inl (l2,_)) =>(match e7 a5q (l2,0,()) with|some (.inl (l9,_)) =>(match e7 a2u (l9,1,()) with|some (.inl (_)) =>some 0|some (.inr (v,_)) =>some v|none =>none)|some (.inr (v12,_)) =>some v12|none =>none)|some (.inr (v13,_)) =>some v13|none =>none
def b2k:((List Off)×Int×Off×Unit)→Option (((List Off)×Int×Off×Unit)⊕(((List Off)×Int×Off×Unit))):=fun (l,k,x,_)=>
 let k3 (v:Bool):Option (((List Off)×Int×Off×Unit)⊕(((List Off)×Int×Off×Unit))):=bif v then some (.inl (l,wr .i64 (k-1),x,())) else some (.inr ((l,k,x,())));bif decide (0<k) then match a09 l (wr .i64 (k-1)) with|some x1 =>(match qq x x1 with|some r2 =>k3 r2|none =>none)|none =>none else k3 false
def qh (l:List Off) (x:Off):Option (List Off):=
 match e7 b2k (l,(l.length:Int),x,()) with|some ((l4,k,x5,_)) =>bif decide (0≤(0:Int))&&(decide ((0:Int)≤k)&&decide (k≤(l4.length:Int))) then bif decide (([]:List Off).length+((l4.take k.toNat).drop (0:Int).toNat).length≤LIM) then bif decide ((([])++((l4.take k.toNat).drop (0:Int).toNat)).length+([x5]:List Off).length≤LIM) then bif decide (0≤(k:Int))&&(decide ((k:Int)≤(l4.length:Int))&&decide ((l4.length:Int)≤(l4.length:Int))) then bif decide (((([])++((l4.take k.toNat).drop (0:Int).toNat))++([x5]:List Off)).length+((l4.take (l4.length:Int).toNat).drop (k:Int).toNat).length≤LIM) then some (((([])++((l4.take k.toNat).drop (0:Int).toNat))++([x5]:List Off))++((l4.take (l4.length:Int).toNat).drop (k:Int).toNat)) else none else none else none else none else none|none =>none
def a4i:((List Off)×(List Off)×(List Off)×Int×Bool×Int×Unit)→Option (((List Off)×(List Off)×(List Off)×Int×Bool×Int×Unit)⊕(((List Off)×(List Off)×(List Off)×Int×Bool×Unit)⊕((List Off)×Int×Unit))):=fun (a,b,vout,i,known,k,_)=>
 bif decide (k<(a.length:Int)) then match a09 a k with|some x =>(match a09 b i with|some x4 =>let k11 (v:Bool):Option (((List Off)×(List Off)×(List Off)×Int×Bool×Int×Unit)⊕(((List Off)×(List Off)×(List Off)×Int×Bool×Unit)⊕((List Off)×Int×Unit))):=let k10 (known9:Bool):Option (((List Off)×(List Off)×(List Off)×Int×Bool×Int×Unit)⊕(((List Off)×(List Off)×(List Off)×Int×Bool×Unit)⊕((List Off)×Int×Unit))):=some (.inl (a,b,vout,i,known9,wr .i64 (k+1),()));bif v then match a09 a k with|some x7 =>(match a09 b i with|some x8 =>bif !(m5 x7 x8) then some (.inr (.inr ([],7,()))) else k10 true|none =>none)|none =>none else k10 known;bif x.Device==x4.Device then match a09 a k with|some x5 =>(match a09 b i with|some x6 =>k11 (x5.Seq==x6.Seq)|none =>none)|none =>none else k11 false|none =>none)|none =>none else some (.inr (.inl (a,b,vout,i,known,())))
def a9q:((List Off)×(List Off)×(List Off)×Int×Unit)→Option (((List Off)×(List Off)×(List Off)×Int×Unit)⊕(((List Off)×Unit)⊕((List Off)×Int×Unit))):=fun (a,b,vout,i,_)=>
 bif decide (i<(b.length:Int)) then match e7 a4i (a,b,vout,i,false,0,()) with|some (.inl (a12,b13,vout14,i15,known,_)) =>let k (vout17:List Off):Option (((List Off)×(List Off)×(List Off)×Int×Unit)⊕(((List Off)×Unit)⊕((List Off)×Int×Unit))):=some (.inl (a12,b13,vout17,wr .i64 (i15+1),()));bif !known then match a09 b13 i15 with|some x =>(match qh vout14 x with|some r16 =>k r16|none =>none)|none =>none else k vout14|some (.inr (v,v18,_)) =>some (.inr (.inr (v,v18,())))|none =>none else some (.inr (.inl (vout,())))
def qe (a:List Off) (b:List Off):Option ((List Off)×Int):=
 match qa a with|some r1 =>(bif !(r1==0) then some ([],r1) else match qa b with|some r3 =>bif !(r3==0) then some ([],r3) else bif decide (([]:List Off).length+a.length≤LIM) then match e7 a9q (a,b,([])++a,0,()) with|some (.inl (vout,_)) =>bif decide (128<(vout.length:Int)) then some ([],13) else some (vout,0)|some (.inr (v,v19,_)) =>some (v,v19)|none =>none else none|none =>none)|none =>none
def b2l:((List Off)×(List Off)×Int×Unit)→Option (((List Off)×(List Off)×Int×Unit)⊕((Unit)⊕(Bool×Unit))):=fun (a,b,i,_)=>
 bif decide (i<(a.length:Int)) then match a09 a i with|some x =>(match a09 b i with|some x1 =>bif !(m5 x x1) then some (.inr (.inr (false,()))) else some (.inl (a,b,wr .i64 (i+1),()))|none =>none)|none =>none else some (.inr (.inl (())))
def qi (a:List Off) (b:List Off):Option Bool:=
 bif !((a.length:Int)==(b.length:Int)) then some false else match e7 b2l (a,b,0,()) with|some (.inl (_)) =>some true|some (.inr (v,_)) =>some v|none =>none
def qp (a:List Off) (b:List Off):Option Bool:=
 let k15 (v:Bool):Option Bool:=bif v then match ql with|some r1 =>some r1|none =>none else match qc a b with|some (r3,r4) =>(match qe a b with|some (r6,r7) =>(match qi r3 r6 with|some r9 =>let k14 (v10:Bool):Option Bool:=let k (v13:Bool):Option Bool:=some v13;bif v10 then match ql with|some r12 =>k r12|none =>none else k false;bif r9 then k14 (r4==r7) else k14 false|none =>none)|none =>none)|none =>none;bif decide (140<(a.length:Int)) then k15 true else k15 (decide (140<(b.length:Int)))
end
section
set_option maxRecDepth 100000
open Go
theorem b0g:d8 w3:=d8.iso (d8.cons (d5.int _) (d8.cons (d5.int _) (d8.cons (d5.int _) (d8.cons (d5.int _) (d8.cons (d5.int _) (d8.cons (d5.int _) (d8.cons (d5.int _) d8.nil))))))) (fun _=>rfl)
theorem a2t:d8 a2f:=d8.iso (d8.cons (d5.int _) (d8.cons (d5.int _) (d8.cons (d5.int _) d8.nil))) (fun _=>rfl)
theorem a7a:d8 a8s:=d8.iso (d8.cons (d5.int _) (d8.cons (d5.int _) (d8.cons (d5.int _) (d8.cons (d5.int _) (d8.cons (d5.int _) (d8.cons d5.bool d8.nil)))))) (fun _=>rfl)
theorem a67:d8 a5c:=d8.iso (d8.cons (d5.int _) (d8.cons (d5.int _) (d8.cons (d5.int _) (d8.cons (d5.int _) d8.nil)))) (fun _=>rfl)
theorem a69:d8 a8r:=d8.iso (d8.cons (d5.int _) (d8.cons (d5.int _) (d8.cons (d5.int _) (d8.cons (d5.int _) (d8.cons (d5.int _) (d8.cons d5.str (d8.cons (d5.int _) (d8.cons (d5.int _) (d8.cons (d5.int _) (d8.cons (d5.int _) d8.nil)))))))))) (fun _=>rfl)
theorem a7b:d8 a8t:=d8.iso (d8.cons (d5.int _) (d8.cons (d5.int _) (d8.cons (d5.int _) (d8.cons (d5.int _) (d8.cons (d5.int _) d8.nil))))) (fun _=>rfl)
theorem a3p:d8 a3n:=d8.iso (d8.cons (d5.int _) (d8.cons (d5.int _) (d8.cons (d5.int _) (d8.cons (d5.int _) (d8.cons d5.bool (d8.cons d5.str d8.nil)))))) (fun _=>rfl)
theorem a68:d8 a8q:=d8.iso (d8.cons (d5.int _) (d8.cons (d5.int _) (d8.cons (d5.int _) (d8.cons (d5.int _) (d8.cons (d5.int _) (d8.cons (d5.int _) (d8.cons (d5.int _) (d8.cons (d5.int _) (d8.cons (d5.int _) (d8.cons (d5.int _) (d8.cons (d5.int _) d8.nil))))))))))) (fun _=>rfl)
theorem a3o:d8 a3m:=d8.iso (d8.cons (d5.int _) (d8.cons (d5.int _) (d8.cons (d5.int _) (d8.cons (d5.int _) (d8.cons (d5.int _) (d8.cons (d5.int _) (d8.cons (d5.int _) d8.nil))))))) (fun _=>rfl)
theorem a7c:d8 a8u:=d8.iso (d8.cons (d5.int _) (d8.cons (d5.int _) (d8.cons (d5.int _) (d8.cons (d5.int _) (d8.cons (d5.int _) (d8.cons (d5.int _) (d8.cons (d5.int _) (d8.cons (d5.int _) (d8.cons (d5.int _) (d8.cons (d5.int _) (d8.cons (d5.int _) (d8.cons (d5.int _) (d8.cons (d5.int _) d8.nil))))))))))))) (fun _=>rfl)
instance:CCC w3:=⟨b0g⟩
instance:CCC a2f:=⟨a2t⟩
instance:CCC a8s:=⟨a7a⟩
instance:CCC a5c:=⟨a67⟩
instance:CCC a8r:=⟨a69⟩
instance:CCC a8t:=⟨a7b⟩
instance:CCC a3n:=⟨a3p⟩
instance:CCC a8q:=⟨a68⟩
instance:CCC a3m:=⟨a3o⟩
instance:CCC a8u:=⟨a7c⟩
end
section
set_option maxRecDepth 100000
abbrev x0a:=Zl .kOff
abbrev x0b:=OC.r [2] [] [] (Zs 2 Zi Zz)
abbrev x0c:=OC.r [4,5] [] [] (Zs 4 x0a (Zs 5 Zi Zz))
abbrev x0d:=OC.xs 0 [] [] [] Zz (.r [4] [] [] (Zs 4 Zi Zz))
abbrev x0e:=Zc (Cod.cptr w3) Zn
abbrev x0f:=OC.xs 0 [] [] [] Zz (.r [4] [] [] (Zs 4 Zb Zz))
abbrev c2f:ZC (Unit):=Zn
abbrev a24:ZD (Bool):=Zb
def c3u (a:Unit):Option (Bool):=ql
abbrev c53:ZC (Int×Int×Int×Unit):=Zc Zi (Zc Zi (Zc Zi Zn))
abbrev c47 {R:Type}:Sm R:=a0b c53 a24 (fun a=>qn a.1 a.2.1 a.2.2.1)
abbrev c2d:ZC (Off×Unit):=Zc (Cod.agg w3) Zn
abbrev a47:ZD (Int):=Zi
abbrev b8v {R:Type}:Sm R:=a0b c2d a47 (fun a=>qj a.1)
abbrev c2e:ZC (Off×Off×Unit):=Zc (Cod.agg w3) x0e
abbrev b8w {R:Type}:Sm R:=a0b c2e a24 (fun a=>qk a.1 a.2.1)
abbrev c2a:ZC ((List Off)×((Unit)×(Off×Unit))×Unit):=Zc x0a (Zc (Cod.fnc 34 (Zn) x0e) Zn)
abbrev c44 {R:Type}:Sm R:=a0b c2a a47 (fun a=>qd (fun g x0=>qk x0 g.2.1) a.1 a.2.1)
def b9l {R:Type}:Nat→Sm R:=cl 34 b8w c0
abbrev b4s:=a8i [] [] [0,1,7,8] [] [] (Zs 0 x0a (Zs 1 (Cod.fnc 34 (Zn) x0e) (Zs 7 Zi (Zs 8 Zi Zz)))) (a9p (fun g x0=>qk x0 g.2.1)) x0d
def b05 {R:Type}:Lp Kd El R:=lp 2 b4s.sem l0
abbrev b8y {R:Type}:Sm R:=a0b c2a a24 (fun a=>qu (fun g x0=>qk x0 g.2.1) a.1 a.2.1)
abbrev c2b:ZC (Off×Off×Unit):=Zc (Cod.agg w3) (Zc (Cod.agg w3) Zn)
abbrev b8s {R:Type}:Sm R:=a0b c2b a47 (fun a=>qf a.1 a.2.1)
def b9n {R:Type}:Nat→Sm R:=c0
abbrev b4u:=a8i [] [] [22,23,24] [] [22] (FC.arr 22 22 (Zs 23 Zi (Zs 24 Zi (FC.own 22 Kd.ki64 false Zz)))) a9r x0d
def b06 {R:Type}:Lp Kd El R:=lp 2 b4u.sem l0
abbrev c2c:ZC ((List Off)×((Unit)×(Unit))×Unit):=Zc x0a (Zc (Cod.fnc 36 (Zn) (Zn)) Zn)
abbrev b8t {R:Type}:Sm R:=a0b c2c a24 (fun a=>qg (fun g x0 x1=>qf x0 x1) a.1 a.2.1)
def b9o {R:Type}:Nat→Sm R:=cl 36 b8s c0
abbrev b4v:=a8i [] [] [0,1,5] [] [] (Zs 0 x0a (Zs 1 (Cod.fnc 36 (Zn) (Zn)) (Zs 5 Zi Zz))) (b5n (fun g x0 x1=>qf x0 x1)) x0f
def b07 {R:Type}:Lp Kd El R:=lp 2 b4v.sem l0
abbrev b82:ZC ((List Off)×Unit):=Zc x0a Zn
abbrev b8r {R:Type}:Sm R:=a0b b82 a47 (fun a=>qb a.1)
def b9j {R:Type}:Nat→Sm R:=cl 32 b8v (cl 33 b8y (cl 35 b8t c0))
abbrev b4q:=a8i [] [] [0,11,12,13] [] [] (Zs 0 x0a (Zs 11 x0a (Zs 12 Zi (Zs 13 Zi Zz)))) b2j (.xs 0 [0] [] [] (Zs 0 x0a Zz) x0b)
abbrev b0x:=a8i [] [] [0,23,24,25] [] [] (Zs 0 x0a (Zs 23 x0a (Zs 24 Zi (Zs 25 Zi Zz)))) a5r (.xs 2 [0] [] [] (Zs 0 x0a Zz) x0b)
def a6d {R:Type}:Lp Kd El R:=lp 11 b0x.sem (lp 4 b4q.sem l0)
abbrev c4r:ZD ((List Off)):=x0a
abbrev b5t {R:Type}:Sm R:=a0b b82 c4r (fun a=>qs a.1)
abbrev b8x {R:Type}:Sm R:=a0b c2e a24 (fun a=>qm a.1 a.2.1)
abbrev b6c:ZC ((List Off)×((Unit)×(Off×Unit))×Unit):=Zc x0a (Zc (Cod.fnc 41 (Zn) x0e) Zn)
abbrev a74 {R:Type}:Sm R:=a0b b6c a47 (fun a=>qd (fun g x0=>qm x0 g.2.1) a.1 a.2.1)
def b1t {R:Type}:Nat→Sm R:=cl 41 b8x c0
abbrev a5m:=a8i [] [] [0,1,7,8] [] [] (Zs 0 x0a (Zs 1 (Cod.fnc 41 (Zn) x0e) (Zs 7 Zi (Zs 8 Zi Zz)))) (a9p (fun g x0=>qm x0 g.2.1)) x0d
def a36 {R:Type}:Lp Kd El R:=lp 2 a5m.sem l0
abbrev b83:ZC ((List Off)×((Unit)×(Unit))×Unit):=c2c
abbrev c4q:ZD (List Off):=x0a
def c3v (a:(List Off)×((Unit)×(Unit))×Unit):Option (List Off):=qo (fun g x0 x1=>qf x0 x1) a.1 a.2.1
abbrev c48 {R:Type}:Sm R:=a0b b83 c4q c3v
abbrev b6b:ZC ((List Off)×(List Off)×Unit):=Zc x0a (Zc x0a Zn)
abbrev c4p:ZD ((List Off)×Int):=(Cod.tup2 (Zc x0a (Zc Zi Zn)))
abbrev c43 {R:Type}:Sm R:=a0b b6b c4p (fun a=>qc a.1 a.2.1)
def b9k {R:Type}:Nat→Sm R:=cl 13 b8r (cl 39 b5t (cl 40 a74 (cl 42 c48 c0)))
abbrev b4r:=a8i [] [] [0,1,15,16,17] [] [15] (Zs 0 x0a (Zs 1 x0a (FC.arr 15 15 (Zs 16 Zi (Zs 17 Zi (FC.own 15 Kd.kSOff false Zz)))))) a9o (.xs 0 [0,1] [] [] (Zs 0 x0a (Zs 1 x0a Zz)) x0c)
abbrev b0y:=a8i [] [] [0,9,29,30,31] [] [28] (Zs 0 x0a (FC.arr 9 28 (Zs 29 x0a (Zs 30 Zi (Zs 31 Zi (FC.own 28 Kd.kOff false Zz)))))) a4h (.xs 2 [9] [] [28] (FC.arr 9 28 (FC.own 28 Kd.kOff false Zz)) x0c)
def a6e {R:Type}:Lp Kd El R:=lp 10 b0y.sem (lp 2 b4r.sem l0)
abbrev b8p {R:Type}:Sm R:=a0b c2d a47 (fun a=>q8 a.1)
abbrev b5s {R:Type}:Sm R:=a0b c2b a24 (fun a=>qq a.1 a.2.1)
abbrev b8q {R:Type}:Sm R:=a0b b82 a47 (fun a=>qa a.1)
def b9i {R:Type}:Nat→Sm R:=cl 37 b8p (cl 38 b5s c0)
abbrev b4p:=a8i [] [] [0,3] [] [] (Zs 0 x0a (Zs 3 Zi Zz)) b2i (.xs 0 [0] [] [] (Zs 0 x0a Zz) x0b)
abbrev b0v:=a8i [] [] [0,5,6] [] [] (Zs 0 x0a (Zs 5 Zi (Zs 6 Zi Zz))) a4g (.xs 4 [0,5] [] [] (Zs 0 x0a (Zs 5 Zi Zz)) x0b)
abbrev b0u:=a8i [] [] [0,5] [] [] (Zs 0 x0a (Zs 5 Zi Zz)) a5q (.xs 2 [0] [] [] (Zs 0 x0a Zz) x0b)
abbrev b0w:=a8i [] [] [0,7] [] [] (Zs 0 x0a (Zs 7 Zi Zz)) a2u (.xs 6 [] [] [] Zz x0b)
def a17 {R:Type}:Lp Kd El R:=lp 18 b0w.sem (lp 10 b0u.sem (lp 13 b0v.sem (lp 4 b4p.sem l0)))
abbrev c52:ZC ((List Off)×Off×Unit):=Zc x0a (Zc (Cod.agg w3) Zn)
abbrev b8u {R:Type}:Sm R:=a0b c52 c4r (fun a=>qh a.1 a.2.1)
def b9p {R:Type}:Nat→Sm R:=cl 38 b5s c0
abbrev b4w:=a8i [] [] [0,3,5] [3] [] (Zs 0 x0a (Zp 3 3 (Zs 5 Zi (Zx 3 w3 Zz)))) b2k (.x 0 [0,3,5] [3] [] (Zs 0 x0a (Zp 3 3 (Zs 5 Zi (Zx 3 w3 Zz)))))
def b08 {R:Type}:Lp Kd El R:=lp 2 b4w.sem l0
abbrev c45 {R:Type}:Sm R:=a0b b6b c4p (fun a=>qe a.1 a.2.1)
def b9m {R:Type}:Nat→Sm R:=cl 14 b8q (cl 43 b8u c0)
abbrev b0z:=a8i [] [200007] [0,1,7,8,9,10] [] [] (Zs 0 x0a (Zs 1 x0a (Zs 7 x0a (Zs 8 Zi (Zs 9 Zb (Zs 10 Zi Zz)))))) a4i (.xs 2 [0,1,7,8,9] [] [] (Zs 0 x0a (Zs 1 x0a (Zs 7 x0a (Zs 8 Zi (Zs 9 Zb Zz))))) x0c)
abbrev b4t:=a8i [] [200007] [0,1,7,8] [] [] (Zs 0 x0a (Zs 1 x0a (Zs 7 x0a (Zs 8 Zi Zz)))) a9q (.xs 0 [7] [] [] (Zs 7 x0a Zz) x0c)
def a6f {R:Type}:Lp Kd El R:=lp 9 b4t.sem (lp 13 b0z.sem l0)
abbrev c46 {R:Type}:Sm R:=a0b b6b a24 (fun a=>qi a.1 a.2.1)
def b9q {R:Type}:Nat→Sm R:=c0
abbrev b4x:=a8i [] [] [0,1,5] [] [] (Zs 0 x0a (Zs 1 x0a (Zs 5 Zi Zz))) b2l x0f
def b09 {R:Type}:Lp Kd El R:=lp 4 b4x.sem l0
abbrev c2g:ZC ((List Off)×(List Off)×Unit):=b6b
abbrev c6r:ZD (Bool):=a24
def c3w (a:(List Off)×(List Off)×Unit):Option (Bool):=qp a.1 a.2.1
abbrev c49 {R:Type}:Sm R:=a0b c2g c6r c3w
abbrev b84:ZC ((List (List UInt8))×(List UInt8)×Unit):=Zc (Zl .kstr) (Zc Cod.str Zn)
abbrev b7t:ZD ((List UInt8)):=Cod.str
def c3x (a:(List (List UInt8))×(List UInt8)×Unit):Option ((List UInt8)):=qr a.1 a.2.1
abbrev c5a {R:Type}:Sm R:=a0b b84 b7t c3x
abbrev b88:ZC (Int×Unit):=Zc Zi Zn
abbrev c4w:ZD ((List UInt8)):=b7t
def c32 (a:Int×Unit):Option ((List UInt8)):=qy a.1
abbrev c5f {R:Type}:Sm R:=a0b b88 c4w c32
abbrev b89:ZC ((List UInt8)×Unit):=Zc Cod.str Zn
abbrev c4x:ZD (Int×Bool):=(Cod.tup2 (Zc Zi (Zc Cod.ifc Zn)))
def c33 (a:(List UInt8)×Unit):Option (Int×Bool):=qz a.1
abbrev c5g {R:Type}:Sm R:=a0b b89 c4x c33
abbrev b86:ZC ((List UInt8)×Int×Unit):=Zc Cod.str (Zc Zi Zn)
abbrev c4u:ZD ((List UInt8)):=b7t
def c30 (a:(List UInt8)×Int×Unit):Option ((List UInt8)):=qw a.1 a.2.1
abbrev c5d {R:Type}:Sm R:=a0b b86 c4u c30
abbrev b85:ZC ((List UInt8)×Int×Unit):=Zc Cod.str (Zc (Cod.int .u8) Zn)
abbrev c4t:ZD (Int):=a47
def c3z (a:(List UInt8)×Int×Unit):Option (Int):=qv a.1 a.2.1
abbrev c5c {R:Type}:Sm R:=a0b b85 c4t c3z
abbrev b6d:ZC ((List UInt8)×(List UInt8)×Unit):=Zc Cod.str (Zc Cod.str Zn)
abbrev c4s:ZD (Int):=a47
def c3y (a:(List UInt8)×(List UInt8)×Unit):Option (Int):=qt a.1 a.2.1
abbrev c5b {R:Type}:Sm R:=a0b b6d c4s c3y
abbrev b87:ZC ((List UInt8)×(List UInt8)×Unit):=b6d
abbrev c4v:ZD (Int):=a47
def c31 (a:(List UInt8)×(List UInt8)×Unit):Option (Int):=qx a.1 a.2.1
abbrev c5e {R:Type}:Sm R:=a0b b87 c4v c31
end
end Go.Proofs.YtpdenibljogamaaGreatDoor
namespace Go.Proofs.YtpdenibljogamaaGreatDoor.Ev
open Go
open Go.Shelf Go.RowKit
variable {P:Program} {ρ:Ren}
theorem a3c {w:World} {b i:Nat} {v:Value} {cs:Array Value} {t:TypeId} (h:w.heap[b]?=some (.cells cs t (0,0))) :
 (w.setCell ⟨b,i,none⟩ v).heap[b]?=some (.cells (cs.setIfInBounds i v) t (0,0))∧(∀k,k≠b→(w.setCell ⟨b,i,none⟩ v).heap[k]?=w.heap[k]?)∧(w.setCell ⟨b,i,none⟩ v).heap.size=w.heap.size∧
 (w.setCell ⟨b,i,none⟩ v).os=w.os∧(w.setCell ⟨b,i,none⟩ v).output=w.output∧(w.setCell ⟨b,i,none⟩ v).tape=w.tape:=by
 refine ⟨by simp[World.setCell,ybe,h],fun k hk=>?_,by simp[World.setCell],rfl,rfl,rfl⟩;simp only[World.setCell,ybe];rw[yah (fun e=>hk e.symm)]
theorem a6o.own {w:World} {blk e:Nat} {l:List UInt8} {v:Value} (h:a6o w blk e l v):w.ownsRow 0 e 1 v l.length (Lib.byteCells l)∧v.ownBlock=obk v:=by
 rcases h with ⟨rfl,rfl⟩|⟨bb,cap,cur,rfl,h1,h2,h3,h4,h5,h6⟩
 ·exact ⟨⟨rfl,.inl ⟨rfl,rfl⟩⟩,rfl⟩
 ·exact ⟨⟨by rw[Lib.byteCells_length,ybu],.inr ⟨bb,cap,cur,rfl,yaN _,h1,h2,h3,by rw[ybu];exact h4,by rw[ybu];exact h5⟩⟩,rfl⟩
theorem a6o.of {w:World} {blk e T:Nat} {cs:Array Value} {l:List UInt8} {v:Value} {n:Nat} (hn:n=l.length) (h:w.ownsRow 0 e 1 v n (Lib.byteCells l)) (hb:w.heap[blk]?=some (.cells cs T (0,0))) (hT:T≠e):a6o w blk e l v:=by
 subst hn;obtain ⟨-,⟨h1,h2⟩|⟨g,cap,cur,h1,-,h2,h3,h4,h5,h6⟩⟩:=h
 ·exact .inl ⟨h1,ya5.1 h2⟩
 ·rw[ybu]at h5 h6;exact .inr ⟨g,cap,cur,h1,h2,h3,h4,h5,h6,fun e'=>by subst e';rw[h2]at hb;cases hb;exact hT rfl⟩
theorem a26 {f:Nat} {vs:Array Value} {w:World} {Q:Value→World→Prop} (he:∀args w,(callFunc f args).run P w=.ok (.enter f args) w) (h:Calls P f vs w fun e w'=>∃v,e=.returned v∧Q v w'):k9 P f vs w Q:=by
 unfold k9;rw[he];refine h.mono (fun e w' hq=>?_);obtain ⟨v,rfl,hv⟩:=hq;exact hv
theorem a6v {w:World} {t u ty e n:Nat} {i:TypeInfo} (ht:P.underlying t=some (.slice e)) (hu:P.underlying u=some .string) (hi:P.info? e=some i) (hz:i.zero=some (.int .u8 0)) (hsize:i.size=1) (hby:i.bytes=1)
 {v:Value} {xs:List Value} (hown:w.ownsRow 0 e 1 v n xs) {s:ByteArray} (h63:n+s.size≤maxLen) (hbytes:n+s.size≤140737488355328) {v':Value} {w':World} (hr:(Builtin.append_ #[t,u] ty #[v,.string s]).run P w=.ok v' w') :
 ∀bb,obk v'=some bb→obk v=some bb∨w.heap.size≤bb:=by
 have hsmall:n+s.size≤9223372036854775807:=by simp only[maxLen]at h63;omega
 have hxl:xs.length=n:=by simpa using hown.1
 rcases hown.2 with ⟨rfl,rfl⟩|⟨g,cap,cur,rfl,hbg,hg,hnc,hcm,hcs,htake⟩
 ·obtain ⟨v2,w2,hr2,h2,-,-⟩:=Lib.run_append_own_string (P:=P) w w.heap.size t u ty e i ht hu hi hz hsize hby (.slice none 0 0) 0 [] ⟨rfl,.inl ⟨rfl,rfl⟩⟩ s h63 hbytes (yam _);rw[hr]at hr2;cases hr2
  intro bb hbb;rcases h2.2 with ⟨h,_⟩|⟨g,cap,cur,h,hb,_⟩
  ·rw[h]at hbb;cases hbb
  ·rw[h]at hbb;cases hbb;exact .inr hb
 ·by_cases hroom:n+s.size≤cap
  ·have hr2:=Lib.run_append_room_string (P:=P) w t u ty e i ht hu hi hsize g n cap cur hg s hroom (by omega);rw[hr]at hr2;cases hr2
   exact fun bb hbb=>.inl hbb
  ·have holds:∀j u,xs[j]?=some u→w.cell? ((⟨g,0,none⟩:Addr).add j)=some u:=hown.cells (g:=g) rfl;have hr2:=Lib.run_append_grow_string (P:=P) w t u ty e i (.int .u8 0) ht hu hi hz ⟨g,0,none⟩ n cap xs (by rw[hsize];simpa using hxl) holds s (by omega) (by omega) (by rw[hby];exact growslice_fits (by omega) (by omega));rw[hr]at hr2;cases hr2
   intro bb hbb;cases hbb
   exact .inr (yam _)
theorem z6 {ops:Array Oper} {rest:List Oper} {o:Oper} {a:Act} {w:World} {Q:Exit→Act→World→Prop} (hgd:o.guard=none) (sl x:Operand) (t u:TypeId)
 (ho:o.op=.call {callee:=.builtin .append,args:=#[sl,x],argTypes:=#[t,u]})
 (e:TypeId) (i:TypeInfo) (ht:P.underlying t=some (.slice e)) (hu:P.underlying u=some .string) (hi:P.info? e=some i) (hz:i.zero=some (.int .u8 0)) (hsize:i.size=1) (hby:i.bytes=1)
 (v:Value) (n:Nat) (xs:List Value) (hs:a.eval sl=v) (hown:w.ownsRow 0 e 1 v n xs) (s:ByteArray) (hx:a.eval x=.string s) (h63:n+s.size≤maxLen) (hbytes:n+s.size≤140737488355328)
 (h:∀v' w',w'.ownsRow 0 e 1 v' (n+s.size) (xs++Lib.strCells s)→w.grownBy w' v.ownBlock→(∀bb,obk v'=some bb→obk v=some bb∨w.heap.size≤bb)→wpList P ops Q rest (a.put o.dst v') w'):wpList P ops Q (o::rest) a w:=by
 refine wpList_plain hgd fun K hK=>?_
 obtain ⟨v',w',hr,h2,h3,-⟩:=Lib.run_append_own_string (P:=P) w 0 t u o.type e i ht hu hi hz hsize hby v n xs hown s h63 hbytes (yaN _);have h5:=a6v ht hu hi hz hsize hby hown h63 hbytes hr;unfold Oper.wp execOp;simp only[ho,resolve,invoke,builtin,Sem.run_bind,Sem.run_pure,Result.andThen_ok,List.map_toArray,yaO,List.map_nil,hs,hx,hr];exact hK _ _ (h v' w' h2 h3 h5)
theorem a4d (blk:Nat) (v:Value) (w:World):a8g blk v v w w:=⟨yam _,rfl,rfl,rfl,fun _ _ _ _=>rfl,fun _ h=>.inl h⟩
theorem a4c {blk:Nat} {v:Value} {w w':World} (h:a8g blk v v w w'):a8g blk v v w w'.drew:=h
theorem b2c {blk:Nat} {v:Value} {w w':World} (h:a8g blk v v w w') (o:Obj):a8g blk v v w (w'.alloc o):=
 ⟨ybk h.1 (by rw[World.size_alloc];omega),h.2.1,h.2.2.1,h.2.2.2.1,fun b h1 h2 h3=>(Lib.alloc_old w' o b (yat h1 h.1)).trans (h.2.2.2.2.1 b h1 h2 h3),h.2.2.2.2.2⟩
theorem a9k {blk g n cap:Nat} {w w':World} (h:a8g blk (.slice (some ⟨g,0,none⟩) n cap) (.slice (some ⟨g,0,none⟩) n cap) w w') (m:Nat):a8g blk (.slice (some ⟨g,0,none⟩) n cap) (.slice (some ⟨g,0,none⟩) n cap) w (w'.freeze ⟨g,0,none⟩ m):=by
 unfold World.freeze;split
 ·exact h
 ·refine ⟨by simpa using h.1,h.2.1,h.2.2.1,h.2.2.2.1,fun b h1 h2 h3=>?_,h.2.2.2.2.2⟩;simp only[ybe];rw[yah (fun e=>h3 (by rw[←e];rfl))];exact h.2.2.2.2.1 b h1 h2 h3
set_option maxHeartbeats 2000000 in
set_option maxRecDepth 100000 in
theorem a2q (L:Lays.n169 P ρ) (X:Builder.Extra P ρ) {blk:Nat} {p v:Value} {w:World} (hbk:w.heap[blk]?=some (.cells #[p,v] (ρ.t 72) (0,0))) (q:Option Addr) {ao:Option Addr} {cap:Nat} (hv:v=.slice ao 0 cap)
 {W:World} (hSD:(Builtin.unsafeSliceData_ #[(ρ.t 37)] (ρ.t 127) #[.slice ao 0 cap]).run P w.drew=.ok (.pointer q) W) (hW:W=w.drew∨∃o,W=w.drew.alloc o) :
 Calls P (ρ.f 169) #[.pointer (some ⟨blk,0,none⟩)] w fun e w'=>∃r,e=.returned r∧r=.string ⟨#[]⟩∧a8g blk v v w w':=by
 have hUS:∀(W:World) (q:Option Addr),(Builtin.unsafeString_ #[(ρ.t 127),(ρ.t 3)] (ρ.t 9) #[.pointer q,.int .i64 0]).run P W=.ok (.string .empty) W:=fun W q=>Lib.run_unsafeString_none W _ _ _ q
 have hlt:blk<w.heap.size:=(yac.1 hbk).1;have hoW:a8g blk v v w W:=by
  rcases hW with rfl|⟨o,rfl⟩
  ·exact a4c (a4d _ _ _)
  ·exact b2c (a4c (a4d _ _ _)) o
 have hbW:W.heap[blk]?=some (.cells #[p,v] (ρ.t 72) (0,0)):=by
  rcases hW with rfl|⟨o,rfl⟩
  ·exact hbk
  ·exact (Lib.alloc_old w.drew o blk hlt).trans hbk
 subst hv;have c1:w.drew.cell? ⟨blk,1,none⟩=some (.slice ao 0 cap):=by
  have:w.drew.heap[blk]?=some (.cells #[p,.slice ao 0 cap] (ρ.t 72) (0,0)):=hbk;rw[Lib.cell_of_heap this];rfl
 have c0:w.cell? ⟨blk,1,none⟩=some (.slice ao 0 cap):=c1;have c2:W.cell? ⟨blk,1,none⟩=some (.slice ao 0 cap):=by rw[Lib.cell_of_heap hbW];rfl
 have mixed:=L.mixed;have t72:=L.t72;have a72:=L.a72;have z72:=L.z72;have v72:=L.v72;have u72:=run_underlying L.t72;have t70:=L.t70;have a70:=L.a70;have z70:=L.z70;have v70:=L.v70;have u70:=run_underlying L.t70;have t37:=L.t37;have a37:=L.a37;have z37:=L.z37;have v37:=L.v37;have u37:=run_underlying L.t37;have t127:=L.t127;have a127:=L.a127;have z127:=L.z127;have v127:=L.v127;have u127:=run_underlying L.t127;have t3:=L.t3;have a3:=L.a3;have z3:=L.z3;have v3:=L.v3;have u3:=run_underlying L.t3;have t9:=L.t9;have a9:=L.a9;have z9:=L.z9;have v9:=L.v9;have u9:=run_underlying L.t9;have t5:=X.t5;have a5:=X.a5;have z5:=X.z5;have v5:=X.v5;have u5:=run_underlying X.t5;clear hW hbW hbk
 go_enter L.f169,Body.n169_ntmps ρ
 go_wp2
 go_region_o
 all_goals (go_wp2;go_ret;exact ⟨_,rfl,rfl,hoW⟩)
set_option maxHeartbeats 2000000 in
set_option maxRecDepth 100000 in
theorem a90 (L:Lays.n169 P ρ) (X:Builder.Extra P ρ) {blk g cap:Nat} {p:Value} {cur:Array Value} {l:List UInt8} {w:World} (hbk:w.heap[blk]?=some (.cells #[p,.slice (some ⟨g,0,none⟩) l.length cap] (ρ.t 72) (0,0))) (h0:l≠[])
 (hg:w.heap[g]?=some (.cells cur (ρ.t 5) (0,0))) (hnc:l.length≤cap) (hcm:cap≤9223372036854775807) (hcs:cur.size=cap) (htake:cur.toList.take l.length=l.map (fun b=>Value.int .u8 b.toNat)) :
 Calls P (ρ.f 169) #[.pointer (some ⟨blk,0,none⟩)] w fun e w'=>∃r,e=.returned r∧r=.string ⟨l.toArray⟩∧a8g blk (.slice (some ⟨g,0,none⟩) l.length cap) (.slice (some ⟨g,0,none⟩) l.length cap) w w':=by
 have hl0:l.length≠0:=by simpa using h0
 have c1:w.drew.cell? ⟨blk,1,none⟩=some (.slice (some ⟨g,0,none⟩) l.length cap):=by
  have:w.drew.heap[blk]?=some (.cells #[p,.slice (some ⟨g,0,none⟩) l.length cap] (ρ.t 72) (0,0)):=hbk;rw[Lib.cell_of_heap this];rfl
 have hSD:(Builtin.unsafeSliceData_ #[(ρ.t 37)] (ρ.t 127) #[.slice (some ⟨g,0,none⟩) l.length cap]).run P w.drew=.ok (.pointer (some ⟨g,0,none⟩)) w.drew:=
  Lib.run_unsafeSliceData_row _ _ _ _ _ _ (by omega)
 have hUS:(Builtin.unsafeString_ #[(ρ.t 127),(ρ.t 3)] (ρ.t 9) #[.pointer (some ⟨g,0,none⟩),.int .i64 l.length]).run P w.drew=.ok (.string ⟨l.toArray⟩) (w.drew.freeze ⟨g,0,none⟩ l.length):=by
  refine Lib.run_unsafeString_row w.drew (ρ.t 127) (ρ.t 3) (ρ.t 9) (ρ.t 5) L.t127 X.cellsByte g cur.size (by have hg':w.drew.heap[g]?=some (.cells cur (ρ.t 5) (0,0)):=hg;simp[World.shape?,hg']) l h0 (by omega) (by omega) ?_;intro j x hx;have hj:j<l.length:=(zL hx)
  have h1:(cur.toList.take l.length)[j]?=some (.int .u8 x.toNat):=by rw[htake,yaK,hx];rfl
  rw[yaG,yao hj]at h1;have hg':w.drew.heap[g]?=some (.cells cur (ρ.t 5) (0,0)):=hg;rw[Addr.add_lit];simp only[World.cell?,hg',yaE];simpa using h1
 have hfin:a8g blk (.slice (some ⟨g,0,none⟩) l.length cap) (.slice (some ⟨g,0,none⟩) l.length cap) w (w.drew.freeze ⟨g,0,none⟩ l.length):=a9k (a4c (a4d _ _ _)) _;have mixed:=L.mixed;have t72:=L.t72;have a72:=L.a72;have z72:=L.z72;have v72:=L.v72;have u72:=run_underlying L.t72;have t70:=L.t70;have a70:=L.a70;have z70:=L.z70;have v70:=L.v70;have u70:=run_underlying L.t70;have t37:=L.t37;have a37:=L.a37;have z37:=L.z37;have v37:=L.v37;have u37:=run_underlying L.t37;have t127:=L.t127;have a127:=L.a127;have z127:=L.z127;have v127:=L.v127;have u127:=run_underlying L.t127;have t3:=L.t3;have a3:=L.a3;have z3:=L.z3;have v3:=L.v3;have u3:=run_underlying L.t3;have t9:=L.t9;have a9:=L.a9;have z9:=L.z9;have v9:=L.v9;have u9:=run_underlying L.t9;have t5:=X.t5;have a5:=X.a5;have z5:=X.z5;have v5:=X.v5;have u5:=run_underlying X.t5;clear htake hcs hcm hnc hg hbk h0 hl0
 go_enter L.f169,Body.n169_ntmps ρ
 go_wp2
 go_region_o
 all_goals (go_wp2;go_ret;exact ⟨_,rfl,rfl,hfin⟩)
theorem a91 (L:Lays.n169 P ρ) (X:Builder.Extra P ρ):a2e P (ρ.t 72) (ρ.t 5) (ρ.f 169):=by
 intro w blk p v l hp hb hbuf;have e169:∀args w,(callFunc (ρ.f 169) args).run P w=.ok (.enter (ρ.f 169) args) w:=enters_of L.f169 kr rfl;refine a26 e169 ?_;rcases hbuf with ⟨rfl,rfl⟩|⟨g,cap,cur,rfl,h1,h2,h3,h4,h5,h6⟩
 ·exact a2q L X hb none rfl (W:=w.drew) rfl (.inl rfl)
 ·cases l with
  |nil=>
   by_cases hc0:cap=0
   ·subst hc0;refine a2q L X hb _ rfl (Lib.run_unsafeSliceData_zero w.drew _ _ (ρ.t 5) L.t127 ⟨g,0,none⟩ 0 ((ρ.t 5),cur.size) ?_) (.inr ⟨_,rfl⟩);have hg':w.drew.heap[g]?=some (.cells cur (ρ.t 5) (0,0)):=h1;simp[World.shape?,hg']
   ·exact a2q L X hb _ rfl (Lib.run_unsafeSliceData_row _ _ _ _ _ _ hc0) (.inl rfl)
  |cons x r=>exact a90 L X hb (by simp) h1 h2 h3 h4 h5
end Go.Proofs.YtpdenibljogamaaGreatDoor.Ev
namespace Go.Proofs
open Go.Shelf
def Tryz.lays169_ren:Go.Shelf.Ren:=⟨fun|169=>30|n=>n,fun|70=>65|9=>9|0=>0|72=>68|37=>66|127=>115|3=>3|5=>5|n=>n,fun|n=>n⟩
theorem Tryz.lays169:Go.Proofs.Lays.n169 Tryz.prog Tryz.lays169_ren:={
 mixed:=by kernel_rfl
 f169:=Tryz.func30.trans (congrArg some (by kernel_rfl))
 t0:=Tryz.underlying0
 a0:=Tryz.isAgg0
 z0:=Tryz.sizeOf0
 v0:=Tryz.zeroValue0
 t3:=Tryz.underlying3
 a3:=Tryz.isAgg3
 z3:=Tryz.sizeOf3
 v3:=Tryz.zeroValue3
 t9:=Tryz.underlying9
 a9:=Tryz.isAgg9
 z9:=Tryz.sizeOf9
 v9:=Tryz.zeroValue9
 t37:=Tryz.underlying66
 a37:=Tryz.isAgg66
 z37:=Tryz.sizeOf66
 v37:=Tryz.zeroValue66
 t70:=Tryz.underlying65
 a70:=Tryz.isAgg65
 z70:=Tryz.sizeOf65
 v70:=Tryz.zeroValue65
 t72:=Tryz.underlying68
 a72:=Tryz.isAgg68
 z72:=Tryz.sizeOf68
 v72:=Tryz.zeroValue68
 t127:=Tryz.underlying115
 a127:=Tryz.isAgg115
 z127:=Tryz.sizeOf115
 v127:=Tryz.zeroValue115}
theorem Tryz.Builder_Extra_169:Builder.Extra Tryz.prog Tryz.lays169_ren:={
 sizeBuilder:=by kernel_rfl
 liesBuilder:=by kernel_rfl
 t5:=Tryz.underlying5
 a5:=Tryz.isAgg5
 z5:=Tryz.sizeOf5
 v5:=Tryz.zeroValue5
 infoByte:=by kernel_rfl
 cellsByte:=by kernel_rfl
 sizeByte:=by kernel_rfl
 neB5:=by decide}
def Tryz.lays156_ren:Go.Shelf.Ren:=⟨fun|156=>28|165=>60|166=>27|169=>30|240=>59|241=>108|276=>107|277=>202|n=>n,fun|31=>74|9=>9|3=>3|4=>4|0=>0|20=>20|72=>68|76=>71|70=>65|37=>66|75=>70|127=>115|164=>151|5=>5|80=>76|n=>n,fun|n=>n⟩
theorem Tryz.lays156:Go.Proofs.Lays.n156 Tryz.prog Tryz.lays156_ren:={
 mixed:=by kernel_rfl
 f156:=Tryz.func28.trans (congrArg some (by kernel_rfl))
 f165:=Tryz.func60.trans (congrArg some (by kernel_rfl))
 f166:=Tryz.func27.trans (congrArg some (by kernel_rfl))
 f169:=Tryz.func30.trans (congrArg some (by kernel_rfl))
 f240:=Tryz.func59.trans (congrArg some (by kernel_rfl))
 f241:=Tryz.func108.trans (congrArg some (by kernel_rfl))
 f276:=Tryz.func107.trans (congrArg some (by kernel_rfl))
 f277:=Tryz.func202.trans (congrArg some (by kernel_rfl))
 t0:=Tryz.underlying0
 a0:=Tryz.isAgg0
 z0:=Tryz.sizeOf0
 v0:=Tryz.zeroValue0
 t3:=Tryz.underlying3
 a3:=Tryz.isAgg3
 z3:=Tryz.sizeOf3
 v3:=Tryz.zeroValue3
 t4:=Tryz.underlying4
 a4:=Tryz.isAgg4
 z4:=Tryz.sizeOf4
 v4:=Tryz.zeroValue4
 t9:=Tryz.underlying9
 a9:=Tryz.isAgg9
 z9:=Tryz.sizeOf9
 v9:=Tryz.zeroValue9
 t20:=Tryz.underlying20
 a20:=Tryz.isAgg20
 z20:=Tryz.sizeOf20
 v20:=Tryz.zeroValue20
 t31:=Tryz.underlying74
 a31:=Tryz.isAgg74
 z31:=Tryz.sizeOf74
 v31:=Tryz.zeroValue74
 t37:=Tryz.underlying66
 a37:=Tryz.isAgg66
 z37:=Tryz.sizeOf66
 v37:=Tryz.zeroValue66
 t70:=Tryz.underlying65
 a70:=Tryz.isAgg65
 z70:=Tryz.sizeOf65
 v70:=Tryz.zeroValue65
 t72:=Tryz.underlying68
 a72:=Tryz.isAgg68
 z72:=Tryz.sizeOf68
 v72:=Tryz.zeroValue68
 t75:=Tryz.underlying70
 a75:=Tryz.isAgg70
 z75:=Tryz.sizeOf70
 v75:=Tryz.zeroValue70
 t76:=Tryz.underlying71
 a76:=Tryz.isAgg71
 z76:=Tryz.sizeOf71
 v76:=Tryz.zeroValue71
 t127:=Tryz.underlying115
 a127:=Tryz.isAgg115
 z127:=Tryz.sizeOf115
 v127:=Tryz.zeroValue115
 t164:=Tryz.underlying151
 a164:=Tryz.isAgg151
 z164:=Tryz.sizeOf151
 v164:=Tryz.zeroValue151}
theorem Tryz.Builder_Extra_156:Builder.Extra Tryz.prog Tryz.lays156_ren:={
 sizeBuilder:=by kernel_rfl
 liesBuilder:=by kernel_rfl
 t5:=Tryz.underlying5
 a5:=Tryz.isAgg5
 z5:=Tryz.sizeOf5
 v5:=Tryz.zeroValue5
 infoByte:=by kernel_rfl
 cellsByte:=by kernel_rfl
 sizeByte:=by kernel_rfl
 neB5:=by decide}
open Go.RowKit in
theorem Tryz.qr_none (a:Option Addr) (c:Nat) (sep:ByteArray) (w:World) :
 Calls Tryz.prog 28 #[.slice a 0 c,.string sep] w fun e w'=>e=.returned (.string ⟨#[]⟩)∧w'=w:=Any.strings_Join_none Tryz.lays156 Tryz.Builder_Extra_156 a c sep w
open Go.RowKit in
theorem Tryz.qr (bk o c:Nat) (xs:List ByteArray) (sep:ByteArray) (w:World) (hcells:∀(j:Nat) x,xs[j]?=some x→w.cell? ⟨bk,o+j,none⟩=some (.string x)) (hbk:bk<w.heap.size) (hN:xs.length≤140737488355328) (hcap:xs.length≤c) (hlen:(Lib.join (xs.map (·.data.toList)) sep.data.toList).length≤140737488355328) :
 Calls Tryz.prog 28 #[.slice (some ⟨bk,o,none⟩) xs.length c,.string sep] w fun e w'=>e=.returned (.string ⟨(Lib.join (xs.map (·.data.toList)) sep.data.toList).toArray⟩)∧Below w.heap.size w w':=Any.strings_Join Tryz.lays156 Tryz.Builder_Extra_156 bk o c xs sep w hcells hbk hN hcap hlen
def Tryz.lays172_ren:Go.Shelf.Ren:=⟨fun|172=>175|244=>272|245=>273|247=>333|279=>334|280=>335|281=>336|282=>337|287=>365|316=>366|171=>61|205=>367|321=>376|322=>377|243=>109|246=>203|283=>290|284=>291|285=>292|286=>293|129=>123|317=>341|318=>342|319=>343|320=>344|337=>368|338=>369|n=>n,fun|9=>9|3=>3|75=>70|76=>71|4=>4|5=>5|167=>301|37=>66|0=>0|85=>302|2=>2|168=>304|53=>166|175=>330|46=>118|210=>333|127=>115|145=>345|143=>343|21=>21|171=>266|173=>268|212=>317|51=>164|20=>20|213=>318|232=>346|233=>347|80=>76|n=>n,fun|15=>5|16=>6|17=>4|18=>7|19=>8|n=>n⟩
theorem Tryz.lays172:Go.Proofs.Lays.n172 Tryz.prog Tryz.lays172_ren:={
 mixed:=by kernel_rfl
 f129:=Tryz.func123.trans (congrArg some (by kernel_rfl))
 f171:=Tryz.func61.trans (congrArg some (by kernel_rfl))
 f172:=Tryz.func175.trans (congrArg some (by kernel_rfl))
 f205:=Tryz.func367.trans (congrArg some (by kernel_rfl))
 f243:=Tryz.func109.trans (congrArg some (by kernel_rfl))
 f244:=Tryz.func272.trans (congrArg some (by kernel_rfl))
 f245:=Tryz.func273.trans (congrArg some (by kernel_rfl))
 f246:=Tryz.func203.trans (congrArg some (by kernel_rfl))
 f247:=Tryz.func333.trans (congrArg some (by kernel_rfl))
 f279:=Tryz.func334.trans (congrArg some (by kernel_rfl))
 f280:=Tryz.func335.trans (congrArg some (by kernel_rfl))
 f281:=Tryz.func336.trans (congrArg some (by kernel_rfl))
 f282:=Tryz.func337.trans (congrArg some (by kernel_rfl))
 f283:=Tryz.func290.trans (congrArg some (by kernel_rfl))
 f284:=Tryz.func291.trans (congrArg some (by kernel_rfl))
 f285:=Tryz.func292.trans (congrArg some (by kernel_rfl))
 f286:=Tryz.func293.trans (congrArg some (by kernel_rfl))
 f287:=Tryz.func365.trans (congrArg some (by kernel_rfl))
 f316:=Tryz.func366.trans (congrArg some (by kernel_rfl))
 f317:=Tryz.func341.trans (congrArg some (by kernel_rfl))
 f318:=Tryz.func342.trans (congrArg some (by kernel_rfl))
 f319:=Tryz.func343.trans (congrArg some (by kernel_rfl))
 f320:=Tryz.func344.trans (congrArg some (by kernel_rfl))
 f321:=Tryz.func376.trans (congrArg some (by kernel_rfl))
 f322:=Tryz.func377.trans (congrArg some (by kernel_rfl))
 f337:=Tryz.func368.trans (congrArg some (by kernel_rfl))
 f338:=Tryz.func369.trans (congrArg some (by kernel_rfl))
 t0:=Tryz.underlying0
 a0:=Tryz.isAgg0
 z0:=Tryz.sizeOf0
 v0:=Tryz.zeroValue0
 t2:=Tryz.underlying2
 a2:=Tryz.isAgg2
 z2:=Tryz.sizeOf2
 v2:=Tryz.zeroValue2
 t3:=Tryz.underlying3
 a3:=Tryz.isAgg3
 z3:=Tryz.sizeOf3
 v3:=Tryz.zeroValue3
 t4:=Tryz.underlying4
 a4:=Tryz.isAgg4
 z4:=Tryz.sizeOf4
 v4:=Tryz.zeroValue4
 t5:=Tryz.underlying5
 a5:=Tryz.isAgg5
 z5:=Tryz.sizeOf5
 v5:=Tryz.zeroValue5
 t9:=Tryz.underlying9
 a9:=Tryz.isAgg9
 z9:=Tryz.sizeOf9
 v9:=Tryz.zeroValue9
 t20:=Tryz.underlying20
 a20:=Tryz.isAgg20
 z20:=Tryz.sizeOf20
 v20:=Tryz.zeroValue20
 t21:=Tryz.underlying21
 a21:=Tryz.isAgg21
 z21:=Tryz.sizeOf21
 v21:=Tryz.zeroValue21
 t37:=Tryz.underlying66
 a37:=Tryz.isAgg66
 z37:=Tryz.sizeOf66
 v37:=Tryz.zeroValue66
 t46:=Tryz.underlying118
 a46:=Tryz.isAgg118
 z46:=Tryz.sizeOf118
 v46:=Tryz.zeroValue118
 t51:=Tryz.underlying164
 a51:=Tryz.isAgg164
 z51:=Tryz.sizeOf164
 v51:=Tryz.zeroValue164
 t53:=Tryz.underlying166
 a53:=Tryz.isAgg166
 z53:=Tryz.sizeOf166
 v53:=Tryz.zeroValue166
 t75:=Tryz.underlying70
 a75:=Tryz.isAgg70
 z75:=Tryz.sizeOf70
 v75:=Tryz.zeroValue70
 t76:=Tryz.underlying71
 a76:=Tryz.isAgg71
 z76:=Tryz.sizeOf71
 v76:=Tryz.zeroValue71
 t85:=Tryz.underlying302
 a85:=Tryz.isAgg302
 z85:=Tryz.sizeOf302
 v85:=Tryz.zeroValue302
 t127:=Tryz.underlying115
 a127:=Tryz.isAgg115
 z127:=Tryz.sizeOf115
 v127:=Tryz.zeroValue115
 t143:=Tryz.underlying343
 a143:=Tryz.isAgg343
 z143:=Tryz.sizeOf343
 v143:=Tryz.zeroValue343
 t145:=Tryz.underlying345
 a145:=Tryz.isAgg345
 z145:=Tryz.sizeOf345
 v145:=Tryz.zeroValue345
 t167:=Tryz.underlying301
 a167:=Tryz.isAgg301
 z167:=Tryz.sizeOf301
 v167:=Tryz.zeroValue301
 t168:=Tryz.underlying304
 a168:=Tryz.isAgg304
 z168:=Tryz.sizeOf304
 v168:=Tryz.zeroValue304
 t171:=Tryz.underlying266
 a171:=Tryz.isAgg266
 z171:=Tryz.sizeOf266
 v171:=Tryz.zeroValue266
 t173:=Tryz.underlying268
 a173:=Tryz.isAgg268
 z173:=Tryz.sizeOf268
 v173:=Tryz.zeroValue268
 t175:=Tryz.underlying330
 a175:=Tryz.isAgg330
 z175:=Tryz.sizeOf330
 v175:=Tryz.zeroValue330
 t210:=Tryz.underlying333
 a210:=Tryz.isAgg333
 z210:=Tryz.sizeOf333
 v210:=Tryz.zeroValue333
 t212:=Tryz.underlying317
 a212:=Tryz.isAgg317
 z212:=Tryz.sizeOf317
 v212:=Tryz.zeroValue317
 t213:=Tryz.underlying318
 a213:=Tryz.isAgg318
 z213:=Tryz.sizeOf318
 t232:=Tryz.underlying346
 a232:=Tryz.isAgg346
 z232:=Tryz.sizeOf346
 v232:=Tryz.zeroValue346
 t233:=Tryz.underlying347
 a233:=Tryz.isAgg347
 z233:=Tryz.sizeOf347
 v233:=Tryz.zeroValue347
 g15:=by kernel_rfl
 g16:=by kernel_rfl
 g17:=by kernel_rfl
 g18:=by kernel_rfl
 g19:=by kernel_rfl}
open Go.RowKit in
theorem Tryz.qz (s:ByteArray) (n:Int) (hl:s.size≤18) (h:Lib.atoi s.data.toList=some n) (w:World) :
 Calls Tryz.prog 175 #[.string s] w fun e w'=>e=.returned (.tuple #[.int .i64 n,.nilIface])∧∃t,w'=Lib.bytesWorld w 5 t:=Any.strconv_Atoi Tryz.lays172 s n hl h w
def Tryz.laysM171_ren:Go.Shelf.Ren:=⟨fun|171=>61|243=>109|246=>203|283=>290|284=>291|285=>292|286=>293|129=>123|317=>341|318=>342|319=>343|320=>344|337=>368|338=>369|n=>n,fun|3=>3|9=>9|2=>2|4=>4|171=>266|0=>0|53=>166|37=>66|5=>5|173=>268|212=>317|51=>164|20=>20|213=>318|46=>118|232=>346|233=>347|n=>n,fun|17=>4|18=>7|19=>8|n=>n⟩
theorem Tryz.laysM171:Go.Proofs.LaysM.n171 Tryz.prog Tryz.laysM171_ren:={
 mixed:=by kernel_rfl
 f129:=Tryz.func123.trans (congrArg some (by kernel_rfl))
 f171:=Tryz.func61.trans (congrArg some (by kernel_rfl))
 f243:=Tryz.func109.trans (congrArg some (by kernel_rfl))
 f246:=Tryz.func203.trans (congrArg some (by kernel_rfl))
 f283:=Tryz.func290.trans (congrArg some (by kernel_rfl))
 f284:=Tryz.func291.trans (congrArg some (by kernel_rfl))
 f285:=Tryz.func292.trans (congrArg some (by kernel_rfl))
 f286:=Tryz.func293.trans (congrArg some (by kernel_rfl))
 f317:=Tryz.func341.trans (congrArg some (by kernel_rfl))
 f318:=Tryz.func342.trans (congrArg some (by kernel_rfl))
 f319:=Tryz.func343.trans (congrArg some (by kernel_rfl))
 f320:=Tryz.func344.trans (congrArg some (by kernel_rfl))
 f337:=Tryz.func368.trans (congrArg some (by kernel_rfl))
 f338:=Tryz.func369.trans (congrArg some (by kernel_rfl))
 t0:=Tryz.underlying0
 a0:=Tryz.isAgg0
 z0:=Tryz.sizeOf0
 v0:=Tryz.zeroValue0
 t2:=Tryz.underlying2
 a2:=Tryz.isAgg2
 z2:=Tryz.sizeOf2
 v2:=Tryz.zeroValue2
 t3:=Tryz.underlying3
 a3:=Tryz.isAgg3
 z3:=Tryz.sizeOf3
 v3:=Tryz.zeroValue3
 t4:=Tryz.underlying4
 a4:=Tryz.isAgg4
 z4:=Tryz.sizeOf4
 v4:=Tryz.zeroValue4
 t5:=Tryz.underlying5
 a5:=Tryz.isAgg5
 z5:=Tryz.sizeOf5
 v5:=Tryz.zeroValue5
 t9:=Tryz.underlying9
 a9:=Tryz.isAgg9
 z9:=Tryz.sizeOf9
 v9:=Tryz.zeroValue9
 t20:=Tryz.underlying20
 a20:=Tryz.isAgg20
 z20:=Tryz.sizeOf20
 v20:=Tryz.zeroValue20
 t37:=Tryz.underlying66
 a37:=Tryz.isAgg66
 z37:=Tryz.sizeOf66
 v37:=Tryz.zeroValue66
 t46:=Tryz.underlying118
 a46:=Tryz.isAgg118
 z46:=Tryz.sizeOf118
 v46:=Tryz.zeroValue118
 t51:=Tryz.underlying164
 a51:=Tryz.isAgg164
 z51:=Tryz.sizeOf164
 v51:=Tryz.zeroValue164
 t53:=Tryz.underlying166
 a53:=Tryz.isAgg166
 z53:=Tryz.sizeOf166
 v53:=Tryz.zeroValue166
 t171:=Tryz.underlying266
 a171:=Tryz.isAgg266
 z171:=Tryz.sizeOf266
 v171:=Tryz.zeroValue266
 t173:=Tryz.underlying268
 a173:=Tryz.isAgg268
 z173:=Tryz.sizeOf268
 v173:=Tryz.zeroValue268
 t212:=Tryz.underlying317
 a212:=Tryz.isAgg317
 z212:=Tryz.sizeOf317
 v212:=Tryz.zeroValue317
 t213:=Tryz.underlying318
 a213:=Tryz.isAgg318
 z213:=Tryz.sizeOf318
 t232:=Tryz.underlying346
 a232:=Tryz.isAgg346
 z232:=Tryz.sizeOf346
 v232:=Tryz.zeroValue346
 t233:=Tryz.underlying347
 a233:=Tryz.isAgg347
 z233:=Tryz.sizeOf347
 v233:=Tryz.zeroValue347
 g17:=by kernel_rfl
 g18:=by kernel_rfl
 g19:=by kernel_rfl
 i0:=by kernel_rfl
 i2:=by kernel_rfl
 i3:=by kernel_rfl
 i4:=by kernel_rfl
 i5:=by kernel_rfl
 i9:=by kernel_rfl
 i20:=by kernel_rfl
 i37:=by kernel_rfl
 i46:=by kernel_rfl
 i51:=by kernel_rfl
 i53:=by kernel_rfl
 i171:=by kernel_rfl
 i173:=by kernel_rfl
 i212:=by kernel_rfl
 i232:=by kernel_rfl
 i233:=by kernel_rfl
 m17:=by kernel_rfl
 m18:=by kernel_rfl
 m19:=by kernel_rfl}
open Go.RowKit Go.Sort Go.Lib in
theorem Tryz.qy (n:Int) (h0 : -9223372036854775808≤n) (h1:n≤9223372036854775807) (w:World) (htab:Lib.TabIs Tryz.prog w "internal/strconv.uint64pow10" .u64 Lib.pow10Tab) :
 Calls Tryz.prog 61 #[.int .i64 n] w fun e w'=>e=.returned (.string ⟨(Lib.itoa n).toArray⟩)∧∃k os,w'=grow (w.drewN k) os:=Any.strconv_Itoa Tryz.laysM171 n h0 h1 w htab
def Tryz.lays217_ren:Go.Shelf.Ren:=⟨fun|217=>264|266=>328|n=>n,fun|9=>9|5=>5|3=>3|n=>n,fun|n=>n⟩
theorem Tryz.lays217:Go.Proofs.Lays.n217 Tryz.prog Tryz.lays217_ren:={
 mixed:=by kernel_rfl
 f217:=Tryz.func264.trans (congrArg some (by kernel_rfl))
 f266:=Tryz.func328.trans (congrArg some (by kernel_rfl))
 t3:=Tryz.underlying3
 a3:=Tryz.isAgg3
 z3:=Tryz.sizeOf3
 v3:=Tryz.zeroValue3
 t5:=Tryz.underlying5
 a5:=Tryz.isAgg5
 z5:=Tryz.sizeOf5
 v5:=Tryz.zeroValue5
 t9:=Tryz.underlying9
 a9:=Tryz.isAgg9
 z9:=Tryz.sizeOf9
 v9:=Tryz.zeroValue9}
open Go.RowKit Go.Lib in
theorem Tryz.qv (s:ByteArray) (c:Int) (w:World) :
 Calls Tryz.prog 264 #[.string s,.int .u8 c] w fun e w'=>e=.returned (.int .i64 (Lib.indexByte s.data.toList c.toNat.toUInt8))∧w'=w:=Any.stringslite_IndexByte Tryz.lays217 s c w
def Tryz.lays143_ren:Go.Shelf.Ren:=⟨fun|143=>270|219=>171|217=>264|225=>265|224=>266|267=>267|266=>328|314=>329|n=>n,fun|9=>9|3=>3|4=>4|5=>5|46=>118|146=>296|51=>164|n=>n,fun|1=>0|n=>n⟩
theorem Tryz.lays143:Go.Proofs.Lays.n143 Tryz.prog Tryz.lays143_ren:={
 mixed:=by kernel_rfl
 f143:=Tryz.func270.trans (congrArg some (by kernel_rfl))
 f217:=Tryz.func264.trans (congrArg some (by kernel_rfl))
 f219:=Tryz.func171.trans (congrArg some (by kernel_rfl))
 f224:=Tryz.func266.trans (congrArg some (by kernel_rfl))
 f225:=Tryz.func265.trans (congrArg some (by kernel_rfl))
 f266:=Tryz.func328.trans (congrArg some (by kernel_rfl))
 f267:=Tryz.func267.trans (congrArg some (by kernel_rfl))
 f314:=Tryz.func329.trans (congrArg some (by kernel_rfl))
 t3:=Tryz.underlying3
 a3:=Tryz.isAgg3
 z3:=Tryz.sizeOf3
 v3:=Tryz.zeroValue3
 t4:=Tryz.underlying4
 a4:=Tryz.isAgg4
 z4:=Tryz.sizeOf4
 v4:=Tryz.zeroValue4
 t5:=Tryz.underlying5
 a5:=Tryz.isAgg5
 z5:=Tryz.sizeOf5
 v5:=Tryz.zeroValue5
 t9:=Tryz.underlying9
 a9:=Tryz.isAgg9
 z9:=Tryz.sizeOf9
 v9:=Tryz.zeroValue9
 t46:=Tryz.underlying118
 a46:=Tryz.isAgg118
 z46:=Tryz.sizeOf118
 v46:=Tryz.zeroValue118
 t51:=Tryz.underlying164
 a51:=Tryz.isAgg164
 z51:=Tryz.sizeOf164
 v51:=Tryz.zeroValue164
 t146:=Tryz.underlying296
 a146:=Tryz.isAgg296
 z146:=Tryz.sizeOf296
 v146:=Tryz.zeroValue296
 g1:=by kernel_rfl}
open Go.RowKit Go.Lib in
theorem Tryz.qx_one (s:ByteArray) (c:UInt8) (w:World) :
 Calls Tryz.prog 270 #[.string s,.string ⟨#[c]⟩] w fun e w'=>e=.returned (.int .i64 (Lib.indexByte s.data.toList c))∧w'=w:=Any.strings_Index_one Tryz.lays143 s c w
def Tryz.lays138_ren:Go.Shelf.Ren:=⟨fun|138=>269|195=>330|218=>332|143=>270|219=>171|217=>264|225=>265|224=>266|267=>267|266=>328|314=>329|n=>n,fun|9=>9|3=>3|4=>4|5=>5|0=>0|46=>118|146=>296|51=>164|n=>n,fun|1=>0|n=>n⟩
theorem Tryz.lays138:Go.Proofs.Lays.n138 Tryz.prog Tryz.lays138_ren:={
 mixed:=by kernel_rfl
 f138:=Tryz.func269.trans (congrArg some (by kernel_rfl))
 f143:=Tryz.func270.trans (congrArg some (by kernel_rfl))
 f195:=Tryz.func330.trans (congrArg some (by kernel_rfl))
 f217:=Tryz.func264.trans (congrArg some (by kernel_rfl))
 f218:=Tryz.func332.trans (congrArg some (by kernel_rfl))
 f219:=Tryz.func171.trans (congrArg some (by kernel_rfl))
 f224:=Tryz.func266.trans (congrArg some (by kernel_rfl))
 f225:=Tryz.func265.trans (congrArg some (by kernel_rfl))
 f266:=Tryz.func328.trans (congrArg some (by kernel_rfl))
 f267:=Tryz.func267.trans (congrArg some (by kernel_rfl))
 f314:=Tryz.func329.trans (congrArg some (by kernel_rfl))
 t0:=Tryz.underlying0
 a0:=Tryz.isAgg0
 z0:=Tryz.sizeOf0
 v0:=Tryz.zeroValue0
 t3:=Tryz.underlying3
 a3:=Tryz.isAgg3
 z3:=Tryz.sizeOf3
 v3:=Tryz.zeroValue3
 t4:=Tryz.underlying4
 a4:=Tryz.isAgg4
 z4:=Tryz.sizeOf4
 v4:=Tryz.zeroValue4
 t5:=Tryz.underlying5
 a5:=Tryz.isAgg5
 z5:=Tryz.sizeOf5
 v5:=Tryz.zeroValue5
 t9:=Tryz.underlying9
 a9:=Tryz.isAgg9
 z9:=Tryz.sizeOf9
 v9:=Tryz.zeroValue9
 t46:=Tryz.underlying118
 a46:=Tryz.isAgg118
 z46:=Tryz.sizeOf118
 v46:=Tryz.zeroValue118
 t51:=Tryz.underlying164
 a51:=Tryz.isAgg164
 z51:=Tryz.sizeOf164
 v51:=Tryz.zeroValue164
 t146:=Tryz.underlying296
 a146:=Tryz.isAgg296
 z146:=Tryz.sizeOf296
 v146:=Tryz.zeroValue296
 g1:=by kernel_rfl}
open Go.RowKit Go.Lib in
theorem Tryz.qt_one (s:ByteArray) (c:UInt8) (w:World) :
 Calls Tryz.prog 269 #[.string s,.string ⟨#[c]⟩] w fun e w'=>e=.returned (.int .i64 (Lib.countByte s.data.toList c))∧w'=w:=Any.strings_Count_one Tryz.lays138 s c w
def Tryz.lays105_ren:Go.Shelf.Ren:=⟨fun|105=>207|212=>295|99=>296|165=>60|166=>27|170=>297|169=>30|263=>345|264=>346|206=>347|240=>59|241=>108|276=>107|277=>202|n=>n,fun|9=>9|3=>3|4=>4|20=>20|0=>0|46=>118|109=>271|5=>5|72=>68|76=>71|51=>164|146=>296|53=>166|148=>320|70=>65|37=>66|75=>70|127=>115|164=>151|80=>76|n=>n,fun|n=>n⟩
theorem Tryz.lays105:Go.Proofs.Lays.n105 Tryz.prog Tryz.lays105_ren:={
 mixed:=by kernel_rfl
 f99:=Tryz.func296.trans (congrArg some (by kernel_rfl))
 f105:=Tryz.func207.trans (congrArg some (by kernel_rfl))
 f165:=Tryz.func60.trans (congrArg some (by kernel_rfl))
 f166:=Tryz.func27.trans (congrArg some (by kernel_rfl))
 f169:=Tryz.func30.trans (congrArg some (by kernel_rfl))
 f170:=Tryz.func297.trans (congrArg some (by kernel_rfl))
 f206:=Tryz.func347.trans (congrArg some (by kernel_rfl))
 f212:=Tryz.func295.trans (congrArg some (by kernel_rfl))
 f240:=Tryz.func59.trans (congrArg some (by kernel_rfl))
 f241:=Tryz.func108.trans (congrArg some (by kernel_rfl))
 f263:=Tryz.func345.trans (congrArg some (by kernel_rfl))
 f264:=Tryz.func346.trans (congrArg some (by kernel_rfl))
 f276:=Tryz.func107.trans (congrArg some (by kernel_rfl))
 f277:=Tryz.func202.trans (congrArg some (by kernel_rfl))
 t0:=Tryz.underlying0
 a0:=Tryz.isAgg0
 z0:=Tryz.sizeOf0
 v0:=Tryz.zeroValue0
 t3:=Tryz.underlying3
 a3:=Tryz.isAgg3
 z3:=Tryz.sizeOf3
 v3:=Tryz.zeroValue3
 t4:=Tryz.underlying4
 a4:=Tryz.isAgg4
 z4:=Tryz.sizeOf4
 v4:=Tryz.zeroValue4
 t5:=Tryz.underlying5
 a5:=Tryz.isAgg5
 z5:=Tryz.sizeOf5
 v5:=Tryz.zeroValue5
 t9:=Tryz.underlying9
 a9:=Tryz.isAgg9
 z9:=Tryz.sizeOf9
 v9:=Tryz.zeroValue9
 t20:=Tryz.underlying20
 a20:=Tryz.isAgg20
 z20:=Tryz.sizeOf20
 v20:=Tryz.zeroValue20
 t37:=Tryz.underlying66
 a37:=Tryz.isAgg66
 z37:=Tryz.sizeOf66
 v37:=Tryz.zeroValue66
 t46:=Tryz.underlying118
 a46:=Tryz.isAgg118
 z46:=Tryz.sizeOf118
 v46:=Tryz.zeroValue118
 t51:=Tryz.underlying164
 a51:=Tryz.isAgg164
 z51:=Tryz.sizeOf164
 v51:=Tryz.zeroValue164
 t53:=Tryz.underlying166
 a53:=Tryz.isAgg166
 z53:=Tryz.sizeOf166
 v53:=Tryz.zeroValue166
 t70:=Tryz.underlying65
 a70:=Tryz.isAgg65
 z70:=Tryz.sizeOf65
 v70:=Tryz.zeroValue65
 t72:=Tryz.underlying68
 a72:=Tryz.isAgg68
 z72:=Tryz.sizeOf68
 v72:=Tryz.zeroValue68
 t75:=Tryz.underlying70
 a75:=Tryz.isAgg70
 z75:=Tryz.sizeOf70
 v75:=Tryz.zeroValue70
 t76:=Tryz.underlying71
 a76:=Tryz.isAgg71
 z76:=Tryz.sizeOf71
 v76:=Tryz.zeroValue71
 t109:=Tryz.underlying271
 a109:=Tryz.isAgg271
 z109:=Tryz.sizeOf271
 v109:=Tryz.zeroValue271
 t127:=Tryz.underlying115
 a127:=Tryz.isAgg115
 z127:=Tryz.sizeOf115
 v127:=Tryz.zeroValue115
 t146:=Tryz.underlying296
 a146:=Tryz.isAgg296
 z146:=Tryz.sizeOf296
 v146:=Tryz.zeroValue296
 t148:=Tryz.underlying320
 a148:=Tryz.isAgg320
 z148:=Tryz.sizeOf320
 v148:=Tryz.zeroValue320
 t164:=Tryz.underlying151
 a164:=Tryz.isAgg151
 z164:=Tryz.sizeOf151
 v164:=Tryz.zeroValue151}
theorem Tryz.Builder_Extra_105:Builder.Extra Tryz.prog Tryz.lays105_ren:={
 sizeBuilder:=by kernel_rfl
 liesBuilder:=by kernel_rfl
 t5:=Tryz.underlying5
 a5:=Tryz.isAgg5
 z5:=Tryz.sizeOf5
 v5:=Tryz.zeroValue5
 infoByte:=by kernel_rfl
 cellsByte:=by kernel_rfl
 sizeByte:=by kernel_rfl
 neB5:=by decide}
open Go.RowKit Go.Lib in
theorem Tryz.qw (s:ByteArray) (c:Nat) (w:World) (hc:c≤9223372036854775807) (hlen:s.size*c≤140737488355328) :
 Calls Tryz.prog 207 #[.string s,.int .i64 c] w fun e w'=>e=.returned (.string ⟨(Lib.repeatL s.data.toList c).toArray⟩)∧Below w.heap.size w w':=Any.strings_Repeat Tryz.lays105 Tryz.Builder_Extra_105 s c w hc hlen
end Go.Proofs
namespace Go.Proofs.YtpdenibljogamaaGreatDoor.Ev
open Go
open Go.Shelf Go.RowKit
set_option maxHeartbeats 1000000 in
set_option maxRecDepth 100000 in
theorem b9u {blk:Nat} {p v:Value} {w:World} (hp:p=.pointer none∨p=.pointer (some ⟨blk,0,none⟩)) (hb:w.heap[blk]?=some (.cells #[p,v] 68 (0,0))) :
 Calls Tryz.prog 59 #[.pointer (some ⟨blk,0,none⟩)] w fun e w'=>e=.returned (.tuple #[])∧w'.heap[blk]?=some (.cells #[.pointer (some ⟨blk,0,none⟩),v] 68 (0,0))∧(∀k,k≠blk→w'.heap[k]?=w.heap[k]?)∧w'.heap.size=w.heap.size∧w'.os=w.os∧w'.output=w.output∧w'.tape=w.tape:=by
 have c0:w.cell? ⟨blk,0,none⟩=some p:=by simp[World.cell?,hb]
 have hsize:(Tryz.prog.info? 68).map (·.size)=some 2:=kr;obtain ⟨j,hj,hjs⟩:=yax.1 hsize;rcases hp with rfl|rfl
 ·have hsh:w.shape? blk=some (68,2):=by simp[World.shape?,hb]
  have hfz:w.frozen? ⟨blk,0,none⟩=false:=by simp[World.frozen?,hb]
  have hl:liesAt Tryz.prog Tryz.prog.depth 68 (2 / Tryz.prog.cellsOf 68) 0 68 1=true:=kr;obtain ⟨h1,h2⟩:=a3c (i:=0) (v:=.pointer (some ⟨blk,0,none⟩)) hb;have fin:(w.setCell ⟨blk,0,none⟩ (.pointer (some ⟨blk,0,none⟩))).heap[blk]?=some (.cells #[.pointer (some ⟨blk,0,none⟩),v] 68 (0,0))∧(∀k,k≠blk→(w.setCell ⟨blk,0,none⟩ (.pointer (some ⟨blk,0,none⟩))).heap[k]?=w.heap[k]?)∧(w.setCell ⟨blk,0,none⟩ (.pointer (some ⟨blk,0,none⟩))).heap.size=w.heap.size∧(w.setCell ⟨blk,0,none⟩ (.pointer (some ⟨blk,0,none⟩))).os=w.os∧(w.setCell ⟨blk,0,none⟩ (.pointer (some ⟨blk,0,none⟩))).output=w.output∧(w.setCell ⟨blk,0,none⟩ (.pointer (some ⟨blk,0,none⟩))).tape=w.tape:=⟨h1,h2⟩
  clear h1 h2 hb
  go_enter Tryz.func59,Tryz.ntmps59
  go_wp2
  rw[Lib.run_to_unsafe w ⟨blk,0,none⟩ Tryz.underlying65 Tryz.underlying151 hj (by rw[hjs];decide) hsh (Nat.zero_lt_succ 1)];simp only[Result.andThen];rw[Oper.upon_value]
  go_wp2
  rw[run_callFunc_extern Tryz.func107 kr kr kr (e:=Extern.AbiNoEscape.same) kr];rw[Lib.run_noEscape];simp only[Result.andThen];rw[Oper.upon_value]
  go_wp2
  rw[Lib.run_from_unsafe w ⟨blk,0,none⟩ Tryz.underlying151 Tryz.underlying65 hj hsh hl];simp only[Result.andThen];rw[Oper.upon_value]
  go_wp2
  go_end0
  exact ⟨rfl,fin⟩
 ·go_enter Tryz.func59,Tryz.ntmps59
  go_wp2
  rw[Lib.run_neq_ptr_same w _ Tryz.underlying65 hj]
  go_wp2
  go_end0
  exact ⟨rfl,hb,fun _ _=>rfl,rfl,rfl,rfl,rfl⟩
set_option maxHeartbeats 2000000 in
set_option maxRecDepth 100000 in
theorem b2u:a1t Tryz.prog 68 5 27:=by
 intro w blk p v l s hp hb hbuf hlen;unfold LIM at hlen;have e166:∀args w,(callFunc 27 args).run Tryz.prog w=.ok (.enter 27 args) w:=enters_of Tryz.func27 kr rfl;refine a26 e166 ?_;have hss:s.data.toList.length=s.size:=by rw[ya0];rfl
 have hib:(Tryz.prog.info? 5).map (fun i=>(i.zero,i.size,i.bytes))=some (some (.int .u8 0),1,1):=kr;obtain ⟨i0,hi,hz0,hz1,hz2⟩:=info_parts hib;have e240:∀args w,(callFunc 59 args).run Tryz.prog w=.ok (.enter 59 args) w:=enters_of Tryz.func59 kr rfl;have hblt:blk<w.heap.size:=(yac.1 hb).1
 go_enter Tryz.func27,Tryz.ntmps27
 go_wp2_with (go_at_fn 59;refine (b9u hp hb).mono ?_)
 rintro e w1 ⟨rfl,hbk,hk1,hs1,ho1,hu1,ht1⟩;have hbuf1:a6o w1 blk 5 l v:=by
  rcases hbuf with h|⟨bb,cap,cur,h1,h2,h3,h4,h5,h6,h7⟩
  ·exact .inl h
  ·exact .inr ⟨bb,cap,cur,h1,(hk1 bb h7).trans h2,h3,h4,h5,h6,h7⟩
 obtain ⟨hown,hob⟩:=hbuf1.own;have hne:v.ownBlock≠some blk:=by
  rcases hbuf1 with ⟨rfl,-⟩|⟨bb,cap,cur,rfl,-,-,-,-,-,h7⟩
  ·simp[Value.ownBlock]
  ·simpa[Value.ownBlock]using h7
 have c0:w1.cell? ⟨blk,0,none⟩=some (.pointer (some ⟨blk,0,none⟩)):=by rw[Lib.cell_of_heap hbk];rfl
 have c1:w1.cell? ⟨blk,1,none⟩=some v:=by rw[Lib.cell_of_heap hbk];rfl
 go_wp2_with (at_builtin;refine z6 rfl _ _ 66 9 rfl 5 i0 Tryz.underlying66 Tryz.underlying9 hi hz0 hz1 hz2 _ _ _ rfl hown s rfl ?c3 ?c4 ?_)
 case c3=>unfold maxLen;omega
 case c4=>omega
 intro v' w2 hown' hgrow hwhere;have hlt:blk<w1.heap.size:=by omega
 have hb2:w2.heap[blk]?=some (.cells #[.pointer (some ⟨blk,0,none⟩),v] 68 (0,0)):=by
  rw[hgrow.block blk hlt (fun e=>hne e.symm)];exact hbk
 have d0:w2.cell? ⟨blk,0,none⟩=some (.pointer (some ⟨blk,0,none⟩)):=by rw[Lib.cell_of_heap hb2];rfl
 have d1:w2.cell? ⟨blk,1,none⟩=some v:=by rw[Lib.cell_of_heap hb2];rfl
 have f1:w2.frozen? ⟨blk,1,none⟩=false:=Lib.frozen_of_heap hb2 1;have hbc:Lib.byteCells l++Lib.strCells s=Lib.byteCells (l++s.data.toList):=by simp[Lib.byteCells,Lib.strCells]
 have hbuf2:a6o w2 blk 5 (l++s.data.toList) v':=a6o.of (n:=l.length+s.size) (by rw[yaX,hss]) (by rw[←hbc];exact hown') hb2 (by decide);obtain ⟨ao,n',cap,hv'⟩:∃ao n' cap,v'=.slice ao n' cap:=by
  rcases hbuf2 with ⟨hv,_⟩|⟨g,cap,cur,hv,_⟩
  ·exact ⟨_,_,_,hv⟩
  ·exact ⟨_,_,_,hv⟩
 obtain ⟨q1,q2,q3,q4,q5,q6⟩:=a3c (i:=1) (v:=v') hb2;have fin:∃p' v'',(p'=.pointer none∨p'=.pointer (some ⟨blk,0,none⟩))∧(w2.setCell ⟨blk,1,none⟩ v').heap[blk]?=some (.cells #[p',v''] 68 (0,0))∧a6o (w2.setCell ⟨blk,1,none⟩ v') blk 5 (l++s.data.toList) v''∧a8g blk v v'' w (w2.setCell ⟨blk,1,none⟩ v'):=by
  refine ⟨_,v',.inr rfl,q1,?_,by have:=hgrow.size;omega,by rw[q4,hgrow.os,ho1],by rw[q5,hgrow.output,hu1],by rw[q6,hgrow.tape,ht1],fun b hb' hbne hbo=>?_,fun bb hbb=>?_⟩
  ·rcases hbuf2 with h|⟨bb,cap,cur,h1,h2,h3,h4,h5,h6,h7⟩
   ·exact .inl h
   ·exact .inr ⟨bb,cap,cur,h1,(q2 bb h7).trans h2,h3,h4,h5,h6,h7⟩
  ·rw[q2 b hbne,hgrow.block b (by omega) (fun e=>hbo (by rw[←hob];exact e.symm)),hk1 b hbne]
  ·rcases hwhere bb hbb with q|q
   ·exact .inl q
   ·exact .inr (by omega)
 clear q1 q2 q3 q4 q5 q6 hbuf2 hown' hgrow hbuf1 hown hwhere;subst hv'
 go_wp2
 go_ret2
 exact ⟨_,rfl,fin⟩
end Go.Proofs.YtpdenibljogamaaGreatDoor.Ev
namespace Go.Proofs.YtpdenibljogamaaGreatDoor
set_option maxRecDepth 100000
section
open Ev
open Go (IntKind)
open Go
theorem c2v:∀k,d8 (ccK k)
 |.kOff=>b0g
 |.kSOff=>d8.one (d5.lst _)
 |.ki64=>d8.one (d5.int _)
 |.kOutcome=>a2t
 |.kstr=>d8.one d5.str
 |.kLoan=>a7a
 |.kItem=>a69
 |.kMove=>a7b
 |.kPatron=>a3p
 |.kHold=>a68
 |.kCharge=>a3o
 |.kRule=>a7c
 |.ku8=>d8.one (d5.int _)
 |.ku64=>d8.one (d5.int _)
theorem c7i:SgOk sg:=c1l (cc:=ccK) (fun _=>rfl) (fun _=>rfl) c2v (by intro k x;cases k<;>rfl) (by intro k x;cases k<;>rfl) (by intro k;cases k<;>decide)
theorem eok:∀t,c3o t=true→EqOk Tryz.prog t:=b0n kr (b0n kr (b95))
theorem c55:BlSpec Tryz.prog sg ⟨.ku8,blI,blJ,68,5,c0c 27 30⟩:=b3b (k:=Kd.ku8) rfl c2n rfl b9h kr b2u (a91 Tryz.lays169 Tryz.Builder_Extra_169)
theorem good:GoodP Tryz.prog sg:=⟨c7g kr kr,c7i,eok,(fun _ _ h=>by cases h),(fun _ h=>by cases h;exact c55)⟩
end
section
open Go Ev
open Go.Lib Go.RowKit
theorem b6r:∀(f u:Nat) (a:List UInt8),u<10 ^ f→c1x f u a=if f=0 then a else Lib.decDigits u++a:=by
 intro f
 induction f with
 |zero=>intro u a _;rfl
 |succ f ih=>
  intro u a h;rw[yah (by omega),Lib.decDigits];simp only[c1x,c6,yag];by_cases h1:u<10
  ·rw[yao h1,dif_pos h1];rfl
  ·rw[yah h1,dif_neg h1,ih _ _ (by rw[Nat.pow_succ]at h;omega)];have hf:f≠0:=fun e=>by subst e;simp at h;omega
   rw[yah hf,yaU];rfl
theorem c0g {n:Int} {s:List UInt8} (h:qy n=some s):(-9223372036854775808≤n∧n≤9223372036854775807)∧s=Lib.itoa n:=by
 unfold qy at h;rw[c6]at h;split at h
 ·rename_i hr;rw[yab,yag,yag]at hr;cases h
  refine ⟨hr,?_⟩;have hd:c1x 20 n.natAbs []=Lib.decDigits n.natAbs:=by
   rw[b6r 20 _ _ (by have:(10:Nat) ^ 20=100000000000000000000:=rfl;omega)];simp
  unfold Lib.itoa;rw[hd,c6];by_cases hn:n<0
  ·simp[hn]
  ·simp only[hn,decide_false,ybp,yaY];rw[show n.toNat=n.natAbs by omega]
 ·cases h
theorem b2r {w:World} {I:Nat→Nat→Prop} {mb:List Nat} (h:a5w sg w I) (hb:b1h sg w mb):Lib.TabIs Tryz.prog w "internal/strconv.uint64pow10" .u64 Lib.pow10Tab:=by
 obtain ⟨-,cs,t,m,h1,h2⟩:=hb 4 .ku64 c9 kr kr;unfold Lib.TabIs World.var?;rw[show Tryz.prog.globalNamed "internal/strconv.uint64pow10" = some 4 by kernel_rfl];simp only[ybm,h1];have hlen:c9.length=20:=by simp[c9]
 replace h2:cs.size=c9.length*1:=h2;refine congrArg some (Array.ext ?_ (fun i hi1 hi2=>?_))
 ·rw[h2];simp[hlen,Lib.pow10Tab]
 ·have hl:i<c9.length:=by omega
  obtain ⟨v,k1,-,k3⟩:=h 4 .ku64 c9 kr i hl 0 (.int .u64 c9[i]) rfl;rw[k3.int_inv]at k1;replace k1:w.cell? ⟨4,i*1+0,none⟩=some (.int .u64 c9[i]):=k1;rw[ybu,ya4]at k1;unfold World.cell? at k1;simp only[h1]at k1;have e:cs[i]=.int .u64 c9[i]:=by simpa[hi1]using k1
  rw[e];simp[c9,Lib.pow10Tab]
theorem c0f {w:World} {I J:Nat→Nat→Prop} {vs:Array Value} {n:Int} (ha:a4y sg w I J vs [.int .i64 n]):vs = #[.int .i64 n]:=by
 obtain ⟨h1,h2⟩:=ha;have h1:vs.size=1:=h1;have h0:=h2 0 vs[0] (.int .i64 n) (yae (by omega)) rfl;apply Array.ext
 ·simp[h1]
 ·intro i hi1 hi2;have:i=0:=by omega
  subst this;simpa using h0.int_inv
theorem c6a:fnB Tryz.prog 61 Tryz.f61 []=true:=kr
theorem c3k:∀ds a r,b88.dec ds=some a→c32 a=some r→Con Tryz.prog sg 61 ds [] (c4w.enc r) []:=by
 intro ds a r hd hf;obtain ⟨code,fok,-,-⟩:=n5 Tryz.func61 c6a;have hac:d8 b88:=d8.cons (d5.int _) d8.nil;have hw:=hac ds a hd;obtain ⟨n,⟨⟩⟩:=a;unfold Con;rw[show sg.md 61=.data by kernel_rfl];intro _ w I J vs hp ha;have hv:=c0f (n:=n) (hw.args ha);subst hv;obtain ⟨⟨h1,h2⟩,hr⟩:=c0g (n:=n) (s:=r) hf;subst hr;unfold k9;rw[MuLone.run_callFunc_enter fok.at_ fok.name fok.body _ w];refine (Tryz.qy n h1 h2 w (b2r hp.gl hp.gb)).mono ?_;rintro e w' ⟨rfl,k,os,rfl⟩;have hb:=below_grow w.heap.size w (yam _) k os;exact ⟨I,⟨hb.size,hb.os,hb.output,hb.tape,hb.block,fun _ _ h=>h,fun _ _ h=>.inl h,fun b o hi=>yat (hp.ib b o hi) hb.size⟩,.str ⟨(Lib.itoa n).toArray⟩⟩
end
section
open Go Ev
open Go.Lib Go.RowKit
theorem a5d {f:Nat} (hmd:sg.md f=.data) (henter:∀args w,(callFunc f args).run Tryz.prog w=.ok (.enter f args) w) {ds:List DD} {d:DD}
 (h:∀w I J vs,Pre sg w I J []→a4y sg w I J vs ds→Calls Tryz.prog f vs w fun e w'=>∃v,e=.returned v∧Below w.heap.size w w'∧DR sg w' I I v d):Con Tryz.prog sg f ds [] d []:=by
 unfold Con;rw[hmd];intro _ w I J vs hp ha;refine a26 henter ((h w I J vs hp ha).mono ?_);rintro e w' ⟨v,rfl,hb,hd⟩;exact ⟨v,rfl,I,⟨hb.size,hb.os,hb.output,hb.tape,hb.block,fun _ _ h=>h,fun _ _ h=>.inl h,fun b o hi=>yat (hp.ib b o hi) hb.size⟩,hd⟩
theorem c2j {w:World} {I J:Nat→Nat→Prop} {vs:Array Value} {d:DD} (ha:a4y sg w I J vs [d]):∃v,vs = #[v]∧DR sg w I J v d:=by
 obtain ⟨h1,h2⟩:=ha;have h1:vs.size=1:=h1;refine ⟨vs[0],?_,h2 0 vs[0] d (yae (by omega)) rfl⟩;apply Array.ext
 ·simp[h1]
 ·intro i hi1 hi2;have:i=0:=by omega
  subst this;rfl
theorem a6x {w:World} {I J:Nat→Nat→Prop} {vs:Array Value} {d e:DD} (ha:a4y sg w I J vs [d,e]):∃v u,vs = #[v,u]∧DR sg w I J v d∧DR sg w I J u e:=by
 obtain ⟨h1,h2⟩:=ha;have h1:vs.size=2:=h1;refine ⟨vs[0],vs[1],?_,h2 0 vs[0] d (yae (by omega)) rfl,h2 1 vs[1] e (yae (by omega)) rfl⟩;apply Array.ext
 ·simp[h1]
 ·intro i hi1 hi2;rcases (by omega:i=0∨i=1) with rfl|rfl<;>rfl
theorem a6m {w:World} {I J:Nat→Nat→Prop} {v:Value} {s:List UInt8} (h:DR sg w I J v (.str s)):v=.string ⟨s.toArray⟩:=by
 cases h
 rfl
theorem c2m (s:List UInt8):(⟨s.toArray⟩:ByteArray).size=s.length:=rfl
theorem c3l:∀ds a r,b89.dec ds=some a→c33 a=some r→Con Tryz.prog sg 175 ds [] (c4x.enc r) []:=by
 intro ds a r hd hf;have hac:d8 b89:=d8.cons d5.str d8.nil;have hw:=hac ds a hd;obtain ⟨s,⟨⟩⟩:=a;refine a5d kr (enters_of Tryz.func175 kr rfl) fun w I J vs hp ha=>?_
 obtain ⟨v,rfl,h1⟩:=c2j (d:=.str s) (hw.args ha);rw[a6m h1];have hf:qz s=some r:=hf;unfold qz at hf;rw[c6]at hf;split at hf
 ·rename_i hl;rw[yag]at hl;split at hf
  ·rename_i n hn;cases hf
   refine (Tryz.qz ⟨s.toArray⟩ n hl hn w).mono ?_;rintro e w' ⟨rfl,t,rfl⟩;refine ⟨_,rfl,?_,?_⟩
   ·exact ⟨rfl,rfl,rfl,by rw[Lib.bytesWorld_size];omega,fun k hk=>Lib.bytesWorld_at_old w _ _ k hk⟩
   ·refine .tup _ _ rfl fun i v d h1 h2=>?_
    match i,h1,h2 with
    |0,h1,h2=>cases h1;cases h2;exact .int _ _
    |1,h1,h2=>cases h1;cases h2;exact .ifcN
    |i+2,h1,h2=>simp at h1
  ·cases hf
 ·cases hf
theorem c3h:∀ds a r,b85.dec ds=some a→c3z a=some r→Con Tryz.prog sg 264 ds [] (c4t.enc r) []:=by
 intro ds a r hd hf;have hac:d8 b85:=d8.cons d5.str (d8.cons (d5.int _) d8.nil);have hw:=hac ds a hd;obtain ⟨s,c,⟨⟩⟩:=a;refine a5d kr (enters_of Tryz.func264 kr rfl) fun w I J vs hp ha=>?_
 obtain ⟨v,u,rfl,h1,h2⟩:=a6x (d:=.str s) (e:=.int .u8 c) (hw.args ha);rw[a6m h1,h2.int_inv];have hf:some (Lib.indexByte s c.toNat.toUInt8)=some r:=hf;cases hf
 refine (Tryz.qv ⟨s.toArray⟩ c w).mono ?_;rintro e w' ⟨rfl,rfl⟩;exact ⟨_,rfl,Below.refl _ _,.int _ _⟩
theorem c3i:∀ds a r,b86.dec ds=some a→c30 a=some r→Con Tryz.prog sg 207 ds [] (c4u.enc r) []:=by
 intro ds a r hd hf;have hac:d8 b86:=d8.cons d5.str (d8.cons (d5.int _) d8.nil);have hw:=hac ds a hd;obtain ⟨s,n,⟨⟩⟩:=a;refine a5d kr (enters_of Tryz.func207 kr rfl) fun w I J vs hp ha=>?_
 obtain ⟨v,u,rfl,h1,h2⟩:=a6x (d:=.str s) (e:=.int .i64 n) (hw.args ha);rw[a6m h1,h2.int_inv];have hf:qw s n=some r:=hf;unfold qw at hf;rw[c6]at hf;split at hf
 ·rename_i hl;simp only[yab,yag]at hl;obtain ⟨l0,l1,l2⟩:=hl;cases hf
  have hn:n=(n.toNat:Int):=by omega
  have h:=Tryz.qw ⟨s.toArray⟩ n.toNat w (by omega) (by rw[c2m];omega);rw[←hn]at h;refine h.mono ?_;rintro e w' ⟨rfl,hb⟩;exact ⟨_,rfl,hb,.str ⟨(Lib.repeatL s n.toNat).toArray⟩⟩
 ·cases hf
theorem c3e:∀ds a r,b84.dec ds=some a→c3x a=some r→Con Tryz.prog sg 28 ds [] (b7t.enc r) []:=by
 intro ds a r hd hf;have hac:d8 b84:=d8.cons (d5.lst _) (d8.cons d5.str d8.nil);have hw:=hac ds a hd;obtain ⟨l,sep,⟨⟩⟩:=a;refine a5d kr (enters_of Tryz.func28 kr rfl) fun w I J vs hp ha=>?_
 obtain ⟨v,u,rfl,h1,h2⟩:=a6x (d:=.lst Kd.kstr l) (e:=.str sep) (hw.args ha);rw[a6m h2];have hf:qr l sep=some r:=hf;unfold qr at hf;rw[c6]at hf;split at hf
 rotate_left
 ·cases hf
 rename_i hl;simp only[yab,yag]at hl;obtain ⟨l1,l2⟩:=hl;cases hf
 cases h1 with
 |lst0 ad cap k h=>
  refine (Tryz.qr_none ad cap ⟨sep.toArray⟩ w).mono ?_;rintro e w' ⟨rfl,rfl⟩;exact ⟨_,rfl,Below.refl _ _,.str ⟨#[]⟩⟩
 |lst b off cap k xs cv hcap hc hv=>
  have hsz:sg.sz Kd.kstr=1:=rfl;have hcell:∀(i:Nat) (hi:i<l.length),w.cell? ⟨b,off+i,none⟩=some (.string ⟨(l[i]:List UInt8).toArray⟩):=fun i hi=>by
   obtain ⟨e1,-⟩:=hc i 0 hi (by rw[hsz];omega);rw[hsz,ybu,ya4]at e1;have e2:=hv i hi 0 (.str l[i]) rfl;rw[e1,a6m e2]
  by_cases h0:l.length=0
  ·have:l=[]:=ya5.1 h0;subst this;refine (Tryz.qr_none (some ⟨b,off,none⟩) cap ⟨sep.toArray⟩ w).mono ?_;rintro e w' ⟨rfl,rfl⟩;exact ⟨_,rfl,Below.refl _ _,.str ⟨#[]⟩⟩
  ·have hbk:b<w.heap.size:=hp.ib _ _ (hc 0 0 (by omega) (by rw[hsz];omega)).2;have hmap:((l.map fun x:List UInt8=>(⟨x.toArray⟩:ByteArray)).map (·.data.toList))=l:=by
    rw[List.map_map];exact List.map_id l
   have h:=Tryz.qr b off cap (l.map fun x:List UInt8=>(⟨x.toArray⟩:ByteArray)) ⟨sep.toArray⟩ w (fun j x hx=>by
    rw[yaK,yax]at hx;obtain ⟨y,hy,rfl⟩:=hx;obtain ⟨hj,rfl⟩:=yaA.1 hy;exact hcell j hj) hbk (by rw[ya3];omega) (by rw[ya3];exact hcap) (by rw[hmap];exact ybk l2 (by omega))
   rw[hmap,ya3]at h;refine h.mono ?_;rintro e w' ⟨rfl,hb⟩;exact ⟨_,rfl,hb,.str ⟨(Lib.join l sep).toArray⟩⟩
theorem c3j:∀ds a r,b87.dec ds=some a→c31 a=some r→Con Tryz.prog sg 270 ds [] (c4v.enc r) []:=by
 intro ds a r hd hf;have hac:d8 b87:=d8.cons d5.str (d8.cons d5.str d8.nil);have hw:=hac ds a hd;obtain ⟨s,sep,⟨⟩⟩:=a;have key:∃c,sep=[c]∧r=Lib.indexByte s c:=by
  have hf:qx s sep=some r:=hf;unfold qx at hf;split at hf
  ·exact ⟨_,rfl,(yas hf).symm⟩
  ·cases hf
 clear hf hd;obtain ⟨c,rfl,rfl⟩:=key;refine a5d kr (enters_of Tryz.func270 kr rfl) fun w I J vs hp ha=>?_
 obtain ⟨v,u,rfl,h1,h2⟩:=a6x (d:=.str s) (e:=.str [c]) (hw.args ha);rw[a6m h1,a6m h2];refine (Tryz.qx_one ⟨s.toArray⟩ c w).mono ?_;rintro e w' ⟨rfl,rfl⟩;exact ⟨_,rfl,Below.refl _ _,.int _ _⟩
theorem c3f:∀ds a r,b6d.dec ds=some a→c3y a=some r→Con Tryz.prog sg 269 ds [] (c4s.enc r) []:=by
 intro ds a r hd hf;have hac:d8 b6d:=d8.cons d5.str (d8.cons d5.str d8.nil);have hw:=hac ds a hd;obtain ⟨s,sep,⟨⟩⟩:=a;have key:∃c,sep=[c]∧r=((Lib.countByte s c:Nat):Int):=by
  have hf:qt s sep=some r:=hf;unfold qt at hf;split at hf
  ·exact ⟨_,rfl,(yas hf).symm⟩
  ·cases hf
 clear hf hd;obtain ⟨c,rfl,rfl⟩:=key;refine a5d kr (enters_of Tryz.func269 kr rfl) fun w I J vs hp ha=>?_
 obtain ⟨v,u,rfl,h1,h2⟩:=a6x (d:=.str s) (e:=.str [c]) (hw.args ha);rw[a6m h1,a6m h2];refine (Tryz.qt_one ⟨s.toArray⟩ c w).mono ?_;rintro e w' ⟨rfl,rfl⟩;exact ⟨_,rfl,Below.refl _ _,.int _ _⟩
end
end Go.Proofs.YtpdenibljogamaaGreatDoor
namespace Go.Proofs.YtpdenibljogamaaGreatDoor.Ev
open Go
section
section
variable {P:Program} {w:World}
end
end
section
section
variable {κ:Type} {El:κ→Type} {S:Sg κ El} {P:Program}
structure InsOk (P:Program) (f z E:Nat):Prop where
 shift:∀{w:World} {b n c i vb vo vc:Nat} {L vs:List Value} {t:TypeId},i<n→n+1≤c→n+1≤1073741824→vb≠b→w.heap[b]?=some (.cells L.toArray t (0,0))→L.length=c*z→vs.length=z→
  (∀j v,vs[j]?=some v→w.cell? ⟨vb,vo+j,none⟩=some v)→(∀v∈(L.drop (i*z)).take ((n-i)*z),v.oneCell'=true)→(∀v∈vs,v.oneCell'=true)→
  Calls P f #[.slice (some ⟨b,0,none⟩) n c,.int .i64 i,.slice (some ⟨vb,vo,none⟩) 1 vc] w fun e w'=>
   e=.returned (.slice (some ⟨b,0,none⟩) (n+1) c)∧w'=(w.drew.setRow b (Go.splice L ((i+1)*z) ((L.drop (i*z)).take ((n-i)*z))).toArray).setRow b (Go.splice (Go.splice L ((i+1)*z) ((L.drop (i*z)).take ((n-i)*z))) (i*z) vs).toArray
 room:∀{w:World} {b n c vb vo vc:Nat} {L vs:List Value} {t:TypeId},n+1≤c→n+1≤1073741824→w.heap[b]?=some (.cells L.toArray t (0,0))→L.length=c*z→vs.length=z→
  (∀j v,vs[j]?=some v→w.cell? ⟨vb,vo+j,none⟩=some v)→(∀v∈vs,v.oneCell'=true)→
  Calls P f #[.slice (some ⟨b,0,none⟩) n c,.int .i64 n,.slice (some ⟨vb,vo,none⟩) 1 vc] w fun e w'=>
   e=.returned (.slice (some ⟨b,0,none⟩) (n+1) c)∧w'=w.setRow b (Go.splice L (n*z) vs).toArray
 new:∀{w:World} {base:Option Addr} {n c vb vo vc:Nat} {olds vs:List Value},n≤c→c<n+1→n+1≤1073741824→vs.length=z→(base=none→n=0)→olds.length=n*z→
  (∀a,base=some a→∀j v,olds[j]?=some v→w.cell? (a.add j)=some v)→(∀j v,vs[j]?=some v→w.cell? ⟨vb,vo+j,none⟩=some v)→
  Calls P f #[.slice base n c,.int .i64 n,.slice (some ⟨vb,vo,none⟩) 1 vc] w fun e w'=>
   ∃cap zs,e=.returned (.slice (some ⟨w.heap.size,0,none⟩) (n+1) cap)∧w'=w.drew.alloc (.cells (olds++(vs++zs)).toArray E)∧n+1≤cap∧zs.length=(cap-(n+1))*z
 grow:∀{w:World} {b n c i vb vo vc:Nat} {L vs:List Value} {t:TypeId},i<n→n≤c→c<n+1→n+1≤1073741824→vb≠b→w.heap[b]?=some (.cells L.toArray t (0,0))→L.length=c*z→vs.length=z→
  (∀j v,vs[j]?=some v→w.cell? ⟨vb,vo+j,none⟩=some v)→(∀v∈(L.drop (i*z)).take ((n-i)*z),v.oneCell'=true)→(∀v∈vs,v.oneCell'=true)→
  Calls P f #[.slice (some ⟨b,0,none⟩) n c,.int .i64 i,.slice (some ⟨vb,vo,none⟩) 1 vc] w fun e w'=>
   ∃cap row,e=.returned (.slice (some ⟨w.heap.size,0,none⟩) (n+1) cap)∧n+1≤cap∧row.length=cap*z∧row.take (i*z)=L.take (i*z)∧
    w'.heap=(w.heap.push (.cells (Go.splice (Go.splice row (i*z) vs) ((i+1)*z) ((L.drop (i*z)).take ((n-i)*z))).toArray E))∧w'.os=w.os∧w'.output=w.output∧w'.tape=w.tape
end
end
section
section
variable {κ:Type} {El:κ→Type} {S:Sg κ El} {P:Program}
structure DelOk (P:Program) (f z:Nat):Prop where
 non:∀{w:World} {base:Option Addr} {n c i:Nat},n≤c→i≤n→Calls P f #[.slice base n c,.int .i64 i,.int .i64 i] w fun e w'=>e=.returned (.slice base n c)∧w'=w
 som:∀{w:World} {b n c i j:Nat} {L:List Value} {t:TypeId},i<j→j≤n→n≤c→w.heap[b]?=some (.cells L.toArray t (0,0))→L.length=c*z→(∀v∈(L.drop (j*z)).take ((n-j)*z),v.oneCell'=true)→
  Calls P f #[.slice (some ⟨b,0,none⟩) n c,.int .i64 i,.int .i64 j] w fun e w'=>
   e=.returned (.slice (some ⟨b,0,none⟩) (i+(n-j)) c)∧∃(M0:Array Value) (zs:List Value),zs.length=(j-i)*z∧w'=(w.drew.setRow b M0).setRow b (Go.splice (Go.splice L (i*z) ((L.drop (j*z)).take ((n-j)*z))) ((i+(n-j))*z) zs).toArray
end
end
end Go.Proofs.YtpdenibljogamaaGreatDoor.Ev
namespace Go.Proofs
open Go.Shelf
def Tryz.laysSort_ren:Go.Shelf.Ren:=⟨fun|6=>42|15=>67|14=>66|28=>122|29=>123|20=>114|21=>115|22=>116|23=>117|24=>118|25=>119|26=>120|27=>121|46=>211|47=>212|48=>213|49=>214|50=>215|57=>298|n=>n,fun|22=>22|24=>61|25=>82|3=>3|39=>118|0=>0|53=>164|55=>166|4=>4|46=>158|45=>157|50=>140|5=>5|9=>9|66=>225|70=>138|76=>275|77=>252|n=>n,fun|n=>n⟩
theorem Tryz.laysSort:Go.Proofs.SlLaysF0.n6 Tryz.prog Tryz.laysSort_ren:={
 mixed:=by kernel_rfl
 f6:=⟨Tryz.f42.name,by decide,Tryz.func42.trans (congrArg some (by kernel_rfl))⟩
 f14:=⟨Tryz.f66.name,by decide,Tryz.func66.trans (congrArg some (by kernel_rfl))⟩
 f15:=Tryz.func67.trans (congrArg some (by kernel_rfl))
 f20:=⟨Tryz.f114.name,by decide,Tryz.func114.trans (congrArg some (by kernel_rfl))⟩
 f21:=⟨Tryz.f115.name,by decide,Tryz.func115.trans (congrArg some (by kernel_rfl))⟩
 f22:=⟨Tryz.f116.name,by decide,Tryz.func116.trans (congrArg some (by kernel_rfl))⟩
 f23:=⟨Tryz.f117.name,by decide,Tryz.func117.trans (congrArg some (by kernel_rfl))⟩
 f24:=⟨Tryz.f118.name,by decide,Tryz.func118.trans (congrArg some (by kernel_rfl))⟩
 f25:=⟨Tryz.f119.name,by decide,Tryz.func119.trans (congrArg some (by kernel_rfl))⟩
 f26:=⟨Tryz.f120.name,by decide,Tryz.func120.trans (congrArg some (by kernel_rfl))⟩
 f27:=⟨Tryz.f121.name,by decide,Tryz.func121.trans (congrArg some (by kernel_rfl))⟩
 f28:=Tryz.func122.trans (congrArg some (by kernel_rfl))
 f29:=Tryz.func123.trans (congrArg some (by kernel_rfl))
 f46:=⟨Tryz.f211.name,by decide,Tryz.func211.trans (congrArg some (by kernel_rfl))⟩
 f47:=Tryz.func212.trans (congrArg some (by kernel_rfl))
 f48:=Tryz.func213.trans (congrArg some (by kernel_rfl))
 f49:=⟨Tryz.f214.name,by decide,Tryz.func214.trans (congrArg some (by kernel_rfl))⟩
 f50:=⟨Tryz.f215.name,by decide,Tryz.func215.trans (congrArg some (by kernel_rfl))⟩
 f57:=⟨Tryz.f298.name,by decide,Tryz.func298.trans (congrArg some (by kernel_rfl))⟩
 t0:=Tryz.underlying0
 a0:=Tryz.isAgg0
 z0:=Tryz.sizeOf0
 v0:=Tryz.zeroValue0
 t3:=Tryz.underlying3
 a3:=Tryz.isAgg3
 z3:=Tryz.sizeOf3
 v3:=Tryz.zeroValue3
 t4:=Tryz.underlying4
 a4:=Tryz.isAgg4
 z4:=Tryz.sizeOf4
 v4:=Tryz.zeroValue4
 t5:=Tryz.underlying5
 a5:=Tryz.isAgg5
 z5:=Tryz.sizeOf5
 v5:=Tryz.zeroValue5
 t9:=Tryz.underlying9
 a9:=Tryz.isAgg9
 z9:=Tryz.sizeOf9
 v9:=Tryz.zeroValue9
 t22:=Tryz.underlying22
 a22:=Tryz.isAgg22
 z22:=Tryz.sizeOf22
 v22:=Tryz.zeroValue22
 t25:=Tryz.underlying82
 a25:=Tryz.isAgg82
 z25:=Tryz.sizeOf82
 v25:=Tryz.zeroValue82
 t39:=Tryz.underlying118
 a39:=Tryz.isAgg118
 z39:=Tryz.sizeOf118
 v39:=Tryz.zeroValue118
 t45:=Tryz.underlying157
 a45:=Tryz.isAgg157
 z45:=Tryz.sizeOf157
 v45:=Tryz.zeroValue157
 t46:=Tryz.underlying158
 a46:=Tryz.isAgg158
 z46:=Tryz.sizeOf158
 v46:=Tryz.zeroValue158
 t50:=Tryz.underlying140
 a50:=Tryz.isAgg140
 z50:=Tryz.sizeOf140
 v50:=Tryz.zeroValue140
 t53:=Tryz.underlying164
 a53:=Tryz.isAgg164
 z53:=Tryz.sizeOf164
 v53:=Tryz.zeroValue164
 t55:=Tryz.underlying166
 a55:=Tryz.isAgg166
 z55:=Tryz.sizeOf166
 v55:=Tryz.zeroValue166
 t66:=Tryz.underlying225
 a66:=Tryz.isAgg225
 z66:=Tryz.sizeOf225
 v66:=Tryz.zeroValue225
 t70:=Tryz.underlying138
 a70:=Tryz.isAgg138
 z70:=Tryz.sizeOf138
 v70:=Tryz.zeroValue138
 t76:=Tryz.underlying275
 a76:=Tryz.isAgg275
 z76:=Tryz.sizeOf275
 v76:=Tryz.zeroValue275
 t77:=Tryz.underlying252
 a77:=Tryz.isAgg252
 z77:=Tryz.sizeOf252
 v77:=Tryz.zeroValue252}
end Go.Proofs
namespace Go.Proofs.YtpdenibljogamaaGreatDoor
section
open Go Ev
open Go.Lib Go.RowKit
def c58 (x:Off):List Value:=[.int .i64 x.Device,.int .i64 x.Seq,.int .i64 x.Day,.int .i64 x.Kind,.int .i64 x.Item,.int .i64 x.Patron,.int .i64 x.Branch]
set_option maxHeartbeats 4000000 in
theorem b3s (d1 s1 y1 k1 i1 p1 b1 d2 s2 y2 k2 i2 p2 b2:Int) (W:World) :
 Calls Tryz.prog 36 #[.agg #[.int .i64 d1,.int .i64 s1,.int .i64 y1,.int .i64 k1,.int .i64 i1,.int .i64 p1,.int .i64 b1],.agg #[.int .i64 d2,.int .i64 s2,.int .i64 y2,.int .i64 k2,.int .i64 i2,.int .i64 p2,.int .i64 b2]] W
  fun e w'=>e=.returned (.int .i64 (a3r (wrap64 (y1-y2)) (a3r (wrap64 (d1-d2)) (wrap64 (s1-s2)))))∧∃q os',w'=Go.Sort.grow (W.drewN q) os':=by
 obtain ⟨x,hx⟩:∃x,x=wrap64 (y1-y2):=⟨_,rfl⟩
 obtain ⟨y,hy⟩:∃x,x=wrap64 (d1-d2):=⟨_,rfl⟩
 obtain ⟨z,hz⟩:∃x,x=wrap64 (s1-s2):=⟨_,rfl⟩
 rw[←hx,←hy,←hz];obtain ⟨R,hR⟩:∃R,R=a3r x (a3r y z):=⟨_,rfl⟩
 have r0:x≠0→x=R:=fun h=>by rw[hR];unfold a3r;rw[yah h]
 have r1:x=0→y≠0→y=R:=fun h h'=>by rw[hR];unfold a3r;rw[yao h,yah h']
 have r2:x=0→y=0→z=R:=fun h h'=>by rw[hR];unfold a3r;rw[yao h,yao h']
 rw[←hR];clear hR
 go_enter Tryz.func36,Tryz.ntmps36
 go_wp2
 rw[←hx,←hy,←hz];clear hx hy hz
 go_loop [24] (fun i=>∃k:Nat,k≤3∧i=.int .i64 k∧(1≤k→x=0)∧(2≤k→y=0)∧(3≤k→z=0)) (fun i=>3-(intOf i).toNat)
 case atStart=>exact ⟨0,by omega,rfl,by omega,by omega,by omega⟩
 case round=>
  obtain ⟨k,hk,rfl,k1,k2,k3⟩:=hrel;rcases (by omega:k=0∨k=1∨k=2∨k=3) with rfl|rfl|rfl|rfl
  ·clear k1 k2 k3;have H1:Hid ((x != 0)=true→x=R):=fun h=>r0 (by simpa using h)
   clear r0 r1 r2
   go_wp2
   all_goals first
    |(rw[←H1.out (by assumption)];go_ret;exact ⟨rfl,0,_,by rw[Go.Sort.alloc_eq_grow,Go.Sort.alloc_eq_grow,Go.Sort.alloc_eq_grow,Go.Sort.grow_grow,Go.Sort.grow_grow];rfl⟩)
    |(go_round;(case rel=>exact ⟨1,by omega,by go_num,fun _=>by simp_all,by omega,by omega⟩);(case measure=>simp[intOf]))
  ·have H1:Hid ((y != 0)=true→y=R):=fun h=>r1 (k1 (by omega)) (by simpa using h)
   have H0:Hid (x=0):=k1 (by omega);clear k1 k2 k3 r0 r1 r2
   go_wp2
   all_goals first
    |(rw[←H1.out (by assumption)];go_ret;exact ⟨rfl,0,_,by rw[Go.Sort.alloc_eq_grow,Go.Sort.alloc_eq_grow,Go.Sort.alloc_eq_grow,Go.Sort.grow_grow,Go.Sort.grow_grow];rfl⟩)
    |(go_round;(case rel=>exact ⟨2,by omega,by go_num,fun _=>H0.out,fun _=>by simp_all,by omega⟩);(case measure=>simp[intOf]))
  ·have H1:Hid ((z != 0)=true→z=R):=fun h=>r2 (k1 (by omega)) (k2 (by omega))
   have H0:Hid (x=0∧y=0):=⟨k1 (by omega),k2 (by omega)⟩
   clear k1 k2 k3 r0 r1 r2
   go_wp2
   all_goals first
    |(rw[←H1.out (by assumption)];go_ret;exact ⟨rfl,0,_,by rw[Go.Sort.alloc_eq_grow,Go.Sort.alloc_eq_grow,Go.Sort.alloc_eq_grow,Go.Sort.grow_grow,Go.Sort.grow_grow];rfl⟩)
    |(go_round;(case rel=>exact ⟨3,by omega,by go_num,fun _=>H0.out.1,fun _=>H0.out.2,fun _=>by simp_all⟩);(case measure=>simp[intOf]))
  ·have H1:Hid (0=R):=(k3 (by omega)).symm.trans (r2 (k1 (by omega)) (k2 (by omega)));clear k1 k2 k3 r0 r1 r2
   go_wp2
   rw[←H1.out]
   go_ret
   exact ⟨rfl,0,_,by rw[Go.Sort.alloc_eq_grow,Go.Sort.alloc_eq_grow,Go.Sort.alloc_eq_grow,Go.Sort.grow_grow,Go.Sort.grow_grow];rfl⟩
end
section
open Go Ev
open Go.Sort
set_option maxRecDepth 100000
theorem a8v (a b:Off):cfO a b<0↔a.Day<b.Day∨(a.Day=b.Day∧(a.Device<b.Device∨(a.Device=b.Device∧a.Seq<b.Seq))):=by
 unfold cfO a3r;by_cases h1:a.Day-b.Day=0
 ·rw[yao h1];by_cases h2:a.Device-b.Device=0
  ·rw[yao h2];omega
  ·rw[yah h2];omega
 ·rw[yah h1];omega
def cfB (a b:a5b):Int:=cfO a.1 b.1
def a81 (x:a5b):List Value:=c58 x.1
theorem b3p:SWO (ltOf cfB) where
 irrefl x:=by
  unfold ltOf cfB;rw[yaB,a8v];omega
 trans x y z h1 h2:=by
  unfold ltOf cfB at *;simp only[yag,a8v]at *;omega
 ntrans x y z h1 h2:=by
  unfold ltOf cfB at *;simp only[yaB,a8v]at *;omega
theorem b76:∀{l:List Off} {t:List a5b},b75 l=some t→t.map (fun x=>x.1)=l:=by
 intro l
 induction l with
 |nil=>intro t h;cases h;rfl
 |cons x l ih=>
  intro t h;unfold b75 at h;by_cases hx:okO x=true
  ·rw[dif_pos hx]at h;cases hs:b75 l with
   |none=>rw[hs]at h;cases h
   |some u=>
    rw[hs]at h;cases h
    rw[yaO,ih hs]
  ·rw[dif_neg hx]at h;cases h
theorem b9v {w:World} {I J:Nat→Nat→Prop} {xs:List a5b} {vals:Array Value}
 (hc:∀i (hi:i<xs.length) j d,(sg.enc Kd.kOff xs[i].1)[j]?=some d→∃v,vals[i*sg.sz Kd.kOff+j]?=some v∧DR sg w I J v d) :
 ∀i (hi:i<xs.length) j v,(a81 xs[i])[j]?=some v→vals[i*7+j]?=some v:=by
 intro i hi j v hv;have key:∀n,(sg.enc Kd.kOff xs[i].1)[j]?=some (.int .i64 n)→v=.int .i64 n→vals[i*7+j]?=some v:=by
  intro n h1 h2;obtain ⟨u,h3,h4⟩:=hc i hi j _ h1;rw[h2,←h4.int_inv];exact h3
 match j,hv with
 |0,hv=>exact key _ rfl (yas hv).symm
 |1,hv=>exact key _ rfl (yas hv).symm
 |2,hv=>exact key _ rfl (yas hv).symm
 |3,hv=>exact key _ rfl (yas hv).symm
 |4,hv=>exact key _ rfl (yas hv).symm
 |5,hv=>exact key _ rfl (yas hv).symm
 |6,hv=>exact key _ rfl (yas hv).symm
 |j+7,hv=>simp[a81,c58]at hv
theorem b4a {xs:List a5b} {i j:Nat} (hi:i<xs.length) (hj:j<7):(a81 xs[i])[j]?=some (flatK a81 7 xs.toArray)[i*7+j]!:=by
 have h:i*7+j<xs.toArray.size*7:=by simp;omega
 rw[get_flatK _ _ _ _ h];have e1:(i*7+j) / 7=i:=by omega
 have e2:(i*7+j) % 7=j:=by omega
 rw[e1,e2];have e3:xs.toArray[i]! = xs[i]:=by simp[hi]
 rw[e3];have:j<(a81 xs[i]).length:=hj;rw[yaa this,List.getElem!_eq_getElem?_getD,yaa this];rfl
theorem c0d {w:World} {xs:List a5b} {blk:Nat} {vals:Array Value} {t:TypeId} (hb:w.heap[blk]?=some (.cells vals t (0,0)))
 (hc:∀i (hi:i<xs.length) j v,(a81 xs[i])[j]?=some v→vals[i*7+j]?=some v):HoldsK a81 7 w blk 0 xs.toArray:=by
 intro t ht;have ht:t<xs.length*7:=by simpa using ht
 have e:t=t / 7*7+t % 7:=by omega
 have h1:=b4a (xs:=xs) (i:=t / 7) (j:=t % 7) (by omega) (by omega);rw[←e]at h1;have h2:=hc (t / 7) (by omega) (t % 7) _ h1;rw[←e]at h2;refine ⟨?_,?_⟩
 ·simp only[World.cell?,hb,yaE,h2];rfl
 ·simp[World.frozen?,hb]
theorem b6z {w:World} {I J:Nat→Nat→Prop} {F:Array Value} {blk q:Nat} {vals:Array Value} {t:TypeId} {os:Array Obj} (hp:Pre sg w I J [blk]) (hb:w.heap[blk]?=some (.cells vals t (0,0))) (hy:F.size≤vals.size) :
 GrowM [blk] w (grow (putRow id (Sort.ahead w q) blk 0 F) os) I I∧
 ∃vals',(grow (putRow id (Sort.ahead w q) blk 0 F) os).heap[blk]?=some (.cells vals' t (0,0))∧vals'.size=vals.size∧∀i,i<F.size→vals'[i]?=some F[i]!:=by
 have hlt:blk<w.heap.size:=(yac.1 hb).1;have hh:(grow (putRow id (Sort.ahead w q) blk 0 F) os).heap=w.heap.modify blk (onCells (putCells id 0 F))++os:=rfl;have hsz:(w.heap.modify blk (onCells (putCells id 0 F))).size=w.heap.size:=by simp
 have hget:∀b,b<w.heap.size→(grow (putRow id (Sort.ahead w q) blk 0 F) os).heap[b]?=if blk=b then (w.heap[b]?).map (onCells (putCells id 0 F)) else w.heap[b]?:=by
  intro b hb;rw[hh,yaR (by rw[hsz];exact hb),ybe]
 refine ⟨⟨?_,rfl,rfl,rfl,fun b h1 h2=>?_,fun _ _ h=>h,fun _ _ h=>.inl h,fun b o h=>?_⟩,putCells id 0 F vals,?_,?_,?_⟩
 ·rw[hh,Array.size_append,hsz];omega
 ·rw[hget b h1,yah (fun e=>h2 (by simp[e]))]
 ·have:=hp.ib b o h;rw[hh,Array.size_append,hsz];omega
 ·rw[hget blk hlt,yao rfl,hb];rfl
 ·simp[putCells]
 ·intro i hi;unfold putCells;rw[Array.getElem?_mapIdx,yae (by omega)];simp[hi]
theorem b1y {mb:List Nat} {w:World} {I:Nat→Nat→Prop} (h:∀b o,I b o→b<w.heap.size):GrowM mb w w I I:=⟨yam _,rfl,rfl,rfl,fun _ _ _=>rfl,fun _ _ h=>h,fun _ _ h=>.inl h,h⟩
theorem b9f {w:World} {I J:Nat→Nat→Prop} {vs:Array Value} (h:a4y sg w I J vs [.fn 36 [] []]):vs = #[.func (.func 36) #[] #[]]:=by
 obtain ⟨h1,h2⟩:=h;have h1:vs.size=1:=h1;obtain ⟨v,hv⟩:∃v,vs[0]?=some v:=⟨vs[0],by simp[h1]⟩
 have h3:=h2 0 v _ hv rfl;cases h3 with
 |fn f p c ps cs hp hc k1 k2=>
  have hp:p = #[]:=Array.eq_empty_of_size_eq_zero hp;have hc:c = #[]:=Array.eq_empty_of_size_eq_zero hc;subst hp;subst hc;refine Array.ext (by simp[h1]) (fun i hi _=>?_);have:i=0:=by omega
  subst this;have:=(yac.1 hv).2;simpa using this
theorem b6q (a b:a5b) (W:World):Calls Tryz.prog 36 #[.agg (a81 a).toArray,.agg (a81 b).toArray] W fun e w'=>e=.returned (.int .i64 (cfB a b))∧∃q os',w'=Go.Sort.grow (W.drewN q) os':=by
 obtain ⟨⟨d1,s1,y1,k1,i1,p1,b1⟩,h1⟩:=a;obtain ⟨⟨d2,s2,y2,k2,i2,p2,b2⟩,h2⟩:=b;refine (b3s d1 s1 y1 k1 i1 p1 b1 d2 s2 y2 k2 i2 p2 b2 W).mono ?_;rintro e w' ⟨rfl,h⟩;refine ⟨?_,h⟩;unfold okO at h1 h2;simp only[yab,yag]at h1 h2;rw[Go.IntWalk.wrap64_in (y1-y2) (by omega),Go.IntWalk.wrap64_in (d1-d2) (by omega),Go.IntWalk.wrap64_in (s1-s2) (by omega)];rfl
theorem b3r (blk off size:Nat) (w:World):CmpLays Tryz.prog 36 #[] a81 7 cfB blk off size w:=fun m os dk _ x y=>b6q x y (sortWorldK a81 7 w blk off m dk os)
theorem b1b (xs:List a5b):(a9l cfB xs).length=xs.length:=by
 have h:=(pdq_sorts (ltOf cfB) b3p xs.toArray 0 xs.toArray.size (Lib.bitLen xs.toArray.size) true true (yaN _) (yam _) (Or.inl rfl)).1.1;show (pdq (ltOf cfB) xs.toArray 0 xs.length (Go.Lib.bitLen xs.length) true true).toList.length=_
 simpa using h
theorem c59:fnB Tryz.prog 42 Tryz.f42 []=true:=kr
theorem b35:∀args w,(callFunc 36 args).run Tryz.prog w=.ok (.enter 36 args) w:=enters_of Tryz.func36 kr rfl
theorem c3c:∀ds a r,b83.dec ds=some a→c3v a=some r→Con Tryz.prog sg 42 ds [] (c4q.enc r) []:=by
 intro ds a r hd hf;obtain ⟨code,fok,-,-⟩:=n5 Tryz.func42 c59;have hac:d8 b83:=d8.cons (d5.lst _) (d8.cons (d5.fnc _ d8.nil d8.nil) d8.nil);have hds:=hac ds a hd;have hmd:sg.md 42=.inpl:=kr;unfold Con;rw[hmd];obtain ⟨zs,u⟩:=a;have hds:WL ds [.lst .kOff zs,.fn 36 [] []]:=hds;have hf:(bif decide (zs.length≤LIM) then (match b75 zs with|some t=>some ((a9l cfB t).map (fun x=>x.1))|none=>none) else none)=some r:=hf;intro _ k xs ds0 he xs' hr w I J mb v0 vs hp ho hargs;subst he;have hr:(D.lst Kd.kOff r:DD)=D.lst k xs':=hr;cases hr
 have hw0:=hds.2 0 _ _ rfl rfl;cases hw0 with
 |leaf _ _ hw0=>
 cases hw0
 have hargs:=WL.args (cs':=[.fn 36 [] []]) ⟨by simpa using hds.1,fun q d d' h1 h2=>hds.2 (q+1) d d' h1 h2⟩ hargs;have:=b9f hargs;subst this;cases hlim:decide (zs.length≤LIM) with
 |false=>rw[hlim]at hf;cases hf
 |true=>
  rw[hlim]at hf;have hl:=yaQ hlim;unfold LIM at hl;cases hsub:b75 zs with
  |none=>rw[hsub]at hf;cases hf
  |some t=>
  rw[hsub]at hf;have hf:some ((a9l cfB t).map (fun x=>x.1))=some r:=hf;cases hf
  obtain rfl:t.map (fun x=>x.1)=zs:=b76 hsub;have hlen:((a9l cfB t).map (fun x:a5b=>x.1)).length=(t.map (fun x:a5b=>x.1)).length:=by rw[ya3,ya3,b1b]
  have hlt:(t.map (fun x:a5b=>x.1)).length=t.length:=ya3 ..;unfold k9;rw[show (#[v0]++#[Value.func (.func 36) #[] #[]]) = #[v0,Value.func (.func 36) #[] #[]] from rfl,MuLone.run_callFunc_enter fok.at_ fok.name fok.body _ w];simp only;obtain ⟨base,cap,rfl,hcap,ho⟩:=ho;rcases ho with ⟨rfl,rfl⟩|⟨blk,vals,ty,rfl,rfl,hb,hv,hc⟩
  ·have hz:t=[]:=ya5.1 (by omega);subst hz;have h:=AnyF.slices_SortFunc_none Tryz.laysSort base 0 (.func (.func 36) #[] #[]) w;refine h.mono (fun e w' he=>?_);obtain ⟨rfl,rfl⟩:=he;exact ⟨rfl,hlen,I,b1y hp.ib,base,0,by rw[hlen],by rw[hlen];simp,.inl ⟨rfl,rfl⟩⟩
  ·have hc2:=b9v (xs:=t) (fun i hi j d h=>hc i (by rw[hlt];exact hi) j d (by rw[List.getElem_map];exact h));have hv:vals.size=cap*7:=hv;have h:=AnyQ.slices_SortFunc_eq Tryz.laysSort 7 Tryz.isAgg61 Tryz.sizeOf61 a81 (fun _=>rfl) (fun x v hv=>by simp[a81,c58]at hv;rcases hv with rfl|rfl|rfl|rfl|rfl|rfl|rfl<;>rfl) cfB b3p 36 #[] blk 0 cap t.toArray w b35 (b3r blk 0 t.toArray.size w) (c0d hb hc2) (yac.1 hb).1 (by simp;omega);have hsz:(t.map (fun x:a5b=>x.1)).length=t.toArray.size:=by rw[hlt];simp
   rw[hsz]at hlen hcap ⊢;refine h.mono (fun e w' he=>?_);obtain ⟨rfl,n,os,rfl⟩:=he;have hpl:=b1b t;obtain ⟨g,vals',h1,h2,h3⟩:=b6z (q:=n) (os:=os) (F:=flatK a81 7 (a9l cfB t).toArray) hp hb (by simp;omega);refine ⟨rfl,hlen,I,g,some ⟨blk,0,none⟩,cap,by rw[hlen],by omega,.inr ⟨blk,vals',ty,rfl,rfl,h1,by rw[h2];exact hv,?_⟩⟩;intro i hi j d hd;have hi2:i<(a9l cfB t).length:=by rw[ya3]at hi;exact hi
   rw[List.getElem_map]at hd;have key:∀n,j<7→(a81 (a9l cfB t)[i])[j]?=some (.int .i64 n)→d=.int .i64 n→∃v,vals'[i*7+j]?=some v∧∀W,DR sg W I I v d:=by
    intro n hj e1 e2;have h4:=b4a (xs:=a9l cfB t) hi2 hj;have h5:=h3 (i*7+j) (by simp;omega);rw[←h4,e1]at h5;exact ⟨_,h5,fun W=>by rw[e2];exact .int _ _⟩
   match j,hd with
   |0,hd=>obtain ⟨v,q1,q2⟩:=key _ (by omega) rfl (yas hd).symm;exact ⟨v,q1,q2 _⟩
   |1,hd=>obtain ⟨v,q1,q2⟩:=key _ (by omega) rfl (yas hd).symm;exact ⟨v,q1,q2 _⟩
   |2,hd=>obtain ⟨v,q1,q2⟩:=key _ (by omega) rfl (yas hd).symm;exact ⟨v,q1,q2 _⟩
   |3,hd=>obtain ⟨v,q1,q2⟩:=key _ (by omega) rfl (yas hd).symm;exact ⟨v,q1,q2 _⟩
   |4,hd=>obtain ⟨v,q1,q2⟩:=key _ (by omega) rfl (yas hd).symm;exact ⟨v,q1,q2 _⟩
   |5,hd=>obtain ⟨v,q1,q2⟩:=key _ (by omega) rfl (yas hd).symm;exact ⟨v,q1,q2 _⟩
   |6,hd=>obtain ⟨v,q1,q2⟩:=key _ (by omega) rfl (yas hd).symm;exact ⟨v,q1,q2 _⟩
   |j+7,hd=>exact absurd (show (none:Option DD)=some d from hd) (by simp)
end
section
set_option maxRecDepth 100000
open Ev
open Go (IntKind)
open Go
theorem b8h:SG Tryz.prog sg 39 @b5t:=c69 (loops:=l0) (ids:=[]) good Tryz.func39 kr kr cg0 f8 (fun a=>kr) kr
def c62 {R:Type}:Nat→Sm R:=cl 28 c5a (cl 39 b5t (cl 61 c5f (cl 175 c5g (cl 207 c5d (cl 264 c5c (cl 269 c5b (cl 270 c5e c0)))))))
theorem b9x:CG Tryz.prog sg @c62:=(cgc (sgP c3e) (cgc b8h (cgc (sgP c3k) (cgc (sgP c3l) (cgc (sgP c3i) (cgc (sgP c3h) (cgc (sgP c3f) (cgc (sgP c3j) cg0))))))))
def c6x:List Nat:=[10,11,13,15,17,19,23,25,26,29,32,33,34,35,36,40,41,42,44,49,50,53,54,55,56,57,58,62,65,66,67,68,71,87,88,89,90,95,97,98,99,100,101,102,104,110,111,114,123,124,125,126,130,171,172,173,174,179,188,195,198,204,205,206,271,286,287,294]
theorem c6b:c10 Tryz.prog c6x=true:=kr
theorem b7v:b1q Tryz.prog sg c6x @c62 40 10 [] [] (fun d bs=>some (d,bs))=some (a24.enc true,[]):=kr
theorem c29:∀ds a r,c2f.dec ds=some a→c3u a=some r→Con Tryz.prog sg 10 ds [] (a24.enc r) []:=c7a (rc:=a24) (r0:=true) good c6b b9x b7v
end
section
set_option maxRecDepth 100000
open Ev
open Go (IntKind)
open Go
noncomputable abbrev ZP:=Tryz.prog
theorem c3b:SG ZP sg 65 @c47:=b8e good Tryz.func65 kr kr cg0 (fun a=>kr)
theorem c28:SG ZP sg 32 @b8v:=b8e good Tryz.func32 kr kr (cgc c3b cg0) (fun a=>kr)
theorem b8f:SG ZP sg 34 @b8w:=b8e good Tryz.func34 kr kr cg0 (fun a=>kr)
theorem b6y:fnB ZP 40 Tryz.f40 [2]=true:=kr
theorem c2q:CG ZP sg @b9l:=(cgc b8f cg0)
theorem c0r:d9 ZP sg 0 Tryz.f40 @b05 2:=a1e b4s good Tryz.func40 b6y c2q f8 (fun a=>kr) kr (fun _ _=>rfl)
theorem c22:SG ZP sg 40 @c44:=b3t (loops:=b05) good Tryz.func40 b6y kr c2q (all_cons c0r f8) (fun a=>kr)
theorem c3g:SG ZP sg 33 @b8y:=b8e good Tryz.func33 kr kr (cgc b8f (cgc c22 cg0)) (fun a=>kr)
theorem c3s:fnB ZP 36 Tryz.f36 [2]=true:=kr
theorem c2r:CG ZP sg @b9n:=cg0
theorem c0t:d9 ZP sg 0 Tryz.f36 @b06 2:=a1e b4u good Tryz.func36 c3s c2r f8 (fun a=>kr) kr (fun _ _=>rfl)
theorem c24:SG ZP sg 36 @b8s:=b3t (loops:=b06) good Tryz.func36 c3s kr c2r (all_cons c0t f8) (fun a=>kr)
theorem c3r:fnB ZP 35 Tryz.f35 [2]=true:=kr
theorem c2s:CG ZP sg @b9o:=(cgc c24 cg0)
theorem c0u:d9 ZP sg 0 Tryz.f35 @b07 2:=a1e b4v good Tryz.func35 c3r c2s f8 (fun a=>kr) kr (fun _ _=>rfl)
theorem c25:SG ZP sg 35 @b8t:=b3t (loops:=b07) good Tryz.func35 c3r kr c2s (all_cons c0u f8) (fun a=>kr)
theorem b98:fnB ZP 13 Tryz.f13 [4,11]=true:=kr
theorem b9r:CG ZP sg @b9j:=(cgc c28 (cgc c3g (cgc c25 cg0)))
theorem c0p:d9 ZP sg 0 Tryz.f13 @a6d 4:=a1e b4q good Tryz.func13 b98 b9r f8 (fun a=>kr) kr (fun _ _=>rfl)
theorem b7a:d9 ZP sg 0 Tryz.f13 @a6d 11:=a1e b0x good Tryz.func13 b98 b9r f8 (fun a=>kr) kr (fun _ _=>rfl)
theorem c20:SG ZP sg 13 @b8r:=b3t (loops:=a6d) good Tryz.func13 b98 kr b9r (all_cons c0p (all_cons b7a f8)) (fun a=>kr)
theorem c3a:SG ZP sg 41 @b8x:=b8e good Tryz.func41 kr kr cg0 (fun a=>kr)
theorem b0f:CG ZP sg @b1t:=(cgc c3a cg0)
theorem b12:d9 ZP sg 0 Tryz.f40 @a36 2:=a1e a5m good Tryz.func40 b6y b0f f8 (fun a=>kr) kr (fun _ _=>rfl)
theorem b3w:SG ZP sg 40 @a74:=b3t (loops:=a36) good Tryz.func40 b6y kr b0f (all_cons b12 f8) (fun a=>kr)
theorem b99:fnB ZP 15 Tryz.f15 [2,10]=true:=kr
theorem b9s:CG ZP sg @b9k:=(cgc c20 (cgc b8h (cgc b3w (cgc (sgP c3c) cg0))))
theorem c0q:d9 ZP sg 0 Tryz.f15 @a6e 2:=a1e b4r good Tryz.func15 b99 b9s f8 (fun a=>kr) kr (fun _ _=>rfl)
theorem b7b:d9 ZP sg 0 Tryz.f15 @a6e 10:=a1e b0y good Tryz.func15 b99 b9s f8 (fun a=>kr) kr (fun _ _=>rfl)
theorem c21:SG ZP sg 15 @c43:=b3t (loops:=a6e) good Tryz.func15 b99 kr b9s (all_cons c0q (all_cons b7b f8)) (fun a=>kr)
theorem c2y:SG ZP sg 37 @b8p:=b8e good Tryz.func37 kr kr cg0 (fun a=>kr)
theorem b8g:SG ZP sg 38 @b5s:=b8e good Tryz.func38 kr kr cg0 (fun a=>kr)
theorem b37:fnB ZP 14 Tryz.f14 [4,10,13,18]=true:=kr
theorem b3o:CG ZP sg @b9i:=(cgc c2y (cgc b8g cg0))
theorem c0o:d9 ZP sg 0 Tryz.f14 @a17 4:=a1e b4p good Tryz.func14 b37 b3o f8 (fun a=>kr) kr (fun _ _=>rfl)
theorem b00:d9 ZP sg 0 Tryz.f14 @a17 13:=a1e b0v good Tryz.func14 b37 b3o f8 (fun a=>kr) kr (fun _ _=>rfl)
theorem b68:d9 ZP sg 0 Tryz.f14 @a17 10:=a1e b0u good Tryz.func14 b37 b3o (all_cons b00 f8) (fun a=>kr) kr (fun _ _=>rfl)
theorem b69:d9 ZP sg 0 Tryz.f14 @a17 18:=a1e b0w good Tryz.func14 b37 b3o f8 (fun a=>kr) kr (fun _ _=>rfl)
theorem c2z:SG ZP sg 14 @b8q:=b3t (loops:=a17) good Tryz.func14 b37 kr b3o (all_cons c0o (all_cons b68 (all_cons b00 (all_cons b69 f8)))) (fun a=>kr)
theorem c3t:fnB ZP 43 Tryz.f43 [2]=true:=kr
theorem c2t:CG ZP sg @b9p:=(cgc b8g cg0)
theorem c0v:d9 ZP sg 0 Tryz.f43 @b08 2:=a1e b4w good Tryz.func43 c3t c2t f8 (fun a=>kr) kr (fun _ _=>rfl)
theorem c26:SG ZP sg 43 @b8u:=b3t (loops:=b08) good Tryz.func43 c3t kr c2t (all_cons c0v f8) (fun a=>kr)
theorem c0a:fnB ZP 16 Tryz.f16 [9,13]=true:=kr
theorem b9t:CG ZP sg @b9m:=(cgc c2z (cgc c26 cg0))
theorem b01:d9 ZP sg 0 Tryz.f16 @a6f 13:=a1e b0z good Tryz.func16 c0a b9t f8 (fun a=>kr) kr (fun _ _=>rfl)
theorem c0s:d9 ZP sg 0 Tryz.f16 @a6f 9:=a1e b4t good Tryz.func16 c0a b9t (all_cons b01 f8) (fun a=>kr) kr (fun _ _=>rfl)
theorem c23:SG ZP sg 16 @c45:=b3t (loops:=a6f) good Tryz.func16 c0a kr b9t (all_cons c0s (all_cons b01 f8)) (fun a=>kr)
theorem c3q:fnB ZP 17 Tryz.f17 [4]=true:=kr
theorem c2u:CG ZP sg @b9q:=cg0
theorem c0w:d9 ZP sg 0 Tryz.f17 @b09 4:=a1e b4x good Tryz.func17 c3q c2u f8 (fun a=>kr) kr (fun _ _=>rfl)
theorem c27:SG ZP sg 17 @c46:=b3t (loops:=b09) good Tryz.func17 c3q kr c2u (all_cons c0w f8) (fun a=>kr)
theorem c3d:SG ZP sg 4 @c49:=b8e good Tryz.func4 kr kr (cgc (sgP c29) (cgc c21 (cgc c23 (cgc c27 cg0)))) (fun a=>kr)
end
section
open Ev
open Go (IntKind)
section
variable {α β σ X:Type}
theorem b1z {step:α→Option (α⊕β)}:∀{n m:Nat} {a:α} {b:β},n≤m→a0m step n a=some b→a0m step m a=some b:=by
 intro n
 induction n with
 |zero=>intro m a b _ h;cases h
 |succ n ih=>
  intro m a b hm h;obtain ⟨m,rfl⟩:∃k,m=k+1:=⟨m-1,by omega⟩
  simp only[a0m]at h ⊢;cases h1:step a with
  |none=>rw[h1]at h;cases h
  |some x=>
   rw[h1]at h;cases x with
   |inl a'=>exact ih (by omega) h
   |inr b'=>exact h
theorem a2b {step:α→Option (α⊕β)} {a:α} {b:β} (n:Nat) (hn:n≤b52) (h:a0m step n a=some b):e7 step a=some b:=b1z hn h
def a06 (f:Nat→X→σ→σ⊕β) (fin:σ→β):Nat→List X→σ→β
 |_,[],s=>fin s
 |i,x::l,s=>match f i x s with
  |.inl s'=>a06 f fin (i+1) l s'
  |.inr b=>b
theorem a07 {step:α→Option (α⊕β)} (Inv:Nat→σ→Prop) (enc:Nat→σ→α) (l:List X) (f:Nat→X→σ→σ⊕β) (fin:σ→β) (hl:l.length<b52)
 (h0:∀s,Inv l.length s→step (enc l.length s)=some (.inr (fin s)))
 (h1:∀i x s,l[i]?=some x→Inv i s→(step (enc i s)=some (match f i x s with | .inl s'=>.inl (enc (i+1) s') | .inr b=>.inr b))∧∀s',f i x s=.inl s'→Inv (i+1) s')
 (s:σ) (hs:Inv 0 s):e7 step (enc 0 s)=some (a06 f fin 0 l s):=by
 have key:∀k i s,i+k=l.length→Inv i s→a0m step (k+1) (enc i s)=some (a06 f fin i (l.drop i) s):=by
  intro k
  induction k with
  |zero=>
   intro i s hi hs;have:i=l.length:=by omega
   subst this;rw[List.drop_length];simp only[a0m,h0 s hs,a06]
  |succ k ih=>
   intro i s hi hs;have hlt:i<l.length:=by omega
   obtain ⟨e1,e2⟩:=h1 i l[i] s (yaa hlt) hs;rw[List.drop_eq_getElem_cons hlt];rw[a0m,e1];simp only[a06];cases hf:f i l[i] s with
   |inl s'=>simp only;exact ih (i+1) s' (by omega) (e2 s' hf)
   |inr b=>rfl
 have:=key l.length 0 s (by omega) hs;exact a2b (l.length+1) (by omega) (by simpa using this)
theorem a0q {step:α→Option (α⊕β)} (enc:Nat→σ→α) (l:List X) (f:Nat→X→σ→σ⊕β) (fin:σ→β) (hl:l.length<b52)
 (h0:∀s,step (enc l.length s)=some (.inr (fin s)))
 (h1:∀i x s,l[i]?=some x→step (enc i s)=some (match f i x s with | .inl s'=>.inl (enc (i+1) s') | .inr b=>.inr b))
 (s:σ):e7 step (enc 0 s)=some (a06 f fin 0 l s):=
 a07 (fun _ _=>True) enc l f fin hl (fun s _=>h0 s) (fun i x s hx _=>⟨h1 i x s hx,fun _ _=>trivial⟩) s trivial
def a41 (f:Nat→X→Int):Nat→List X→Int
 |_,[]=>0
 |i,x::l=>if f i x==0 then a41 f (i+1) l else f i x
theorem b5q {f:Nat→X→Int} {d:β} {g:Int→β}:∀{l:List X} {i:Nat},a06 (σ:=Unit) (fun i x _=>if f i x==0 then .inl () else .inr (g (f i x))) (fun _=>d) i l ()=if a41 f i l==0 then d else g (a41 f i l):=by
 intro l
 induction l with
 |nil=>intros;rfl
 |cons x l ih=>
  intro i;simp only[a06,a41];by_cases h:(f i x==0)=true
  ·simp only[h,ybt];exact ih
  ·have h2:¬f i x=0:=fun e=>h (by simp[e])
   simp[h2]
theorem a2i {f:Nat→X→Int}:∀{l:List X} {i:Nat},a41 f i l=0↔∀k x,l[k]?=some x→f (i+k) x=0:=by
 intro l
 induction l with
 |nil=>intro i;simp[a41]
 |cons y l ih=>
  intro i;simp only[a41];constructor
  ·intro h k x hk;split at h
   ·rename_i h1;cases k with
    |zero=>simp at hk;subst hk;simpa using h1
    |succ k=>have:=(ih (i:=i+1)).1 h k x (by simpa using hk);rwa [show i+(k+1)=i+1+k by omega]
   ·rename_i h1;exfalso;apply h1;simp[h]
  ·intro h;have h0:=h 0 y rfl;simp only[ya4]at h0;rw[h0];simp only[ybl,ybt];exact ih.2 (fun k x hk=>by have:=h (k+1) x (by simpa using hk);rwa [show i+(k+1)=i+1+k by omega]at this)
end
section
variable {α β σ X:Type} {step:α→Option (α⊕β)}
def b0o (a:α) (g:Int→β) (e:Int):Option (α⊕β):=if e==0 then some (.inl a) else some (.inr (g e))
theorem a5v (enc:Nat→α) (l:List X) (f:Nat→X→Int) (d:β) (g:Int→β) (hl:l.length<1000000000) (h0:step (enc l.length)=some (.inr d))
 (h1:∀i x,l[i]?=some x→step (enc i)=b0o (enc (i+1)) g (f i x)):e7 step (enc 0)=some (if a41 f 0 l==0 then d else g (a41 f 0 l)):=by
 have h:=a0q (step:=step) (fun i (_:Unit)=>enc i) l (fun i x _=>if f i x==0 then .inl () else .inr (g (f i x))) (fun _=>d) (by show l.length<18446744073709551616;omega) (fun _=>h0)
  (fun i x _ hx=>by rw[h1 i x hx];unfold b0o;split<;>rfl) ()
 rw[h,b5q]
def a3z (p:X→Bool) (g:Nat→X→β) (d:β):Nat→List X→β
 |_,[]=>d
 |i,x::l=>bif p x then g i x else a3z p g d (i+1) l
theorem a4w (enc:Nat→α) (l:List X) (p:X→Bool) (g:Nat→X→β) (d:β) (hl:l.length<1000000000) (h0:step (enc l.length)=some (.inr d))
 (h1:∀i x,l[i]?=some x→step (enc i)=bif p x then some (.inr (g i x)) else some (.inl (enc (i+1)))):e7 step (enc 0)=some (a3z p g d 0 l):=by
 have h:=a0q (step:=step) (fun i (_:Unit)=>enc i) l (fun i x _=>if p x then .inr (g i x) else .inl ()) (fun _=>d) (by show l.length<18446744073709551616;omega) (fun _=>h0)
  (fun i x _ hx=>by rw[h1 i x hx];cases p x<;>rfl) ()
 rw[h];have key:∀(l:List X) (i:Nat),a06 (σ:=Unit) (fun i x _=>if p x then .inr (g i x) else .inl ()) (fun _=>d) i l ()=a3z p g d i l:=by
  intro l
  induction l with
  |nil=>intro i;rfl
  |cons x l ih=>
   intro i;simp only[a06,a3z];cases p x with
   |true=>rfl
   |false=>exact ih _
 rw[key]
def a4z (p:Nat→X→Bool):Nat→List X→Bool
 |_,[]=>true
 |i,x::l=>p i x&&a4z p (i+1) l
theorem w9 (enc:Nat→α) (l:List X) (p:Nat→X→Bool) (b d:β) (hl:l.length<1000000000) (h0:step (enc l.length)=some (.inr d))
 (h1:∀i x,l[i]?=some x→step (enc i)=bif p i x then some (.inl (enc (i+1))) else some (.inr b)):e7 step (enc 0)=some (bif a4z p 0 l then d else b):=by
 have h:=a0q (step:=step) (fun i (_:Unit)=>enc i) l (fun i x _=>if p i x then .inl () else .inr b) (fun _=>d) (by show l.length<18446744073709551616;omega) (fun _=>h0)
  (fun i x _ hx=>by rw[h1 i x hx];cases p i x<;>rfl) ()
 rw[h];have key:∀(l:List X) (i:Nat),a06 (σ:=Unit) (fun i x _=>if p i x then .inl () else .inr b) (fun _=>d) i l ()=bif a4z p i l then d else b:=by
  intro l
  induction l with
  |nil=>intro i;rfl
  |cons x l ih=>
   intro i;simp only[a06,a4z];cases p i x with
   |true=>exact ih _
   |false=>rfl
 rw[key]
theorem a1u {p:X→Bool}:∀{l:List X} {i:Nat},a4z (fun _=>p) i l=l.all p:=by
 intro l
 induction l with
 |nil=>intros;rfl
 |cons x l ih=>intro i;simp only[a4z,List.all_cons];rw[ih]
theorem a6p {p:Nat→X→Bool}:∀{l:List X} {i:Nat},a4z p i l=true↔∀k x,l[k]?=some x→p (i+k) x=true:=by
 intro l
 induction l with
 |nil=>intro i;simp[a4z]
 |cons y l ih=>
  intro i;simp only[a4z,yab];rw[ih];constructor
  ·rintro ⟨h0,h⟩ k x hk;cases k with
   |zero=>simp at hk;subst hk;exact h0
   |succ k=>have:=h k x (by simpa using hk);rwa [show i+(k+1)=i+1+k by omega]
  ·intro h;exact ⟨h 0 y rfl,fun k x hk=>by have:=h (k+1) x (by simpa using hk);rwa [show i+(k+1)=i+1+k by omega]at this⟩
end
theorem b2t {n:Int} (h1 : -9223372036854775808≤n) (h2:n≤9223372036854775807):wr .i64 n=n:=by
 unfold wr;rw[IntKind.wrap_i64];omega
theorem o4 {n:Nat} (h:n<9223372036854775807):wr .i64 ((n:Int)+1)=((n+1:Nat):Int):=by
 rw[b2t (by omega) (by omega)];rfl
theorem a93 {j:Nat} (h:j<1000000000):wr .i64 (((j+1:Nat):Int)-1)=(j:Int):=by
 rw[show ((j+1:Nat):Int)-1=(j:Int) by omega];exact b2t (by omega) (by omega)
theorem c6w {j:Nat}:decide ((0:Int)<((j+1:Nat):Int))=true:=by rw[yag];omega
theorem k8 {α:Type} (l:List α) (i:Nat):a09 l (i:Int)=l[i]?:=by
 unfold a09;simp
theorem a2c:b52=18446744073709551616:=rfl
end
section
open Ev
open Go (IntKind)
theorem dlt {i n:Nat} (h:i<n):decide ((i:Int)<(n:Int))=true:=by simpa using h
theorem dge {n:Nat}:decide ((n:Int)<(n:Int))=false:=by simp
end
section
open Ev
open Go (IntKind Lit)
def wi (n lo hi:Int):Bool:=decide (lo≤n)&&decide (n≤hi)
theorem c6p (n lo hi:Int):qn n lo hi=some (wi n lo hi):=by
 unfold qn wi;cases h:decide (lo≤n)<;>simp[h]
theorem c5k (n lo hi:Int):(decide (n<lo)||decide (hi<n))=!wi n lo hi:=by
 unfold wi;rw[Bool.eq_iff_iff];simp only[ya7,yay,Bool.and_eq_false_iff,yag,yaB];omega
def chk (x:Off):Int:=
 bif (((!wi x.Device 1 9||!wi x.Seq 1 9999)||!wi x.Day 0 109572)||!wi x.Item 1 9999)||!wi x.Branch 1 4 then 2
 else bif !wi x.Kind 1 3 then 1
 else bif (x.Kind==1&&!wi x.Patron 1 9999)||(!(x.Kind==1)&&!(x.Patron==0)) then 2 else 0
theorem c6m (x:Off):qj x=some (chk x):=by
 unfold qj chk;simp -zeta only[c6p];generalize wi x.Device 1 9=a1;generalize wi x.Seq 1 9999=a2;generalize wi x.Day 0 109572=a3;generalize wi x.Item 1 9999=a4;generalize wi x.Branch 1 4=a5;generalize wi x.Kind 1 3=a6;generalize (x.Kind==1)=a7;generalize wi x.Patron 1 9999=a8;generalize (x.Patron==0)=a9;dsimp only;cases a1
 ·rfl
 cases a2
 ·rfl
 cases a3
 ·rfl
 cases a4
 ·rfl
 cases a5
 ·rfl
 cases a6
 ·rfl
 cases a7<;>cases a8<;>cases a9<;>rfl
theorem c6g (x:Off):q8 x=some (chk x):=by
 unfold q8 chk;simp only[←c5k];generalize decide (x.Device<1)=a1;generalize decide (9<x.Device)=b1;generalize decide (x.Seq<1)=a2;generalize decide (9999<x.Seq)=b2;generalize decide (x.Day<0)=a3;generalize decide (109572<x.Day)=b3;generalize decide (x.Item<1)=a4;generalize decide (9999<x.Item)=b4;generalize decide (x.Branch<1)=a5;generalize decide (4<x.Branch)=b5;generalize decide (x.Kind<1)=a6;generalize decide (3<x.Kind)=b6;generalize (x.Kind==1)=a7;generalize decide (x.Patron<1)=a8;generalize decide (9999<x.Patron)=b8;generalize (x.Patron==0)=a9;cases a1
 rotate_left
 ·rfl
 cases b1
 rotate_left
 ·rfl
 cases a2
 rotate_left
 ·rfl
 cases b2
 rotate_left
 ·rfl
 cases a3
 rotate_left
 ·rfl
 cases b3
 rotate_left
 ·rfl
 cases a4
 rotate_left
 ·rfl
 cases b4
 rotate_left
 ·rfl
 cases a5
 rotate_left
 ·rfl
 cases b5
 rotate_left
 ·rfl
 cases a6
 rotate_left
 ·rfl
 cases b6
 rotate_left
 ·rfl
 cases a7<;>cases a8<;>cases b8<;>cases a9<;>rfl
def a0a (x y:Off):Bool:=x.Device==y.Device&&x.Seq==y.Seq
theorem a7p (x y:Off):a0a x y=a0a y x:=by
 unfold a0a;rw[Bool.eq_iff_iff];simp only[yab,beq_iff_eq];omega
theorem b1x {X:Type} {p:X→Bool}:∀(l:List X) (i:Nat),(match a3z (β:=Unit⊕(Int×Unit)) p (fun i _=>.inr ((i:Int),())) (.inl ()) i l with | .inl _=>some (-1:Int) | .inr (v,_)=>some v).map (fun r=>decide (0≤r))=some (l.any p):=by
 intro l
 induction l with
 |nil=>intro i;rfl
 |cons x l ih=>
  intro i;simp only[a3z,List.any_cons];cases p x with
  |true=>simp
  |false=>simp only[yaw,ybr];exact ih _
theorem c4m {γ:Type} {q:γ→Off→Option Bool} {p:Off→Bool} {g:γ} (hq:∀x,q g x=some (p x)) {l:List Off} (hl:l.length<1000000000) :
 qd q l g=(match a3z (β:=Unit⊕(Int×Unit)) p (fun i _=>.inr ((i:Int),())) (.inl ()) 0 l with | .inl _=>some (-1:Int) | .inr (v,_)=>some v):=by
 unfold qd;have h:=a4w (step:=a9p q) (fun i=>(l,g,(l.length:Int),(i:Int),())) l p (fun i _=>.inr ((i:Int),())) (.inl ()) hl
  (by simp only[a9p,dge,yaw])
  (fun i x hx=>by
   have hi:=(zL hx)
   simp only[a9p,dlt hi,k8,hx,yak,hq,o4 (show i<9223372036854775807 by omega)])
 rw[show e7 (a9p q) (l,g,(l.length:Int),0,())=_ from h];cases a3z (β:=Unit⊕(Int×Unit)) p (fun i _=>.inr ((i:Int),())) (.inl ()) 0 l<;>rfl
theorem c6q {γ:Type} {q:γ→Off→Option Bool} {p:Off→Bool} {g:γ} (hq:∀x,q g x=some (p x)) {l:List Off} (hl:l.length<1000000000) :
 qu q l g=some (l.any p):=by
 unfold qu;rw[c4m hq hl,←b1x l 0];cases a3z (β:=Unit⊕(Int×Unit)) p (fun i _=>.inr ((i:Int),())) (.inl ()) 0 l<;>rfl
def a7j (l:List Off):Int:=a41 (fun _ x=>chk x) 0 l
theorem b7p {l:List Off} (hl:l.length<1000000000):e7 b2j (l,l,(l.length:Int),0,())=some (if a7j l==0 then .inl (l,()) else .inr (a7j l,())):=
 a5v (step:=b2j) (fun i=>(l,l,(l.length:Int),(i:Int),())) l (fun _ x=>chk x) (.inl (l,())) (fun e=>.inr (e,())) hl
  (by simp only[b2j,dge,yaw])
  (fun i x hx=>by
   have hi:=(zL hx)
   simp only[b2j,dlt hi,k8,hx,yak,c6m,o4 (show i<9223372036854775807 by omega),b0o];by_cases h:chk x=0
   ·rw[h];rfl
   ·rw[show (chk x==0)=false by simpa using h];rfl)
theorem b7o {l:List Off} (hl:l.length<1000000000):e7 b2i (l,0,())=some (if a7j l==0 then .inl (l,()) else .inr (a7j l,())):=
 a5v (step:=b2i) (fun i=>(l,(i:Int),())) l (fun _ x=>chk x) (.inl (l,())) (fun e=>.inr (e,())) hl
  (by simp only[b2i,dge,yaw])
  (fun i x hx=>by
   have hi:=(zL hx)
   simp only[b2i,dlt hi,k8,hx,yak,c6g,o4 (show i<9223372036854775807 by omega),b0o];by_cases h:chk x=0
   ·rw[h];rfl
   ·rw[show (chk x==0)=false by simpa using h];rfl)
def a4b (l:List Off):Bool:=a4z (fun i x=>!(l.take i).any (fun y=>a0a x y)) 0 l
theorem c6n (y v:Off):qk y v=some (a0a v y):=by
 unfold qk a0a;cases v.Device==y.Device<;>rfl
theorem b5k {l:List Off} (hl:l.length<1000000):e7 a5r (l,l,(l.length:Int),0,())=some (bif a4b l then .inl (l,()) else .inr (7,())):=
 w9 (step:=a5r) (fun i=>(l,l,(l.length:Int),(i:Int),())) l (fun i x=>!(l.take i).any (fun y=>a0a x y)) (.inr (7,())) (.inl (l,())) (by omega)
  (by simp only[a5r,dge,yaw])
  (fun i x hx=>by
   have hi:=(zL hx)
   have g1:(decide ((0:Int)≤(0:Int))&&(decide ((0:Int)≤(i:Int))&&decide ((i:Int)≤(l.length:Int))))=true:=by
    simp only[yab,yag];omega
   have e0:((l.take ((i:Int)).toNat).drop ((0:Int)).toNat)=l.take i:=by simp
   simp only[a5r,dlt hi,k8,hx,yak,g1,e0];rw[c6q (p:=fun y=>a0a x y) (fun y=>c6n y x) (by rw[ybb];omega)];simp only[o4 (show i<9223372036854775807 by omega)];cases (l.take i).any (fun y=>a0a x y)<;>rfl)
theorem b5i {l:List Off} {i:Nat} {x:Off} (hx:l[i]?=some x) (hl:l.length<1000000):e7 a4g (l,(i:Int),0,())=some (bif !(l.take i).any (fun y=>a0a x y) then .inl (l,(i:Int),()) else .inr (7,())):=by
 have hi:=(zL hx)
 have ht:(l.take i).length=i:=by rw[ybb];omega
 have h:=w9 (step:=a4g) (fun k=>(l,(i:Int),(k:Int),())) (l.take i) (fun _ y=>!a0a x y) (.inr (7,())) (.inl (l,(i:Int),())) (by omega)
  (by rw[ht];simp only[a4g,dge,yaw])
  (fun k y hy=>by
   have hk:k<i:=by have:=(zL hy);omega
   have hy2:l[k]?=some y:=by rw[yaG]at hy;rwa [yao hk]at hy
   simp -zeta only[a4g,dlt hk,k8,hx,hy2,yak,o4 (show k<9223372036854775807 by omega)];unfold a0a;cases x.Device==y.Device<;>cases x.Seq==y.Seq<;>rfl)
 rw[show e7 a4g (l,(i:Int),0,())=_ from h,a1u];have e:∀l:List Off,l.all (fun y=>!a0a x y)=!l.any (fun y=>a0a x y):=by
  intro l
  induction l with
  |nil=>rfl
  |cons z l ih=>rw[List.all_cons,List.any_cons,ih,Bool.not_or]
 rw[e]
theorem b5h {l:List Off} (hl:l.length<1000000):e7 a5q (l,0,())=some (bif a4b l then .inl (l,()) else .inr (7,())):=
 w9 (step:=a5q) (fun i=>(l,(i:Int),())) l (fun i x=>!(l.take i).any (fun y=>a0a x y)) (.inr (7,())) (.inl (l,())) (by omega)
  (by simp only[a5q,dge,yaw])
  (fun i x hx=>by
   have hi:=(zL hx)
   simp only[a5q,dlt hi,yak,b5i hx hl];cases (l.take i).any (fun y=>a0a x y) with
   |true=>rfl
   |false=>simp only[ybn,yak,o4 (show i<9223372036854775807 by omega)])
theorem a7w {l:List Off} (h:a4b l=true):∀(i j:Nat) (x y:Off),l[i]?=some x→l[j]?=some y→a0a x y=true→i=j:=by
 unfold a4b at h;rw[a6p]at h;have key:∀(i j:Nat) (x y:Off),l[i]?=some x→l[j]?=some y→j<i→a0a x y=false:=by
  intro i j x y hx hy hji;have:=h i x hx;rw[yaE]at this;simp only[yay,yaT]at this;have hm:y∈l.take i:=yaj (i:=j) (by rw[yaG,yao hji];exact hy);simpa using this y hm
 intro i j x y hx hy hk;rcases Nat.lt_trichotomy i j with q|q|q
 ·rw[a7p,key j i y x hy hx q]at hk;cases hk
 ·exact q
 ·rw[key i j x y hx hy q]at hk;cases hk
end
section
open Ev
open Go (IntKind Lit)
def ltO (a b:Off):Bool:=bif !(a.Day==b.Day) then decide (a.Day<b.Day) else bif !(a.Device==b.Device) then decide (a.Device<b.Device) else decide (a.Seq<b.Seq)
theorem c4o (a b:Off):qq a b=some (ltO a b):=by
 unfold qq ltO;cases a.Day==b.Day<;>cases a.Device==b.Device<;>rfl
theorem a1l (a b:Off):ltO a b=true↔a.Day<b.Day∨(a.Day=b.Day∧(a.Device<b.Device∨(a.Device=b.Device∧a.Seq<b.Seq))):=by
 unfold ltO;cases h1:a.Day==b.Day with
 |false=>
  have:a.Day≠b.Day:=by simpa using h1
  simp only[ybn,yak,yag];omega
 |true=>
  have e1:a.Day=b.Day:=by simpa using h1
  cases h2:a.Device==b.Device with
  |false=>
   have:a.Device≠b.Device:=by simpa using h2
   simp only[ya1,ybn,yak,yaw,yag];omega
  |true=>
   have:a.Device=b.Device:=by simpa using h2
   simp only[ya1,yaw,yag];omega
theorem a1m (a:Off):ltO a a=false:=by
 cases h:ltO a a with
 |false=>rfl
 |true=>rw[a1l]at h;omega
theorem a01 {a b c:Off} (h:ltO a b=true) (k:ltO b c=true):ltO a c=true:=by
 rw[a1l]at *;omega
theorem a9h {a b:Off} (h:ltO a b=false) (k:ltO b a=false):a0a a b=true:=by
 rw[Bool.eq_false_iff]at h k;unfold a0a;simp only[yab,beq_iff_eq];rw[ne_eq,a1l]at h k;omega
structure OkN (x:Off):Prop where
 d0:0≤x.Day
 d1:x.Day≤109572
 v0:1≤x.Device
 v1:x.Device≤9
 s0:1≤x.Seq
 s1:x.Seq≤9999
theorem b8d {x:Off} (h:chk x=0):OkN x:=by
 unfold chk at h;cases h1:(((!wi x.Device 1 9||!wi x.Seq 1 9999)||!wi x.Day 0 109572)||!wi x.Item 1 9999)||!wi x.Branch 1 4 with
 |true=>rw[h1]at h;cases h
 |false=>
  simp only[Bool.or_eq_false_iff,Bool.not_eq_false']at h1;obtain ⟨⟨⟨⟨a,b⟩,c⟩,-⟩,-⟩:=h1;unfold wi at a b c;simp only[yab,yag]at a b c;exact ⟨c.1,c.2,a.1,a.2,b.1,b.2⟩
def cmO (a b:Off):Int:=if wr .i64 (a.Day-b.Day)=0 then (if wr .i64 (a.Device-b.Device)=0 then wr .i64 (a.Seq-b.Seq) else wr .i64 (a.Device-b.Device)) else wr .i64 (a.Day-b.Day)
theorem c6k (a b:Off):qf a b=some (cmO a b):=by
 unfold qf cmO;generalize wr .i64 (a.Day-b.Day)=x;generalize wr .i64 (a.Device-b.Device)=y;generalize wr .i64 (a.Seq-b.Seq)=z;have step:∀(k:Nat) (v:Int),([x,y,z]:List Int)[k]?=some v→a9r ((([x,y,z]:List Int).length:Int),(k:Int),[x,y,z],())=if v=0 then some (.inl ((([x,y,z]:List Int).length:Int),((k+1:Nat):Int),[x,y,z],())) else some (.inr (.inr (v,()))):=fun k v hv=>by
  have hk:=(zL hv)
  have h3:([x,y,z]:List Int).length=3:=rfl;simp only[a9r,dlt hk,k8,hv,yak,Int.toNat_natCast,o4 (show k<9223372036854775807 by omega)];by_cases h:v=0
  ·rw[yao h,show (v==0)=true by simpa using h];rfl
  ·rw[yah h,show (v==0)=false by simpa using h];rfl
 have hw:e7 a9r ((([x,y,z]:List Int).length:Int),0,[x,y,z],())=some (if x=0 then (if y=0 then (if z=0 then .inl () else .inr (z,())) else .inr (y,())) else .inr (x,())):=by
  refine a2b 4 (by rw[a2c];omega) ?_;have s0:a9r ((([x,y,z]:List Int).length:Int),0,[x,y,z],())=if x=0 then some (.inl ((([x,y,z]:List Int).length:Int),((0+1:Nat):Int),[x,y,z],())) else some (.inr (.inr (x,()))):=step 0 x rfl
  have s1:=step 1 y rfl;have s2:=step 2 z rfl;have s3:a9r ((([x,y,z]:List Int).length:Int),((2+1:Nat):Int),[x,y,z],())=some (.inr (.inl ())):=rfl;rw[a0m,s0];by_cases hx:x=0
  ·rw[yao hx,yao hx];simp only;rw[a0m,s1];by_cases hy:y=0
   ·rw[yao hy,yao hy];simp only;rw[a0m,s2];by_cases hz:z=0
    ·rw[yao hz,yao hz];simp only;rw[a0m,s3]
    ·rw[yah hz,yah hz]
   ·rw[yah hy,yah hy]
  ·rw[yah hx,yah hx]
 rw[hw];by_cases hx:x=0
 ·rw[yao hx,yao hx];by_cases hy:y=0
  ·rw[yao hy,yao hy];by_cases hz:z=0
   ·rw[yao hz,hz]
   ·rw[yah hz]
  ·rw[yah hy,yah hy]
 ·rw[yah hx,yah hx]
theorem c2x {a b:Off} (ha:OkN a) (hb:OkN b):decide (cmO a b<0)=ltO a b:=by
 obtain ⟨a1,a2,a3,a4,a5,a6⟩:=ha;obtain ⟨b1,b2,b3,b4,b5,b6⟩:=hb;rw[Bool.eq_iff_iff,yag,a1l];unfold cmO;rw[b2t (n:=a.Day-b.Day) (by omega) (by omega),b2t (n:=a.Device-b.Device) (by omega) (by omega),b2t (n:=a.Seq-b.Seq) (by omega) (by omega)];by_cases h1:a.Day-b.Day=0
 ·rw[yao h1];by_cases h2:a.Device-b.Device=0
  ·rw[yao h2];omega
  ·rw[yah h2];omega
 ·rw[yah h1];omega
def srt (l:List Off):Bool:=(List.range (l.length-1)).all fun i=>match l[i+1]?,l[i]? with|some x,some y=>!decide (cmO x y<0)|_,_=>true
theorem b5w {l:List Off} (hl:l.length<1000000):qg (fun (g:Unit×Unit) x0 x1=>qf x0 x1) l ((),())=some (srt l):=by
 unfold qg;rcases Nat.eq_zero_or_pos l.length with h0|hpos
 ·have:l=[]:=ya5.1 h0;subst this;rfl
 ·have e:wr .i64 ((l.length:Int)-1)=((l.length-1:Nat):Int):=by rw[b2t (by omega) (by omega)];omega
  rw[e];have hlen:((List.range (l.length-1)).reverse).length=l.length-1:=by simp
  have h:=w9 (step:=b5n (fun (g:Unit×Unit) x0 x1=>qf x0 x1)) (fun j=>(l,((),()),((l.length-1-j:Nat):Int),())) (List.range (l.length-1)).reverse
   (fun _ i=>match l[i+1]?,l[i]? with|some x,some y=>!decide (cmO x y<0)|_,_=>true) (.inr (false,())) (.inl ()) (by omega)
   (by rw[hlen,Nat.sub_self];rfl)
   (fun j q hq=>by
    have hj:j<l.length-1:=by have:=(zL hq);omega
    have eq:q=l.length-1-1-j:=by
     rw[List.getElem?_reverse (by simpa using hj)]at hq;simp only[List.length_range]at hq;rw[List.getElem?_range (by omega)]at hq;exact (yas hq).symm
    have e1:l.length-1-j=q+1:=by omega
    have h1:q+1<l.length:=by omega
    have h2:q<l.length:=by omega
    have p0:decide ((0:Int)<((q+1:Nat):Int))=true:=c6w;simp only[b5n,e1,p0,yak,k8,a93 (show q<1000000000 by omega),yaa h1,yaa h2,c6k];rw[show l.length-1-(j+1)=q by omega];cases decide (cmO l[q+1] l[q]<0)<;>rfl)
  rw[show e7 (b5n (fun (g:Unit×Unit) x0 x1=>qf x0 x1)) (l,((),()),((l.length-1:Nat):Int),())=_ from h,a1u,List.all_reverse];unfold srt;cases (List.range (l.length-1)).all fun i=>match l[i+1]?,l[i]? with|some x,some y=>!decide (cmO x y<0)|_,_=>true<;>rfl
def asB (l:List Off):Bool:=(List.range (l.length-1)).all fun i=>match l[i+1]?,l[i]? with|some x,some y=>ltO y x|_,_=>true
theorem b5j {l:List Off} (hl:l.length<1000000) (hpos:0<l.length):e7 a2u (l,1,())=some (bif asB l then .inl () else .inr (3,())):=by
 have hlen:(List.range (l.length-1)).length=l.length-1:=by simp
 have h:=w9 (step:=a2u) (fun j=>(l,((j+1:Nat):Int),())) (List.range (l.length-1)) (fun _ i=>match l[i+1]?,l[i]? with|some x,some y=>ltO y x|_,_=>true) (.inr (3,())) (.inl ()) (by omega)
  (by
   rw[hlen,show l.length-1+1=l.length by omega];simp only[a2u,dge,yaw])
  (fun j q hq=>by
   have hj:j<l.length-1:=by have:=(zL hq);omega
   have eq:q=j:=by
    rw[List.getElem?_range hj]at hq;exact (yas hq).symm
   subst eq;have h1:q+1<l.length:=by omega
   have h2:q<l.length:=by omega
   simp only[a2u,dlt h1,yak,k8,a93 (show q<1000000000 by omega),yaa h1,yaa h2,c4o];rw[o4 (show q+1<9223372036854775807 by omega)];cases ltO l[q] l[q+1]<;>rfl)
 rw[show e7 a2u (l,1,())=_ from h,a1u];rfl
theorem b2h:e7 a2u ([],1,())=some (.inl ()):=a2b 1 (by rw[a2c];omega) rfl
theorem b96 {l:List Off} (h:a7j l=0):∀x∈l,OkN x:=by
 unfold a7j at h;rw[a2i]at h;intro x hx;obtain ⟨i,hi⟩:=yaM hx;exact b8d (h i x hi)
theorem c1n {l:List Off} (h:a7j l=0) (ho:a4b l=true):srt l=asB l:=by
 have hk:=b96 h;unfold srt asB;rw[Bool.eq_iff_iff,yaf,yaf];have key:∀i∈List.range (l.length-1),(match l[i+1]?,l[i]? with|some x,some y=>!decide (cmO x y<0)|_,_=>true)=(match l[i+1]?,l[i]? with|some x,some y=>ltO y x|_,_=>true):=fun i hi=>by
  rw[ybh]at hi;have h1:i+1<l.length:=by omega
  have h2:i<l.length:=by omega
  rw[yaa h1,yaa h2];simp only;rw[c2x (hk _ (yaP h1)) (hk _ (yaP h2))];cases hlt:ltO l[i+1] l[i]with
  |true=>
   cases hlt2:ltO l[i] l[i+1]with
   |false=>rfl
   |true=>have:=a01 hlt hlt2;rw[a1m]at this;cases this
  |false=>
   cases hlt2:ltO l[i] l[i+1]with
   |true=>rfl
   |false=>
    have:=a7w ho (i+1) i _ _ (yaa h1) (yaa h2) (a9h hlt hlt2);omega
 constructor
 ·intro H i hi;rw[←key i hi];exact H i hi
 ·intro H i hi;rw[key i hi];exact H i hi
def rtO (l:List Off):Int:=bif decide (128<(l.length:Int)) then 13 else if a7j l==0 then (bif a4b l then (bif asB l then 0 else 3) else 7) else a7j l
theorem c6h {l:List Off} (hl:l.length<1000000):qb l=some (rtO l):=by
 unfold qb rtO;cases decide (128<(l.length:Int)) with
 |true=>rfl
 |false=>
  simp only[yaw];rw[b7p (by omega)];by_cases h:a7j l=0
  ·rw[h];simp only[ybl,ybt];rw[b5k hl];cases ho:a4b l with
   |false=>rfl
   |true=>
    simp only[yak];rw[b5w hl];simp only;rw[c1n h ho];cases asB l<;>rfl
  ·rw[show (a7j l==0)=false by simpa using h];rfl
theorem c4l {l:List Off} (hl:l.length<1000000):qa l=some (rtO l):=by
 unfold qa rtO;cases decide (128<(l.length:Int)) with
 |true=>rfl
 |false=>
  simp only[yaw];rw[b7o (by omega)];by_cases h:a7j l=0
  ·rw[h];simp only[ybl,ybt];rw[b5h hl];cases ho:a4b l with
   |false=>rfl
   |true=>
    simp only[yak];rcases Nat.eq_zero_or_pos l.length with h0|hpos
    ·have:l=[]:=ya5.1 h0;subst this;rw[b2h];rfl
    ·rw[b5j hl hpos];cases asB l<;>rfl
  ·rw[show (a7j l==0)=false by simpa using h];rfl
structure RtO (l:List Off):Prop where
 len:l.length≤128
 ok:∀x∈l,chk x=0
 one:∀x∈l,∀y∈l,a0a x y=true→x=y
 asc:l.Pairwise (fun a b=>ltO a b=true)
theorem c2l:∀{l:List Off},asB l=true→l.Pairwise (fun a b=>ltO a b=true):=by
 intro l h;unfold asB at h;rw[yaf]at h;have key:∀k i,i+k+1<l.length→∀x y,l[i]?=some x→l[i+k+1]?=some y→ltO x y=true:=by
  intro k
  induction k with
  |zero=>
   intro i hi x y hx hy;have:=h i (by rw[ybh];omega);rw[ya4]at hy;rw[hx,hy]at this;exact this
  |succ k ih=>
   intro i hi x y hx hy;have h1:i+k+1<l.length:=by omega
   have a:=ih i (by omega) x l[i+k+1] hx (yaa h1);have b:=h (i+k+1) (by rw[ybh];omega);rw[show i+(k+1)+1=i+k+1+1 by omega]at hy;rw[hy,yaa h1]at b;exact a01 a b
 rw[yaL];intro i j hi hj hij;exact key (j-i-1) i (by omega) _ _ (yaa hi) (by rw[show i+(j-i-1)+1=j by omega];exact yaa hj)
theorem c4k {l:List Off} (h:l.Pairwise (fun a b=>ltO a b=true)):asB l=true:=by
 unfold asB;rw[yaf];intro i hi;rw[ybh]at hi;have h1:i+1<l.length:=by omega
 have h2:i<l.length:=by omega
 rw[yaa h1,yaa h2];rw[yaL]at h;exact h i (i+1) h2 h1 (by omega)
theorem a6i {l:List Off}:rtO l=0↔RtO l:=by
 unfold rtO;constructor
 ·intro h;cases h0:decide (128<(l.length:Int)) with
  |true=>rw[h0]at h;cases h
  |false=>
   rw[h0,yaw]at h;rw[yaB]at h0;by_cases he:a7j l=0
   ·rw[he]at h;simp only[ybl,ybt]at h;cases ho:a4b l with
    |false=>rw[ho]at h;cases h
    |true=>
     rw[ho,yak]at h;cases ha:asB l with
     |false=>rw[ha]at h;cases h
     |true=>
      refine ⟨by omega,fun x hx=>?_,fun x hx y hy hk=>?_,c2l ha⟩
      ·unfold a7j at he;rw[a2i]at he;obtain ⟨i,hi⟩:=yaM hx;exact he i x hi
      ·obtain ⟨i,hi⟩:=yaM hx;obtain ⟨j,hj⟩:=yaM hy;have:=a7w ho i j x y hi hj hk;subst this;rw[hi]at hj;exact yas hj
   ·rw[yah (by simpa using he)]at h;exact absurd h he
 ·intro R;have h0:decide (128<(l.length:Int))=false:=by rw[yaB];have:=R.len;omega
  have he:a7j l=0:=by
   unfold a7j;rw[a2i];intro i x hx;exact R.ok x (yaj hx)
  have ho:a4b l=true:=by
   unfold a4b;rw[a6p];intro i x hx;simp only[yay,yaT];intro y hy hk;rw[yaE]at hy;have e:=R.one x (yaj hx) y (List.mem_of_mem_take hy) hk;subst e;obtain ⟨j,hj⟩:=yaM hy;have hji:j<i:=by have:=(zL hj);rw[ybb]at this;omega
   rw[yaG,yao hji]at hj;have hp:=R.asc;rw[yaL]at hp;obtain ⟨h1,e1⟩:=yaA.1 hj;obtain ⟨h2,e2⟩:=yaA.1 hx;have:=hp j i h1 h2 hji;rw[e1,e2,a1m]at this;cases this
  rw[h0,he,ho,c4k R.asc];rfl
end
section
open Ev
open Go (IntKind Lit)
theorem a3y {x y:Off}:m5 x y=true↔x=y:=by
 obtain ⟨a1,a2,a3,a4,a5,a6,a7⟩:=x;obtain ⟨b1,b2,b3,b4,b5,b6,b7⟩:=y;unfold m5;simp only[yab,beq_iff_eq,Off.mk.injEq,and_true]
theorem c3p:∀{l m:List Off},l.Pairwise (fun a b=>ltO a b=true)→m.Pairwise (fun a b=>ltO a b=true)→(∀x,x∈l↔x∈m)→l=m:=by
 intro l
 induction l with
 |nil=>
  intro m _ _ h;cases m with
  |nil=>rfl
  |cons b m=>exact absurd ((h b).2 (yaS ..)) (by simp)
 |cons a l ih=>
  intro m hl hm h;cases m with
  |nil=>exact absurd ((h a).1 (yaS ..)) (by simp)
  |cons b m=>
   rw[List.pairwise_cons]at hl hm;have hab:a=b:=by
    rcases yar.1 ((h a).1 (yaS ..)) with e|e
    ·exact e
    ·rcases yar.1 ((h b).2 (yaS ..)) with f|f
     ·exact f.symm
     ·have:=a01 (hl.1 b f) (hm.1 a e);rw[a1m]at this;cases this
   subst hab;rw[ih hl.2 hm.2 (fun x=>?_)];constructor
   ·intro hx;rcases yar.1 ((h x).1 (ybi _ hx)) with e|e
    ·subst e;have:=hl.1 _ hx;rw[a1m]at this;cases this
    ·exact e
   ·intro hx;rcases yar.1 ((h x).2 (ybi _ hx)) with e|e
    ·subst e;have:=hm.1 _ hx;rw[a1m]at this;cases this
    ·exact e
def knO (a:List Off) (y:Off):Bool:=a.any fun x=>a0a x y
def clO (a:List Off) (y:Off):Bool:=a.any fun x=>a0a x y&&!m5 x y
def nwO (a b:List Off):List Off:=b.filter fun y=>!knO a y
def a43 (l:List Off) (x:Off):Nat:=match l.reverse.findIdx? (fun y=>!ltO x y) with|some i=>l.length-i|none=>0
def b2x (l:List Off) (x:Off):List Off:=(l.take (a43 l x)++[x])++l.drop (a43 l x)
def mgO (a b:List Off):List Off:=(nwO a b).foldl b2x a
def mg (a b:List Off):List Off×Int:=
 if rtO a≠0 then ([],rtO a) else if rtO b≠0 then ([],rtO b)
 else bif b.any (clO a) then ([],7) else bif decide (128<((a.length+(nwO a b).length:Nat):Int)) then ([],13) else (mgO a b,0)
theorem b39 {B:Type} {p:Off→Bool} {g:Nat→B} {d:B}:∀(l:List Off) (i:Nat),a3z p (fun i _=>g i) d i l=(match l.findIdx? p with|some k=>g (i+k)|none=>d):=by
 intro l
 induction l with
 |nil=>intro i;rfl
 |cons x l ih=>
  intro i;simp only[a3z,List.findIdx?_cons];cases p x with
  |true=>simp
  |false=>
   simp only[yaw,yaY,ybp];rw[ih];cases l.findIdx? p with
   |none=>rfl
   |some k=>simp only[Option.map_some];rw[show i+1+k=i+(k+1) by omega]
theorem c0e (l:List Off) (x:Off):a43 l x≤l.length:=by
 unfold a43;cases l.reverse.findIdx? (fun y=>!ltO x y) with
 |none=>exact yaN _
 |some i=>exact Nat.sub_le _ _
theorem b7s {l:List Off} {x:Off} (hl:l.length<1000000):e7 b2k (l,(l.length:Int),x,())=some (l,(a43 l x:Int),x,()):=by
 have h:=a4w (step:=b2k) (fun j=>(l,((l.length-j:Nat):Int),x,())) l.reverse (fun y=>!ltO x y) (fun i _=>(l,((l.length-i:Nat):Int),x,())) (l,0,x,()) (by simpa using (by omega:l.length<1000000000))
  (by
   rw[List.length_reverse,Nat.sub_self];rfl)
  (fun j y hy=>by
   have hj:j<l.length:=by have:=(zL hy);simpa using this
   rw[List.getElem?_reverse hj]at hy;obtain ⟨q,hq⟩:∃q,l.length-j=q+1:=⟨l.length-j-1,by omega⟩
   have hq2:l.length-1-j=q:=by omega
   rw[hq2]at hy;simp -zeta only[b2k,hq,c6w,yak,a93 (show q<1000000000 by omega),k8,hy,c4o];rw[show l.length-(j+1)=q by omega];cases ltO x y<;>rfl)
 rw[show e7 b2k (l,(l.length:Int),x,())=_ from h,b39 (g:=fun i=>((l,((l.length-i:Nat):Int),x,()):List Off×Int×Off×Unit))];unfold a43;cases l.reverse.findIdx? (fun y=>!ltO x y) with
 |none=>rfl
 |some i=>simp only;rw[yaE]
theorem c6l {l:List Off} {x:Off} (hl:l.length<1000000):qh l x=some (b2x l x):=by
 unfold qh;rw[b7s hl];have hk:=c0e l x;have hL:LIM=1073741824:=rfl;have e0:((l.take ((a43 l x:Int)).toNat).drop ((0:Int)).toNat)=l.take (a43 l x):=by simp
 have e1:((l.take ((l.length:Int)).toNat).drop ((a43 l x:Int)).toNat)=l.drop (a43 l x):=by simp
 have g1:(decide ((0:Int)≤(0:Int))&&(decide ((0:Int)≤(a43 l x:Int))&&decide ((a43 l x:Int)≤(l.length:Int))))=true:=by
  simp only[yab,yag];omega
 have g2:(decide ((0:Int)≤(a43 l x:Int))&&(decide ((a43 l x:Int)≤(l.length:Int))&&decide ((l.length:Int)≤(l.length:Int))))=true:=by
  simp only[yab,yag];omega
 simp only[e0,e1,g1,g2,yak];rw[ybg (by rw[ybb,hL,ya8];omega),ybg (by simp only[List.nil_append,ybb,yba,ya8,hL];omega),ybg (by simp only[List.nil_append,yaX,ybb,List.length_drop,yba,ya8,hL];omega)];simp only[yak,List.nil_append];rfl
theorem a7o (l:List Off) (x:Off):(b2x l x).Perm (x::l):=by
 unfold b2x;rw[yaU];have h:(l.take (a43 l x)++([x]++l.drop (a43 l x))).Perm ([x]++(l.take (a43 l x)++l.drop (a43 l x))):=by
  rw[←yaU,←yaU];exact List.perm_append_comm.append_right _
 rw[List.take_append_drop]at h;exact h
theorem b0s (l:List Off) (x:Off):(b2x l x).length=l.length+1:=by rw[(a7o l x).length_eq];rfl
theorem b0t {l:List Off} {x y:Off}:y∈b2x l x↔y=x∨y∈l:=by rw[(a7o l x).mem_iff,yar]
theorem b65 {l:List Off} {x:Off} (hl:l.Pairwise (fun a b=>ltO a b=true)) (hk:∀y∈l,a0a y x=false):(b2x l x).Pairwise (fun a b=>ltO a b=true):=by
 have tri:∀y∈l,ltO x y=false→ltO y x=true:=fun y hy h=>by
  cases h2:ltO y x with
  |true=>rfl
  |false=>have:=a9h h2 h;rw[hk y hy]at this;cases this
 have hp:=hl;rw[yaL]at hp;have hi:(∀y∈l.drop (a43 l x),ltO x y=true)∧(∀y∈l.take (a43 l x),ltO y x=true):=by
  unfold a43;cases hf:l.reverse.findIdx? (fun y=>!ltO x y) with
  |none=>
   rw[List.findIdx?_eq_none_iff]at hf;refine ⟨fun y hy=>?_,fun y hy=>by simp at hy⟩;have:=hf y (by simpa using hy);simpa using this
  |some i=>
   rw[yaW]at hf;obtain ⟨hi,h1,h2⟩:=hf;have hi':i<l.length:=by simpa using hi
   simp only;constructor
   ·intro y hy;obtain ⟨j,hj⟩:=yaM hy;rw[List.getElem?_drop]at hj;obtain ⟨hlt,e⟩:=yaA.1 hj;have:=h2 (l.length-1-(l.length-i+j)) (by omega);rw[List.getElem_reverse]at this;have e2:l.length-1-(l.length-1-(l.length-i+j))=l.length-i+j:=by omega
    simp only[e2,e]at this;simpa using this
   ·intro y hy;obtain ⟨j,hj⟩:=yaM hy;have hjl:j<l.length-i:=by have:=(zL hj);rw[ybb]at this;omega
    rw[yaG,yao hjl]at hj;obtain ⟨hlt,e⟩:=yaA.1 hj;rw[List.getElem_reverse]at h1;have hlast:l.length-1-i<l.length:=by omega
    have h3:=tri _ (yaP hlast) (by simpa using h1);rcases ybf j (l.length-1-i) with q|q
    ·have:=hp j (l.length-1-i) hlt hlast q;rw[e]at this;exact a01 this h3
    ·have ej:l.length-1-i=j:=by omega
     simp only[ej,e]at h3;exact h3
 unfold b2x;rw[yaU,List.pairwise_append];refine ⟨hl.sublist (List.take_sublist _ _),?_,?_⟩
 ·rw[List.singleton_append,List.pairwise_cons];exact ⟨hi.1,hl.sublist (List.drop_sublist _ _)⟩
 ·intro a ha b hb;rcases yaD.1 hb with e|e
  ·rw[ybo.1 e];exact hi.2 a ha
  ·exact a01 (hi.2 a ha) (hi.1 b e)
theorem b4e:∀{m l:List Off} {y:Off},y∈m.foldl b2x l↔y∈m∨y∈l:=by
 intro m
 induction m with
 |nil=>intro l y;simp
 |cons x m ih=>
  intro l y;rw[List.foldl_cons,ih,b0t,yar];constructor
  ·rintro (h|h|h)
   ·exact .inl (.inr h)
   ·exact .inl (.inl h)
   ·exact .inr h
  ·rintro ((h|h)|h)
   ·exact .inr (.inl h)
   ·exact .inl h
   ·exact .inr (.inr h)
theorem b4d:∀{m l:List Off},(m.foldl b2x l).length=l.length+m.length:=by
 intro m
 induction m with
 |nil=>intro l;rfl
 |cons x m ih=>
  intro l;rw[List.foldl_cons,ih,b0s,yba];omega
theorem b4c:∀{m l:List Off},l.Pairwise (fun a b=>ltO a b=true)→(∀x∈m,∀y∈l,a0a y x=false)→m.Pairwise (fun a b=>a0a a b=false)→(m.foldl b2x l).Pairwise (fun a b=>ltO a b=true):=by
 intro m
 induction m with
 |nil=>intro l h _ _;exact h
 |cons x m ih=>
  intro l hl hk hm;rw[List.pairwise_cons]at hm;rw[List.foldl_cons];refine ih (b65 hl (hk x (yaS ..))) (fun z hz y hy=>?_) hm.2;rcases b0t.1 hy with e|e
  ·subst e;exact hm.1 z hz
  ·exact hk z (ybi _ hz) y e
theorem RtO.key {l:List Off} (R:RtO l):l.Pairwise (fun a b=>a0a a b=false):=by
 have hp:=R.asc;rw[yaL]at hp ⊢;intro i j hi hj hij;cases h:a0a l[i] l[j]with
 |false=>rfl
 |true=>
  have:=hp i j hi hj hij;rw[R.one _ (yaP hi) _ (yaP hj) h,a1m]at this;cases this
theorem a9j {a b:List Off} {y:Off}:y∈nwO a b↔y∈b∧∀x∈a,a0a x y=false:=by
 unfold nwO knO;rw[List.mem_filter];constructor
 ·rintro ⟨h,k⟩;simp only[yay,yaT]at k;exact ⟨h,fun x hx=>by simpa using k x hx⟩
 ·rintro ⟨h,k⟩;refine ⟨h,?_⟩;simp only[yay,yaT];exact fun x hx=>by simp[k x hx]
theorem b5c (a b:List Off):(mgO a b).length=a.length+(nwO a b).length:=b4d
theorem c04 {a b:List Off} (ha:RtO a) (hb:RtO b):(mgO a b).Pairwise (fun a b=>ltO a b=true):=
 b4c ha.asc (fun x hx y hy=>(a9j.1 hx).2 y hy) (hb.key.sublist (List.filter_sublist))
theorem b10 {B:Type} {y:Off} {e:B} {g:Bool→B}:∀(a:List Off) (i:Nat) (s:Bool),a06 (fun _ x s=>bif a0a x y then (bif m5 x y then .inl true else .inr e) else .inl s) g i a s=bif clO a y then e else g (s||knO a y):=by
 intro a
 induction a with
 |nil=>intro i s;simp[a06,clO,knO]
 |cons x a ih=>
  intro i s;have e1:clO (x::a) y=((a0a x y&&!m5 x y)||clO a y):=rfl;have e2:knO (x::a) y=(a0a x y||knO a y):=rfl;rw[e1,e2];simp only[a06];cases a0a x y with
  |false=>simp only[yaw,Bool.false_and,ybr];exact ih _ _
  |true=>
   cases m5 x y with
   |true=>simp only[yak,ya1,Bool.and_false,ybr,Bool.true_or,Bool.or_true];rw[ih,Bool.true_or]
   |false=>rfl
theorem b5m {a b s:List Off} {i:Nat} {y:Off} (hy:b[i]?=some y) (ha:a.length<1000000):e7 a4i (a,b,s,(i:Int),false,0,())=some (bif clO a y then .inr ([],7,()) else .inl (a,b,s,(i:Int),knO a y,())):=by
 have h:=a0q (step:=a4i) (fun k kn=>(a,b,s,(i:Int),kn,(k:Int),())) a (fun _ x kn=>bif a0a x y then (bif m5 x y then .inl true else .inr (.inr ([],7,()))) else .inl kn) (fun kn=>.inl (a,b,s,(i:Int),kn,())) (by rw[a2c];omega)
  (fun kn=>by simp only[a4i,dge,yaw])
  (fun k x kn hx=>by
   have hk:=(zL hx)
   simp -zeta only[a4i,dlt hk,k8,hx,hy,yak,o4 (show k<9223372036854775807 by omega)];unfold a0a;cases x.Device==y.Device<;>cases x.Seq==y.Seq<;>cases m5 x y<;>rfl) false
 rw[show e7 a4i (a,b,s,(i:Int),false,0,())=_ from h,b10,ybr]
theorem a5o {B:Type} {a:List Off} {e:B} {g:List Off→B} {ins:List Off→Off→List Off}:∀(b:List Off) (i:Nat) (s:List Off),a06 (fun _ y s=>bif clO a y then .inr e else bif knO a y then .inl s else .inl (ins s y)) g i b s=bif b.any (clO a) then e else g ((nwO a b).foldl ins s):=by
 intro b
 induction b with
 |nil=>intro i s;rfl
 |cons y b ih=>
  intro i s;have e1:nwO a (y::b)=bif knO a y then nwO a b else y::nwO a b:=by
   unfold nwO;rw[List.filter_cons];cases knO a y<;>rfl
  rw[List.any_cons,e1];simp only[a06];cases clO a y with
  |true=>rfl
  |false=>
   simp only[yaw,ybr];cases knO a y with
   |true=>simp only[yak];exact ih _ _
   |false=>simp only[yaw];rw[ih];rfl
theorem b7r {a b:List Off} (ha:a.length≤128) (hb:b.length≤128):e7 a9q (a,b,[]++a,0,())=some (bif b.any (clO a) then .inr ([],7,()) else .inl (mgO a b,())):=by
 have h:=a07 (step:=a9q) (fun i s=>s.length≤128+i) (fun i s=>(a,b,s,(i:Int),())) b (fun _ y s=>bif clO a y then .inr (.inr ([],7,())) else bif knO a y then .inl s else .inl (b2x s y)) (fun s=>.inl (s,())) (by rw[a2c];omega)
  (fun s _=>by simp only[a9q,dge,yaw])
  (fun i y s hy hs=>by
   have hi:=(zL hy)
   simp -zeta only[a9q,dlt hi,yak,b5m hy (show a.length<1000000 by omega)];cases clO a y with
   |true=>exact ⟨rfl,fun s' e=>by cases e⟩
   |false=>
    cases knO a y with
    |true=>
     simp only[yak,yaw,ya1,o4 (show i<9223372036854775807 by omega)];exact ⟨trivial,fun s' e=>by cases e;omega⟩
    |false=>
     simp only[yak,yaw,ybn,k8,hy,c6l (show s.length<1000000 by omega),o4 (show i<9223372036854775807 by omega)];exact ⟨trivial,fun s' e=>by cases e;rw[b0s];omega⟩) a (by omega)
 rw[show e7 a9q (a,b,[]++a,0,())=_ from h,a5o];rfl
theorem c6j {a b:List Off} (ha:a.length<1000000) (hb:b.length<1000000):qe a b=some (mg a b):=by
 unfold qe mg;rw[c4l ha,c4l hb];simp only;by_cases h1:rtO a=0
 ·by_cases h2:rtO b=0
  ·have R1:=a6i.1 h1;have R2:=a6i.1 h2;have:=R1.len;rw[h1,h2];simp only[ybl,ya1,yaw,ne_eq,not_true,ybp,ya8];rw[ybg (by show 0+a.length≤1073741824;omega),yak,b7r R1.len R2.len];cases b.any (clO a) with
   |true=>rfl
   |false=>
    simp only[yaw];rw[b5c];cases decide (128<((a.length+(nwO a b).length:Nat):Int))<;>rfl
  ·rw[h1,show (rtO b==0)=false by simpa using h2];simp only[ybl,ya1,ybn,yaw,yak,ne_eq,not_true,ybp];rw[yao h2]
 ·rw[show (rtO a==0)=false by simpa using h1];simp only[ybn,yak,ne_eq];rw[yao h1]
end
section
open Ev
open Go (IntKind Lit)
theorem b0h (a b:Off):cfO a b<0↔ltO a b=true:=by
 rw[a1l];unfold cfO a3r;by_cases h1:a.Day-b.Day=0
 ·rw[yao h1];by_cases h2:a.Device-b.Device=0
  ·rw[yao h2];omega
  ·rw[yah h2];omega
 ·rw[yah h1];omega
theorem b9w:Go.Sort.SWO (Go.Proofs.ltOf (fun a b:a5b=>cfO a.1 b.1)) where
 irrefl x:=by
  unfold Go.Proofs.ltOf;rw[yaB,b0h,a1m];simp
 trans x y z h1 h2:=by
  unfold Go.Proofs.ltOf at *;simp only[yag,b0h,a1l]at *;omega
 ntrans x y z h1 h2:=by
  unfold Go.Proofs.ltOf at *;simp only[yaB,b0h,a1l]at *;omega
theorem b2e {α:Type} [Inhabited α] (cf:α→α→Int) (hw:Go.Sort.SWO (Go.Proofs.ltOf cf)) (L:List α):(a9l cf L).Perm L∧(a9l cf L).Pairwise (fun a b=>¬cf b a<0):=by
 have h:=Go.Sort.pdq_sorts (Go.Proofs.ltOf cf) hw L.toArray 0 L.toArray.size (Go.Lib.bitLen L.toArray.size) true true (yaN _) (yam _) (Or.inl rfl);generalize hd:Go.Sort.pdq (Go.Proofs.ltOf cf) L.toArray 0 L.toArray.size (Go.Lib.bitLen L.toArray.size) true true=d at h;have hd':a9l cf L=d.toList:=by rw[←hd];rfl
 obtain ⟨⟨hs,-,hp⟩,hso⟩:=h;rw[hd'];constructor
 ·have e1:d.extract 0 L.toArray.size=d:=by rw[←hs];simp
  have e2:L.toArray.extract 0 L.toArray.size=L.toArray:=by simp
  rw[e1,e2]at hp;exact hp
 ·rw[yaL];intro i j hi hj hij;have hj':j<L.toArray.size:=by rw[←hs];simpa using hj
  have:=hso i j (yaN _) hij hj';unfold Go.Proofs.ltOf at this;rw[yaB]at this;have hi2:i<d.size:=by simpa using hi
  have hj2:j<d.size:=by simpa using hj
  rw[getElem!_pos d i hi2,getElem!_pos d j hj2]at this;simpa using this
theorem c1p:∀{l:List Off},(∀x∈l,okO x=true)→∃t,b75 l=some t∧t.map (fun x=>x.1)=l:=by
 intro l
 induction l with
 |nil=>intro _;exact ⟨[],rfl,rfl⟩
 |cons x l ih=>
  intro h;obtain ⟨t,h1,h2⟩:=ih (fun y hy=>h y (ybi _ hy));have hx:=h x (yaS ..);refine ⟨⟨x,hx⟩::t,?_,?_⟩
  ·simp only[b75,dif_pos hx,h1]
  ·rw[yaO,h2]
theorem c4h {x:Off} (h:chk x=0):okO x=true:=by
 obtain ⟨a,b,c,d,e,f⟩:=b8d h;unfold okO;simp only[yab,yag];omega
theorem c1m {p:(Unit×Unit)→Off→Off→Option Int} {l:List Off} (hl:l.length<1000000) (ho:∀x∈l,chk x=0) (hk:l.Pairwise (fun a b=>a0a a b=false)) :
 ∃m,qo p l ((),())=some m∧m.Perm l∧m.Pairwise (fun a b=>ltO a b=true):=by
 obtain ⟨t,h1,h2⟩:=c1p (fun x hx=>c4h (ho x hx));obtain ⟨f1,f2⟩:=b2e (fun a b:a5b=>cfO a.1 b.1) b9w t;have hp:((a9l (fun a b:a5b=>cfO a.1 b.1) t).map (fun x=>x.1)).Perm l:=by
  have:=f1.map (fun x=>x.1)
  rwa [h2]at this
 refine ⟨(a9l (fun a b:a5b=>cfO a.1 b.1) t).map (fun x=>x.1),?_,hp,?_⟩
 ·unfold qo;rw[h1,ybg (by show l.length≤1073741824;omega)];rfl
 ·have hk2:((a9l (fun a b:a5b=>cfO a.1 b.1) t).map (fun x=>x.1)).Pairwise (fun a b=>a0a a b=false):=(hp.pairwise_iff (fun {a b} h=>by rw[a7p];exact h)).2 hk;rw[List.pairwise_map]at hk2 ⊢;refine (f2.and hk2).imp ?_;rintro a b ⟨h3,h4⟩;rw[b0h]at h3;cases h5:ltO a.1 b.1 with
  |true=>rfl
  |false=>
   have:=a9h h5 (by simpa using h3);rw[h4]at this;cases this
theorem c6o (x v:Off):qm x v=some (a0a x v):=by
 unfold qm a0a;cases x.Device==v.Device<;>rfl
theorem c4n {γ:Type} {q:γ→Off→Option Bool} {p:Off→Bool} {g:γ} (hq:∀x,q g x=some (p x)) {l:List Off} (hl:l.length<1000000000) :
 qd q l g=some (match l.findIdx? p with|some k=>(k:Int)|none=>-1):=by
 rw[c4m hq hl,b39 (g:=fun i=>(.inr ((i:Int),()):Unit⊕(Int×Unit)))];cases l.findIdx? p with
 |none=>rfl
 |some k=>simp only;rw[yaE]
theorem b5l {a b:List Off} (ha:RtO a) (hb:b.length≤128):e7 a4h (a,b,(b.length:Int),0,a,())=some (bif b.any (clO a) then .inr ([],7,()) else .inl (a++nwO a b,())):=by
 have hal:=ha.len;have hL:LIM=1073741824:=rfl;have h:=a07 (step:=a4h) (fun i s=>s.length≤128+i) (fun i s=>(a,b,(b.length:Int),(i:Int),s,())) b (fun _ y s=>bif clO a y then .inr (.inr ([],7,())) else bif knO a y then .inl s else .inl (s++[y])) (fun s=>.inl (s,())) (by rw[a2c];omega)
  (fun s _=>by simp only[a4h,dge,yaw])
  (fun i y s hy hs=>by
   have hi:=(zL hy)
   simp -zeta only[a4h,dlt hi,yak,k8,hy];rw[c4n (p:=fun x=>a0a x y) (fun x=>c6o x y) (show a.length<1000000000 by omega)];cases hf:a.findIdx? (fun x=>a0a x y) with
   |none=>
    rw[List.findIdx?_eq_none_iff]at hf;have h1:clO a y=false:=by
     unfold clO;rw[yaT];intro x hx;simp[hf x hx]
    have h2:knO a y=false:=by
     unfold knO;rw[yaT];intro x hx;simp[hf x hx]
    simp only[h1,h2,yaw];rw[show decide ((-1:Int)<0)=true from rfl,yak,ybg (by simp only[yba,ya8,hL];omega),yak,o4 (show i<9223372036854775807 by omega)];exact ⟨rfl,fun s' e=>by cases e;simp only[yaX,yba,ya8];omega⟩
   |some k=>
    rw[yaW]at hf;obtain ⟨hk,h1,-⟩:=hf;have h1:a0a a[k] y=true:=h1;have h2:knO a y=true:=by
     unfold knO;rw[List.any_eq_true];exact ⟨_,yaP hk,h1⟩
    have h3:clO a y=!m5 a[k] y:=by
     cases he:m5 a[k] y with
     |false=>
      unfold clO;rw[ybn,List.any_eq_true];exact ⟨_,yaP hk,by rw[h1,he];rfl⟩
     |true=>
      have e:=a3y.1 he;unfold clO;rw[ya1,yaT];intro x hx;cases hq:a0a x y with
      |false=>simp
      |true=>
       have:x=a[k]:=ha.one _ hx _ (yaP hk) (by rw[e];exact hq);rw[this,he];simp
    simp only[h2,h3,yak];rw[show decide ((k:Int)<0)=false by simp,yaw,k8,yaa hk];simp only;cases m5 a[k] y with
    |false=>exact ⟨rfl,fun s' e=>by cases e⟩
    |true=>
     simp only[ya1,yaw,o4 (show i<9223372036854775807 by omega)];exact ⟨trivial,fun s' e=>by cases e;omega⟩) a (by omega)
 rw[show e7 a4h (a,b,(b.length:Int),0,a,())=_ from h,a5o (ins:=fun s y=>s++[y])];have key:∀(m s:List Off),m.foldl (fun s y=>s++[y]) s=s++m:=by
  intro m
  induction m with
  |nil=>intro s;simp
  |cons x m ih=>intro s;rw[List.foldl_cons,ih];simp
 rw[key]
theorem b7q {a b:List Off} (ha:a.length<1000000) (hb:b.length<1000000):e7 a9o (a,b,(([a,b]:List (List Off)).length:Int),0,[a,b],())=some (if rtO a=0 then (if rtO b=0 then .inl (a,b,()) else .inr ([],rtO b,())) else .inr ([],rtO a,())):=by
 have step:∀(k:Nat) (v:List Off),([a,b]:List (List Off))[k]?=some v→v.length<1000000→a9o (a,b,(([a,b]:List (List Off)).length:Int),(k:Int),[a,b],())=if rtO v=0 then some (.inl (a,b,(([a,b]:List (List Off)).length:Int),((k+1:Nat):Int),[a,b],())) else some (.inr (.inr ([],rtO v,()))):=fun k v hv hl=>by
  have hk:=(zL hv)
  have h3:([a,b]:List (List Off)).length=2:=rfl;simp only[a9o,dlt hk,k8,hv,yak,Int.toNat_natCast,c6h hl,o4 (show k<9223372036854775807 by omega)];by_cases h:rtO v=0
  ·rw[yao h,show (rtO v==0)=true by simpa using h];rfl
  ·rw[yah h,show (rtO v==0)=false by simpa using h];rfl
 refine a2b 3 (by rw[a2c];omega) ?_;have s0:a9o (a,b,(([a,b]:List (List Off)).length:Int),0,[a,b],())=if rtO a=0 then some (.inl (a,b,(([a,b]:List (List Off)).length:Int),((0+1:Nat):Int),[a,b],())) else some (.inr (.inr ([],rtO a,()))):=step 0 a rfl ha
 have s1:=step 1 b rfl hb;have s2:a9o (a,b,(([a,b]:List (List Off)).length:Int),((1+1:Nat):Int),[a,b],())=some (.inr (.inl (a,b,()))):=rfl;rw[a0m,s0];by_cases hx:rtO a=0
 ·rw[yao hx,yao hx];simp only;rw[a0m,s1];by_cases hy:rtO b=0
  ·rw[yao hy,yao hy];simp only;rw[a0m,s2]
  ·rw[yah hy,yah hy]
 ·rw[yah hx,yah hx]
theorem c6i {a b:List Off} (ha:a.length<1000000) (hb:b.length<1000000):qc a b=some (mg a b):=by
 unfold qc mg;rw[b7q ha hb];by_cases h1:rtO a=0
 ·by_cases h2:rtO b=0
  ·have R1:=a6i.1 h1;have R2:=a6i.1 h2;have hl:=R1.len;have hcl:qs a=some a:=by
    unfold qs;rw[ya8,ybg (by show 0+a.length≤1073741824;omega)];rfl
   rw[yao h1,yao h2,h1,h2];simp only[ne_eq,not_true,ybp];rw[hcl];simp only;rw[b5l R1 R2.len];cases hc:b.any (clO a) with
   |true=>rfl
   |false=>
    simp only[yaw];rw[yaX];cases hd:decide (128<((a.length+(nwO a b).length:Nat):Int)) with
    |true=>rfl
    |false=>
     simp only[yaw];rw[yaB]at hd;have hmem:∀x,x∈a++nwO a b↔x∈mgO a b:=fun x=>by
      unfold mgO;rw[b4e,yaD];exact Or.comm
     obtain ⟨m,e,hp,hs⟩:=c1m (p:=fun g x0 x1=>qf x0 x1) (l:=a++nwO a b) (by rw[yaX];omega)
      (fun x hx=>by
       rcases yaD.1 hx with q|q
       ·exact R1.ok x q
       ·exact R2.ok x (a9j.1 q).1)
      (by
       rw[List.pairwise_append];exact ⟨R1.key,R2.key.sublist List.filter_sublist,fun x hx y hy=>(a9j.1 hy).2 x hx⟩)
     rw[e];simp only;rw[c3p hs (c04 R1 R2) (fun x=>by rw[hp.mem_iff,hmem])]
  ·rw[yao h1,yah h2,h1];simp only[ne_eq,not_true,ybp];rw[yao h2]
 ·rw[yah h1];simp only[ne_eq];rw[yao h1]
theorem c1a {a:List Off} (ha:a.length<1000000):qi a a=some true:=by
 unfold qi;rw[show (((a.length:Int)==(a.length:Int))=true) by simp];simp only[ya1,yaw];have h:=w9 (step:=b2l) (fun i=>(a,a,(i:Int),())) a (fun _ x=>m5 x x) (.inr (false,())) (.inl ()) (by omega)
  (by simp only[b2l,dge,yaw])
  (fun i x hx=>by
   have hi:=(zL hx)
   simp only[b2l,dlt hi,k8,hx,yak,o4 (show i<9223372036854775807 by omega)];cases m5 x x<;>rfl)
 rw[show e7 b2l (a,a,0,())=_ from h,a1u];have:a.all (fun x=>m5 x x)=true:=by rw[yaf];exact fun x _=>a3y.2 rfl
 rw[this];rfl
theorem c4f {a b:List Off}:(mg a b).1.length≤128:=by
 unfold mg;by_cases h1:rtO a=0
 ·by_cases h2:rtO b=0
  ·rw[h1,h2];simp only[ne_eq,not_true,ybp];cases b.any (clO a) with
   |true=>exact yaN _
   |false=>
    simp only[yaw];cases hd:decide (128<((a.length+(nwO a b).length:Nat):Int)) with
    |true=>exact yaN _
    |false=>
     rw[yaB]at hd;simp only[yaw,b5c];omega
  ·rw[h1];simp only[ne_eq,not_true,ybp];rw[yao h2];exact yaN _
 ·rw[yao h1];exact yaN _
theorem a19 (a b:List Off):qp a b=some true:=by
 unfold qp;have hal:ql=some true:=rfl;cases h1:decide (140<(a.length:Int)) with
 |true=>simp only[yak,hal]
 |false=>
  simp only[yaw];cases h2:decide (140<(b.length:Int)) with
  |true=>simp only[yak,hal]
  |false=>
   rw[yaB]at h1 h2;simp only[yaw];rw[c6i (show a.length<1000000 by omega) (show b.length<1000000 by omega),c6j (show a.length<1000000 by omega) (show b.length<1000000 by omega)];have:=c4f (a:=a) (b:=b);simp only;rw[c1a (by omega)];simp[hal]
end
end Go.Proofs.YtpdenibljogamaaGreatDoor
