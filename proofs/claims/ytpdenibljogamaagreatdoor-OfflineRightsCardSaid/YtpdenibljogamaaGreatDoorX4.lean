/- OfflineRights: a part of the proof of the given statement, which is proved without conditions. -/
import Derived.Test.YtpdenibljogamaaGreatDoorX3
import Derived.Sort.Defs
import Derived.Lib.Small
import Derived.Lib.BitFns
import Derived.Lib.DecodeN
import Derived.Lib.AtoiAll
import Derived.Lib.Repeat
import Derived.Lib.Join
import Derived.Lib.Bytealg
import Derived.Lib.SlicesCompact
import Derived.Shelf.Strings.Builder1
import Derived.Shelf.Strings.OnBuilder
import Derived.Shelf.LaysM
import Derived.Shelf.LaysC
import Derived.Shelf.Strconv.AtoiAll
import Derived.Shelf.Strconv.Itoa3
import Derived.Shelf.Strings.Search1
import Derived.Shelf.Strings.Search2
import Derived.Shelf.Strings.Search3
import Derived.Shelf.Strings.Count
import Derived.Shelf.Strings.Repeat
import Derived.Ground.Names2Prog
import Derived.Ground.NamesProg
import Derived.Test.YtpdenibljogamaaGreatDoorProg
import Derived.Tactics
import Derived.Tactics2
import Derived.WalkKit
import Derived.WalkSpells
import Derived.StillTactics
import Derived.Laws.Pointers
import Derived.Deep.RegionHeld3
import Derived.LoopTactic
import Derived.KernelRfl
import Derived.Lib.AppendIntMem
import Derived.Laws.BitsLemmas
set_option linter.all false
namespace Go.Proofs.YtpdenibljogamaaGreatDoor.Ev
open Go
def blk (c:Nat):Bool:=c==32||c==160
end Go.Proofs.YtpdenibljogamaaGreatDoor.Ev
namespace Go.Proofs.YtpdenibljogamaaGreatDoor
open Ev
open Go (IntKind)
section
set_option maxRecDepth 100000
structure Off where
 Device:Int
 Seq:Int
 Day:Int
 Kind:Int
 Item:Int
 Patron:Int
 Branch:Int
structure Outcome where
 Device:Int
 Seq:Int
 Err:Int
structure Loan where
 Item:Int
 Patron:Int
 Out:Int
 Due:Int
 Renewals:Int
 Recalled:Bool
structure Custody where
 State:Int
 Branch:Int
 Who:Int
 To:Int
structure Item where
 ID:Int
 Record:Int
 Branch:Int
 Kind:Int
 Price:Int
 Call:List UInt8
 Custody:Custody
structure Move where
 Day:Int
 Item:Int
 Kind:Int
 Branch:Int
 Who:Int
structure Patron where
 ID:Int
 Kind:Int
 Branch:Int
 Until:Int
 Stopped:Bool
 Name:List UInt8
structure Hold where
 ID:Int
 Patron:Int
 Record:Int
 Item:Int
 Pickup:Int
 Placed:Int
 State:Int
 Got:Int
 Until:Int
 Asleep:Int
 Rank:Int
structure Charge where
 ID:Int
 Patron:Int
 Item:Int
 Day:Int
 Kind:Int
 Amount:Int
 Paid:Int
structure Rule where
 Patron:Int
 Item:Int
 Branch:Int
 Days:Int
 Renewals:Int
 Fine:Int
 Grace:Int
 MaxFine:Int
 Loans:Int
 Shelf:Int
 Recall:Int
 Fixed:Int
 Rank:Int
inductive Kd where
 |kOff
 |ki64
 |ku8
 |kstr
 |kOutcome
 |kSOff
 |kLoan
 |kItem
 |kMove
 |kPatron
 |kHold
 |kCharge
 |kRule
 |ku64
 |kerr
abbrev El:Kd→Type
 |.kOff=>Off
 |.ki64=>Int
 |.ku8=>Int
 |.kstr=>List UInt8
 |.kOutcome=>Outcome
 |.kSOff=>List Off
 |.kLoan=>Loan
 |.kItem=>Item
 |.kMove=>Move
 |.kPatron=>Patron
 |.kHold=>Hold
 |.kCharge=>Charge
 |.kRule=>Rule
 |.ku64=>Int
 |.kerr=>Bool
abbrev DD:=D Kd El
abbrev Sm (R:Type):=w3 Kd El R
abbrev a6m {α β:Type} (ta:List (Nat×Nat×Kd)) (se ss bs az:List Nat) (fc:FC Kd El α) [FCC fc] (step:α→Option (α⊕β)) (oc:OC Kd El β):LD Kd El α β:=⟨ta,se,ss,bs,az,fc,step,oc⟩
instance:KdEq Kd where
 dec:=fun a b=>match a,b with
  |.kOff,.kOff=>some ⟨rfl⟩
  |.ki64,.ki64=>some ⟨rfl⟩
  |.ku8,.ku8=>some ⟨rfl⟩
  |.kstr,.kstr=>some ⟨rfl⟩
  |.kOutcome,.kOutcome=>some ⟨rfl⟩
  |.kSOff,.kSOff=>some ⟨rfl⟩
  |.kLoan,.kLoan=>some ⟨rfl⟩
  |.kItem,.kItem=>some ⟨rfl⟩
  |.kMove,.kMove=>some ⟨rfl⟩
  |.kPatron,.kPatron=>some ⟨rfl⟩
  |.kHold,.kHold=>some ⟨rfl⟩
  |.kCharge,.kCharge=>some ⟨rfl⟩
  |.kRule,.kRule=>some ⟨rfl⟩
  |.ku64,.ku64=>some ⟨rfl⟩
  |.kerr,.kerr=>some ⟨rfl⟩
  |_,_=>none
abbrev wr (k:IntKind) (n:Int):Int:=IntKind.wrap k n
def c0k (x:Off):List DD:=[.int .i64 x.Device,.int .i64 x.Seq,.int .i64 x.Day,.int .i64 x.Kind,.int .i64 x.Item,.int .i64 x.Patron,.int .i64 x.Branch]
def a04:CC Kd El Off:=(CC.cons (Cod.int .i64) (CC.cons (Cod.int .i64) (CC.cons (Cod.int .i64) (CC.cons (Cod.int .i64) (CC.cons (Cod.int .i64) (CC.cons (Cod.int .i64) (CC.cons (Cod.int .i64) CC.nil))))))).iso c0k (fun p=>⟨p.1,p.2.1,p.2.2.1,p.2.2.2.1,p.2.2.2.2.1,p.2.2.2.2.2.1,p.2.2.2.2.2.2.1⟩)
def a8w (x:Outcome):List DD:=[.int .i64 x.Device,.int .i64 x.Seq,.int .i64 x.Err]
def a2i:CC Kd El Outcome:=(CC.cons (Cod.int .i64) (CC.cons (Cod.int .i64) (CC.cons (Cod.int .i64) CC.nil))).iso a8w (fun p=>⟨p.1,p.2.1,p.2.2.1⟩)
def b6p (x:Loan):List DD:=[.int .i64 x.Item,.int .i64 x.Patron,.int .i64 x.Out,.int .i64 x.Due,.int .i64 x.Renewals,.bool x.Recalled]
def a8o:CC Kd El Loan:=(CC.cons (Cod.int .i64) (CC.cons (Cod.int .i64) (CC.cons (Cod.int .i64) (CC.cons (Cod.int .i64) (CC.cons (Cod.int .i64) (CC.cons Cod.bool CC.nil)))))).iso b6p (fun p=>⟨p.1,p.2.1,p.2.2.1,p.2.2.2.1,p.2.2.2.2.1,p.2.2.2.2.2.1⟩)
def a8v (x:Custody):List DD:=[.int .i64 x.State,.int .i64 x.Branch,.int .i64 x.Who,.int .i64 x.To]
def a5a:CC Kd El Custody:=(CC.cons (Cod.int .i64) (CC.cons (Cod.int .i64) (CC.cons (Cod.int .i64) (CC.cons (Cod.int .i64) CC.nil)))).iso a8v (fun p=>⟨p.1,p.2.1,p.2.2.1,p.2.2.2.1⟩)
def b6o (x:Item):List DD:=[.int .i64 x.ID,.int .i64 x.Record,.int .i64 x.Branch,.int .i64 x.Kind,.int .i64 x.Price,.str x.Call,.int .i64 x.Custody.State,.int .i64 x.Custody.Branch,.int .i64 x.Custody.Who,.int .i64 x.Custody.To]
def a8n:CC Kd El Item:=(CC.cons (Cod.int .i64) (CC.cons (Cod.int .i64) (CC.cons (Cod.int .i64) (CC.cons (Cod.int .i64) (CC.cons (Cod.int .i64) (CC.cons Cod.str (CC.cons (Cod.int .i64) (CC.cons (Cod.int .i64) (CC.cons (Cod.int .i64) (CC.cons (Cod.int .i64) CC.nil)))))))))).iso b6o (fun p=>⟨p.1,p.2.1,p.2.2.1,p.2.2.2.1,p.2.2.2.2.1,p.2.2.2.2.2.1,⟨p.2.2.2.2.2.2.1,p.2.2.2.2.2.2.2.1,p.2.2.2.2.2.2.2.2.1,p.2.2.2.2.2.2.2.2.2.1⟩⟩)
def b6q (x:Move):List DD:=[.int .i64 x.Day,.int .i64 x.Item,.int .i64 x.Kind,.int .i64 x.Branch,.int .i64 x.Who]
def a8p:CC Kd El Move:=(CC.cons (Cod.int .i64) (CC.cons (Cod.int .i64) (CC.cons (Cod.int .i64) (CC.cons (Cod.int .i64) (CC.cons (Cod.int .i64) CC.nil))))).iso b6q (fun p=>⟨p.1,p.2.1,p.2.2.1,p.2.2.2.1,p.2.2.2.2.1⟩)
def b1n (x:Patron):List DD:=[.int .i64 x.ID,.int .i64 x.Kind,.int .i64 x.Branch,.int .i64 x.Until,.bool x.Stopped,.str x.Name]
def a3s:CC Kd El Patron:=(CC.cons (Cod.int .i64) (CC.cons (Cod.int .i64) (CC.cons (Cod.int .i64) (CC.cons (Cod.int .i64) (CC.cons Cod.bool (CC.cons Cod.str CC.nil)))))).iso b1n (fun p=>⟨p.1,p.2.1,p.2.2.1,p.2.2.2.1,p.2.2.2.2.1,p.2.2.2.2.2.1⟩)
def b6n (x:Hold):List DD:=[.int .i64 x.ID,.int .i64 x.Patron,.int .i64 x.Record,.int .i64 x.Item,.int .i64 x.Pickup,.int .i64 x.Placed,.int .i64 x.State,.int .i64 x.Got,.int .i64 x.Until,.int .i64 x.Asleep,.int .i64 x.Rank]
def a8m:CC Kd El Hold:=(CC.cons (Cod.int .i64) (CC.cons (Cod.int .i64) (CC.cons (Cod.int .i64) (CC.cons (Cod.int .i64) (CC.cons (Cod.int .i64) (CC.cons (Cod.int .i64) (CC.cons (Cod.int .i64) (CC.cons (Cod.int .i64) (CC.cons (Cod.int .i64) (CC.cons (Cod.int .i64) (CC.cons (Cod.int .i64) CC.nil))))))))))).iso b6n (fun p=>⟨p.1,p.2.1,p.2.2.1,p.2.2.2.1,p.2.2.2.2.1,p.2.2.2.2.2.1,p.2.2.2.2.2.2.1,p.2.2.2.2.2.2.2.1,p.2.2.2.2.2.2.2.2.1,p.2.2.2.2.2.2.2.2.2.1,p.2.2.2.2.2.2.2.2.2.2.1⟩)
def b1m (x:Charge):List DD:=[.int .i64 x.ID,.int .i64 x.Patron,.int .i64 x.Item,.int .i64 x.Day,.int .i64 x.Kind,.int .i64 x.Amount,.int .i64 x.Paid]
def a3r:CC Kd El Charge:=(CC.cons (Cod.int .i64) (CC.cons (Cod.int .i64) (CC.cons (Cod.int .i64) (CC.cons (Cod.int .i64) (CC.cons (Cod.int .i64) (CC.cons (Cod.int .i64) (CC.cons (Cod.int .i64) CC.nil))))))).iso b1m (fun p=>⟨p.1,p.2.1,p.2.2.1,p.2.2.2.1,p.2.2.2.2.1,p.2.2.2.2.2.1,p.2.2.2.2.2.2.1⟩)
def b6r (x:Rule):List DD:=[.int .i64 x.Patron,.int .i64 x.Item,.int .i64 x.Branch,.int .i64 x.Days,.int .i64 x.Renewals,.int .i64 x.Fine,.int .i64 x.Grace,.int .i64 x.MaxFine,.int .i64 x.Loans,.int .i64 x.Shelf,.int .i64 x.Recall,.int .i64 x.Fixed,.int .i64 x.Rank]
def a8q:CC Kd El Rule:=(CC.cons (Cod.int .i64) (CC.cons (Cod.int .i64) (CC.cons (Cod.int .i64) (CC.cons (Cod.int .i64) (CC.cons (Cod.int .i64) (CC.cons (Cod.int .i64) (CC.cons (Cod.int .i64) (CC.cons (Cod.int .i64) (CC.cons (Cod.int .i64) (CC.cons (Cod.int .i64) (CC.cons (Cod.int .i64) (CC.cons (Cod.int .i64) (CC.cons (Cod.int .i64) CC.nil))))))))))))).iso b6r (fun p=>⟨p.1,p.2.1,p.2.2.1,p.2.2.2.1,p.2.2.2.2.1,p.2.2.2.2.2.1,p.2.2.2.2.2.2.1,p.2.2.2.2.2.2.2.1,p.2.2.2.2.2.2.2.2.1,p.2.2.2.2.2.2.2.2.2.1,p.2.2.2.2.2.2.2.2.2.2.1,p.2.2.2.2.2.2.2.2.2.2.2.1,p.2.2.2.2.2.2.2.2.2.2.2.2.1⟩)
def ccK:(k:Kd)→CC Kd El (El k)
 |.kOff=>a04
 |.ki64=>CC.one (Cod.int .i64)
 |.ku8=>CC.one (Cod.int .u8)
 |.kstr=>CC.one Cod.str
 |.kOutcome=>a2i
 |.kSOff=>CC.one (Cod.lst Kd.kOff)
 |.kLoan=>a8o
 |.kItem=>a8n
 |.kMove=>a8p
 |.kPatron=>a3s
 |.kHold=>a8m
 |.kCharge=>a3r
 |.kRule=>a8q
 |.ku64=>CC.one (Cod.int .u64)
 |.kerr=>CC.one Cod.ifc
def c77:Kd→Nat
 |.kOff=>7
 |.ki64=>1
 |.ku8=>1
 |.kstr=>1
 |.kOutcome=>3
 |.kSOff=>1
 |.kLoan=>6
 |.kItem=>10
 |.kMove=>5
 |.kPatron=>6
 |.kHold=>11
 |.kCharge=>7
 |.kRule=>13
 |.ku64=>1
 |.kerr=>1
def c74 (t:Nat):Option Kd:=bif Nat.beq t 357 then some .ku8 else bif Nat.beq t 356 then some .ku8 else bif Nat.beq t 301 then some .ki64 else bif Nat.beq t 225 then some .ku64 else bif Nat.beq t 166 then some .ku64 else bif Nat.beq t 157 then some .ki64 else bif Nat.beq t 118 then some .ku64 else bif Nat.beq t 105 then some .kRule else bif Nat.beq t 103 then some .kCharge else bif Nat.beq t 101 then some .kHold else bif Nat.beq t 99 then some .kLoan else bif Nat.beq t 97 then some .kPatron else bif Nat.beq t 95 then some .kItem else bif Nat.beq t 70 then some .kerr else bif Nat.beq t 69 then some .kerr else bif Nat.beq t 64 then some .kOutcome else bif Nat.beq t 61 then some .kOff else bif Nat.beq t 57 then some .kMove else bif Nat.beq t 24 then some .ki64 else bif Nat.beq t 22 then some .kSOff else bif Nat.beq t 20 then some .kerr else bif Nat.beq t 12 then some .ku64 else bif Nat.beq t 11 then some .kstr else bif Nat.beq t 10 then some .kstr else bif Nat.beq t 9 then some .kstr else bif Nat.beq t 6 then some .ku8 else bif Nat.beq t 5 then some .ku8 else bif Nat.beq t 3 then some .ki64 else bif Nat.beq t 2 then some .ki64 else none
def d3:List Int:=(List.range 20).map fun i=>((10 ^ i:Nat):Int)
def p9:List Bool:=[false]
def u2:List Bool:=[false]
def a7k (t:Nat):Option ((k:Kd)×List (El k)):=bif Nat.beq t 6 then some ⟨.kerr,u2⟩ else bif Nat.beq t 5 then some ⟨.kerr,p9⟩ else bif Nat.beq t 4 then some ⟨.ku64,d3⟩ else none
def c79 (f:Nat):Md:=bif Nat.beq f 30 then .bld else bif Nat.beq f 27 then .bld else bif Nat.beq f 130 then .mut else bif Nat.beq f 126 then .mut else bif Nat.beq f 125 then .newb else bif Nat.beq f 114 then .inpl else bif Nat.beq f 90 then .mut else bif Nat.beq f 66 then .inpl else bif Nat.beq f 42 then .inpl else bif Nat.beq f 39 then .fresh else bif Nat.beq f 29 then .fresh else .data
def c32 (t:Nat):Bool:=Nat.beq t 93||(Nat.beq t 61||(false))
def c73 (f:Nat):Option Kd:=bif Nat.beq f 114 then some .kOff else bif Nat.beq f 66 then some .kOff else bif Nat.beq f 42 then some .kOff else none
def c6v (n:Nat):Bool:=Nat.beq n 4
def c7v:Option (BlK Kd El):=some ⟨.ku8,blI,blJ,68,5,c0s 27 30⟩
def c6x:Kd→Bool:=fun | .ku8=>true|_=>false
def c7w:Option (ByK Kd El):=some ⟨.ku8,blI,blJ⟩
def sg:Sg Kd El:=⟨fun k=>(ccK k).enc,fun k=>(ccK k).dec,c77,c74,a7k,c79,c32,fun _=>none,c73,c6v,c7v,c6x,c7w⟩
abbrev ZC:=CC Kd El
abbrev ZF:=FC Kd El
abbrev ZD:=Cod Kd El
abbrev Zi:ZD Int:=Cod.int .i64
abbrev Zb:ZD Bool:=Cod.bool
abbrev Zl (k:Kd):ZD (List (El k)):=Cod.lst k
abbrev Zn:ZC Unit:=CC.nil
abbrev Zz:ZF Unit:=FC.nil
section
variable {α β:Type}
abbrev Zc:ZD α→ZC β→ZC (α×β):=CC.cons
abbrev Zs:Nat→ZD α→ZF β→ZF (α×β):=FC.slot
end
end
section
def qt (l:List (List UInt8)) (sep:List UInt8):Option (List UInt8):=bif decide (l.length≤1073741824)&&decide ((Go.Lib.join l sep).length≤1073741824) then some (Go.Lib.join l sep) else none
def qv (s:List UInt8) (n:Int):Option (List UInt8):=bif decide (0≤n)&&(decide (n.toNat≤1073741824)&&decide (s.length*n.toNat≤1073741824)) then some (Go.Lib.repeatL s n.toNat) else none
def qz (s sep:List UInt8):Option Int:=match sep with | [c]=>some ((Go.Lib.countByte s c:Nat):Int)|_=>none
def qac (s sep:List UInt8):Option Int:=match sep with | [c]=>some (Go.Lib.indexByte s c)|_=>none
def qad (s:List UInt8):Option (Int×Bool):=bif decide (s.length≤LIM) then some (match Go.Lib.atoiAll s with | .ok n=>(n,true) | .range=>(Go.Lib.atoiSat s,false)|_=>(0,false)) else none
def qab (s:List UInt8) (c:Int):Option Int:=some (Go.Lib.indexByte s c.toNat.toUInt8)
@[inline] def b0c:Nat→Nat→List UInt8→List UInt8|0,_,a=>a|f+1,u,a=>bif decide (u<10) then UInt8.ofNat (48+u)::a else b0c f (u / 10) (UInt8.ofNat (48+u % 10)::a)
def qd (n:Int):Option (List UInt8):=bif decide (-9223372036854775808≤n)&&decide (n≤9223372036854775807) then some (bif decide (n<0) then 45::b0c 20 n.natAbs [] else b0c 20 n.natAbs []) else none
end
section
set_option maxRecDepth 100000
def qo:Option Bool:=some true
def qq (n:Int) (least:Int) (most:Int):Option Bool:=
 let k (v:Bool):Option Bool:=some v;bif decide (least≤n) then k (decide (n≤most)) else k false
def qh (x:Off):Option Int:=
 match qq x.Device 1 9 with|some r1 =>(let k24 (v:Bool):Option Int:=let k23 (v6:Bool):Option Int:=let k22 (v9:Bool):Option Int:=let k21 (v12:Bool):Option Int:=bif v12 then some 2 else match qq x.Kind 1 3 with|some r14 =>bif !r14 then some 1 else let k20 (v17:Bool):Option Int:=let k (v19:Bool):Option Int:=bif v19 then some 2 else some 0;bif v17 then k true else bif !(x.Kind==1) then k (!(x.Patron==0)) else k false;bif x.Kind==1 then match qq x.Patron 1 9999 with|some r16 =>k20 (!r16)|none =>none else k20 false|none =>none;bif v9 then k21 true else match qq x.Branch 1 4 with|some r11 =>k21 (!r11)|none =>none;bif v6 then k22 true else match qq x.Item 1 9999 with|some r8 =>k22 (!r8)|none =>none;bif v then k23 true else match qq x.Day 0 109572 with|some r5 =>k23 (!r5)|none =>none;bif !r1 then k24 true else match qq x.Seq 1 9999 with|some r3 =>k24 (!r3)|none =>none)|none =>none
def qp (y:Off) (v:Off):Option Bool:=
 let k (v1:Bool):Option Bool:=some v1;bif v.Device==y.Device then k (v.Seq==y.Seq) else k false
def b17 {γ0:Type} (p:γ0→Off→Option Bool):((List Off)×γ0×Int×Int×Unit)→Option (((List Off)×γ0×Int×Int×Unit)⊕((Unit)⊕(Int×Unit))):=fun (s,g,v,v1,_)=>
 bif decide (v1<v) then match a3c s v1 with|some x =>(match p g x with|some r =>bif r then some (.inr (.inr (v1,()))) else some (.inl (s,g,v,wr .i64 (v1+1),()))|none =>none)|none =>none else some (.inr (.inl (())))
def qj {γ0:Type} (p:γ0→Off→Option Bool) (s:List Off) (g:γ0):Option Int:=
 match f7 (b17 p) (s,g,(s.length:Int),0,()) with|some (.inl (_)) =>some (-1)|some (.inr (v,_)) =>some v|none =>none
def qaa {γ0:Type} (p:γ0→Off→Option Bool) (s:List Off) (g:γ0):Option Bool:=
 match qj p s g with|some r1 =>some (decide (0≤r1))|none =>none
def a9g:(Int×Int×(List Int)×Unit)→Option ((Int×Int×(List Int)×Unit)⊕((Unit)⊕(Int×Unit))):=fun (v,v1,l,_)=>
 bif decide (v1<v) then match a3c l v1 with|some _ =>(match l[v1.toNat]? with|some x =>bif !(x==0) then some (.inr (.inr (x,()))) else some (.inl (v,wr .i64 (v1+1),l,()))|none =>none)|none =>none else some (.inr (.inl (())))
def qf (a:Off) (b:Off):Option Int:=
 match f7 a9g ((([wr .i64 (a.Day-b.Day),wr .i64 (a.Device-b.Device),wr .i64 (a.Seq-b.Seq)]).length:Int),0,[wr .i64 (a.Day-b.Day),wr .i64 (a.Device-b.Device),wr .i64 (a.Seq-b.Seq)],()) with|some (.inl (_)) =>some 0|some (.inr (v,_)) =>some v|none =>none
def b5b {γ0:Type} (p:γ0→Off→Off→Option Int):((List Off)×γ0×Int×Unit)→Option (((List Off)×γ0×Int×Unit)⊕((Unit)⊕(Bool×Unit))):=fun (x,g,i,_)=>
 bif decide (0<i) then match a3c x i with|some x1 =>(match a3c x (wr .i64 (i-1)) with|some x2 =>(match p g x1 x2 with|some r =>bif decide (r<0) then some (.inr (.inr (false,()))) else some (.inl (x,g,wr .i64 (i-1),()))|none =>none)|none =>none)|none =>none else some (.inr (.inl (())))
def qi {γ0:Type} (p:γ0→Off→Off→Option Int) (x:List Off) (g:γ0):Option Bool:=
 match f7 (b5b p) (x,g,wr .i64 ((x.length:Int)-1),()) with|some (.inl (_)) =>some true|some (.inr (v,_)) =>some v|none =>none
def b13:((List Off)×(List Off)×Int×Int×Unit)→Option (((List Off)×(List Off)×Int×Int×Unit)⊕(((List Off)×Unit)⊕(Int×Unit))):=fun (l,v,v1,v2,_)=>
 bif decide (v2<v1) then match a3c v v2 with|some x =>(match qh x with|some r3 =>bif !(r3==0) then some (.inr (.inr (r3,()))) else some (.inl (l,v,v1,wr .i64 (v2+1),()))|none =>none)|none =>none else some (.inr (.inl (l,())))
def a5n:((List Off)×(List Off)×Int×Int×Unit)→Option (((List Off)×(List Off)×Int×Int×Unit)⊕(((List Off)×Unit)⊕(Int×Unit))):=fun (l,v,v5,v6,_)=>
 bif decide (v6<v5) then match a3c v v6 with|some x =>bif decide (0≤(0:Int))&&(decide ((0:Int)≤v6)&&decide (v6≤(l.length:Int))) then match qaa (fun g x0=>qp x0 g.2.1) ((l.take v6.toNat).drop (0:Int).toNat) ((),(x,())) with|some r7 =>bif r7 then some (.inr (.inr (7,()))) else some (.inl (l,v,v5,wr .i64 (v6+1),()))|none =>none else none|none =>none else some (.inr (.inl (l,())))
def qa (l:List Off):Option Int:=
 bif decide (128<(l.length:Int)) then some 13 else match f7 b13 (l,l,(l.length:Int),0,()) with|some (.inl (l4,_)) =>(match f7 a5n (l4,l4,(l4.length:Int),0,()) with|some (.inl (l8,_)) =>(match qi (fun g x0 x1=>qf x0 x1) l8 ((),()) with|some r9 =>bif !r9 then some 3 else some 0|none =>none)|some (.inr (v,_)) =>some v|none =>none)|some (.inr (v10,_)) =>some v10|none =>none
def qag (day:Int):Option Bool:=
 let k (v:Bool):Option Bool:=some v;bif decide (0≤day) then k (decide (day≤109572)) else k false
def qx (y:Int):Option Bool:=
 let k (v1:Bool):Option Bool:=some v1;bif (y.tmod 4)==0 then bif !((y.tmod 100)==0) then k true else k ((y.tmod 400)==0) else k false
def b5c:(Int×Int×Int×Unit)→Option ((Int×Int×Int×Unit)⊕((Int×Unit))):=fun (y,day,k,_)=>
 bif decide (k<y) then match qx k with|some r1 =>let k3 (day2:Int):Option ((Int×Int×Int×Unit)⊕((Int×Unit))):=some (.inl (y,day2,wr .i64 (k+1),()));bif r1 then k3 (wr .i64 (day+1)) else k3 day|none =>none else some (.inr ((day,())))
def ql (y:Int):Option Int:=
 match f7 b5c (y,wr .i64 ((wr .i64 (y-1900))*365),1900,()) with|some ((day,_)) =>some day|none =>none
def qr (y:Int) (m:Int):Option Int:=
 let k4 (v:Int):Option Int:=let k3 (v2:Bool):Option Int:=let k (n:Int):Option Int:=some n;bif v2 then k (wr .i64 (v+1)) else k v;bif decide (2<m) then match qx y with|some r1 =>k3 r1|none =>none else k3 false;bif (wr .i64 (m-1))==0 then k4 0 else bif (wr .i64 (m-1))==1 then k4 31 else bif (wr .i64 (m-1))==2 then k4 59 else bif (wr .i64 (m-1))==3 then k4 90 else bif (wr .i64 (m-1))==4 then k4 120 else bif (wr .i64 (m-1))==5 then k4 151 else bif (wr .i64 (m-1))==6 then k4 181 else bif (wr .i64 (m-1))==7 then k4 212 else bif (wr .i64 (m-1))==8 then k4 243 else bif (wr .i64 (m-1))==9 then k4 273 else bif (wr .i64 (m-1))==10 then k4 304 else bif (wr .i64 (m-1))==11 then k4 334 else none
def b7l:(Int×Int×Unit)→Option ((Int×Int×Unit)⊕((Int×Int×Unit))):=fun (day,y,_)=>
 let k (v:Bool):Option ((Int×Int×Unit)⊕((Int×Int×Unit))):=bif v then some (.inl (day,wr .i64 (y+1),())) else some (.inr ((day,y,())));bif decide (y<2199) then match ql (wr .i64 (y+1)) with|some r2 =>k (decide (r2≤day))|none =>none else k false
def b7m:(Int×Int×Int×Unit)→Option ((Int×Int×Int×Unit)⊕((Int×Int×Int×Unit))):=fun (y,rest,m,_)=>
 match qr y m with|some r6 =>bif decide (rest<r6) then some (.inl (y,rest,wr .i64 (m-1),())) else some (.inr ((y,rest,m,())))|none =>none
def qc (day:Int):Option (Int×Int×Int×Int):=
 match qag day with|some r1 =>(bif !r1 then some (0,0,0,2) else match f7 b7l (day,wr .i64 (1900+(wr .i64 (day.tdiv 366))),()) with|some ((day3,y,_)) =>(match ql y with|some r5 =>(match f7 b7m (y,wr .i64 (day3-r5),12,()) with|some ((y7,rest,m,_)) =>(match qr y7 m with|some r9 =>some (y7,m,wr .i64 ((wr .i64 (rest-r9))+1),0)|none =>none)|none =>none)|none =>none)|none =>none)|none =>none
def q8 (n:Int) (width:Int):Option (List UInt8):=
 match qd n with|some r1 =>(match qv ([48]) (wr .i64 (width-(r1.length:Int))) with|some r3 =>bif decide (r3.length+r1.length≤LIM) then some (r3++r1) else none|none =>none)|none =>none
def qaj (day:Int):Option (List UInt8):=
 match qc day with|some (r1,r2,r3,r4) =>(bif !(r4==0) then some ([]) else match q8 r1 4 with|some r6 =>bif decide (r6.length+([45]).length≤LIM) then match q8 r2 2 with|some r8 =>bif decide ((r6++([45])).length+r8.length≤LIM) then bif decide (((r6++([45]))++r8).length+([45]).length≤LIM) then match q8 r3 2 with|some r10 =>bif decide ((((r6++([45]))++r8)++([45])).length+r10.length≤LIM) then some ((((r6++([45]))++r8)++([45]))++r10) else none|none =>none else none else none|none =>none else none|none =>none)|none =>none
def qw (x:Off):Option (List (List UInt8)):=
 match qd x.Device with|some r1 =>(match qd x.Seq with|some r3 =>(match qaj x.Day with|some r5 =>(match qd x.Item with|some r7 =>(match qd x.Branch with|some r9 =>let k (l:List (List UInt8)):Option (List (List UInt8)):=some l;bif x.Kind==1 then match qd x.Patron with|some r11 =>bif decide (([r1,r3,r5]:List (List UInt8)).length+([[108,111,97,110],r7,r11,r9]:List (List UInt8)).length≤LIM) then k (([r1,r3,r5])++([[108,111,97,110],r7,r11,r9]:List (List UInt8))) else none|none =>none else bif x.Kind==2 then bif decide (([r1,r3,r5]:List (List UInt8)).length+([[98,97,99,107],r7,r9]:List (List UInt8)).length≤LIM) then k (([r1,r3,r5])++([[98,97,99,107],r7,r9]:List (List UInt8))) else none else bif decide (([r1,r3,r5]:List (List UInt8)).length+([[114,101,110,101,119],r7,r9]:List (List UInt8)).length≤LIM) then some (([r1,r3,r5])++([[114,101,110,101,119],r7,r9]:List (List UInt8))) else none|none =>none)|none =>none)|none =>none)|none =>none)|none =>none
def b18:((List Off)×Int×Int×(List Int)×Unit)→Option (((List Off)×Int×Int×(List Int)×Unit)⊕(((List Int)×Unit))):=fun (v,v2,v3,l,_)=>
 bif decide (v3<v2) then match a3c v v3 with|some x =>(match qw x with|some l4 =>(match qt l4 ([32]) with|some r6 =>bif decide (r6.length+([10]).length≤LIM) then bif decide (l.length+(r6++([10])).length≤LIM) then some (.inl (v,v2,wr .i64 (v3+1),l++blI (r6++([10])),())) else none else none|none =>none)|none =>none)|none =>none else some (.inr ((l,())))
def qk (l:List Off):Option ((List UInt8)×Int):=
 match qa l with|some r1 =>(bif !(r1==0) then some ([],r1) else match f7 b18 (l,(l.length:Int),0,([]:List Int),()) with|some ((l7,_)) =>some (blJ l7,0)|none =>none)|none =>none
def qae (x:Off):Option Int:=
 let k24 (v:Bool):Option Int:=let k23 (v1:Bool):Option Int:=let k22 (v2:Bool):Option Int:=let k21 (v3:Bool):Option Int:=let k20 (v4:Bool):Option Int:=let k19 (v5:Bool):Option Int:=let k18 (v6:Bool):Option Int:=let k17 (v7:Bool):Option Int:=let k16 (v8:Bool):Option Int:=bif v8 then some 2 else let k15 (v9:Bool):Option Int:=bif v9 then some 1 else let k14 (v11:Bool):Option Int:=let k (v13:Bool):Option Int:=bif v13 then some 2 else some 0;bif v11 then k true else bif !(x.Kind==1) then k (!(x.Patron==0)) else k false;bif x.Kind==1 then bif decide (x.Patron<1) then k14 true else k14 (decide (9999<x.Patron)) else k14 false;bif decide (x.Kind<1) then k15 true else k15 (decide (3<x.Kind));bif v7 then k16 true else k16 (decide (4<x.Branch));bif v6 then k17 true else k17 (decide (x.Branch<1));bif v5 then k18 true else k18 (decide (9999<x.Item));bif v4 then k19 true else k19 (decide (x.Item<1));bif v3 then k20 true else k20 (decide (109572<x.Day));bif v2 then k21 true else k21 (decide (x.Day<0));bif v1 then k22 true else k22 (decide (9999<x.Seq));bif v then k23 true else k23 (decide (x.Seq<1));bif decide (x.Device<1) then k24 true else k24 (decide (9<x.Device))
def qaf (a:Off) (b:Off):Option Bool:=
 bif !(a.Day==b.Day) then some (decide (a.Day<b.Day)) else bif !(a.Device==b.Device) then some (decide (a.Device<b.Device)) else some (decide (a.Seq<b.Seq))
def b15:((List Off)×Int×Unit)→Option (((List Off)×Int×Unit)⊕(((List Off)×Unit)⊕(Int×Unit))):=fun (l,i,_)=>
 bif decide (i<(l.length:Int)) then match a3c l i with|some x =>(match qae x with|some r1 =>bif !(r1==0) then some (.inr (.inr (r1,()))) else some (.inl (l,wr .i64 (i+1),()))|none =>none)|none =>none else some (.inr (.inl (l,())))
def a4i:((List Off)×Int×Int×Unit)→Option (((List Off)×Int×Int×Unit)⊕(((List Off)×Int×Unit)⊕(Int×Unit))):=fun (l,i,k,_)=>
 bif decide (k<i) then match a3c l i with|some x =>(match a3c l k with|some x3 =>let k6 (v:Bool):Option (((List Off)×Int×Int×Unit)⊕(((List Off)×Int×Unit)⊕(Int×Unit))):=bif v then some (.inr (.inr (7,()))) else some (.inl (l,i,wr .i64 (k+1),()));bif x.Device==x3.Device then match a3c l i with|some x4 =>(match a3c l k with|some x5 =>k6 (x4.Seq==x5.Seq)|none =>none)|none =>none else k6 false|none =>none)|none =>none else some (.inr (.inl (l,i,())))
def a5o:((List Off)×Int×Unit)→Option (((List Off)×Int×Unit)⊕(((List Off)×Unit)⊕(Int×Unit))):=fun (l,i,_)=>
 bif decide (i<(l.length:Int)) then match f7 a4i (l,i,0,()) with|some (.inl (l7,i8,_)) =>some (.inl (l7,wr .i64 (i8+1),()))|some (.inr (v,_)) =>some (.inr (.inr (v,())))|none =>none else some (.inr (.inl (l,())))
def a2y:((List Off)×Int×Unit)→Option (((List Off)×Int×Unit)⊕((Unit)⊕(Int×Unit))):=fun (l,i,_)=>
 bif decide (i<(l.length:Int)) then match a3c l (wr .i64 (i-1)) with|some x =>(match a3c l i with|some x10 =>(match qaf x x10 with|some r11 =>bif !r11 then some (.inr (.inr (3,()))) else some (.inl (l,wr .i64 (i+1),()))|none =>none)|none =>none)|none =>none else some (.inr (.inl (())))
def qb (l:List Off):Option Int:=
 bif decide (128<(l.length:Int)) then some 13 else match f7 b15 (l,0,()) with|some (.inl (l2,_)) =>(match f7 a5o (l2,0,()) with|some (.inl (l9,_)) =>(match f7 a2y (l9,1,()) with|some (.inl (_)) =>some 0|some (.inr (v,_)) =>some v|none =>none)|some (.inr (v12,_)) =>some v12|none =>none)|some (.inr (v13,_)) =>some v13|none =>none
def b16:(Int×(List UInt8)×Unit)→Option ((Int×(List UInt8)×Unit)⊕((Int×(List UInt8)×Unit))):=fun (n,s,_)=>
 bif decide (10≤n) then bif decide ((blJ ([wr .u8 (wr .i64 (48+(n.tmod 10)))])).length+s.length≤LIM) then some (.inl (wr .i64 (n.tdiv 10),(blJ ([wr .u8 (wr .i64 (48+(n.tmod 10)))]))++s,())) else none else some (.inr ((n,s,())))
def qg (n:Int):Option (List UInt8):=
 match f7 b16 (n,[],()) with|some ((n1,s,_)) =>bif decide ((blJ ([wr .u8 (wr .i64 (48+n1))])).length+s.length≤LIM) then some ((blJ ([wr .u8 (wr .i64 (48+n1))]))++s) else none|none =>none
def qai (day:Int):Option Bool:=
 let k (v:Bool):Option Bool:=some v;bif decide (0≤day) then k (decide (day≤109572)) else k false
def qu (y:Int) (m:Int):Option Int:=
 let k10 (v:Bool):Option Int:=let k9 (v1:Bool):Option Int:=let k8 (v2:Bool):Option Int:=bif v2 then some 0 else let k7 (v3:Bool):Option Int:=let k6 (v4:Bool):Option Int:=let k (v5:Bool):Option Int:=bif v5 then some 29 else match a3c ([31,28,31,30,31,30,31,31,30,31,30,31]:List Int) (wr .i64 (m-1)) with|some _ =>(match ([31,28,31,30,31,30,31,31,30,31,30,31])[(wr .i64 (m-1)).toNat]? with|some x =>some x|none =>none)|none =>none;bif v4 then k (!(y==2100)) else k false;bif v3 then k6 (!(y==1900)) else k6 false;bif m==2 then k7 ((y.tmod 4)==0) else k7 false;bif v1 then k8 true else k8 (decide (12<m));bif v then k9 true else k9 (decide (m<1));bif decide (y<1900) then k10 true else k10 (decide (2199<y))
def q9 (y:Int):Option Int:=
 match qu y 2 with|some r1 =>bif r1==29 then some 366 else some 365|none =>none
def b7n:(Int×Int×Int×Unit)→Option ((Int×Int×Int×Unit)⊕((Int×Int×Int×Unit))):=fun (day,y,m,_)=>
 match q9 y with|some r2 =>bif decide (r2≤day) then match q9 y with|some r4 =>some (.inl (wr .i64 (day-r4),wr .i64 (y+1),m,()))|none =>none else some (.inr ((day,y,m,())))|none =>none
def b7o:(Int×Int×Int×Unit)→Option ((Int×Int×Int×Unit)⊕((Int×Int×Int×Unit))):=fun (day,y,m,_)=>
 match qu y m with|some r6 =>bif decide (r6≤day) then match qu y m with|some r8 =>some (.inl (wr .i64 (day-r8),y,wr .i64 (m+1),()))|none =>none else some (.inr ((day,y,m,())))|none =>none
def qe (day:Int):Option (Int×Int×Int×Int):=
 match qai day with|some r1 =>(bif !r1 then some (0,0,0,2) else match f7 b7n (day,1900,1,()) with|some ((day5,y,m,_)) =>(match f7 b7o (day5,y,m,()) with|some ((day9,y10,m11,_)) =>some (y10,m11,wr .i64 (day9+1),0)|none =>none)|none =>none)|none =>none
def c44:(Int×Int×(List Int)×Int×Unit)→Option ((Int×Int×(List Int)×Int×Unit)⊕(((List Int)×Unit))):=fun (n,size,b,i,_)=>
 bif decide (i<size) then bif decide (([wr .u8 (wr .i64 (48+(n.tmod 10)))]:List Int).length+b.length≤LIM) then some (.inl (wr .i64 (n.tdiv 10),size,([wr .u8 (wr .i64 (48+(n.tmod 10)))])++b,wr .i64 (i+1),())) else none else some (.inr ((b,())))
def qm (n:Int) (size:Int):Option (List UInt8):=
 match f7 c44 (n,size,[],0,()) with|some ((b,_)) =>some (blJ b)|none =>none
def qak (day:Int):Option (List UInt8):=
 match qe day with|some (r1,r2,r3,r4) =>(bif !(r4==0) then some ([]) else match qm r1 4 with|some r6 =>bif decide (r6.length+([45]).length≤LIM) then match qm r2 2 with|some r8 =>bif decide ((r6++([45])).length+r8.length≤LIM) then bif decide (((r6++([45]))++r8).length+([45]).length≤LIM) then match qm r3 2 with|some r10 =>bif decide ((((r6++([45]))++r8)++([45])).length+r10.length≤LIM) then some ((((r6++([45]))++r8)++([45]))++r10) else none|none =>none else none else none|none =>none else none|none =>none)|none =>none
def qah (x:Off):Option (List UInt8):=
 match qg x.Device with|some r1 =>bif decide (r1.length+([32]).length≤LIM) then match qg x.Seq with|some r3 =>bif decide ((r1++([32])).length+r3.length≤LIM) then bif decide (((r1++([32]))++r3).length+([32]).length≤LIM) then match qak x.Day with|some r5 =>bif decide ((((r1++([32]))++r3)++([32])).length+r5.length≤LIM) then let k (s14:List UInt8):Option (List UInt8):=bif decide (s14.length+([32]).length≤LIM) then match qg x.Branch with|some r16 =>bif decide ((s14++([32])).length+r16.length≤LIM) then bif decide (((s14++([32]))++r16).length+([10]).length≤LIM) then some (((s14++([32]))++r16)++([10])) else none else none|none =>none else none;bif x.Kind==1 then bif decide (((((r1++([32]))++r3)++([32]))++r5).length+([32,108,111,97,110,32]).length≤LIM) then match qg x.Item with|some r7 =>bif decide ((((((r1++([32]))++r3)++([32]))++r5)++([32,108,111,97,110,32])).length+r7.length≤LIM) then bif decide (((((((r1++([32]))++r3)++([32]))++r5)++([32,108,111,97,110,32]))++r7).length+([32]).length≤LIM) then match qg x.Patron with|some r9 =>bif decide ((((((((r1++([32]))++r3)++([32]))++r5)++([32,108,111,97,110,32]))++r7)++([32])).length+r9.length≤LIM) then k ((((((((r1++([32]))++r3)++([32]))++r5)++([32,108,111,97,110,32]))++r7)++([32]))++r9) else none|none =>none else none else none|none =>none else none else bif x.Kind==2 then bif decide (((((r1++([32]))++r3)++([32]))++r5).length+([32,98,97,99,107,32]).length≤LIM) then match qg x.Item with|some r11 =>bif decide ((((((r1++([32]))++r3)++([32]))++r5)++([32,98,97,99,107,32])).length+r11.length≤LIM) then k ((((((r1++([32]))++r3)++([32]))++r5)++([32,98,97,99,107,32]))++r11) else none|none =>none else none else bif decide (((((r1++([32]))++r3)++([32]))++r5).length+([32,114,101,110,101,119,32]).length≤LIM) then match qg x.Item with|some r13 =>bif decide ((((((r1++([32]))++r3)++([32]))++r5)++([32,114,101,110,101,119,32])).length+r13.length≤LIM) then k ((((((r1++([32]))++r3)++([32]))++r5)++([32,114,101,110,101,119,32]))++r13) else none|none =>none else none else none|none =>none else none else none|none =>none else none|none =>none
def b19:((List Off)×(List UInt8)×Int×Unit)→Option (((List Off)×(List UInt8)×Int×Unit)⊕(((List UInt8)×Unit))):=fun (l,s,i,_)=>
 bif decide (i<(l.length:Int)) then match a3c l i with|some x =>(match qah x with|some r2 =>bif decide (s.length+r2.length≤LIM) then some (.inl (l,s++r2,wr .i64 (i+1),())) else none|none =>none)|none =>none else some (.inr ((s,())))
def qn (l:List Off):Option ((List UInt8)×Int):=
 match qb l with|some r1 =>(bif !(r1==0) then some ([],r1) else match f7 b19 (l,[],0,()) with|some ((s,_)) =>some (s,0)|none =>none)|none =>none
def qs (l:List Off):Option Bool:=
 bif decide (140<(l.length:Int)) then match qo with|some r1 =>some r1|none =>none else match qk l with|some (r3,r4) =>(match qn l with|some (r6,r7) =>(match qa l with|some r9 =>(match qb l with|some r11 =>let k17 (v:Bool):Option Bool:=let k16 (v12:Bool):Option Bool:=let k (v15:Bool):Option Bool:=some v15;bif v12 then match qo with|some r14 =>k r14|none =>none else k false;bif v then k16 (r4==r7) else k16 false;bif r9==r11 then k17 (r3==r6) else k17 false|none =>none)|none =>none)|none =>none)|none =>none
def qy (s:List Off):Option (List Off):=
 bif decide (([]:List Off).length+s.length≤LIM) then some (([])++s) else none
end
section
set_option maxRecDepth 100000
open Go
theorem a96:e7 a04:=e7.iso (e7.cons (d6.int _) (e7.cons (d6.int _) (e7.cons (d6.int _) (e7.cons (d6.int _) (e7.cons (d6.int _) (e7.cons (d6.int _) (e7.cons (d6.int _) e7.nil))))))) (fun _=>rfl)
theorem a2x:e7 a2i:=e7.iso (e7.cons (d6.int _) (e7.cons (d6.int _) (e7.cons (d6.int _) e7.nil))) (fun _=>rfl)
theorem a68:e7 a8o:=e7.iso (e7.cons (d6.int _) (e7.cons (d6.int _) (e7.cons (d6.int _) (e7.cons (d6.int _) (e7.cons (d6.int _) (e7.cons d6.bool e7.nil)))))) (fun _=>rfl)
theorem a65:e7 a5a:=e7.iso (e7.cons (d6.int _) (e7.cons (d6.int _) (e7.cons (d6.int _) (e7.cons (d6.int _) e7.nil)))) (fun _=>rfl)
theorem a67:e7 a8n:=e7.iso (e7.cons (d6.int _) (e7.cons (d6.int _) (e7.cons (d6.int _) (e7.cons (d6.int _) (e7.cons (d6.int _) (e7.cons d6.str (e7.cons (d6.int _) (e7.cons (d6.int _) (e7.cons (d6.int _) (e7.cons (d6.int _) e7.nil)))))))))) (fun _=>rfl)
theorem a69:e7 a8p:=e7.iso (e7.cons (d6.int _) (e7.cons (d6.int _) (e7.cons (d6.int _) (e7.cons (d6.int _) (e7.cons (d6.int _) e7.nil))))) (fun _=>rfl)
theorem a3u:e7 a3s:=e7.iso (e7.cons (d6.int _) (e7.cons (d6.int _) (e7.cons (d6.int _) (e7.cons (d6.int _) (e7.cons d6.bool (e7.cons d6.str e7.nil)))))) (fun _=>rfl)
theorem a66:e7 a8m:=e7.iso (e7.cons (d6.int _) (e7.cons (d6.int _) (e7.cons (d6.int _) (e7.cons (d6.int _) (e7.cons (d6.int _) (e7.cons (d6.int _) (e7.cons (d6.int _) (e7.cons (d6.int _) (e7.cons (d6.int _) (e7.cons (d6.int _) (e7.cons (d6.int _) e7.nil))))))))))) (fun _=>rfl)
theorem a3t:e7 a3r:=e7.iso (e7.cons (d6.int _) (e7.cons (d6.int _) (e7.cons (d6.int _) (e7.cons (d6.int _) (e7.cons (d6.int _) (e7.cons (d6.int _) (e7.cons (d6.int _) e7.nil))))))) (fun _=>rfl)
theorem a7a:e7 a8q:=e7.iso (e7.cons (d6.int _) (e7.cons (d6.int _) (e7.cons (d6.int _) (e7.cons (d6.int _) (e7.cons (d6.int _) (e7.cons (d6.int _) (e7.cons (d6.int _) (e7.cons (d6.int _) (e7.cons (d6.int _) (e7.cons (d6.int _) (e7.cons (d6.int _) (e7.cons (d6.int _) (e7.cons (d6.int _) e7.nil))))))))))))) (fun _=>rfl)
instance:CCC a04:=⟨a96⟩
instance:CCC a2i:=⟨a2x⟩
instance:CCC a8o:=⟨a68⟩
instance:CCC a5a:=⟨a65⟩
instance:CCC a8n:=⟨a67⟩
instance:CCC a8p:=⟨a69⟩
instance:CCC a3s:=⟨a3u⟩
instance:CCC a8m:=⟨a66⟩
instance:CCC a3r:=⟨a3t⟩
instance:CCC a8q:=⟨a7a⟩
end
section
set_option maxRecDepth 100000
abbrev x0a:=Zl .kOff
abbrev x0b:=OC.r [2] [] [] (Zs 2 Zi Zz)
abbrev x0c:=Zs 0 Zi (Zs 6 Zi (Zs 7 Zi Zz))
abbrev x0d:=OC.xs 0 [] [] [] Zz (.r [4] [] [] (Zs 4 Zi Zz))
abbrev c2u:ZC (Unit):=Zn
abbrev a2q:ZD (Bool):=Zb
def c4b (a:Unit):Option (Bool):=qo
abbrev c6j:ZC (Int×Int×Int×Unit):=Zc Zi (Zc Zi (Zc Zi Zn))
abbrev c5s {R:Type}:Sm R:=u7 c6j a2q (fun a=>qq a.1 a.2.1 a.2.2.1)
abbrev b55:ZC (Off×Unit):=Zc (Cod.agg a04) Zn
abbrev a2p:ZD (Int):=Zi
abbrev b80 {R:Type}:Sm R:=u7 b55 a2p (fun a=>qh a.1)
abbrev c6i:ZC (Off×Off×Unit):=Zc (Cod.agg a04) (Zc (Cod.cptr a04) Zn)
abbrev b83 {R:Type}:Sm R:=u7 c6i a2q (fun a=>qp a.1 a.2.1)
abbrev c2t:ZC ((List Off)×((Unit)×(Off×Unit))×Unit):=Zc x0a (Zc (Cod.fnc 34 (Zn) (Zc (Cod.cptr a04) Zn)) Zn)
abbrev c5o {R:Type}:Sm R:=u7 c2t a2p (fun a=>qj (fun g x0=>qp x0 g.2.1) a.1 a.2.1)
def b9x {R:Type}:Nat→Sm R:=cl 34 b83 c0
abbrev b4j:=a6m [] [] [0,1,7,8] [] [] (Zs 0 x0a (Zs 1 (Cod.fnc 34 (Zn) (Zc (Cod.cptr a04) Zn)) (Zs 7 Zi (Zs 8 Zi Zz)))) (b17 (fun g x0=>qp x0 g.2.1)) x0d
def b0w {R:Type}:Lp Kd El R:=lp 2 b4j.sem l0
abbrev b5h {R:Type}:Sm R:=u7 c2t a2q (fun a=>qaa (fun g x0=>qp x0 g.2.1) a.1 a.2.1)
abbrev c2s:ZC (Off×Off×Unit):=Zc (Cod.agg a04) (Zc (Cod.agg a04) Zn)
abbrev b8z {R:Type}:Sm R:=u7 c2s a2p (fun a=>qf a.1 a.2.1)
def b9u {R:Type}:Nat→Sm R:=c0
abbrev b4g:=a6m [] [] [22,23,24] [] [22] (FC.arr 22 22 (Zs 23 Zi (Zs 24 Zi (FC.own 22 Kd.ki64 false Zz)))) a9g x0d
def b0t {R:Type}:Lp Kd El R:=lp 2 b4g.sem l0
abbrev c6h:ZC ((List Off)×((Unit)×(Unit))×Unit):=Zc x0a (Zc (Cod.fnc 36 (Zn) (Zn)) Zn)
abbrev b81 {R:Type}:Sm R:=u7 c6h a2q (fun a=>qi (fun g x0 x1=>qf x0 x1) a.1 a.2.1)
def b9w {R:Type}:Nat→Sm R:=cl 36 b8z c0
abbrev b4i:=a6m [] [] [0,1,5] [] [] (Zs 0 x0a (Zs 1 (Cod.fnc 36 (Zn) (Zn)) (Zs 5 Zi Zz))) (b5b (fun g x0 x1=>qf x0 x1)) (.xs 0 [] [] [] Zz (.r [4] [] [] (Zs 4 Zb Zz)))
def b0v {R:Type}:Lp Kd El R:=lp 2 b4i.sem l0
abbrev b08:ZC ((List Off)×Unit):=Zc x0a Zn
abbrev b8x {R:Type}:Sm R:=u7 b08 a2p (fun a=>qa a.1)
def b9q {R:Type}:Nat→Sm R:=cl 32 b80 (cl 33 b5h (cl 35 b81 c0))
abbrev b4a:=a6m [] [] [0,11,12,13] [] [] (Zs 0 x0a (Zs 11 x0a (Zs 12 Zi (Zs 13 Zi Zz)))) b13 (.xs 0 [0] [] [] (Zs 0 x0a Zz) x0b)
abbrev b0l:=a6m [] [] [0,23,24,25] [] [] (Zs 0 x0a (Zs 23 x0a (Zs 24 Zi (Zs 25 Zi Zz)))) a5n (.xs 2 [0] [] [] (Zs 0 x0a Zz) x0b)
def a6b {R:Type}:Lp Kd El R:=lp 11 b0l.sem (lp 4 b4a.sem l0)
abbrev a2h:ZC (Int×Unit):=Zc Zi Zn
abbrev a44:ZD ((List UInt8)):=Cod.str
def c4a (a:Int×Unit):Option ((List UInt8)):=qd a.1
abbrev c5l {R:Type}:Sm R:=u7 a2h a44 c4a
abbrev b5k {R:Type}:Sm R:=u7 a2h a2q (fun a=>qag a.1)
abbrev b88 {R:Type}:Sm R:=u7 a2h a2q (fun a=>qx a.1)
abbrev b82 {R:Type}:Sm R:=u7 a2h a2p (fun a=>ql a.1)
def b9z {R:Type}:Nat→Sm R:=cl 294 b88 c0
abbrev b4l:=a6m [] [] [0,4,5] [] [] (Zs 0 Zi (Zs 4 Zi (Zs 5 Zi Zz))) b5c (.x 0 [4] [] [] (Zs 4 Zi Zz))
def b0y {R:Type}:Lp Kd El R:=lp 4 b4l.sem l0
abbrev b56:ZC (Int×Int×Unit):=Zc Zi (Zc Zi Zn)
abbrev b84 {R:Type}:Sm R:=u7 b56 a2p (fun a=>qr a.1 a.2.1)
abbrev c49:ZD (Int×Int×Int×Int):=(Cod.tup4 (Zc Zi (Zc Zi (Zc Zi (Zc Zi Zn)))))
abbrev c5k {R:Type}:Sm R:=u7 a2h c49 (fun a=>qc a.1)
def b9s {R:Type}:Nat→Sm R:=cl 204 b5k (cl 205 b82 (cl 206 b84 c0))
abbrev b4c:=a6m [] [] [0,6] [] [] (Zs 0 Zi (Zs 6 Zi Zz)) b7l (.x 0 [0,6] [] [] (Zs 0 Zi (Zs 6 Zi Zz)))
abbrev b4d:=a6m [] [] [6,7,8] [] [] (Zs 6 Zi (Zs 7 Zi (Zs 8 Zi Zz))) b7m (.x 2 [6,7,8] [] [] (Zs 6 Zi (Zs 7 Zi (Zs 8 Zi Zz))))
def a6c {R:Type}:Lp Kd El R:=lp 8 b4d.sem (lp 4 b4c.sem l0)
abbrev b9e:ZC ((List UInt8)×Int×Unit):=Zc Cod.str (Zc Zi Zn)
abbrev c5c:ZD ((List UInt8)):=a44
def c4e (a:(List UInt8)×Int×Unit):Option ((List UInt8)):=qv a.1 a.2.1
abbrev c5u {R:Type}:Sm R:=u7 b9e c5c c4e
abbrev c5j {R:Type}:Sm R:=u7 b56 a44 (fun a=>q8 a.1 a.2.1)
abbrev c18 {R:Type}:Sm R:=u7 a2h a44 (fun a=>qaj a.1)
abbrev c7d:ZD ((List (List UInt8))):=(Zl .kstr)
abbrev b87 {R:Type}:Sm R:=u7 b55 c7d (fun a=>qw a.1)
abbrev b9d:ZC ((List (List UInt8))×(List UInt8)×Unit):=Zc (Zl .kstr) (Zc Cod.str Zn)
abbrev c5b:ZD ((List UInt8)):=a44
def c4d (a:(List (List UInt8))×(List UInt8)×Unit):Option ((List UInt8)):=qt a.1 a.2.1
abbrev b85 {R:Type}:Sm R:=u7 b9d c5b c4d
abbrev c5a:ZD ((List UInt8)×Int):=(Cod.tup2 (Zc Cod.str (Zc Zi Zn)))
abbrev c5p {R:Type}:Sm R:=u7 b08 c5a (fun a=>qk a.1)
def b9y {R:Type}:Nat→Sm R:=cl 13 b8x (cl 28 b85 (cl 29 b87 c0))
abbrev b4k:=a6m [] [] [5,13,14,15] [] [5] (FC.arr 5 5 (Zs 13 x0a (Zs 14 Zi (Zs 15 Zi (FC.map 5 Kd.ku8 Zz))))) b18 (.x 0 [5] [] [5] (FC.arr 5 5 (FC.map 5 Kd.ku8 Zz)))
def b0x {R:Type}:Lp Kd El R:=lp 6 b4k.sem l0
abbrev b5i {R:Type}:Sm R:=u7 b55 a2p (fun a=>qae a.1)
abbrev b5j {R:Type}:Sm R:=u7 c2s a2q (fun a=>qaf a.1 a.2.1)
abbrev b8y {R:Type}:Sm R:=u7 b08 a2p (fun a=>qb a.1)
def b9r {R:Type}:Nat→Sm R:=cl 37 b5i (cl 38 b5j c0)
abbrev b4b:=a6m [] [] [0,3] [] [] (Zs 0 x0a (Zs 3 Zi Zz)) b15 (.xs 0 [0] [] [] (Zs 0 x0a Zz) x0b)
abbrev b0n:=a6m [] [] [0,5,6] [] [] (Zs 0 x0a (Zs 5 Zi (Zs 6 Zi Zz))) a4i (.xs 4 [0,5] [] [] (Zs 0 x0a (Zs 5 Zi Zz)) x0b)
abbrev b0m:=a6m [] [] [0,5] [] [] (Zs 0 x0a (Zs 5 Zi Zz)) a5o (.xs 2 [0] [] [] (Zs 0 x0a Zz) x0b)
abbrev b0o:=a6m [] [] [0,7] [] [] (Zs 0 x0a (Zs 7 Zi Zz)) a2y (.xs 6 [] [] [] Zz x0b)
def a18 {R:Type}:Lp Kd El R:=lp 18 b0o.sem (lp 10 b0m.sem (lp 13 b0n.sem (lp 4 b4b.sem l0)))
abbrev c5n {R:Type}:Sm R:=u7 a2h a44 (fun a=>qg a.1)
def b9v {R:Type}:Nat→Sm R:=c0
abbrev b4h:=a6m [] [] [0,3] [] [] (Zs 0 Zi (Zs 3 Cod.str Zz)) b16 (.x 0 [0,3] [] [] (Zs 0 Zi (Zs 3 Cod.str Zz)))
def b0u {R:Type}:Lp Kd El R:=lp 2 b4h.sem l0
abbrev b5m {R:Type}:Sm R:=u7 a2h a2q (fun a=>qai a.1)
abbrev b86 {R:Type}:Sm R:=u7 b56 a2p (fun a=>qu a.1 a.2.1)
abbrev b8w {R:Type}:Sm R:=u7 a2h a2p (fun a=>q9 a.1)
abbrev c5m {R:Type}:Sm R:=u7 a2h c49 (fun a=>qe a.1)
def b9t {R:Type}:Nat→Sm R:=cl 208 b5m (cl 209 b8w (cl 210 b86 c0))
abbrev b4e:=a6m [] [] [0,6,7] [] [] x0c b7n (.x 0 [0,6,7] [] [] x0c)
abbrev b4f:=a6m [] [] [0,6,7] [] [] x0c b7o (.x 2 [0,6,7] [] [] x0c)
def a6d {R:Type}:Lp Kd El R:=lp 7 b4f.sem (lp 4 b4e.sem l0)
abbrev c5q {R:Type}:Sm R:=u7 b56 a44 (fun a=>qm a.1 a.2.1)
def b90 {R:Type}:Nat→Sm R:=c0
abbrev b4m:=a6m [] [200005] [0,1,5,6] [] [] (Zs 0 Zi (Zs 1 Zi (Zs 5 (Zl .ku8) (Zs 6 Zi Zz)))) c44 (.x 0 [5] [] [] (Zs 5 (Zl .ku8) Zz))
def b0z {R:Type}:Lp Kd El R:=lp 3 b4m.sem l0
abbrev c19 {R:Type}:Sm R:=u7 a2h a44 (fun a=>qak a.1)
abbrev b5l {R:Type}:Sm R:=u7 b55 a44 (fun a=>qah a.1)
abbrev c5r {R:Type}:Sm R:=u7 b08 c5a (fun a=>qn a.1)
def b91 {R:Type}:Nat→Sm R:=cl 14 b8y (cl 31 b5l c0)
abbrev b4n:=a6m [] [] [0,5,6] [] [] (Zs 0 x0a (Zs 5 Cod.str (Zs 6 Zi Zz))) b19 (.x 0 [5] [] [] (Zs 5 Cod.str Zz))
def b00 {R:Type}:Lp Kd El R:=lp 6 b4n.sem l0
abbrev c2v:ZC ((List Off)×Unit):=b08
abbrev c7c:ZD (Bool):=a2q
def c4c (a:(List Off)×Unit):Option (Bool):=qs a.1
abbrev c5t {R:Type}:Sm R:=u7 c2v c7c c4c
abbrev c6k:ZC ((List Off)×Unit):=b08
abbrev c7e:ZD ((List Off)):=x0a
def c6t (a:(List Off)×Unit):Option ((List Off)):=qy a.1
abbrev b89 {R:Type}:Sm R:=u7 c6k c7e c6t
abbrev b2p:ZC ((List UInt8)×Unit):=Zc Cod.str Zn
abbrev b8v:ZD (Int×Bool):=(Cod.tup2 (Zc Zi (Zc Cod.ifc Zn)))
def b8l (a:(List UInt8)×Unit):Option (Int×Bool):=qad a.1
abbrev c17 {R:Type}:Sm R:=u7 b2p b8v b8l
abbrev b2n:ZC ((List UInt8)×Int×Unit):=Zc Cod.str (Zc (Cod.int .u8) Zn)
abbrev b8t:ZD (Int):=a2p
def b8j (a:(List UInt8)×Int×Unit):Option (Int):=qab a.1 a.2.1
abbrev c15 {R:Type}:Sm R:=u7 b2n b8t b8j
abbrev b57:ZC ((List UInt8)×(List UInt8)×Unit):=Zc Cod.str (Zc Cod.str Zn)
abbrev c5d:ZD (Int):=a2p
def c4f (a:(List UInt8)×(List UInt8)×Unit):Option (Int):=qz a.1 a.2.1
abbrev c5v {R:Type}:Sm R:=u7 b57 c5d c4f
abbrev b2o:ZC ((List UInt8)×(List UInt8)×Unit):=b57
abbrev b8u:ZD (Int):=a2p
def b8k (a:(List UInt8)×(List UInt8)×Unit):Option (Int):=qac a.1 a.2.1
abbrev c16 {R:Type}:Sm R:=u7 b2o b8u b8k
end
end Go.Proofs.YtpdenibljogamaaGreatDoor
namespace Go.Proofs.YtpdenibljogamaaGreatDoor.Ev
open Go
open Go.Shelf Go.RowKit
variable {P:Program} {ρ:Ren}
theorem a3g {w:World} {b i:Nat} {v:Value} {cs:Array Value} {t:TypeId} (h:w.heap[b]?=some (.cells cs t (0,0))) :
 (w.setCell ⟨b,i,none⟩ v).heap[b]?=some (.cells (cs.setIfInBounds i v) t (0,0))∧(∀k,k≠b→(w.setCell ⟨b,i,none⟩ v).heap[k]?=w.heap[k]?)∧(w.setCell ⟨b,i,none⟩ v).heap.size=w.heap.size∧
 (w.setCell ⟨b,i,none⟩ v).os=w.os∧(w.setCell ⟨b,i,none⟩ v).output=w.output∧(w.setCell ⟨b,i,none⟩ v).tape=w.tape:=by
 refine ⟨by simp[World.setCell,Array.getElem?_modify,h],fun k hk=>?_,by simp[World.setCell],rfl,rfl,rfl⟩;simp only[World.setCell,Array.getElem?_modify];rw[yah (fun e=>hk e.symm)]
theorem a6n.own {w:World} {blk e:Nat} {l:List UInt8} {v:Value} (h:a6n w blk e l v):w.ownsRow 0 e 1 v l.length (Lib.byteCells l)∧v.ownBlock=obk v:=by
 rcases h with ⟨rfl,rfl⟩|⟨bb,cap,cur,rfl,h1,h2,h3,h4,h5,h6⟩
 ·exact ⟨⟨rfl,.inl ⟨rfl,rfl⟩⟩,rfl⟩
 ·exact ⟨⟨by rw[Lib.byteCells_length,ybd],.inr ⟨bb,cap,cur,rfl,ya1 _,h1,h2,h3,by rw[ybd];exact h4,by rw[ybd];exact h5⟩⟩,rfl⟩
theorem a6n.of {w:World} {blk e T:Nat} {cs:Array Value} {l:List UInt8} {v:Value} {n:Nat} (hn:n=l.length) (h:w.ownsRow 0 e 1 v n (Lib.byteCells l)) (hb:w.heap[blk]?=some (.cells cs T (0,0))) (hT:T≠e):a6n w blk e l v:=by
 subst hn;obtain ⟨-,⟨h1,h2⟩|⟨g,cap,cur,h1,-,h2,h3,h4,h5,h6⟩⟩:=h
 ·exact .inl ⟨h1,yaZ.1 h2⟩
 ·rw[ybd]at h5 h6;exact .inr ⟨g,cap,cur,h1,h2,h3,h4,h5,h6,fun e'=>by subst e';rw[h2]at hb;cases hb;exact hT rfl⟩
theorem a29 {f:Nat} {vs:Array Value} {w:World} {Q:Value→World→Prop} (he:∀args w,(callFunc f args).run P w=.ok (.enter f args) w) (h:Calls P f vs w fun e w'=>∃v,e=.returned v∧Q v w'):m9 P f vs w Q:=by
 unfold m9;rw[he];refine h.mono (fun e w' hq=>?_);obtain ⟨v,rfl,hv⟩:=hq;exact hv
theorem a6u {w:World} {t u ty e n:Nat} {i:TypeInfo} (ht:P.underlying t=some (.slice e)) (hu:P.underlying u=some .string) (hi:P.info? e=some i) (hz:i.zero=some (.int .u8 0)) (hsize:i.size=1) (hby:i.bytes=1)
 {v:Value} {xs:List Value} (hown:w.ownsRow 0 e 1 v n xs) {s:ByteArray} (h63:n+s.size≤maxLen) (hbytes:n+s.size≤140737488355328) {v':Value} {w':World} (hr:(Builtin.append_ #[t,u] ty #[v,.string s]).run P w=.ok v' w') :
 ∀bb,obk v'=some bb→obk v=some bb∨w.heap.size≤bb:=by
 have hsmall:n+s.size≤9223372036854775807:=by simp only[maxLen]at h63;omega
 have hxl:xs.length=n:=by simpa using hown.1
 rcases hown.2 with ⟨rfl,rfl⟩|⟨g,cap,cur,rfl,hbg,hg,hnc,hcm,hcs,htake⟩
 ·obtain ⟨v2,w2,hr2,h2,-,-⟩:=Lib.run_append_own_string (P:=P) w w.heap.size t u ty e i ht hu hi hz hsize hby (.slice none 0 0) 0 [] ⟨rfl,.inl ⟨rfl,rfl⟩⟩ s h63 hbytes (yam _);rw[hr]at hr2;cases hr2
  intro bb hbb;rcases h2.2 with ⟨h,_⟩|⟨g,cap,cur,h,hb,_⟩
  ·rw[h]at hbb;cases hbb
  ·rw[h]at hbb;cases hbb;exact .inr hb
 ·by_cases hroom:n+s.size≤cap
  ·have hr2:=Lib.run_append_room_string (P:=P) w t u ty e i ht hu hi hsize g n cap cur hg s hroom (by omega);rw[hr]at hr2;cases hr2
   exact fun bb hbb=>.inl hbb
  ·have holds:∀j u,xs[j]?=some u→w.cell? ((⟨g,0,none⟩:Addr).add j)=some u:=hown.cells (g:=g) rfl;have hr2:=Lib.run_append_grow_string (P:=P) w t u ty e i (.int .u8 0) ht hu hi hz ⟨g,0,none⟩ n cap xs (by rw[hsize];simpa using hxl) holds s (by omega) (by omega) (by rw[hby];exact growslice_fits (by omega) (by omega));rw[hr]at hr2;cases hr2
   intro bb hbb;cases hbb
   exact .inr (yam _)
theorem a0c {ops:Array Oper} {rest:List Oper} {o:Oper} {a:Act} {w:World} {Q:Exit→Act→World→Prop} (hgd:o.guard=none) (sl x:Operand) (t u:TypeId)
 (ho:o.op=.call {callee:=.builtin .append,args:=#[sl,x],argTypes:=#[t,u]})
 (e:TypeId) (i:TypeInfo) (ht:P.underlying t=some (.slice e)) (hu:P.underlying u=some .string) (hi:P.info? e=some i) (hz:i.zero=some (.int .u8 0)) (hsize:i.size=1) (hby:i.bytes=1)
 (v:Value) (n:Nat) (xs:List Value) (hs:a.eval sl=v) (hown:w.ownsRow 0 e 1 v n xs) (s:ByteArray) (hx:a.eval x=.string s) (h63:n+s.size≤maxLen) (hbytes:n+s.size≤140737488355328)
 (h:∀v' w',w'.ownsRow 0 e 1 v' (n+s.size) (xs++Lib.strCells s)→w.grownBy w' v.ownBlock→(∀bb,obk v'=some bb→obk v=some bb∨w.heap.size≤bb)→wpList P ops Q rest (a.put o.dst v') w'):wpList P ops Q (o::rest) a w:=by
 refine wpList_plain hgd fun K hK=>?_
 obtain ⟨v',w',hr,h2,h3,-⟩:=Lib.run_append_own_string (P:=P) w 0 t u o.type e i ht hu hi hz hsize hby v n xs hown s h63 hbytes (ya1 _);have h5:=a6u ht hu hi hz hsize hby hown h63 hbytes hr;unfold Oper.wp execOp;simp only[ho,resolve,invoke,builtin,Sem.run_bind,Sem.run_pure,Result.andThen_ok,List.map_toArray,yaN,List.map_nil,hs,hx,hr];exact hK _ _ (h v' w' h2 h3 h5)
theorem a4e (blk:Nat) (v:Value) (w:World):a8c blk v v w w:=⟨yam _,rfl,rfl,rfl,fun _ _ _ _=>rfl,fun _ h=>.inl h⟩
theorem a4d {blk:Nat} {v:Value} {w w':World} (h:a8c blk v v w w'):a8c blk v v w w'.drew:=h
theorem b1z {blk:Nat} {v:Value} {w w':World} (h:a8c blk v v w w') (o:Obj):a8c blk v v w (w'.alloc o):=
 ⟨ya9 h.1 (by rw[World.size_alloc];omega),h.2.1,h.2.2.1,h.2.2.2.1,fun b h1 h2 h3=>(Lib.alloc_old w' o b (yar h1 h.1)).trans (h.2.2.2.2.1 b h1 h2 h3),h.2.2.2.2.2⟩
theorem a9d {blk g n cap:Nat} {w w':World} (h:a8c blk (.slice (some ⟨g,0,none⟩) n cap) (.slice (some ⟨g,0,none⟩) n cap) w w') (m:Nat):a8c blk (.slice (some ⟨g,0,none⟩) n cap) (.slice (some ⟨g,0,none⟩) n cap) w (w'.freeze ⟨g,0,none⟩ m):=by
 unfold World.freeze;split
 ·exact h
 ·refine ⟨by simpa using h.1,h.2.1,h.2.2.1,h.2.2.2.1,fun b h1 h2 h3=>?_,h.2.2.2.2.2⟩;simp only[Array.getElem?_modify];rw[yah (fun e=>h3 (by rw[←e];rfl))];exact h.2.2.2.2.1 b h1 h2 h3
set_option maxHeartbeats 2000000 in
set_option maxRecDepth 100000 in
theorem a2u (L:Lays.n169 P ρ) (X:Builder.Extra P ρ) {blk:Nat} {p v:Value} {w:World} (hbk:w.heap[blk]?=some (.cells #[p,v] (ρ.t 72) (0,0))) (q:Option Addr) {ao:Option Addr} {cap:Nat} (hv:v=.slice ao 0 cap)
 {W:World} (hSD:(Builtin.unsafeSliceData_ #[(ρ.t 37)] (ρ.t 127) #[.slice ao 0 cap]).run P w.drew=.ok (.pointer q) W) (hW:W=w.drew∨∃o,W=w.drew.alloc o) :
 Calls P (ρ.f 169) #[.pointer (some ⟨blk,0,none⟩)] w fun e w'=>∃r,e=.returned r∧r=.string ⟨#[]⟩∧a8c blk v v w w':=by
 have hUS:∀(W:World) (q:Option Addr),(Builtin.unsafeString_ #[(ρ.t 127),(ρ.t 3)] (ρ.t 9) #[.pointer q,.int .i64 0]).run P W=.ok (.string .empty) W:=fun W q=>Lib.run_unsafeString_none W _ _ _ q
 have hlt:blk<w.heap.size:=(yad.1 hbk).1;have hoW:a8c blk v v w W:=by
  rcases hW with rfl|⟨o,rfl⟩
  ·exact a4d (a4e _ _ _)
  ·exact b1z (a4d (a4e _ _ _)) o
 have hbW:W.heap[blk]?=some (.cells #[p,v] (ρ.t 72) (0,0)):=by
  rcases hW with rfl|⟨o,rfl⟩
  ·exact hbk
  ·exact (Lib.alloc_old w.drew o blk hlt).trans hbk
 subst hv;have c1:w.drew.cell? ⟨blk,1,none⟩=some (.slice ao 0 cap):=by
  have:w.drew.heap[blk]?=some (.cells #[p,.slice ao 0 cap] (ρ.t 72) (0,0)):=hbk;rw[Lib.cell_of_heap this];rfl
 have c0:w.cell? ⟨blk,1,none⟩=some (.slice ao 0 cap):=c1;have c2:W.cell? ⟨blk,1,none⟩=some (.slice ao 0 cap):=by rw[Lib.cell_of_heap hbW];rfl
 have mixed:=L.mixed;have t72:=L.t72;have a72:=L.a72;have z72:=L.z72;have v72:=L.v72;have u72:=run_underlying L.t72;have t70:=L.t70;have a70:=L.a70;have z70:=L.z70;have v70:=L.v70;have u70:=run_underlying L.t70;have t37:=L.t37;have a37:=L.a37;have z37:=L.z37;have v37:=L.v37;have u37:=run_underlying L.t37;have t127:=L.t127;have a127:=L.a127;have z127:=L.z127;have v127:=L.v127;have u127:=run_underlying L.t127;have t3:=L.t3;have a3:=L.a3;have z3:=L.z3;have v3:=L.v3;have u3:=run_underlying L.t3;have t9:=L.t9;have a9:=L.a9;have z9:=L.z9;have v9:=L.v9;have u9:=run_underlying L.t9;have t5:=X.t5;have a5:=X.a5;have z5:=X.z5;have v5:=X.v5;have u5:=run_underlying X.t5;clear hW hbW hbk
 go_enter L.f169,Body.n169_ntmps ρ
 go_wp2
 go_region_o
 all_goals (go_wp2;go_ret;exact ⟨_,rfl,rfl,hoW⟩)
set_option maxHeartbeats 2000000 in
set_option maxRecDepth 100000 in
theorem a9q (L:Lays.n169 P ρ) (X:Builder.Extra P ρ) {blk g cap:Nat} {p:Value} {cur:Array Value} {l:List UInt8} {w:World} (hbk:w.heap[blk]?=some (.cells #[p,.slice (some ⟨g,0,none⟩) l.length cap] (ρ.t 72) (0,0))) (h0:l≠[])
 (hg:w.heap[g]?=some (.cells cur (ρ.t 5) (0,0))) (hnc:l.length≤cap) (hcm:cap≤9223372036854775807) (hcs:cur.size=cap) (htake:cur.toList.take l.length=l.map (fun b=>Value.int .u8 b.toNat)) :
 Calls P (ρ.f 169) #[.pointer (some ⟨blk,0,none⟩)] w fun e w'=>∃r,e=.returned r∧r=.string ⟨l.toArray⟩∧a8c blk (.slice (some ⟨g,0,none⟩) l.length cap) (.slice (some ⟨g,0,none⟩) l.length cap) w w':=by
 have hl0:l.length≠0:=by simpa using h0
 have c1:w.drew.cell? ⟨blk,1,none⟩=some (.slice (some ⟨g,0,none⟩) l.length cap):=by
  have:w.drew.heap[blk]?=some (.cells #[p,.slice (some ⟨g,0,none⟩) l.length cap] (ρ.t 72) (0,0)):=hbk;rw[Lib.cell_of_heap this];rfl
 have hSD:(Builtin.unsafeSliceData_ #[(ρ.t 37)] (ρ.t 127) #[.slice (some ⟨g,0,none⟩) l.length cap]).run P w.drew=.ok (.pointer (some ⟨g,0,none⟩)) w.drew:=
  Lib.run_unsafeSliceData_row _ _ _ _ _ _ (by omega)
 have hUS:(Builtin.unsafeString_ #[(ρ.t 127),(ρ.t 3)] (ρ.t 9) #[.pointer (some ⟨g,0,none⟩),.int .i64 l.length]).run P w.drew=.ok (.string ⟨l.toArray⟩) (w.drew.freeze ⟨g,0,none⟩ l.length):=by
  refine Lib.run_unsafeString_row w.drew (ρ.t 127) (ρ.t 3) (ρ.t 9) (ρ.t 5) L.t127 X.cellsByte g cur.size (by have hg':w.drew.heap[g]?=some (.cells cur (ρ.t 5) (0,0)):=hg;simp[World.shape?,hg']) l h0 (by omega) (by omega) ?_;intro j x hx;have hj:j<l.length:=(zL hx)
  have h1:(cur.toList.take l.length)[j]?=some (.int .u8 x.toNat):=by rw[htake,yaD,hx];rfl
  rw[yaJ,yaq hj]at h1;have hg':w.drew.heap[g]?=some (.cells cur (ρ.t 5) (0,0)):=hg;rw[Addr.add_lit];simp only[World.cell?,hg',yaF];simpa using h1
 have hfin:a8c blk (.slice (some ⟨g,0,none⟩) l.length cap) (.slice (some ⟨g,0,none⟩) l.length cap) w (w.drew.freeze ⟨g,0,none⟩ l.length):=a9d (a4d (a4e _ _ _)) _;have mixed:=L.mixed;have t72:=L.t72;have a72:=L.a72;have z72:=L.z72;have v72:=L.v72;have u72:=run_underlying L.t72;have t70:=L.t70;have a70:=L.a70;have z70:=L.z70;have v70:=L.v70;have u70:=run_underlying L.t70;have t37:=L.t37;have a37:=L.a37;have z37:=L.z37;have v37:=L.v37;have u37:=run_underlying L.t37;have t127:=L.t127;have a127:=L.a127;have z127:=L.z127;have v127:=L.v127;have u127:=run_underlying L.t127;have t3:=L.t3;have a3:=L.a3;have z3:=L.z3;have v3:=L.v3;have u3:=run_underlying L.t3;have t9:=L.t9;have a9:=L.a9;have z9:=L.z9;have v9:=L.v9;have u9:=run_underlying L.t9;have t5:=X.t5;have a5:=X.a5;have z5:=X.z5;have v5:=X.v5;have u5:=run_underlying X.t5;clear htake hcs hcm hnc hg hbk h0 hl0
 go_enter L.f169,Body.n169_ntmps ρ
 go_wp2
 go_region_o
 all_goals (go_wp2;go_ret;exact ⟨_,rfl,rfl,hfin⟩)
theorem a9r (L:Lays.n169 P ρ) (X:Builder.Extra P ρ):a2g P (ρ.t 72) (ρ.t 5) (ρ.f 169):=by
 intro w blk p v l hp hb hbuf;have e169:∀args w,(callFunc (ρ.f 169) args).run P w=.ok (.enter (ρ.f 169) args) w:=enters_of L.f169 kr rfl;refine a29 e169 ?_;rcases hbuf with ⟨rfl,rfl⟩|⟨g,cap,cur,rfl,h1,h2,h3,h4,h5,h6⟩
 ·exact a2u L X hb none rfl (W:=w.drew) rfl (.inl rfl)
 ·cases l with
  |nil=>
   by_cases hc0:cap=0
   ·subst hc0;refine a2u L X hb _ rfl (Lib.run_unsafeSliceData_zero w.drew _ _ (ρ.t 5) L.t127 ⟨g,0,none⟩ 0 ((ρ.t 5),cur.size) ?_) (.inr ⟨_,rfl⟩);have hg':w.drew.heap[g]?=some (.cells cur (ρ.t 5) (0,0)):=h1;simp[World.shape?,hg']
   ·exact a2u L X hb _ rfl (Lib.run_unsafeSliceData_row _ _ _ _ _ _ hc0) (.inl rfl)
  |cons x r=>exact a9q L X hb (by simp) h1 h2 h3 h4 h5
end Go.Proofs.YtpdenibljogamaaGreatDoor.Ev
namespace Go.Proofs
open Go.Shelf
def Tryz.lays169_ren:Go.Shelf.Ren:=⟨fun|169=>30|n=>n,fun|70=>65|9=>9|0=>0|72=>68|37=>66|127=>115|3=>3|5=>5|n=>n,fun|n=>n⟩
theorem Tryz.lays169:Go.Proofs.Lays.n169 Tryz.prog Tryz.lays169_ren:={
 mixed:=by kernel_rfl
 f169:=Tryz.func30.trans (congrArg some (by kernel_rfl))
 t0:=Tryz.underlying0
 a0:=Tryz.isAgg0
 z0:=Tryz.sizeOf0
 v0:=Tryz.zeroValue0
 t3:=Tryz.underlying3
 a3:=Tryz.isAgg3
 z3:=Tryz.sizeOf3
 v3:=Tryz.zeroValue3
 t9:=Tryz.underlying9
 a9:=Tryz.isAgg9
 z9:=Tryz.sizeOf9
 v9:=Tryz.zeroValue9
 t37:=Tryz.underlying66
 a37:=Tryz.isAgg66
 z37:=Tryz.sizeOf66
 v37:=Tryz.zeroValue66
 t70:=Tryz.underlying65
 a70:=Tryz.isAgg65
 z70:=Tryz.sizeOf65
 v70:=Tryz.zeroValue65
 t72:=Tryz.underlying68
 a72:=Tryz.isAgg68
 z72:=Tryz.sizeOf68
 v72:=Tryz.zeroValue68
 t127:=Tryz.underlying115
 a127:=Tryz.isAgg115
 z127:=Tryz.sizeOf115
 v127:=Tryz.zeroValue115}
theorem Tryz.Builder_Extra_169:Builder.Extra Tryz.prog Tryz.lays169_ren:={
 sizeBuilder:=by kernel_rfl
 liesBuilder:=by kernel_rfl
 t5:=Tryz.underlying5
 a5:=Tryz.isAgg5
 z5:=Tryz.sizeOf5
 v5:=Tryz.zeroValue5
 infoByte:=by kernel_rfl
 cellsByte:=by kernel_rfl
 sizeByte:=by kernel_rfl
 neB5:=by decide}
def Tryz.lays156_ren:Go.Shelf.Ren:=⟨fun|156=>28|165=>60|166=>27|169=>30|240=>59|241=>108|276=>107|277=>202|n=>n,fun|31=>74|9=>9|3=>3|4=>4|0=>0|20=>20|72=>68|76=>71|70=>65|37=>66|75=>70|127=>115|164=>151|5=>5|80=>76|n=>n,fun|n=>n⟩
theorem Tryz.lays156:Go.Proofs.Lays.n156 Tryz.prog Tryz.lays156_ren:={
 mixed:=by kernel_rfl
 f156:=Tryz.func28.trans (congrArg some (by kernel_rfl))
 f165:=Tryz.func60.trans (congrArg some (by kernel_rfl))
 f166:=Tryz.func27.trans (congrArg some (by kernel_rfl))
 f169:=Tryz.func30.trans (congrArg some (by kernel_rfl))
 f240:=Tryz.func59.trans (congrArg some (by kernel_rfl))
 f241:=Tryz.func108.trans (congrArg some (by kernel_rfl))
 f276:=Tryz.func107.trans (congrArg some (by kernel_rfl))
 f277:=Tryz.func202.trans (congrArg some (by kernel_rfl))
 t0:=Tryz.underlying0
 a0:=Tryz.isAgg0
 z0:=Tryz.sizeOf0
 v0:=Tryz.zeroValue0
 t3:=Tryz.underlying3
 a3:=Tryz.isAgg3
 z3:=Tryz.sizeOf3
 v3:=Tryz.zeroValue3
 t4:=Tryz.underlying4
 a4:=Tryz.isAgg4
 z4:=Tryz.sizeOf4
 v4:=Tryz.zeroValue4
 t9:=Tryz.underlying9
 a9:=Tryz.isAgg9
 z9:=Tryz.sizeOf9
 v9:=Tryz.zeroValue9
 t20:=Tryz.underlying20
 a20:=Tryz.isAgg20
 z20:=Tryz.sizeOf20
 v20:=Tryz.zeroValue20
 t31:=Tryz.underlying74
 a31:=Tryz.isAgg74
 z31:=Tryz.sizeOf74
 v31:=Tryz.zeroValue74
 t37:=Tryz.underlying66
 a37:=Tryz.isAgg66
 z37:=Tryz.sizeOf66
 v37:=Tryz.zeroValue66
 t70:=Tryz.underlying65
 a70:=Tryz.isAgg65
 z70:=Tryz.sizeOf65
 v70:=Tryz.zeroValue65
 t72:=Tryz.underlying68
 a72:=Tryz.isAgg68
 z72:=Tryz.sizeOf68
 v72:=Tryz.zeroValue68
 t75:=Tryz.underlying70
 a75:=Tryz.isAgg70
 z75:=Tryz.sizeOf70
 v75:=Tryz.zeroValue70
 t76:=Tryz.underlying71
 a76:=Tryz.isAgg71
 z76:=Tryz.sizeOf71
 v76:=Tryz.zeroValue71
 t127:=Tryz.underlying115
 a127:=Tryz.isAgg115
 z127:=Tryz.sizeOf115
 v127:=Tryz.zeroValue115
 t164:=Tryz.underlying151
 a164:=Tryz.isAgg151
 z164:=Tryz.sizeOf151
 v164:=Tryz.zeroValue151}
theorem Tryz.Builder_Extra_156:Builder.Extra Tryz.prog Tryz.lays156_ren:={
 sizeBuilder:=by kernel_rfl
 liesBuilder:=by kernel_rfl
 t5:=Tryz.underlying5
 a5:=Tryz.isAgg5
 z5:=Tryz.sizeOf5
 v5:=Tryz.zeroValue5
 infoByte:=by kernel_rfl
 cellsByte:=by kernel_rfl
 sizeByte:=by kernel_rfl
 neB5:=by decide}
open Go.RowKit in
theorem Tryz.qt_none (a:Option Addr) (c:Nat) (sep:ByteArray) (w:World) :
 Calls Tryz.prog 28 #[.slice a 0 c,.string sep] w fun e w'=>e=.returned (.string ⟨#[]⟩)∧w'=w:=Any.strings_Join_none Tryz.lays156 Tryz.Builder_Extra_156 a c sep w
open Go.RowKit in
theorem Tryz.qt (bk o c:Nat) (xs:List ByteArray) (sep:ByteArray) (w:World) (hcells:∀(j:Nat) x,xs[j]?=some x→w.cell? ⟨bk,o+j,none⟩=some (.string x)) (hbk:bk<w.heap.size) (hN:xs.length≤140737488355328) (hcap:xs.length≤c) (hlen:(Lib.join (xs.map (·.data.toList)) sep.data.toList).length≤140737488355328) :
 Calls Tryz.prog 28 #[.slice (some ⟨bk,o,none⟩) xs.length c,.string sep] w fun e w'=>e=.returned (.string ⟨(Lib.join (xs.map (·.data.toList)) sep.data.toList).toArray⟩)∧Below w.heap.size w w':=Any.strings_Join Tryz.lays156 Tryz.Builder_Extra_156 bk o c xs sep w hcells hbk hN hcap hlen
def Tryz.laysM171_ren:Go.Shelf.Ren:=⟨fun|171=>61|243=>109|246=>203|283=>290|284=>291|285=>292|286=>293|129=>123|317=>341|318=>342|319=>343|320=>344|337=>368|338=>369|n=>n,fun|3=>3|9=>9|2=>2|4=>4|171=>266|0=>0|53=>166|37=>66|5=>5|173=>268|212=>317|51=>164|20=>20|213=>318|46=>118|232=>346|233=>347|n=>n,fun|17=>4|18=>7|19=>8|n=>n⟩
theorem Tryz.laysM171:Go.Proofs.LaysM.n171 Tryz.prog Tryz.laysM171_ren:={
 mixed:=by kernel_rfl
 f129:=Tryz.func123.trans (congrArg some (by kernel_rfl))
 f171:=Tryz.func61.trans (congrArg some (by kernel_rfl))
 f243:=Tryz.func109.trans (congrArg some (by kernel_rfl))
 f246:=Tryz.func203.trans (congrArg some (by kernel_rfl))
 f283:=Tryz.func290.trans (congrArg some (by kernel_rfl))
 f284:=Tryz.func291.trans (congrArg some (by kernel_rfl))
 f285:=Tryz.func292.trans (congrArg some (by kernel_rfl))
 f286:=Tryz.func293.trans (congrArg some (by kernel_rfl))
 f317:=Tryz.func341.trans (congrArg some (by kernel_rfl))
 f318:=Tryz.func342.trans (congrArg some (by kernel_rfl))
 f319:=Tryz.func343.trans (congrArg some (by kernel_rfl))
 f320:=Tryz.func344.trans (congrArg some (by kernel_rfl))
 f337:=Tryz.func368.trans (congrArg some (by kernel_rfl))
 f338:=Tryz.func369.trans (congrArg some (by kernel_rfl))
 t0:=Tryz.underlying0
 a0:=Tryz.isAgg0
 z0:=Tryz.sizeOf0
 v0:=Tryz.zeroValue0
 t2:=Tryz.underlying2
 a2:=Tryz.isAgg2
 z2:=Tryz.sizeOf2
 v2:=Tryz.zeroValue2
 t3:=Tryz.underlying3
 a3:=Tryz.isAgg3
 z3:=Tryz.sizeOf3
 v3:=Tryz.zeroValue3
 t4:=Tryz.underlying4
 a4:=Tryz.isAgg4
 z4:=Tryz.sizeOf4
 v4:=Tryz.zeroValue4
 t5:=Tryz.underlying5
 a5:=Tryz.isAgg5
 z5:=Tryz.sizeOf5
 v5:=Tryz.zeroValue5
 t9:=Tryz.underlying9
 a9:=Tryz.isAgg9
 z9:=Tryz.sizeOf9
 v9:=Tryz.zeroValue9
 t20:=Tryz.underlying20
 a20:=Tryz.isAgg20
 z20:=Tryz.sizeOf20
 v20:=Tryz.zeroValue20
 t37:=Tryz.underlying66
 a37:=Tryz.isAgg66
 z37:=Tryz.sizeOf66
 v37:=Tryz.zeroValue66
 t46:=Tryz.underlying118
 a46:=Tryz.isAgg118
 z46:=Tryz.sizeOf118
 v46:=Tryz.zeroValue118
 t51:=Tryz.underlying164
 a51:=Tryz.isAgg164
 z51:=Tryz.sizeOf164
 v51:=Tryz.zeroValue164
 t53:=Tryz.underlying166
 a53:=Tryz.isAgg166
 z53:=Tryz.sizeOf166
 v53:=Tryz.zeroValue166
 t171:=Tryz.underlying266
 a171:=Tryz.isAgg266
 z171:=Tryz.sizeOf266
 v171:=Tryz.zeroValue266
 t173:=Tryz.underlying268
 a173:=Tryz.isAgg268
 z173:=Tryz.sizeOf268
 v173:=Tryz.zeroValue268
 t212:=Tryz.underlying317
 a212:=Tryz.isAgg317
 z212:=Tryz.sizeOf317
 v212:=Tryz.zeroValue317
 t213:=Tryz.underlying318
 a213:=Tryz.isAgg318
 z213:=Tryz.sizeOf318
 t232:=Tryz.underlying346
 a232:=Tryz.isAgg346
 z232:=Tryz.sizeOf346
 v232:=Tryz.zeroValue346
 t233:=Tryz.underlying347
 a233:=Tryz.isAgg347
 z233:=Tryz.sizeOf347
 v233:=Tryz.zeroValue347
 g17:=by kernel_rfl
 g18:=by kernel_rfl
 g19:=by kernel_rfl
 i0:=by kernel_rfl
 i2:=by kernel_rfl
 i3:=by kernel_rfl
 i4:=by kernel_rfl
 i5:=by kernel_rfl
 i9:=by kernel_rfl
 i20:=by kernel_rfl
 i37:=by kernel_rfl
 i46:=by kernel_rfl
 i51:=by kernel_rfl
 i53:=by kernel_rfl
 i171:=by kernel_rfl
 i173:=by kernel_rfl
 i212:=by kernel_rfl
 i232:=by kernel_rfl
 i233:=by kernel_rfl
 m17:=by kernel_rfl
 m18:=by kernel_rfl
 m19:=by kernel_rfl}
open Go.RowKit Go.Sort Go.Lib in
theorem Tryz.qd (n:Int) (h0 : -9223372036854775808≤n) (h1:n≤9223372036854775807) (w:World) (htab:Lib.TabIs Tryz.prog w "internal/strconv.uint64pow10" .u64 Lib.pow10Tab) :
 Calls Tryz.prog 61 #[.int .i64 n] w fun e w'=>e=.returned (.string ⟨(Lib.itoa n).toArray⟩)∧∃k os,w'=grow (w.drewN k) os:=Any.strconv_Itoa Tryz.laysM171 n h0 h1 w htab
def Tryz.laysC172_ren:Go.Shelf.Ren:=⟨fun|172=>175|244=>272|245=>273|247=>333|279=>334|280=>335|281=>336|282=>337|287=>365|316=>366|171=>61|205=>367|321=>376|322=>377|243=>109|246=>203|283=>290|284=>291|285=>292|286=>293|129=>123|317=>341|318=>342|319=>343|320=>344|337=>368|338=>369|n=>n,fun|9=>9|3=>3|75=>70|76=>71|4=>4|5=>5|167=>301|37=>66|0=>0|85=>302|2=>2|168=>304|53=>166|175=>330|46=>118|210=>333|127=>115|145=>345|143=>343|21=>21|171=>266|173=>268|212=>317|51=>164|20=>20|213=>318|232=>346|233=>347|80=>76|n=>n,fun|15=>5|16=>6|17=>4|18=>7|19=>8|n=>n⟩
theorem Tryz.laysC172:Go.Proofs.LaysC.n172 Tryz.prog Tryz.laysC172_ren:={
 mixed:=by kernel_rfl
 f129:=Tryz.func123.trans (congrArg some (by kernel_rfl))
 f171:=Tryz.func61.trans (congrArg some (by kernel_rfl))
 f172:=Tryz.func175.trans (congrArg some (by kernel_rfl))
 f205:=Tryz.func367.trans (congrArg some (by kernel_rfl))
 f243:=Tryz.func109.trans (congrArg some (by kernel_rfl))
 f244:=Tryz.func272.trans (congrArg some (by kernel_rfl))
 f245:=Tryz.func273.trans (congrArg some (by kernel_rfl))
 f246:=Tryz.func203.trans (congrArg some (by kernel_rfl))
 f247:=Tryz.func333.trans (congrArg some (by kernel_rfl))
 f279:=Tryz.func334.trans (congrArg some (by kernel_rfl))
 f280:=Tryz.func335.trans (congrArg some (by kernel_rfl))
 f281:=Tryz.func336.trans (congrArg some (by kernel_rfl))
 f282:=Tryz.func337.trans (congrArg some (by kernel_rfl))
 f283:=Tryz.func290.trans (congrArg some (by kernel_rfl))
 f284:=Tryz.func291.trans (congrArg some (by kernel_rfl))
 f285:=Tryz.func292.trans (congrArg some (by kernel_rfl))
 f286:=Tryz.func293.trans (congrArg some (by kernel_rfl))
 f287:=Tryz.func365.trans (congrArg some (by kernel_rfl))
 f316:=Tryz.func366.trans (congrArg some (by kernel_rfl))
 f317:=Tryz.func341.trans (congrArg some (by kernel_rfl))
 f318:=Tryz.func342.trans (congrArg some (by kernel_rfl))
 f319:=Tryz.func343.trans (congrArg some (by kernel_rfl))
 f320:=Tryz.func344.trans (congrArg some (by kernel_rfl))
 f321:=Tryz.func376.trans (congrArg some (by kernel_rfl))
 f322:=Tryz.func377.trans (congrArg some (by kernel_rfl))
 f337:=Tryz.func368.trans (congrArg some (by kernel_rfl))
 f338:=Tryz.func369.trans (congrArg some (by kernel_rfl))
 t0:=Tryz.underlying0
 a0:=Tryz.isAgg0
 z0:=Tryz.sizeOf0
 v0:=Tryz.zeroValue0
 t2:=Tryz.underlying2
 a2:=Tryz.isAgg2
 z2:=Tryz.sizeOf2
 v2:=Tryz.zeroValue2
 t3:=Tryz.underlying3
 a3:=Tryz.isAgg3
 z3:=Tryz.sizeOf3
 v3:=Tryz.zeroValue3
 t4:=Tryz.underlying4
 a4:=Tryz.isAgg4
 z4:=Tryz.sizeOf4
 v4:=Tryz.zeroValue4
 t5:=Tryz.underlying5
 a5:=Tryz.isAgg5
 z5:=Tryz.sizeOf5
 v5:=Tryz.zeroValue5
 t9:=Tryz.underlying9
 a9:=Tryz.isAgg9
 z9:=Tryz.sizeOf9
 v9:=Tryz.zeroValue9
 t20:=Tryz.underlying20
 a20:=Tryz.isAgg20
 z20:=Tryz.sizeOf20
 v20:=Tryz.zeroValue20
 t21:=Tryz.underlying21
 a21:=Tryz.isAgg21
 z21:=Tryz.sizeOf21
 v21:=Tryz.zeroValue21
 t37:=Tryz.underlying66
 a37:=Tryz.isAgg66
 z37:=Tryz.sizeOf66
 v37:=Tryz.zeroValue66
 t46:=Tryz.underlying118
 a46:=Tryz.isAgg118
 z46:=Tryz.sizeOf118
 v46:=Tryz.zeroValue118
 t51:=Tryz.underlying164
 a51:=Tryz.isAgg164
 z51:=Tryz.sizeOf164
 v51:=Tryz.zeroValue164
 t53:=Tryz.underlying166
 a53:=Tryz.isAgg166
 z53:=Tryz.sizeOf166
 v53:=Tryz.zeroValue166
 t75:=Tryz.underlying70
 a75:=Tryz.isAgg70
 z75:=Tryz.sizeOf70
 v75:=Tryz.zeroValue70
 t76:=Tryz.underlying71
 a76:=Tryz.isAgg71
 z76:=Tryz.sizeOf71
 v76:=Tryz.zeroValue71
 t85:=Tryz.underlying302
 a85:=Tryz.isAgg302
 z85:=Tryz.sizeOf302
 v85:=Tryz.zeroValue302
 t127:=Tryz.underlying115
 a127:=Tryz.isAgg115
 z127:=Tryz.sizeOf115
 v127:=Tryz.zeroValue115
 t143:=Tryz.underlying343
 a143:=Tryz.isAgg343
 z143:=Tryz.sizeOf343
 v143:=Tryz.zeroValue343
 t145:=Tryz.underlying345
 a145:=Tryz.isAgg345
 z145:=Tryz.sizeOf345
 v145:=Tryz.zeroValue345
 t167:=Tryz.underlying301
 a167:=Tryz.isAgg301
 z167:=Tryz.sizeOf301
 v167:=Tryz.zeroValue301
 t168:=Tryz.underlying304
 a168:=Tryz.isAgg304
 z168:=Tryz.sizeOf304
 v168:=Tryz.zeroValue304
 t171:=Tryz.underlying266
 a171:=Tryz.isAgg266
 z171:=Tryz.sizeOf266
 v171:=Tryz.zeroValue266
 t173:=Tryz.underlying268
 a173:=Tryz.isAgg268
 z173:=Tryz.sizeOf268
 v173:=Tryz.zeroValue268
 t175:=Tryz.underlying330
 a175:=Tryz.isAgg330
 z175:=Tryz.sizeOf330
 v175:=Tryz.zeroValue330
 t210:=Tryz.underlying333
 a210:=Tryz.isAgg333
 z210:=Tryz.sizeOf333
 v210:=Tryz.zeroValue333
 t212:=Tryz.underlying317
 a212:=Tryz.isAgg317
 z212:=Tryz.sizeOf317
 v212:=Tryz.zeroValue317
 t213:=Tryz.underlying318
 a213:=Tryz.isAgg318
 z213:=Tryz.sizeOf318
 t232:=Tryz.underlying346
 a232:=Tryz.isAgg346
 z232:=Tryz.sizeOf346
 v232:=Tryz.zeroValue346
 t233:=Tryz.underlying347
 a233:=Tryz.isAgg347
 z233:=Tryz.sizeOf347
 v233:=Tryz.zeroValue347
 g15:=by kernel_rfl
 g16:=by kernel_rfl
 g17:=by kernel_rfl
 g18:=by kernel_rfl
 g19:=by kernel_rfl
 t80:=Tryz.underlying76
 a80:=Tryz.isAgg76
 z80:=Tryz.sizeOf76
 v80:=Tryz.zeroValue76
 i0:=by kernel_rfl
 i2:=by kernel_rfl
 i3:=by kernel_rfl
 i4:=by kernel_rfl
 i5:=by kernel_rfl
 i9:=by kernel_rfl
 i20:=by kernel_rfl
 i21:=by kernel_rfl
 i37:=by kernel_rfl
 i46:=by kernel_rfl
 i51:=by kernel_rfl
 i53:=by kernel_rfl
 i75:=by kernel_rfl
 i76:=by kernel_rfl
 i80:=by kernel_rfl
 i85:=by kernel_rfl
 i127:=by kernel_rfl
 i143:=by kernel_rfl
 i145:=by kernel_rfl
 i167:=by kernel_rfl
 i168:=by kernel_rfl
 i171:=by kernel_rfl
 i173:=by kernel_rfl
 i175:=by kernel_rfl
 i210:=by kernel_rfl
 i212:=by kernel_rfl
 i232:=by kernel_rfl
 i233:=by kernel_rfl
 m15:=by kernel_rfl
 m16:=by kernel_rfl
 m17:=by kernel_rfl
 m18:=by kernel_rfl
 m19:=by kernel_rfl
 c0:=by kernel_rfl
 c2:=by kernel_rfl
 c3:=by kernel_rfl
 c4:=by kernel_rfl
 c5:=by kernel_rfl
 c9:=by kernel_rfl
 c20:=by kernel_rfl
 c21:=by kernel_rfl
 c37:=by kernel_rfl
 c46:=by kernel_rfl
 c51:=by kernel_rfl
 c53:=by kernel_rfl
 c75:=by kernel_rfl
 c76:=by kernel_rfl
 c80:=by kernel_rfl
 c85:=by kernel_rfl
 c127:=by kernel_rfl
 c143:=by kernel_rfl
 c145:=by kernel_rfl
 c167:=by kernel_rfl
 c168:=by kernel_rfl
 c171:=by kernel_rfl
 c173:=by kernel_rfl
 c175:=by kernel_rfl
 c210:=by kernel_rfl
 c212:=by kernel_rfl
 c213:=by kernel_rfl
 c232:=by kernel_rfl
 c233:=by kernel_rfl}
open Go.RowKit in
theorem Tryz.qad_ok (s:ByteArray) (hmax:s.size≤9223372036854775806) (v:Int) (h:Lib.atoiAll s.data.toList=.ok v) (w:World) :
 Calls Tryz.prog 175 #[.string s] w fun e w'=>e=.returned (.tuple #[.int .i64 v,.nilIface])∧(w'=w∨∃t,w'=Lib.bytesWorld w 5 t):=Any.strconv_Atoi_ok Tryz.laysC172 s hmax v h w
open Go.RowKit in
theorem Tryz.qad_bad (s:ByteArray) (hlim:s.size≤281474976710656) (h1:∀n,Lib.atoiAll s.data.toList≠.ok n) (h2:Lib.atoiAll s.data.toList≠.range) (ev:Value) (w:World) (hv:w.cell? ⟨5,0,none⟩=some ev) (hev:ev=.nilIface∨∃te pe,ev=.iface te pe) :
 Calls Tryz.prog 175 #[.string s] w fun e w'=>∃N,e=.returned (.tuple #[.int .i64 (0),.iface 304 (.pointer (some ⟨N,0,none⟩))])∧w.heap.size≤N∧w'.heap[N]?=some (.cells #[.string ⟨#[65,116,111,105]⟩,.string s,ev] 333 (0,0))∧Below w.heap.size w w':=by
 cases h:Lib.atoiAll s.data.toList with
 |ok n=>exact absurd h (h1 n)
 |range=>exact absurd h h2
 |_=>exact Any.strconv_Atoi_syntax Tryz.laysC172 s hlim h ev w hv hev
open Go.RowKit in
theorem Tryz.qad_range (s:ByteArray) (hlim:s.size≤281474976710656) (h:Lib.atoiAll s.data.toList=.range) (ev:Value) (w:World) (hv:w.cell? ⟨6,0,none⟩=some ev) (hev:ev=.nilIface∨∃te pe,ev=.iface te pe) :
 Calls Tryz.prog 175 #[.string s] w fun e w'=>∃N,e=.returned (.tuple #[.int .i64 (Lib.atoiSat s.data.toList),.iface 304 (.pointer (some ⟨N,0,none⟩))])∧w.heap.size≤N∧w'.heap[N]?=some (.cells #[.string ⟨#[65,116,111,105]⟩,.string s,ev] 333 (0,0))∧Below w.heap.size w w':=Any.strconv_Atoi_range Tryz.laysC172 s hlim h ev w hv hev
def Tryz.lays217_ren:Go.Shelf.Ren:=⟨fun|217=>264|266=>328|n=>n,fun|9=>9|5=>5|3=>3|n=>n,fun|n=>n⟩
theorem Tryz.lays217:Go.Proofs.Lays.n217 Tryz.prog Tryz.lays217_ren:={
 mixed:=by kernel_rfl
 f217:=Tryz.func264.trans (congrArg some (by kernel_rfl))
 f266:=Tryz.func328.trans (congrArg some (by kernel_rfl))
 t3:=Tryz.underlying3
 a3:=Tryz.isAgg3
 z3:=Tryz.sizeOf3
 v3:=Tryz.zeroValue3
 t5:=Tryz.underlying5
 a5:=Tryz.isAgg5
 z5:=Tryz.sizeOf5
 v5:=Tryz.zeroValue5
 t9:=Tryz.underlying9
 a9:=Tryz.isAgg9
 z9:=Tryz.sizeOf9
 v9:=Tryz.zeroValue9}
open Go.RowKit Go.Lib in
theorem Tryz.qab (s:ByteArray) (c:Int) (w:World) :
 Calls Tryz.prog 264 #[.string s,.int .u8 c] w fun e w'=>e=.returned (.int .i64 (Lib.indexByte s.data.toList c.toNat.toUInt8))∧w'=w:=Any.stringslite_IndexByte Tryz.lays217 s c w
open Go.RowKit Go.Lib in
def Tryz.lays143_ren:Go.Shelf.Ren:=⟨fun|143=>270|219=>171|217=>264|225=>265|224=>266|267=>267|266=>328|314=>329|n=>n,fun|9=>9|3=>3|4=>4|5=>5|46=>118|146=>296|51=>164|n=>n,fun|1=>0|n=>n⟩
theorem Tryz.lays143:Go.Proofs.Lays.n143 Tryz.prog Tryz.lays143_ren:={
 mixed:=by kernel_rfl
 f143:=Tryz.func270.trans (congrArg some (by kernel_rfl))
 f217:=Tryz.func264.trans (congrArg some (by kernel_rfl))
 f219:=Tryz.func171.trans (congrArg some (by kernel_rfl))
 f224:=Tryz.func266.trans (congrArg some (by kernel_rfl))
 f225:=Tryz.func265.trans (congrArg some (by kernel_rfl))
 f266:=Tryz.func328.trans (congrArg some (by kernel_rfl))
 f267:=Tryz.func267.trans (congrArg some (by kernel_rfl))
 f314:=Tryz.func329.trans (congrArg some (by kernel_rfl))
 t3:=Tryz.underlying3
 a3:=Tryz.isAgg3
 z3:=Tryz.sizeOf3
 v3:=Tryz.zeroValue3
 t4:=Tryz.underlying4
 a4:=Tryz.isAgg4
 z4:=Tryz.sizeOf4
 v4:=Tryz.zeroValue4
 t5:=Tryz.underlying5
 a5:=Tryz.isAgg5
 z5:=Tryz.sizeOf5
 v5:=Tryz.zeroValue5
 t9:=Tryz.underlying9
 a9:=Tryz.isAgg9
 z9:=Tryz.sizeOf9
 v9:=Tryz.zeroValue9
 t46:=Tryz.underlying118
 a46:=Tryz.isAgg118
 z46:=Tryz.sizeOf118
 v46:=Tryz.zeroValue118
 t51:=Tryz.underlying164
 a51:=Tryz.isAgg164
 z51:=Tryz.sizeOf164
 v51:=Tryz.zeroValue164
 t146:=Tryz.underlying296
 a146:=Tryz.isAgg296
 z146:=Tryz.sizeOf296
 v146:=Tryz.zeroValue296
 g1:=by kernel_rfl}
open Go.RowKit Go.Lib in
theorem Tryz.qac_one (s:ByteArray) (c:UInt8) (w:World) :
 Calls Tryz.prog 270 #[.string s,.string ⟨#[c]⟩] w fun e w'=>e=.returned (.int .i64 (Lib.indexByte s.data.toList c))∧w'=w:=Any.strings_Index_one Tryz.lays143 s c w
def Tryz.lays138_ren:Go.Shelf.Ren:=⟨fun|138=>269|195=>330|218=>332|143=>270|219=>171|217=>264|225=>265|224=>266|267=>267|266=>328|314=>329|n=>n,fun|9=>9|3=>3|4=>4|5=>5|0=>0|46=>118|146=>296|51=>164|n=>n,fun|1=>0|n=>n⟩
theorem Tryz.lays138:Go.Proofs.Lays.n138 Tryz.prog Tryz.lays138_ren:={
 mixed:=by kernel_rfl
 f138:=Tryz.func269.trans (congrArg some (by kernel_rfl))
 f143:=Tryz.func270.trans (congrArg some (by kernel_rfl))
 f195:=Tryz.func330.trans (congrArg some (by kernel_rfl))
 f217:=Tryz.func264.trans (congrArg some (by kernel_rfl))
 f218:=Tryz.func332.trans (congrArg some (by kernel_rfl))
 f219:=Tryz.func171.trans (congrArg some (by kernel_rfl))
 f224:=Tryz.func266.trans (congrArg some (by kernel_rfl))
 f225:=Tryz.func265.trans (congrArg some (by kernel_rfl))
 f266:=Tryz.func328.trans (congrArg some (by kernel_rfl))
 f267:=Tryz.func267.trans (congrArg some (by kernel_rfl))
 f314:=Tryz.func329.trans (congrArg some (by kernel_rfl))
 t0:=Tryz.underlying0
 a0:=Tryz.isAgg0
 z0:=Tryz.sizeOf0
 v0:=Tryz.zeroValue0
 t3:=Tryz.underlying3
 a3:=Tryz.isAgg3
 z3:=Tryz.sizeOf3
 v3:=Tryz.zeroValue3
 t4:=Tryz.underlying4
 a4:=Tryz.isAgg4
 z4:=Tryz.sizeOf4
 v4:=Tryz.zeroValue4
 t5:=Tryz.underlying5
 a5:=Tryz.isAgg5
 z5:=Tryz.sizeOf5
 v5:=Tryz.zeroValue5
 t9:=Tryz.underlying9
 a9:=Tryz.isAgg9
 z9:=Tryz.sizeOf9
 v9:=Tryz.zeroValue9
 t46:=Tryz.underlying118
 a46:=Tryz.isAgg118
 z46:=Tryz.sizeOf118
 v46:=Tryz.zeroValue118
 t51:=Tryz.underlying164
 a51:=Tryz.isAgg164
 z51:=Tryz.sizeOf164
 v51:=Tryz.zeroValue164
 t146:=Tryz.underlying296
 a146:=Tryz.isAgg296
 z146:=Tryz.sizeOf296
 v146:=Tryz.zeroValue296
 g1:=by kernel_rfl}
open Go.RowKit Go.Lib in
theorem Tryz.qz_one (s:ByteArray) (c:UInt8) (w:World) :
 Calls Tryz.prog 269 #[.string s,.string ⟨#[c]⟩] w fun e w'=>e=.returned (.int .i64 (Lib.countByte s.data.toList c))∧w'=w:=Any.strings_Count_one Tryz.lays138 s c w
def Tryz.lays105_ren:Go.Shelf.Ren:=⟨fun|105=>207|212=>295|99=>296|165=>60|166=>27|170=>297|169=>30|263=>345|264=>346|206=>347|240=>59|241=>108|276=>107|277=>202|n=>n,fun|9=>9|3=>3|4=>4|20=>20|0=>0|46=>118|109=>271|5=>5|72=>68|76=>71|51=>164|146=>296|53=>166|148=>320|70=>65|37=>66|75=>70|127=>115|164=>151|80=>76|n=>n,fun|n=>n⟩
theorem Tryz.lays105:Go.Proofs.Lays.n105 Tryz.prog Tryz.lays105_ren:={
 mixed:=by kernel_rfl
 f99:=Tryz.func296.trans (congrArg some (by kernel_rfl))
 f105:=Tryz.func207.trans (congrArg some (by kernel_rfl))
 f165:=Tryz.func60.trans (congrArg some (by kernel_rfl))
 f166:=Tryz.func27.trans (congrArg some (by kernel_rfl))
 f169:=Tryz.func30.trans (congrArg some (by kernel_rfl))
 f170:=Tryz.func297.trans (congrArg some (by kernel_rfl))
 f206:=Tryz.func347.trans (congrArg some (by kernel_rfl))
 f212:=Tryz.func295.trans (congrArg some (by kernel_rfl))
 f240:=Tryz.func59.trans (congrArg some (by kernel_rfl))
 f241:=Tryz.func108.trans (congrArg some (by kernel_rfl))
 f263:=Tryz.func345.trans (congrArg some (by kernel_rfl))
 f264:=Tryz.func346.trans (congrArg some (by kernel_rfl))
 f276:=Tryz.func107.trans (congrArg some (by kernel_rfl))
 f277:=Tryz.func202.trans (congrArg some (by kernel_rfl))
 t0:=Tryz.underlying0
 a0:=Tryz.isAgg0
 z0:=Tryz.sizeOf0
 v0:=Tryz.zeroValue0
 t3:=Tryz.underlying3
 a3:=Tryz.isAgg3
 z3:=Tryz.sizeOf3
 v3:=Tryz.zeroValue3
 t4:=Tryz.underlying4
 a4:=Tryz.isAgg4
 z4:=Tryz.sizeOf4
 v4:=Tryz.zeroValue4
 t5:=Tryz.underlying5
 a5:=Tryz.isAgg5
 z5:=Tryz.sizeOf5
 v5:=Tryz.zeroValue5
 t9:=Tryz.underlying9
 a9:=Tryz.isAgg9
 z9:=Tryz.sizeOf9
 v9:=Tryz.zeroValue9
 t20:=Tryz.underlying20
 a20:=Tryz.isAgg20
 z20:=Tryz.sizeOf20
 v20:=Tryz.zeroValue20
 t37:=Tryz.underlying66
 a37:=Tryz.isAgg66
 z37:=Tryz.sizeOf66
 v37:=Tryz.zeroValue66
 t46:=Tryz.underlying118
 a46:=Tryz.isAgg118
 z46:=Tryz.sizeOf118
 v46:=Tryz.zeroValue118
 t51:=Tryz.underlying164
 a51:=Tryz.isAgg164
 z51:=Tryz.sizeOf164
 v51:=Tryz.zeroValue164
 t53:=Tryz.underlying166
 a53:=Tryz.isAgg166
 z53:=Tryz.sizeOf166
 v53:=Tryz.zeroValue166
 t70:=Tryz.underlying65
 a70:=Tryz.isAgg65
 z70:=Tryz.sizeOf65
 v70:=Tryz.zeroValue65
 t72:=Tryz.underlying68
 a72:=Tryz.isAgg68
 z72:=Tryz.sizeOf68
 v72:=Tryz.zeroValue68
 t75:=Tryz.underlying70
 a75:=Tryz.isAgg70
 z75:=Tryz.sizeOf70
 v75:=Tryz.zeroValue70
 t76:=Tryz.underlying71
 a76:=Tryz.isAgg71
 z76:=Tryz.sizeOf71
 v76:=Tryz.zeroValue71
 t109:=Tryz.underlying271
 a109:=Tryz.isAgg271
 z109:=Tryz.sizeOf271
 v109:=Tryz.zeroValue271
 t127:=Tryz.underlying115
 a127:=Tryz.isAgg115
 z127:=Tryz.sizeOf115
 v127:=Tryz.zeroValue115
 t146:=Tryz.underlying296
 a146:=Tryz.isAgg296
 z146:=Tryz.sizeOf296
 v146:=Tryz.zeroValue296
 t148:=Tryz.underlying320
 a148:=Tryz.isAgg320
 z148:=Tryz.sizeOf320
 v148:=Tryz.zeroValue320
 t164:=Tryz.underlying151
 a164:=Tryz.isAgg151
 z164:=Tryz.sizeOf151
 v164:=Tryz.zeroValue151}
theorem Tryz.Builder_Extra_105:Builder.Extra Tryz.prog Tryz.lays105_ren:={
 sizeBuilder:=by kernel_rfl
 liesBuilder:=by kernel_rfl
 t5:=Tryz.underlying5
 a5:=Tryz.isAgg5
 z5:=Tryz.sizeOf5
 v5:=Tryz.zeroValue5
 infoByte:=by kernel_rfl
 cellsByte:=by kernel_rfl
 sizeByte:=by kernel_rfl
 neB5:=by decide}
open Go.RowKit Go.Lib in
theorem Tryz.qv (s:ByteArray) (c:Nat) (w:World) (hc:c≤9223372036854775807) (hlen:s.size*c≤140737488355328) :
 Calls Tryz.prog 207 #[.string s,.int .i64 c] w fun e w'=>e=.returned (.string ⟨(Lib.repeatL s.data.toList c).toArray⟩)∧Below w.heap.size w w':=Any.strings_Repeat Tryz.lays105 Tryz.Builder_Extra_105 s c w hc hlen
end Go.Proofs
namespace Go.Proofs.YtpdenibljogamaaGreatDoor.Ev
open Go
open Go.Shelf Go.RowKit
set_option maxHeartbeats 1000000 in
set_option maxRecDepth 100000 in
theorem b95 {blk:Nat} {p v:Value} {w:World} (hp:p=.pointer none∨p=.pointer (some ⟨blk,0,none⟩)) (hb:w.heap[blk]?=some (.cells #[p,v] 68 (0,0))) :
 Calls Tryz.prog 59 #[.pointer (some ⟨blk,0,none⟩)] w fun e w'=>e=.returned (.tuple #[])∧w'.heap[blk]?=some (.cells #[.pointer (some ⟨blk,0,none⟩),v] 68 (0,0))∧(∀k,k≠blk→w'.heap[k]?=w.heap[k]?)∧w'.heap.size=w.heap.size∧w'.os=w.os∧w'.output=w.output∧w'.tape=w.tape:=by
 have c0:w.cell? ⟨blk,0,none⟩=some p:=by simp[World.cell?,hb]
 have hsize:(Tryz.prog.info? 68).map (·.size)=some 2:=kr;obtain ⟨j,hj,hjs⟩:=yaw.1 hsize;rcases hp with rfl|rfl
 ·have hsh:w.shape? blk=some (68,2):=by simp[World.shape?,hb]
  have hfz:w.frozen? ⟨blk,0,none⟩=false:=by simp[World.frozen?,hb]
  have hl:liesAt Tryz.prog Tryz.prog.depth 68 (2 / Tryz.prog.cellsOf 68) 0 68 1=true:=kr;obtain ⟨h1,h2⟩:=a3g (i:=0) (v:=.pointer (some ⟨blk,0,none⟩)) hb;have fin:(w.setCell ⟨blk,0,none⟩ (.pointer (some ⟨blk,0,none⟩))).heap[blk]?=some (.cells #[.pointer (some ⟨blk,0,none⟩),v] 68 (0,0))∧(∀k,k≠blk→(w.setCell ⟨blk,0,none⟩ (.pointer (some ⟨blk,0,none⟩))).heap[k]?=w.heap[k]?)∧(w.setCell ⟨blk,0,none⟩ (.pointer (some ⟨blk,0,none⟩))).heap.size=w.heap.size∧(w.setCell ⟨blk,0,none⟩ (.pointer (some ⟨blk,0,none⟩))).os=w.os∧(w.setCell ⟨blk,0,none⟩ (.pointer (some ⟨blk,0,none⟩))).output=w.output∧(w.setCell ⟨blk,0,none⟩ (.pointer (some ⟨blk,0,none⟩))).tape=w.tape:=⟨h1,h2⟩
  clear h1 h2 hb
  go_enter Tryz.func59,Tryz.ntmps59
  go_wp2
  rw[Lib.run_to_unsafe w ⟨blk,0,none⟩ Tryz.underlying65 Tryz.underlying151 hj (by rw[hjs];decide) hsh (Nat.zero_lt_succ 1)];simp only[Result.andThen];rw[Oper.upon_value]
  go_wp2
  rw[run_callFunc_extern Tryz.func107 kr kr kr (e:=Extern.AbiNoEscape.same) kr];rw[Lib.run_noEscape];simp only[Result.andThen];rw[Oper.upon_value]
  go_wp2
  rw[Lib.run_from_unsafe w ⟨blk,0,none⟩ Tryz.underlying151 Tryz.underlying65 hj hsh hl];simp only[Result.andThen];rw[Oper.upon_value]
  go_wp2
  go_end0
  exact ⟨rfl,fin⟩
 ·go_enter Tryz.func59,Tryz.ntmps59
  go_wp2
  rw[Lib.run_neq_ptr_same w _ Tryz.underlying65 hj]
  go_wp2
  go_end0
  exact ⟨rfl,hb,fun _ _=>rfl,rfl,rfl,rfl,rfl⟩
set_option maxHeartbeats 2000000 in
set_option maxRecDepth 100000 in
theorem b2j:a1v Tryz.prog 68 5 27:=by
 intro w blk p v l s hp hb hbuf hlen;unfold LIM at hlen;have e166:∀args w,(callFunc 27 args).run Tryz.prog w=.ok (.enter 27 args) w:=enters_of Tryz.func27 kr rfl;refine a29 e166 ?_;have hss:s.data.toList.length=s.size:=by rw[yaS];rfl
 have hib:(Tryz.prog.info? 5).map (fun i=>(i.zero,i.size,i.bytes))=some (some (.int .u8 0),1,1):=kr;obtain ⟨i0,hi,hz0,hz1,hz2⟩:=info_parts hib;have e240:∀args w,(callFunc 59 args).run Tryz.prog w=.ok (.enter 59 args) w:=enters_of Tryz.func59 kr rfl;have hblt:blk<w.heap.size:=(yad.1 hb).1
 go_enter Tryz.func27,Tryz.ntmps27
 go_wp2_with (go_at_fn 59;refine (b95 hp hb).mono ?_)
 rintro e w1 ⟨rfl,hbk,hk1,hs1,ho1,hu1,ht1⟩;have hbuf1:a6n w1 blk 5 l v:=by
  rcases hbuf with h|⟨bb,cap,cur,h1,h2,h3,h4,h5,h6,h7⟩
  ·exact .inl h
  ·exact .inr ⟨bb,cap,cur,h1,(hk1 bb h7).trans h2,h3,h4,h5,h6,h7⟩
 obtain ⟨hown,hob⟩:=hbuf1.own;have hne:v.ownBlock≠some blk:=by
  rcases hbuf1 with ⟨rfl,-⟩|⟨bb,cap,cur,rfl,-,-,-,-,-,h7⟩
  ·simp[Value.ownBlock]
  ·simpa[Value.ownBlock]using h7
 have c0:w1.cell? ⟨blk,0,none⟩=some (.pointer (some ⟨blk,0,none⟩)):=by rw[Lib.cell_of_heap hbk];rfl
 have c1:w1.cell? ⟨blk,1,none⟩=some v:=by rw[Lib.cell_of_heap hbk];rfl
 go_wp2_with (at_builtin;refine a0c rfl _ _ 66 9 rfl 5 i0 Tryz.underlying66 Tryz.underlying9 hi hz0 hz1 hz2 _ _ _ rfl hown s rfl ?c3 ?c4 ?_)
 case c3=>unfold maxLen;omega
 case c4=>omega
 intro v' w2 hown' hgrow hwhere;have hlt:blk<w1.heap.size:=by omega
 have hb2:w2.heap[blk]?=some (.cells #[.pointer (some ⟨blk,0,none⟩),v] 68 (0,0)):=by
  rw[hgrow.block blk hlt (fun e=>hne e.symm)];exact hbk
 have d0:w2.cell? ⟨blk,0,none⟩=some (.pointer (some ⟨blk,0,none⟩)):=by rw[Lib.cell_of_heap hb2];rfl
 have d1:w2.cell? ⟨blk,1,none⟩=some v:=by rw[Lib.cell_of_heap hb2];rfl
 have f1:w2.frozen? ⟨blk,1,none⟩=false:=Lib.frozen_of_heap hb2 1;have hbc:Lib.byteCells l++Lib.strCells s=Lib.byteCells (l++s.data.toList):=by simp[Lib.byteCells,Lib.strCells]
 have hbuf2:a6n w2 blk 5 (l++s.data.toList) v':=a6n.of (n:=l.length+s.size) (by rw[yaK,hss]) (by rw[←hbc];exact hown') hb2 (by decide);obtain ⟨ao,n',cap,hv'⟩:∃ao n' cap,v'=.slice ao n' cap:=by
  rcases hbuf2 with ⟨hv,_⟩|⟨g,cap,cur,hv,_⟩
  ·exact ⟨_,_,_,hv⟩
  ·exact ⟨_,_,_,hv⟩
 obtain ⟨q1,q2,q3,q4,q5,q6⟩:=a3g (i:=1) (v:=v') hb2;have fin:∃p' v'',(p'=.pointer none∨p'=.pointer (some ⟨blk,0,none⟩))∧(w2.setCell ⟨blk,1,none⟩ v').heap[blk]?=some (.cells #[p',v''] 68 (0,0))∧a6n (w2.setCell ⟨blk,1,none⟩ v') blk 5 (l++s.data.toList) v''∧a8c blk v v'' w (w2.setCell ⟨blk,1,none⟩ v'):=by
  refine ⟨_,v',.inr rfl,q1,?_,by have:=hgrow.size;omega,by rw[q4,hgrow.os,ho1],by rw[q5,hgrow.output,hu1],by rw[q6,hgrow.tape,ht1],fun b hb' hbne hbo=>?_,fun bb hbb=>?_⟩
  ·rcases hbuf2 with h|⟨bb,cap,cur,h1,h2,h3,h4,h5,h6,h7⟩
   ·exact .inl h
   ·exact .inr ⟨bb,cap,cur,h1,(q2 bb h7).trans h2,h3,h4,h5,h6,h7⟩
  ·rw[q2 b hbne,hgrow.block b (by omega) (fun e=>hbo (by rw[←hob];exact e.symm)),hk1 b hbne]
  ·rcases hwhere bb hbb with q|q
   ·exact .inl q
   ·exact .inr (by omega)
 clear q1 q2 q3 q4 q5 q6 hbuf2 hown' hgrow hbuf1 hown hwhere;subst hv'
 go_wp2
 go_ret2
 exact ⟨_,rfl,fin⟩
end Go.Proofs.YtpdenibljogamaaGreatDoor.Ev
namespace Go.Proofs.YtpdenibljogamaaGreatDoor
section
set_option maxRecDepth 100000
open Ev
open Go (IntKind)
open Go
theorem c3d:∀k,e7 (ccK k)
 |.kOff=>a96
 |.ki64=>e7.one (d6.int _)
 |.ku8=>e7.one (d6.int _)
 |.kstr=>e7.one d6.str
 |.kOutcome=>a2x
 |.kSOff=>e7.one (d6.lst _)
 |.kLoan=>a68
 |.kItem=>a67
 |.kMove=>a69
 |.kPatron=>a3u
 |.kHold=>a66
 |.kCharge=>a3t
 |.kRule=>a7a
 |.ku64=>e7.one (d6.int _)
 |.kerr=>e7.one d6.ifc
theorem c8c:SgOk sg:=c2a (cc:=ccK) (fun _=>rfl) (fun _=>rfl) c3d (by intro k x;cases k<;>rfl) (by intro k x;cases k<;>rfl) (by intro k;cases k<;>decide)
theorem eok:∀t,c32 t=true→EqOk Tryz.prog t:=b0e kr (b0e kr (c0n))
theorem c6n:BlSpec Tryz.prog sg ⟨.ku8,blI,blJ,68,5,c0s 27 30⟩:=b24 (k:=Kd.ku8) rfl b75 rfl b9o kr b2j (a9r Tryz.lays169 Tryz.Builder_Extra_169)
theorem good:GoodP Tryz.prog sg:=⟨c8b kr kr,c8c,eok,(fun _ _ h=>by cases h),(fun _ h=>by cases h;exact c6n),(fun _ h=>by cases h;exact b9p id rfl (fun _=>rfl) (fun s=>List.map_id _) (fun xs=>by rw[List.map_id]))⟩
end
section
open Go Ev
open Go.Lib Go.RowKit
set_option maxRecDepth 100000
theorem b6l:∀(f u:Nat) (a:List UInt8),u<10 ^ f→b0c f u a=if f=0 then a else Lib.decDigits u++a:=by
 intro f
 induction f with
 |zero=>intro u a _;rfl
 |succ f ih=>
  intro u a h;rw[yah (by omega),Lib.decDigits];simp only[b0c,c6,yac];by_cases h1:u<10
  ·rw[yaq h1,dif_pos h1];rfl
  ·rw[yah h1,dif_neg h1,ih _ _ (by rw[Nat.pow_succ]at h;omega)];have hf:f≠0:=fun e=>by subst e;simp at h;omega
   rw[yah hf,ybh];rfl
theorem c0u {n:Int} {s:List UInt8} (h:qd n=some s):(-9223372036854775808≤n∧n≤9223372036854775807)∧s=Lib.itoa n:=by
 unfold qd at h;rw[c6]at h;split at h
 ·rename_i hr;rw[yab,yac,yac]at hr;cases h
  refine ⟨hr,?_⟩;have hd:b0c 20 n.natAbs []=Lib.decDigits n.natAbs:=by
   rw[b6l 20 _ _ (by have:(10:Nat) ^ 20=100000000000000000000:=rfl;omega)];simp
  unfold Lib.itoa;rw[hd,c6];by_cases hn:n<0
  ·simp[hn]
  ·simp only[hn,decide_false,if_false,yaY];rw[show n.toNat=n.natAbs by omega]
 ·cases h
theorem b2g {w:World} {I:Nat→Nat→Prop} {mb:List Nat} (h:a4y sg w I) (hb:b07 sg w mb):Lib.TabIs Tryz.prog w "internal/strconv.uint64pow10" .u64 Lib.pow10Tab:=by
 obtain ⟨-,cs,t,m,h1,h2⟩:=hb 4 .ku64 d3 kr kr;unfold Lib.TabIs World.var?;rw[show Tryz.prog.globalNamed "internal/strconv.uint64pow10" = some 4 by kernel_rfl];simp only[ya4,h1];have hlen:d3.length=20:=by simp[d3]
 replace h2:cs.size=d3.length*1:=h2;refine congrArg some (Array.ext ?_ (fun i hi1 hi2=>?_))
 ·rw[h2];simp[hlen,Lib.pow10Tab]
 ·have hl:i<d3.length:=by omega
  obtain ⟨v,k1,-,k3⟩:=h 4 .ku64 d3 kr i hl 0 (.int .u64 d3[i]) rfl;rw[k3.int_inv]at k1;replace k1:w.cell? ⟨4,i*1+0,none⟩=some (.int .u64 d3[i]):=k1;rw[ybd,yaV]at k1;unfold World.cell? at k1;simp only[h1]at k1;have e:cs[i]=.int .u64 d3[i]:=by simpa[hi1]using k1
  rw[e];simp[d3,Lib.pow10Tab]
theorem c0t {w:World} {I J:Nat→Nat→Prop} {vs:Array Value} {n:Int} (ha:a49 sg w I J vs [.int .i64 n]):vs = #[.int .i64 n]:=by
 obtain ⟨h1,h2⟩:=ha;have h1:vs.size=1:=h1;have h0:=h2 0 vs[0] (.int .i64 n) (yaf (by omega)) rfl;apply Array.ext
 ·simp[h1]
 ·intro i hi1 hi2;have:i=0:=by omega
  subst this;simpa using h0.int_inv
theorem c6s:fnB Tryz.prog 61 Tryz.f61 []=true:=kr
theorem b3l:∀ds a r,a2h.dec ds=some a→c4a a=some r→Con Tryz.prog sg 61 ds [] (a44.enc r) []:=by
 intro ds a r hd hf;obtain ⟨code,fok,-,-⟩:=o0 Tryz.func61 c6s;have hac:e7 a2h:=e7.cons (d6.int _) e7.nil;have hw:=hac ds a hd;obtain ⟨n,⟨⟩⟩:=a;unfold Con;rw[show sg.md 61=.data by kernel_rfl];intro _ w I J vs hp ha;have hv:=c0t (n:=n) (hw.args ha);subst hv;obtain ⟨⟨h1,h2⟩,hr⟩:=c0u (n:=n) (s:=r) hf;subst hr;unfold m9;rw[MuLone.run_callFunc_enter fok.at_ fok.name fok.body _ w];refine (Tryz.qd n h1 h2 w (b2g hp.gl hp.gb)).mono ?_;rintro e w' ⟨rfl,k,os,rfl⟩;have hb:=below_grow w.heap.size w (yam _) k os;exact ⟨I,⟨hb.size,hb.os,hb.output,hb.tape,hb.block,fun _ _ h=>h,fun _ _ h=>.inl h,fun b o hi=>yar (hp.ib b o hi) hb.size⟩,.str ⟨(Lib.itoa n).toArray⟩⟩
end
section
open Go Ev
open Go.Lib Go.RowKit
set_option maxRecDepth 100000
theorem a5b {f:Nat} (hmd:sg.md f=.data) (henter:∀args w,(callFunc f args).run Tryz.prog w=.ok (.enter f args) w) {ds:List DD} {d:DD}
 (h:∀w I J vs,Pre sg w I J []→a49 sg w I J vs ds→Calls Tryz.prog f vs w fun e w'=>∃v,e=.returned v∧Below w.heap.size w w'∧DR sg w' I I v d):Con Tryz.prog sg f ds [] d []:=by
 unfold Con;rw[hmd];intro _ w I J vs hp ha;refine a29 henter ((h w I J vs hp ha).mono ?_);rintro e w' ⟨v,rfl,hb,hd⟩;exact ⟨v,rfl,I,⟨hb.size,hb.os,hb.output,hb.tape,hb.block,fun _ _ h=>h,fun _ _ h=>.inl h,fun b o hi=>yar (hp.ib b o hi) hb.size⟩,hd⟩
theorem c2y {w:World} {I J:Nat→Nat→Prop} {vs:Array Value} {d:DD} (ha:a49 sg w I J vs [d]):∃v,vs = #[v]∧DR sg w I J v d:=by
 obtain ⟨h1,h2⟩:=ha;have h1:vs.size=1:=h1;refine ⟨vs[0],?_,h2 0 vs[0] d (yaf (by omega)) rfl⟩;apply Array.ext
 ·simp[h1]
 ·intro i hi1 hi2;have:i=0:=by omega
  subst this;rfl
theorem a6v {w:World} {I J:Nat→Nat→Prop} {vs:Array Value} {d e:DD} (ha:a49 sg w I J vs [d,e]):∃v u,vs = #[v,u]∧DR sg w I J v d∧DR sg w I J u e:=by
 obtain ⟨h1,h2⟩:=ha;have h1:vs.size=2:=h1;refine ⟨vs[0],vs[1],?_,h2 0 vs[0] d (yaf (by omega)) rfl,h2 1 vs[1] e (yaf (by omega)) rfl⟩;apply Array.ext
 ·simp[h1]
 ·intro i hi1 hi2;rcases (by omega:i=0∨i=1) with rfl|rfl<;>rfl
theorem a6k {w:World} {I J:Nat→Nat→Prop} {v:Value} {s:List UInt8} (h:DR sg w I J v (.str s)):v=.string ⟨s.toArray⟩:=by
 cases h
 rfl
theorem c22 (s:List UInt8):(⟨s.toArray⟩:ByteArray).size=s.length:=rfl
theorem b0h {w:World} {I:Nat→Nat→Prop} {n:Nat} {xs:List Bool} (hg:a7k n=some ⟨.kerr,xs⟩) (hx:xs=[false]) (h:a4y sg w I):∃t v,w.cell? ⟨n,0,none⟩=some (.iface t v):=by
 subst hx;obtain ⟨v,h1,-,h2⟩:=h n .kerr [false] hg 0 (by simp) 0 (.ifc false) rfl;cases h2 with
 |ifcS t x=>exact ⟨t,x,by simpa using h1⟩
theorem b3s {w:World} {I:Nat→Nat→Prop} {n:Int} {v:Value} {b:Bool} (h:DR sg w I I v (.ifc b)):DR sg w I I (.tuple #[.int .i64 n,v]) (.tup [.int .i64 n,.ifc b]):=by
 refine .tup _ _ rfl fun i u d h1 h2=>?_
 match i,h1,h2 with
 |0,h1,h2=>cases h1;cases h2;exact .int _ _
 |1,h1,h2=>cases h1;cases h2;exact h
 |i+2,h1,h2=>simp at h1
theorem c0b:∀ds a r,b2p.dec ds=some a→b8l a=some r→Con Tryz.prog sg 175 ds [] (b8v.enc r) []:=by
 intro ds a r hd hf;have hac:e7 b2p:=e7.cons d6.str e7.nil;have hw:=hac ds a hd;obtain ⟨s,⟨⟩⟩:=a;refine a5b kr (enters_of Tryz.func175 kr rfl) fun w I J vs hp ha=>?_
 obtain ⟨v,rfl,h1⟩:=c2y (d:=.str s) (hw.args ha);rw[a6k h1];have hf:qad s=some r:=hf;unfold qad at hf;rw[c6]at hf;split at hf
 rotate_left
 ·cases hf
 rename_i hl;rw[yac]at hl;have hl:s.length≤1073741824:=hl;have hsz:(⟨s.toArray⟩:ByteArray).size=s.length:=rfl;have hf:=yaL hf;cases hn:Lib.atoiAll s with
 |ok n=>
  rw[hn]at hf;subst hf;refine (Tryz.qad_ok ⟨s.toArray⟩ (by omega) n hn w).mono ?_;rintro e w' ⟨rfl,hW⟩;refine ⟨_,rfl,?_,b3s .ifcN⟩;rcases hW with rfl|⟨t,rfl⟩
  ·exact Below.refl _ _
  ·exact Lib.bytesWorld_below _ _ _
 |range=>
  rw[hn]at hf;subst hf;obtain ⟨t,x,hc⟩:=b0h (n:=6) rfl rfl hp.gl;refine (Tryz.qad_range ⟨s.toArray⟩ (by omega) hn _ w hc (.inr ⟨t,x,rfl⟩)).mono ?_;rintro e w' ⟨N,rfl,-,-,hb⟩;exact ⟨_,rfl,hb,b3s (.ifcS _ _)⟩
 |_=>
  rw[hn]at hf;subst hf;obtain ⟨t,x,hc⟩:=b0h (n:=5) rfl rfl hp.gl;refine (Tryz.qad_bad ⟨s.toArray⟩ (by omega) (fun n e=>by cases hn.symm.trans e) (fun e=>by cases hn.symm.trans e) _ w hc (.inr ⟨t,x,rfl⟩)).mono ?_;rintro e w' ⟨N,rfl,-,-,hb⟩;exact ⟨_,rfl,hb,b3s (.ifcS _ _)⟩
theorem b99:∀ds a r,b2n.dec ds=some a→b8j a=some r→Con Tryz.prog sg 264 ds [] (b8t.enc r) []:=by
 intro ds a r hd hf;have hac:e7 b2n:=e7.cons d6.str (e7.cons (d6.int _) e7.nil);have hw:=hac ds a hd;obtain ⟨s,c,⟨⟩⟩:=a;refine a5b kr (enters_of Tryz.func264 kr rfl) fun w I J vs hp ha=>?_
 obtain ⟨v,u,rfl,h1,h2⟩:=a6v (d:=.str s) (e:=.int .u8 c) (hw.args ha);rw[a6k h1,h2.int_inv];have hf:some (Lib.indexByte s c.toNat.toUInt8)=some r:=hf;cases hf
 refine (Tryz.qab ⟨s.toArray⟩ c w).mono ?_;rintro e w' ⟨rfl,rfl⟩;exact ⟨_,rfl,Below.refl _ _,.int _ _⟩
theorem b8c:∀ds a r,b9e.dec ds=some a→c4e a=some r→Con Tryz.prog sg 207 ds [] (c5c.enc r) []:=by
 intro ds a r hd hf;have hac:e7 b9e:=e7.cons d6.str (e7.cons (d6.int _) e7.nil);have hw:=hac ds a hd;obtain ⟨s,n,⟨⟩⟩:=a;refine a5b kr (enters_of Tryz.func207 kr rfl) fun w I J vs hp ha=>?_
 obtain ⟨v,u,rfl,h1,h2⟩:=a6v (d:=.str s) (e:=.int .i64 n) (hw.args ha);rw[a6k h1,h2.int_inv];have hf:qv s n=some r:=hf;unfold qv at hf;rw[c6]at hf;split at hf
 ·rename_i hl;simp only[yab,yac]at hl;obtain ⟨l0,l1,l2⟩:=hl;cases hf
  have hn:n=(n.toNat:Int):=by omega
  have h:=Tryz.qv ⟨s.toArray⟩ n.toNat w (by omega) (by rw[c22];omega);rw[←hn]at h;refine h.mono ?_;rintro e w' ⟨rfl,hb⟩;exact ⟨_,rfl,hb,.str ⟨(Lib.repeatL s n.toNat).toArray⟩⟩
 ·cases hf
theorem b8a:∀ds a r,b9d.dec ds=some a→c4d a=some r→Con Tryz.prog sg 28 ds [] (c5b.enc r) []:=by
 intro ds a r hd hf;have hac:e7 b9d:=e7.cons (d6.lst _) (e7.cons d6.str e7.nil);have hw:=hac ds a hd;obtain ⟨l,sep,⟨⟩⟩:=a;refine a5b kr (enters_of Tryz.func28 kr rfl) fun w I J vs hp ha=>?_
 obtain ⟨v,u,rfl,h1,h2⟩:=a6v (d:=.lst Kd.kstr l) (e:=.str sep) (hw.args ha);rw[a6k h2];have hf:qt l sep=some r:=hf;unfold qt at hf;rw[c6]at hf;split at hf
 rotate_left
 ·cases hf
 rename_i hl;simp only[yab,yac]at hl;obtain ⟨l1,l2⟩:=hl;cases hf
 cases h1 with
 |lst0 ad cap k h=>
  refine (Tryz.qt_none ad cap ⟨sep.toArray⟩ w).mono ?_;rintro e w' ⟨rfl,rfl⟩;exact ⟨_,rfl,Below.refl _ _,.str ⟨#[]⟩⟩
 |lst b off cap k xs cv hcap hc hv=>
  have hsz:sg.sz Kd.kstr=1:=rfl;have hcell:∀(i:Nat) (hi:i<l.length),w.cell? ⟨b,off+i,none⟩=some (.string ⟨(l[i]:List UInt8).toArray⟩):=fun i hi=>by
   obtain ⟨e1,-⟩:=hc i 0 hi (by rw[hsz];omega);rw[hsz,ybd,yaV]at e1;have e2:=hv i hi 0 (.str l[i]) rfl;rw[e1,a6k e2]
  by_cases h0:l.length=0
  ·have:l=[]:=yaZ.1 h0;subst this;refine (Tryz.qt_none (some ⟨b,off,none⟩) cap ⟨sep.toArray⟩ w).mono ?_;rintro e w' ⟨rfl,rfl⟩;exact ⟨_,rfl,Below.refl _ _,.str ⟨#[]⟩⟩
  ·have hbk:b<w.heap.size:=hp.ib _ _ (hc 0 0 (by omega) (by rw[hsz];omega)).2;have hmap:((l.map fun x:List UInt8=>(⟨x.toArray⟩:ByteArray)).map (·.data.toList))=l:=by
    rw[List.map_map];exact List.map_id l
   have h:=Tryz.qt b off cap (l.map fun x:List UInt8=>(⟨x.toArray⟩:ByteArray)) ⟨sep.toArray⟩ w (fun j x hx=>by
    rw[yaD,yaw]at hx;obtain ⟨y,hy,rfl⟩:=hx;obtain ⟨hj,rfl⟩:=yaz.1 hy;exact hcell j hj) hbk (by rw[ybc];omega) (by rw[ybc];exact hcap) (by rw[hmap];exact ya9 l2 (by omega))
   rw[hmap,ybc]at h;refine h.mono ?_;rintro e w' ⟨rfl,hb⟩;exact ⟨_,rfl,hb,.str ⟨(Lib.join l sep).toArray⟩⟩
theorem c0a:∀ds a r,b2o.dec ds=some a→b8k a=some r→Con Tryz.prog sg 270 ds [] (b8u.enc r) []:=by
 intro ds a r hd hf;have hac:e7 b2o:=e7.cons d6.str (e7.cons d6.str e7.nil);have hw:=hac ds a hd;obtain ⟨s,sep,⟨⟩⟩:=a;have key:∃c,sep=[c]∧r=Lib.indexByte s c:=by
  have hf:qac s sep=some r:=hf;unfold qac at hf;split at hf
  ·exact ⟨_,rfl,(yaL hf).symm⟩
  ·cases hf
 clear hf hd;obtain ⟨c,rfl,rfl⟩:=key;refine a5b kr (enters_of Tryz.func270 kr rfl) fun w I J vs hp ha=>?_
 obtain ⟨v,u,rfl,h1,h2⟩:=a6v (d:=.str s) (e:=.str [c]) (hw.args ha);rw[a6k h1,a6k h2];refine (Tryz.qac_one ⟨s.toArray⟩ c w).mono ?_;rintro e w' ⟨rfl,rfl⟩;exact ⟨_,rfl,Below.refl _ _,.int _ _⟩
theorem c3z:∀ds a r,b57.dec ds=some a→c4f a=some r→Con Tryz.prog sg 269 ds [] (c5d.enc r) []:=by
 intro ds a r hd hf;have hac:e7 b57:=e7.cons d6.str (e7.cons d6.str e7.nil);have hw:=hac ds a hd;obtain ⟨s,sep,⟨⟩⟩:=a;have key:∃c,sep=[c]∧r=((Lib.countByte s c:Nat):Int):=by
  have hf:qz s sep=some r:=hf;unfold qz at hf;split at hf
  ·exact ⟨_,rfl,(yaL hf).symm⟩
  ·cases hf
 clear hf hd;obtain ⟨c,rfl,rfl⟩:=key;refine a5b kr (enters_of Tryz.func269 kr rfl) fun w I J vs hp ha=>?_
 obtain ⟨v,u,rfl,h1,h2⟩:=a6v (d:=.str s) (e:=.str [c]) (hw.args ha);rw[a6k h1,a6k h2];refine (Tryz.qz_one ⟨s.toArray⟩ c w).mono ?_;rintro e w' ⟨rfl,rfl⟩;exact ⟨_,rfl,Below.refl _ _,.int _ _⟩
end
section
set_option maxRecDepth 100000
open Ev
open Go (IntKind)
open Go
theorem c3y:SG Tryz.prog sg 39 @b89:=c70 (loops:=l0) (ids:=[]) good Tryz.func39 kr kr cg0 e8 (fun a=>kr) kr
def c7o {R:Type}:Nat→Sm R:=cl 28 b85 (cl 39 b89 (cl 61 c5l (cl 175 c17 (cl 207 c5u (cl 264 c15 (cl 269 c5v (cl 270 c16 c0)))))))
theorem b96:CG Tryz.prog sg @c7o:=(cgc (sgP b8a) (cgc c3y (cgc (sgP b3l) (cgc (sgP c0b) (cgc (sgP b8c) (cgc (sgP b99) (cgc (sgP c3z) (cgc (sgP c0a) cg0))))))))
def c7j:List Nat:=[10,11,13,15,17,19,23,25,26,29,32,33,34,35,36,40,41,42,44,49,50,53,54,55,56,57,58,62,65,66,67,68,71,87,88,89,90,95,97,98,99,100,101,102,104,110,111,114,123,124,125,126,130,171,172,173,174,179,188,195,198,204,205,206,271,286,287,294]
theorem c6u:c2l Tryz.prog c7j=true:=kr
theorem b7q:b1h Tryz.prog sg c7j @c7o 40 10 [] [] (fun d bs=>some (d,bs))=some (a2q.enc true,[]):=kr
theorem c3t:∀ds a r,c2u.dec ds=some a→c4b a=some r→Con Tryz.prog sg 10 ds [] (a2q.enc r) []:=c71 (rc:=a2q) (r0:=true) good c6u b96 b7q
end
section
set_option maxRecDepth 100000
open Ev
open Go (IntKind)
open Go
noncomputable abbrev ZP:=Tryz.prog
theorem c3u:SG ZP sg 65 @c5s:=a7b good Tryz.func65 kr kr cg0 (fun a=>kr)
theorem c3m:SG ZP sg 32 @b80:=a7b good Tryz.func32 kr kr (cgc c3u cg0) (fun a=>kr)
theorem b79:SG ZP sg 34 @b83:=a7b good Tryz.func34 kr kr cg0 (fun a=>kr)
theorem c38:fnB ZP 40 Tryz.f40 [2]=true:=kr
theorem c28:CG ZP sg @b9x:=(cgc b79 cg0)
theorem c1c:d9 ZP sg 0 Tryz.f40 @b0w 2:=a0y b4j good Tryz.func40 c38 c28 e8 (fun a=>kr) kr (fun _ _=>rfl)
theorem c3o:SG ZP sg 40 @c5o:=b1k (loops:=b0w) good Tryz.func40 c38 kr c28 (all_cons c1c e8) (fun a=>kr)
theorem b98:SG ZP sg 33 @b5h:=a7b good Tryz.func33 kr kr (cgc b79 (cgc c3o cg0)) (fun a=>kr)
theorem c36:fnB ZP 36 Tryz.f36 [2]=true:=kr
theorem c25:CG ZP sg @b9u:=cg0
theorem c09:d9 ZP sg 0 Tryz.f36 @b0t 2:=a0y b4g good Tryz.func36 c36 c25 e8 (fun a=>kr) kr (fun _ _=>rfl)
theorem c3k:SG ZP sg 36 @b8z:=b1k (loops:=b0t) good Tryz.func36 c36 kr c25 (all_cons c09 e8) (fun a=>kr)
theorem c35:fnB ZP 35 Tryz.f35 [2]=true:=kr
theorem c27:CG ZP sg @b9w:=(cgc c3k cg0)
theorem c1b:d9 ZP sg 0 Tryz.f35 @b0v 2:=a0y b4i good Tryz.func35 c35 c27 e8 (fun a=>kr) kr (fun _ _=>rfl)
theorem c3n:SG ZP sg 35 @b81:=b1k (loops:=b0v) good Tryz.func35 c35 kr c27 (all_cons c1b e8) (fun a=>kr)
theorem c0q:fnB ZP 13 Tryz.f13 [4,11]=true:=kr
theorem b92:CG ZP sg @b9q:=(cgc c3m (cgc b98 (cgc c3n cg0)))
theorem c03:d9 ZP sg 0 Tryz.f13 @a6b 4:=a0y b4a good Tryz.func13 c0q b92 e8 (fun a=>kr) kr (fun _ _=>rfl)
theorem b61:d9 ZP sg 0 Tryz.f13 @a6b 11:=a0y b0l good Tryz.func13 c0q b92 e8 (fun a=>kr) kr (fun _ _=>rfl)
theorem b77:SG ZP sg 13 @b8x:=b1k (loops:=a6b) good Tryz.func13 c0q kr b92 (all_cons c03 (all_cons b61 e8)) (fun a=>kr)
theorem c0e:SG ZP sg 204 @b5k:=a7b good Tryz.func204 kr kr cg0 (fun a=>kr)
theorem b8d:SG ZP sg 294 @b88:=a7b good Tryz.func294 kr kr cg0 (fun a=>kr)
theorem b8i:fnB ZP 205 Tryz.f205 [4]=true:=kr
theorem c3a:CG ZP sg @b9z:=(cgc b8d cg0)
theorem c1e:d9 ZP sg 0 Tryz.f205 @b0y 4:=a0y b4l good Tryz.func205 b8i c3a e8 (fun a=>kr) kr (fun _ _=>rfl)
theorem c3q:SG ZP sg 205 @b82:=b1k (loops:=b0y) good Tryz.func205 b8i kr c3a (all_cons c1e e8) (fun a=>kr)
theorem c3v:SG ZP sg 206 @b84:=a7b good Tryz.func206 kr kr (cgc b8d cg0) (fun a=>kr)
theorem b3w:fnB ZP 110 Tryz.f110 [4,8]=true:=kr
theorem b93:CG ZP sg @b9s:=(cgc c0e (cgc c3q (cgc c3v cg0)))
theorem c05:d9 ZP sg 0 Tryz.f110 @a6c 4:=a0y b4c good Tryz.func110 b3w b93 e8 (fun a=>kr) kr (fun _ _=>rfl)
theorem c06:d9 ZP sg 0 Tryz.f110 @a6c 8:=a0y b4d good Tryz.func110 b3w b93 e8 (fun a=>kr) kr (fun _ _=>rfl)
theorem c3i:SG ZP sg 110 @c5k:=b1k (loops:=a6c) good Tryz.func110 b3w kr b93 (all_cons c05 (all_cons c06 e8)) (fun a=>kr)
theorem c3g:SG ZP sg 111 @c5j:=a7b good Tryz.func111 kr kr (cgc (sgP b3l) (cgc (sgP b8c) cg0)) (fun a=>kr)
theorem c0h:SG ZP sg 62 @c18:=a7b good Tryz.func62 kr kr (cgc c3i (cgc c3g cg0)) (fun a=>kr)
theorem c3x:SG ZP sg 29 @b87:=c7z (loops:=l0) (ids:=[]) good Tryz.func29 kr kr (cgc (sgP b3l) (cgc c0h cg0)) e8 (fun a=>kr)
theorem c33:fnB ZP 11 Tryz.f11 [6]=true:=kr
theorem c29:CG ZP sg @b9y:=(cgc b77 (cgc (sgP b8a) (cgc c3x cg0)))
theorem c1d:d9 ZP sg 0 Tryz.f11 @b0x 6:=a0y b4k good Tryz.func11 c33 c29 e8 (fun a=>kr) kr (fun _ _=>rfl)
theorem c3p:SG ZP sg 11 @c5p:=b1k (loops:=b0x) good Tryz.func11 c33 kr c29 (all_cons c1d e8) (fun a=>kr)
theorem c0c:SG ZP sg 37 @b5i:=a7b good Tryz.func37 kr kr cg0 (fun a=>kr)
theorem c0d:SG ZP sg 38 @b5j:=a7b good Tryz.func38 kr kr cg0 (fun a=>kr)
theorem b3y:fnB ZP 14 Tryz.f14 [4,10,13,18]=true:=kr
theorem b3h:CG ZP sg @b9r:=(cgc c0c (cgc c0d cg0))
theorem c04:d9 ZP sg 0 Tryz.f14 @a18 4:=a0y b4b good Tryz.func14 b3y b3h e8 (fun a=>kr) kr (fun _ _=>rfl)
theorem b0p:d9 ZP sg 0 Tryz.f14 @a18 13:=a0y b0n good Tryz.func14 b3y b3h e8 (fun a=>kr) kr (fun _ _=>rfl)
theorem b62:d9 ZP sg 0 Tryz.f14 @a18 10:=a0y b0m good Tryz.func14 b3y b3h (all_cons b0p e8) (fun a=>kr) kr (fun _ _=>rfl)
theorem b63:d9 ZP sg 0 Tryz.f14 @a18 18:=a0y b0o good Tryz.func14 b3y b3h e8 (fun a=>kr) kr (fun _ _=>rfl)
theorem b78:SG ZP sg 14 @b8y:=b1k (loops:=a18) good Tryz.func14 b3y kr b3h (all_cons c04 (all_cons b62 (all_cons b0p (all_cons b63 e8)))) (fun a=>kr)
theorem c39:fnB ZP 63 Tryz.f63 [2]=true:=kr
theorem c26:CG ZP sg @b9v:=cg0
theorem c1a:d9 ZP sg 0 Tryz.f63 @b0u 2:=a0y b4h good Tryz.func63 c39 c26 e8 (fun a=>kr) kr (fun _ _=>rfl)
theorem c3l:SG ZP sg 63 @c5n:=b1k (loops:=b0u) good Tryz.func63 c39 kr c26 (all_cons c1a e8) (fun a=>kr)
theorem c0g:SG ZP sg 208 @b5m:=a7b good Tryz.func208 kr kr cg0 (fun a=>kr)
theorem b8b:SG ZP sg 210 @b86:=a7b good Tryz.func210 kr kr cg0 (fun a=>kr)
theorem c3h:SG ZP sg 209 @b8w:=a7b good Tryz.func209 kr kr (cgc b8b cg0) (fun a=>kr)
theorem b3x:fnB ZP 112 Tryz.f112 [4,7]=true:=kr
theorem b94:CG ZP sg @b9t:=(cgc c0g (cgc c3h (cgc b8b cg0)))
theorem c07:d9 ZP sg 0 Tryz.f112 @a6d 4:=a0y b4e good Tryz.func112 b3x b94 e8 (fun a=>kr) kr (fun _ _=>rfl)
theorem c08:d9 ZP sg 0 Tryz.f112 @a6d 7:=a0y b4f good Tryz.func112 b3x b94 e8 (fun a=>kr) kr (fun _ _=>rfl)
theorem c3j:SG ZP sg 112 @c5m:=b1k (loops:=a6d) good Tryz.func112 b3x kr b94 (all_cons c07 (all_cons c08 e8)) (fun a=>kr)
theorem b8h:fnB ZP 113 Tryz.f113 [3]=true:=kr
theorem c3b:CG ZP sg @b90:=cg0
theorem c1f:d9 ZP sg 0 Tryz.f113 @b0z 3:=a0y b4m good Tryz.func113 b8h c3b e8 (fun a=>kr) kr (fun _ _=>rfl)
theorem c3r:SG ZP sg 113 @c5q:=b1k (loops:=b0z) good Tryz.func113 b8h kr c3b (all_cons c1f e8) (fun a=>kr)
theorem c0i:SG ZP sg 64 @c19:=a7b good Tryz.func64 kr kr (cgc c3j (cgc c3r cg0)) (fun a=>kr)
theorem c0f:SG ZP sg 31 @b5l:=a7b good Tryz.func31 kr kr (cgc c3l (cgc c0i cg0)) (fun a=>kr)
theorem c34:fnB ZP 12 Tryz.f12 [6]=true:=kr
theorem c3c:CG ZP sg @b91:=(cgc b78 (cgc c0f cg0))
theorem c1g:d9 ZP sg 0 Tryz.f12 @b00 6:=a0y b4n good Tryz.func12 c34 c3c e8 (fun a=>kr) kr (fun _ _=>rfl)
theorem c3s:SG ZP sg 12 @c5r:=b1k (loops:=b00) good Tryz.func12 c34 kr c3c (all_cons c1g e8) (fun a=>kr)
theorem c3w:SG ZP sg 3 @c5t:=a7b good Tryz.func3 kr kr (cgc (sgP c3t) (cgc c3p (cgc c3s (cgc b77 (cgc b78 cg0))))) (fun a=>kr)
end
section
open Ev
open Go (IntKind)
section
variable {α β σ X:Type}
theorem b1p {step:α→Option (α⊕β)}:∀{n m:Nat} {a:α} {b:β},n≤m→y6 step n a=some b→y6 step m a=some b:=by
 intro n
 induction n with
 |zero=>intro m a b _ h;cases h
 |succ n ih=>
  intro m a b hm h;obtain ⟨m,rfl⟩:∃k,m=k+1:=⟨m-1,by omega⟩
  simp only[y6]at h ⊢;cases h1:step a with
  |none=>rw[h1]at h;cases h
  |some x=>
   rw[h1]at h;cases x with
   |inl a'=>exact ih (by omega) h
   |inr b'=>exact h
theorem a2e {step:α→Option (α⊕β)} {a:α} {b:β} (n:Nat) (hn:n≤a6o) (h:y6 step n a=some b):f7 step a=some b:=b1p hn h
theorem a1b {step:α→Option (α⊕β)} (Inv:α→Prop) (μ:α→Nat) (f:α→β)
 (h:∀a,Inv a→(∃a',step a=some (.inl a')∧Inv a'∧μ a'<μ a∧f a'=f a)∨step a=some (.inr (f a))) {a:α} (ha:Inv a) (hm:μ a<a6o):f7 step a=some (f a):=by
 have key:∀n a,Inv a→μ a<n→y6 step n a=some (f a):=by
  intro n
  induction n with
  |zero=>intro a _ h;omega
  |succ n ih=>
   intro a hi hn;simp only[y6];rcases h a hi with ⟨a',h1,h2,h3,h4⟩|h1
   ·rw[h1];simp only;rw[ih a' h2 (by omega),h4]
   ·rw[h1]
 exact key a6o a ha hm
def a2d (f:Nat→X→σ→σ⊕β) (fin:σ→β):Nat→List X→σ→β
 |_,[],s=>fin s
 |i,x::l,s=>match f i x s with
  |.inl s'=>a2d f fin (i+1) l s'
  |.inr b=>b
theorem a24 {step:α→Option (α⊕β)} (Inv:Nat→σ→Prop) (enc:Nat→σ→α) (l:List X) (f:Nat→X→σ→σ⊕β) (fin:σ→β) (hl:l.length<a6o)
 (h0:∀s,Inv l.length s→step (enc l.length s)=some (.inr (fin s)))
 (h1:∀i x s,l[i]?=some x→Inv i s→(step (enc i s)=some (match f i x s with | .inl s'=>.inl (enc (i+1) s') | .inr b=>.inr b))∧∀s',f i x s=.inl s'→Inv (i+1) s')
 (s:σ) (hs:Inv 0 s):f7 step (enc 0 s)=some (a2d f fin 0 l s):=by
 have key:∀k i s,i+k=l.length→Inv i s→y6 step (k+1) (enc i s)=some (a2d f fin i (l.drop i) s):=by
  intro k
  induction k with
  |zero=>
   intro i s hi hs;have:i=l.length:=by omega
   subst this;rw[List.drop_length];simp only[y6,h0 s hs,a2d]
  |succ k ih=>
   intro i s hi hs;have hlt:i<l.length:=by omega
   obtain ⟨e1,e2⟩:=h1 i l[i] s (yaa hlt) hs;rw[List.drop_eq_getElem_cons hlt];rw[y6,e1];simp only[a2d];cases hf:f i l[i] s with
   |inl s'=>simp only;exact ih (i+1) s' (by omega) (e2 s' hf)
   |inr b=>rfl
 have:=key l.length 0 s (by omega) hs;exact a2e (l.length+1) (by omega) (by simpa using this)
theorem a1s {step:α→Option (α⊕β)} (enc:Nat→σ→α) (l:List X) (f:Nat→X→σ→σ⊕β) (fin:σ→β) (hl:l.length<a6o)
 (h0:∀s,step (enc l.length s)=some (.inr (fin s)))
 (h1:∀i x s,l[i]?=some x→step (enc i s)=some (match f i x s with | .inl s'=>.inl (enc (i+1) s') | .inr b=>.inr b))
 (s:σ):f7 step (enc 0 s)=some (a2d f fin 0 l s):=
 a24 (fun _ _=>True) enc l f fin hl (fun s _=>h0 s) (fun i x s hx _=>⟨h1 i x s hx,fun _ _=>trivial⟩) s trivial
def a41 (f:Nat→X→Int):Nat→List X→Int
 |_,[]=>0
 |i,x::l=>if f i x==0 then a41 f (i+1) l else f i x
theorem b5f {f:Nat→X→Int} {d:β} {g:Int→β}:∀{l:List X} {i:Nat},a2d (σ:=Unit) (fun i x _=>if f i x==0 then .inl () else .inr (g (f i x))) (fun _=>d) i l ()=if a41 f i l==0 then d else g (a41 f i l):=by
 intro l
 induction l with
 |nil=>intros;rfl
 |cons x l ih=>
  intro i;simp only[a2d,a41];by_cases h:(f i x==0)=true
  ·simp only[h,ybf];exact ih
  ·have h2:¬f i x=0:=fun e=>h (by simp[e])
   simp[h2]
theorem a5h {f:Nat→X→Int}:∀{l:List X} {i:Nat},a41 f i l=0↔∀k x,l[k]?=some x→f (i+k) x=0:=by
 intro l
 induction l with
 |nil=>intro i;simp[a41]
 |cons y l ih=>
  intro i;simp only[a41];constructor
  ·intro h k x hk;split at h
   ·rename_i h1;cases k with
    |zero=>simp at hk;subst hk;simpa using h1
    |succ k=>have:=(ih (i:=i+1)).1 h k x (by simpa using hk);rwa [show i+(k+1)=i+1+k by omega]
   ·rename_i h1;exfalso;apply h1;simp[h]
  ·intro h;have h0:=h 0 y rfl;simp only[yaV]at h0;rw[h0];simp only[yaP,ybf];exact ih.2 (fun k x hk=>by have:=h (k+1) x (by simpa using hk);rwa [show i+(k+1)=i+1+k by omega]at this)
theorem b2c {f:X→σ→σ} {fin:σ→β}:∀{l:List X} {i:Nat} {s:σ},a2d (fun _ x s=>.inl (f x s)) fin i l s=fin (l.foldl (fun s x=>f x s) s):=by
 intro l
 induction l with
 |nil=>intros;rfl
 |cons x l ih=>intro i s;simp only[a2d,List.foldl_cons];exact ih
end
section
variable {α β σ X:Type} {step:α→Option (α⊕β)}
def b0g (a:α) (g:Int→β) (e:Int):Option (α⊕β):=if e==0 then some (.inl a) else some (.inr (g e))
theorem a5s (enc:Nat→α) (l:List X) (f:Nat→X→Int) (d:β) (g:Int→β) (hl:l.length<1000000000) (h0:step (enc l.length)=some (.inr d))
 (h1:∀i x,l[i]?=some x→step (enc i)=b0g (enc (i+1)) g (f i x)):f7 step (enc 0)=some (if a41 f 0 l==0 then d else g (a41 f 0 l)):=by
 have h:=a1s (step:=step) (fun i (_:Unit)=>enc i) l (fun i x _=>if f i x==0 then .inl () else .inr (g (f i x))) (fun _=>d) (by show l.length<18446744073709551616;omega) (fun _=>h0)
  (fun i x _ hx=>by rw[h1 i x hx];unfold b0g;split<;>rfl) ()
 rw[h,b5f]
def a54 (p:X→Bool) (g:Nat→X→β) (d:β):Nat→List X→β
 |_,[]=>d
 |i,x::l=>bif p x then g i x else a54 p g d (i+1) l
theorem a9t (enc:Nat→α) (l:List X) (p:X→Bool) (g:Nat→X→β) (d:β) (hl:l.length<1000000000) (h0:step (enc l.length)=some (.inr d))
 (h1:∀i x,l[i]?=some x→step (enc i)=bif p x then some (.inr (g i x)) else some (.inl (enc (i+1)))):f7 step (enc 0)=some (a54 p g d 0 l):=by
 have h:=a1s (step:=step) (fun i (_:Unit)=>enc i) l (fun i x _=>if p x then .inr (g i x) else .inl ()) (fun _=>d) (by show l.length<18446744073709551616;omega) (fun _=>h0)
  (fun i x _ hx=>by rw[h1 i x hx];cases p x<;>rfl) ()
 rw[h];have key:∀(l:List X) (i:Nat),a2d (σ:=Unit) (fun i x _=>if p x then .inr (g i x) else .inl ()) (fun _=>d) i l ()=a54 p g d i l:=by
  intro l
  induction l with
  |nil=>intro i;rfl
  |cons x l ih=>
   intro i;simp only[a2d,a54];cases p x with
   |true=>rfl
   |false=>exact ih _
 rw[key]
def a4z (p:Nat→X→Bool):Nat→List X→Bool
 |_,[]=>true
 |i,x::l=>p i x&&a4z p (i+1) l
theorem a0r (enc:Nat→α) (l:List X) (p:Nat→X→Bool) (b d:β) (hl:l.length<1000000000) (h0:step (enc l.length)=some (.inr d))
 (h1:∀i x,l[i]?=some x→step (enc i)=bif p i x then some (.inl (enc (i+1))) else some (.inr b)):f7 step (enc 0)=some (bif a4z p 0 l then d else b):=by
 have h:=a1s (step:=step) (fun i (_:Unit)=>enc i) l (fun i x _=>if p i x then .inl () else .inr b) (fun _=>d) (by show l.length<18446744073709551616;omega) (fun _=>h0)
  (fun i x _ hx=>by rw[h1 i x hx];cases p i x<;>rfl) ()
 rw[h];have key:∀(l:List X) (i:Nat),a2d (σ:=Unit) (fun i x _=>if p i x then .inl () else .inr b) (fun _=>d) i l ()=bif a4z p i l then d else b:=by
  intro l
  induction l with
  |nil=>intro i;rfl
  |cons x l ih=>
   intro i;simp only[a2d,a4z];cases p i x with
   |true=>exact ih _
   |false=>rfl
 rw[key]
theorem a3j {p:X→Bool}:∀{l:List X} {i:Nat},a4z (fun _=>p) i l=l.all p:=by
 intro l
 induction l with
 |nil=>intros;rfl
 |cons x l ih=>intro i;simp only[a4z,List.all_cons];rw[ih]
theorem b2r {p:Nat→X→Bool}:∀{l:List X} {i:Nat},a4z p i l=true↔∀k x,l[k]?=some x→p (i+k) x=true:=by
 intro l
 induction l with
 |nil=>intro i;simp[a4z]
 |cons y l ih=>
  intro i;simp only[a4z,yab];rw[ih];constructor
  ·rintro ⟨h0,h⟩ k x hk;cases k with
   |zero=>simp at hk;subst hk;exact h0
   |succ k=>have:=h k x (by simpa using hk);rwa [show i+(k+1)=i+1+k by omega]
  ·intro h;exact ⟨h 0 y rfl,fun k x hk=>by have:=h (k+1) x (by simpa using hk);rwa [show i+(k+1)=i+1+k by omega]at this⟩
end
theorem x7 {n:Int} (h1 : -9223372036854775808≤n) (h2:n≤9223372036854775807):wr .i64 n=n:=by
 unfold wr;rw[IntKind.wrap_i64];omega
theorem a0h {n:Nat} (h:n<9223372036854775807):wr .i64 ((n:Int)+1)=((n+1:Nat):Int):=by
 rw[x7 (by omega) (by omega)];rfl
theorem b5u {j:Nat} (h:j<1000000000):wr .i64 (((j+1:Nat):Int)-1)=(j:Int):=by
 rw[show ((j+1:Nat):Int)-1=(j:Int) by omega];exact x7 (by omega) (by omega)
theorem c72 {j:Nat}:decide ((0:Int)<((j+1:Nat):Int))=true:=by rw[yac];omega
theorem s9 {α:Type} (l:List α) (i:Nat):a3c l (i:Int)=l[i]?:=by
 unfold a3c;simp
theorem y9:LIM=1073741824:=rfl
theorem a00:a6o=18446744073709551616:=rfl
end
section
open Ev
open Go (IntKind)
theorem dlt {i n:Nat} (h:i<n):decide ((i:Int)<(n:Int))=true:=by simpa using h
theorem dge {n:Nat}:decide ((n:Int)<(n:Int))=false:=by simp
end
section
open Ev
open Go (IntKind)
set_option maxRecDepth 100000
def lp (y:Int):Bool:=(y.tmod 4==0)&&(!(y.tmod 100==0)||(y.tmod 400==0))
def lpN (n:Nat):Bool:=lp ((1900+n:Nat):Int)
def lcN:Nat→Nat
 |0=>0
 |k+1=>lcN k+(if lpN k then 1 else 0)
def ny (n:Nat):Int:=((365*n+lcN n:Nat):Int)
def yl (l:Bool):Int:=if l then 366 else 365
theorem a9c (n:Nat):ny (n+1)=ny n+yl (lpN n):=by
 unfold ny yl;simp only[lcN];split<;>omega
theorem b8p (n:Nat):lcN n≤n:=by
 induction n with
 |zero=>exact yam 0
 |succ n ih=>simp only[lcN];split<;>omega
theorem a6f {a b:Nat} (h:a≤b):ny a≤ny b:=by
 induction b with
 |zero=>
  have:a=0:=by omega
  subst this;exact Int.le_refl _
 |succ b ih=>
  rcases Nat.eq_or_lt_of_le h with e|e
  ·subst e;exact Int.le_refl _
  ·have h1:=ih (by omega);have h2:=a9c b;have h3:365≤yl (lpN b):=by unfold yl;split<;>omega
   omega
theorem c6z:ny 0=0:=rfl
theorem b8s:ny 300=109573:=kr
theorem c60 {d:Int} (h0:0≤d):∀k,d<ny k→∃n,n<k∧ny n≤d∧d<ny (n+1):=by
 intro k
 induction k with
 |zero=>intro h;rw[c6z]at h;omega
 |succ k ih=>
  intro h;by_cases hk:d<ny k
  ·obtain ⟨n,h1,h2⟩:=ih hk;exact ⟨n,by omega,h2⟩
  ·exact ⟨k,by omega,by omega,h⟩
def bf (l:Bool):Nat→Int
 |0=>0|1=>0|2=>31|3=>yl l-306|4=>yl l-275|5=>yl l-245|6=>yl l-214|7=>yl l-184|8=>yl l-153|9=>yl l-122|10=>yl l-92|11=>yl l-61|12=>yl l-31
 |_=>yl l
theorem b23 (l:Bool):∀m,1≤m→m≤12→bf l m+28≤bf l (m+1)∧bf l (m+1)≤bf l m+31
 |0,h,_=>by omega
 |1,_,_=>by cases l<;>decide
 |2,_,_=>by cases l<;>decide
 |3,_,_=>by cases l<;>decide
 |4,_,_=>by cases l<;>decide
 |5,_,_=>by cases l<;>decide
 |6,_,_=>by cases l<;>decide
 |7,_,_=>by cases l<;>decide
 |8,_,_=>by cases l<;>decide
 |9,_,_=>by cases l<;>decide
 |10,_,_=>by cases l<;>decide
 |11,_,_=>by cases l<;>decide
 |12,_,_=>by cases l<;>decide
 |m+13,_,h=>by omega
theorem a5z (l:Bool) {a b:Nat} (ha:1≤a) (h:a≤b) (hb:b≤13):bf l a≤bf l b:=by
 induction b with
 |zero=>omega
 |succ b ih=>
  rcases Nat.eq_or_lt_of_le h with e|e
  ·subst e;exact Int.le_refl _
  ·have h1:=ih (by omega) (by omega);have:=(b23 l b (by omega) (by omega)).1;omega
theorem c6l (l:Bool) {d:Int} (h0:0≤d):∀k,1≤k→k≤13→d<bf l k→∃m,1≤m∧m<k∧bf l m≤d∧d<bf l (m+1):=by
 intro k
 induction k with
 |zero=>intro h;omega
 |succ k ih=>
  intro _ hk h;by_cases h1:k=0
  ·subst h1;have:bf l 1=0:=rfl;rw[this]at h;omega
  by_cases h2:d<bf l k
  ·obtain ⟨n,h3,h4,h5⟩:=ih (by omega) (by omega) h2;exact ⟨n,h3,by omega,h5⟩
  ·exact ⟨k,by omega,by omega,by omega,h⟩
theorem a5y (l:Bool) {m:Nat} (h1:1≤m) (h2:m≤13):0≤bf l m∧bf l m≤366:=by
 have a:=a5z l (yam 1) h1 h2;have b:=a5z l h1 h2 (yam 13);have c:bf l 1=0:=rfl;have d:bf l 13≤366:=by cases l<;>decide
 omega
theorem c48 (y:Int):qx y=some (lp y):=by
 unfold qx lp;cases (y.tmod 4==0)<;>cases (y.tmod 100==0)<;>cases (y.tmod 400==0)<;>rfl
theorem c43 {n:Nat} (hn:n≤300):ql ((1900+n:Nat):Int)=some (ny n):=by
 unfold ql;have e0:wr .i64 ((wr .i64 (((1900+n:Nat):Int)-1900))*365)=((365*n:Nat):Int):=by
  rw[x7 (n:=((1900+n:Nat):Int)-1900) (by omega) (by omega),x7 (by omega) (by omega)];omega
 rw[e0];have h:=a1b (step:=b5c) (fun a=>∃i,i≤n∧a=(((1900+n:Nat):Int),((365*n+lcN i:Nat):Int),((1900+i:Nat):Int),())) (fun a=>(a.1-a.2.2.1).toNat) (fun _=>(ny n,())) (fun a ha=>by
  obtain ⟨i,hi,rfl⟩:=ha;have hl:=b8p i;by_cases e:i=n
  ·subst e;refine .inr ?_;simp only[b5c];rw[show decide (((1900+i:Nat):Int)<((1900+i:Nat):Int))=false by simp];rfl
  ·refine .inl ⟨(((1900+n:Nat):Int),((365*n+lcN (i+1):Nat):Int),((1900+(i+1):Nat):Int),()),?_,⟨i+1,by omega,rfl⟩,by show (((1900+n:Nat):Int)-((1900+(i+1):Nat):Int)).toNat<(((1900+n:Nat):Int)-((1900+i:Nat):Int)).toNat;omega,rfl⟩;simp only[b5c,c48];rw[show decide (((1900+i:Nat):Int)<((1900+n:Nat):Int))=true by rw[yac];omega];simp only[yal];have e1:wr .i64 (((1900+i:Nat):Int)+1)=((1900+(i+1):Nat):Int):=by rw[x7 (by omega) (by omega)];omega
   have e2:wr .i64 (((365*n+lcN i:Nat):Int)+1)=((365*n+lcN i+1:Nat):Int):=by rw[x7 (by omega) (by omega)];omega
   rw[e1,e2];have e3:lp ((1900+i:Nat):Int)=lpN i:=rfl;rw[e3];simp only[lcN];cases lpN i<;>rfl) (a:=(((1900+n:Nat):Int),((365*n:Nat):Int),1900,())) ⟨0,by omega,rfl⟩ (by show (((1900+n:Nat):Int)-1900).toNat<a6o;rw[a00];omega)
 rw[h]
theorem c45 (y:Int):∀{m:Nat},1≤m→m≤12→qr y (m:Int)=some (bf (lp y) m):=by
 intro m h1 h2;have hl:=c48 y;have:m=1∨m=2∨m=3∨m=4∨m=5∨m=6∨m=7∨m=8∨m=9∨m=10∨m=11∨m=12:=by omega
 unfold qr;rw[hl];generalize lp y=l;rcases this with rfl|rfl|rfl|rfl|rfl|rfl|rfl|rfl|rfl|rfl|rfl|rfl<;>cases l<;>rfl
def Prt (d:Int) (n m:Nat):Prop:=n<300∧ny n≤d∧d<ny (n+1)∧1≤m∧m≤12∧bf (lpN n) m≤d-ny n∧d-ny n<bf (lpN n) (m+1)
theorem c4v {d:Int} (h0:0≤d) (h1:d≤109572):∃n m,Prt d n m:=by
 obtain ⟨n,a,b,c⟩:=c60 h0 300 (by rw[b8s];omega);have hs:=a9c n;obtain ⟨m,e,f,g,h⟩:=c6l (lpN n) (d:=d-ny n) (by omega) 13 (by omega) (by omega) (by show d-ny n<yl (lpN n);omega);exact ⟨n,m,a,b,c,e,by omega,g,h⟩
theorem a19 {n:Nat} (h:n≤300):0≤ny n∧ny n≤109573:=by
 have a:=a6f (ya1 n);have b:=a6f h;rw[c6z]at a;rw[b8s]at b;exact ⟨a,b⟩
theorem c63 {d:Int} {n m:Nat} (h:Prt d n m):qc d=some (((1900+n:Nat):Int),(m:Int),d-ny n-bf (lpN n) m+1,0):=by
 obtain ⟨hn,a1,a2,m1,m2,b1,b2⟩:=h;have hb:=a19 (n:=n) (by omega);have hb':=a19 (n:=n+1) (by omega);have h0:0≤d:=by omega
 unfold qc;have hk:qag d=some true:=by
  unfold qag;rw[show decide (0≤d)=true by rw[yac];omega,show decide (d≤109572)=true by rw[yac];omega];rfl
 rw[hk];simp only[yaU,yaC];have hq:(d.tdiv 366)=((d.toNat / 366:Nat):Int):=by rw[Int.tdiv_eq_ediv_of_nonneg h0];omega
 have e0:wr .i64 (1900+wr .i64 (d.tdiv 366))=((1900+d.toNat / 366:Nat):Int):=by
  rw[hq,x7 (n:=((d.toNat / 366:Nat):Int)) (by omega) (by omega),x7 (by omega) (by omega)];omega
 rw[e0];have hle:∀k,ny k≤366*k:=fun k=>by unfold ny;have:=b8p k;omega
 have hs:d.toNat / 366≤n:=by
  rcases ya5 n (d.toNat / 366) with h|h
  ·have h1:=hle (n+1);have:366*(n+1)≤366*(d.toNat / 366):=Nat.mul_le_mul_left _ h;omega
  ·exact h
 have hw:=a1b (step:=b7l) (fun a=>∃i,i≤n∧a=(d,((1900+i:Nat):Int),())) (fun a=>(((1900+n:Nat):Int)-a.2.1).toNat) (fun _=>(d,((1900+n:Nat):Int),())) (fun a ha=>by
  obtain ⟨i,hi,rfl⟩:=ha;simp only[b7l];have e1:wr .i64 (((1900+i:Nat):Int)+1)=((1900+(i+1):Nat):Int):=by rw[x7 (by omega) (by omega)];omega
  simp only[e1,c43 (show i+1≤300 by omega)];by_cases e:i=n
  ·subst e;refine .inr ?_;rw[show decide (ny (i+1)≤d)=false by rw[yau];omega];cases decide (((1900+i:Nat):Int)<2199)<;>rfl
  ·refine .inl ⟨(d,((1900+(i+1):Nat):Int),()),?_,⟨i+1,by omega,rfl⟩,by show (((1900+n:Nat):Int)-((1900+(i+1):Nat):Int)).toNat<(((1900+n:Nat):Int)-((1900+i:Nat):Int)).toNat;omega,trivial⟩;have:=a6f (show i+1≤n by omega);rw[show decide (ny (i+1)≤d)=true by rw[yac];omega,show decide (((1900+i:Nat):Int)<2199)=true by rw[yac];omega];rfl) (a:=(d,((1900+d.toNat / 366:Nat):Int),())) ⟨_,hs,rfl⟩ (by show (((1900+n:Nat):Int)-((1900+d.toNat / 366:Nat):Int)).toNat<a6o;rw[a00];omega)
 rw[hw];simp only[c43 (show n≤300 by omega)];have e2:wr .i64 (d-ny n)=d-ny n:=x7 (by omega) (by omega);rw[e2];have elp:lp ((1900+n:Nat):Int)=lpN n:=rfl;have hw2:=a1b (step:=b7m) (fun a=>∃i:Nat,m≤i∧i≤12∧a=(((1900+n:Nat):Int),d-ny n,(i:Int),())) (fun a=>a.2.2.1.toNat) (fun _=>(((1900+n:Nat):Int),d-ny n,(m:Int),())) (fun a ha=>by
  obtain ⟨i,hi,hi2,rfl⟩:=ha;simp only[b7m,c45 _ (show 1≤i by omega) hi2,elp];by_cases e:i=m
  ·subst e;refine .inr ?_;rw[show decide (d-ny n<bf (lpN n) i)=false by rw[yau];omega];rfl
  ·refine .inl ⟨(((1900+n:Nat):Int),d-ny n,((i-1:Nat):Int),()),?_,⟨i-1,by omega,by omega,rfl⟩,by show (((i-1:Nat):Int)).toNat<((i:Int)).toNat;omega,trivial⟩;have:=a5z (lpN n) (show 1≤m+1 by omega) (show m+1≤i by omega) (by omega);rw[show decide (d-ny n<bf (lpN n) i)=true by rw[yac];omega];simp only[yal];have e3:wr .i64 ((i:Int)-1)=((i-1:Nat):Int):=by rw[x7 (by omega) (by omega)];omega
   rw[e3]) (a:=(((1900+n:Nat):Int),d-ny n,12,())) ⟨12,m2,by omega,rfl⟩ (by show ((12:Int)).toNat<a6o;rw[a00];decide)
 rw[hw2];simp only[c45 _ m1 m2,elp];have hbb:=a5y (lpN n) m1 (show m≤13 by omega);have e4:wr .i64 ((wr .i64 (d-ny n-bf (lpN n) m))+1)=d-ny n-bf (lpN n) m+1:=by
  rw[x7 (n:=d-ny n-bf (lpN n) m) (by omega) (by omega),x7 (by omega) (by omega)]
 rw[e4]
theorem c4r {n:Nat} (h:n<300):(((((1900+n:Nat):Int)).tmod 4==0)&&(!(((1900+n:Nat):Int)==1900)&&!(((1900+n:Nat):Int)==2100)))=lpN n:=by
 unfold lpN lp;have e:∀k:Nat,(((1900+n:Nat):Int)).tmod (k:Int)=(((1900+n) % k:Nat):Int):=fun k=>by rw[Int.tmod_eq_emod_of_nonneg (by omega)];rfl
 rw[show (4:Int)=((4:Nat):Int) from rfl,show (100:Int)=((100:Nat):Int) from rfl,show (400:Int)=((400:Nat):Int) from rfl,e,e,e];rw[ybe];simp only[yab,yaX,yay,ybj,yaM,ne_eq];omega
theorem c47 {n m:Nat} (hn:n<300) (m1:1≤m) (m2:m≤12):qu ((1900+n:Nat):Int) (m:Int)=some (bf (lpN n) (m+1)-bf (lpN n) m):=by
 unfold qu;rw[show decide (((1900+n:Nat):Int)<1900)=false by rw[yau];omega,show decide (2199<((1900+n:Nat):Int))=false by rw[yau];omega,
  show decide ((m:Int)<1)=false by rw[yau];omega,show decide (12<(m:Int))=false by rw[yau];omega]
 have hr:=c4r hn;simp only[yaC];have:m=1∨m=2∨m=3∨m=4∨m=5∨m=6∨m=7∨m=8∨m=9∨m=10∨m=11∨m=12:=by omega
 generalize ((((1900+n:Nat):Int)).tmod 4==0)=a at hr;generalize (((1900+n:Nat):Int)==1900)=b at hr;generalize (((1900+n:Nat):Int)==2100)=c at hr;generalize lpN n=l at hr;subst hr;rcases this with rfl|rfl|rfl|rfl|rfl|rfl|rfl|rfl|rfl|rfl|rfl|rfl<;>cases a<;>cases b<;>cases c<;>rfl
theorem c62 {n:Nat} (hn:n<300):q9 ((1900+n:Nat):Int)=some (yl (lpN n)):=by
 unfold q9;have h:=c47 (m:=2) hn (by omega) (by omega);have h:qu ((1900+n:Nat):Int) 2=some (bf (lpN n) 3-bf (lpN n) 2):=h;rw[h];generalize lpN n=l;cases l<;>rfl
theorem c64 {d:Int} {n m:Nat} (h:Prt d n m):qe d=some (((1900+n:Nat):Int),(m:Int),d-ny n-bf (lpN n) m+1,0):=by
 obtain ⟨hn,a1,a2,m1,m2,b1,b2⟩:=h;have hb:=a19 (n:=n) (by omega);have hb':=a19 (n:=n+1) (by omega);have h0:0≤d:=by omega
 unfold qe;have hk:qai d=some true:=by
  unfold qai;rw[show decide (0≤d)=true by rw[yac];omega,show decide (d≤109572)=true by rw[yac];omega];rfl
 rw[hk];simp only[yaU,yaC];have hw:=a1b (step:=b7n) (fun a=>∃i,i≤n∧a=(d-ny i,((1900+i:Nat):Int),1,())) (fun a=>(((1900+n:Nat):Int)-a.2.1).toNat) (fun _=>(d-ny n,((1900+n:Nat):Int),1,())) (fun a ha=>by
  obtain ⟨i,hi,rfl⟩:=ha;simp only[b7n,c62 (show i<300 by omega)];have hs:=a9c i;by_cases e:i=n
  ·subst e;refine .inr ?_;rw[show decide (yl (lpN i)≤d-ny i)=false by rw[yau];omega];rfl
  ·refine .inl ⟨(d-ny (i+1),((1900+(i+1):Nat):Int),1,()),?_,⟨i+1,by omega,rfl⟩,by show (((1900+n:Nat):Int)-((1900+(i+1):Nat):Int)).toNat<(((1900+n:Nat):Int)-((1900+i:Nat):Int)).toNat;omega,trivial⟩;have:=a6f (show i+1≤n by omega);have hbi:=a19 (n:=i) (by omega);rw[show decide (yl (lpN i)≤d-ny i)=true by rw[yac];omega];simp only[yal];have hy:365≤yl (lpN i):=by unfold yl;split<;>omega
   have e1:wr .i64 (((1900+i:Nat):Int)+1)=((1900+(i+1):Nat):Int):=by rw[x7 (by omega) (by omega)];omega
   have e2:wr .i64 (d-ny i-yl (lpN i))=d-ny (i+1):=by rw[x7 (by omega) (by omega)];omega
   rw[e1,e2]) (a:=(d,1900,1,())) ⟨0,by omega,by rw[c6z,Int.sub_zero];rfl⟩ (by show (((1900+n:Nat):Int)-1900).toNat<a6o;rw[a00];omega)
 rw[hw];simp only;have hw2:=a1b (step:=b7o) (fun a=>∃i:Nat,1≤i∧i≤m∧a=(d-ny n-bf (lpN n) i,((1900+n:Nat):Int),(i:Int),())) (fun a=>((m:Int)-a.2.2.1).toNat) (fun _=>(d-ny n-bf (lpN n) m,((1900+n:Nat):Int),(m:Int),())) (fun a ha=>by
  obtain ⟨i,hi,hi2,rfl⟩:=ha;simp only[b7o,c47 hn hi (show i≤12 by omega)];by_cases e:i=m
  ·subst e;refine .inr ?_;rw[show decide (bf (lpN n) (i+1)-bf (lpN n) i≤d-ny n-bf (lpN n) i)=false by rw[yau];omega];rfl
  ·refine .inl ⟨(d-ny n-bf (lpN n) (i+1),((1900+n:Nat):Int),((i+1:Nat):Int),()),?_,⟨i+1,by omega,by omega,rfl⟩,by show ((m:Int)-((i+1:Nat):Int)).toNat<((m:Int)-(i:Int)).toNat;omega,trivial⟩;have:=a5z (lpN n) (show 1≤i+1 by omega) (show i+1≤m by omega) (by omega);rw[show decide (bf (lpN n) (i+1)-bf (lpN n) i≤d-ny n-bf (lpN n) i)=true by rw[yac];omega];simp only[yal];have hbb:=a5y (lpN n) (show 1≤i+1 by omega) (show i+1≤13 by omega);have e3:wr .i64 ((i:Int)+1)=((i+1:Nat):Int):=by rw[x7 (by omega) (by omega)];omega
   have e4:wr .i64 (d-ny n-bf (lpN n) i-(bf (lpN n) (i+1)-bf (lpN n) i))=d-ny n-bf (lpN n) (i+1):=by rw[x7 (by omega) (by omega)];omega
   rw[e3,e4]) (a:=(d-ny n,((1900+n:Nat):Int),1,())) ⟨1,by omega,by omega,by show _=(d-ny n-0,_,_,());rw[Int.sub_zero];rfl⟩ (by show ((m:Int)-1).toNat<a6o;rw[a00];omega)
 rw[hw2];simp only;have hbb:=a5y (lpN n) m1 (show m≤13 by omega);rw[x7 (n:=d-ny n-bf (lpN n) m+1) (by omega) (by omega)]
end
section
open Ev
open Go (IntKind Lit)
def wi (n lo hi:Int):Bool:=decide (lo≤n)&&decide (n≤hi)
theorem c7b (n lo hi:Int):qq n lo hi=some (wi n lo hi):=by
 unfold qq wi;cases h:decide (lo≤n)<;>simp[h]
theorem c52 (n lo hi:Int):(decide (n<lo)||decide (hi<n))=!wi n lo hi:=by
 unfold wi;rw[ybe];simp only[yaX,yay,Bool.and_eq_false_iff,yac,yau];omega
def chk (x:Off):Int:=
 bif (((!wi x.Device 1 9||!wi x.Seq 1 9999)||!wi x.Day 0 109572)||!wi x.Item 1 9999)||!wi x.Branch 1 4 then 2
 else bif !wi x.Kind 1 3 then 1
 else bif (x.Kind==1&&!wi x.Patron 1 9999)||(!(x.Kind==1)&&!(x.Patron==0)) then 2 else 0
theorem c66 (x:Off):qh x=some (chk x):=by
 unfold qh chk;simp -zeta only[c7b];generalize wi x.Device 1 9=a1;generalize wi x.Seq 1 9999=a2;generalize wi x.Day 0 109572=a3;generalize wi x.Item 1 9999=a4;generalize wi x.Branch 1 4=a5;generalize wi x.Kind 1 3=a6;generalize (x.Kind==1)=a7;generalize wi x.Patron 1 9999=a8;generalize (x.Patron==0)=a9;dsimp only;cases a1
 ·rfl
 cases a2
 ·rfl
 cases a3
 ·rfl
 cases a4
 ·rfl
 cases a5
 ·rfl
 cases a6
 ·rfl
 cases a7<;>cases a8<;>cases a9<;>rfl
theorem c4z (x:Off):qae x=some (chk x):=by
 unfold qae chk;simp only[←c52];generalize decide (x.Device<1)=a1;generalize decide (9<x.Device)=b1;generalize decide (x.Seq<1)=a2;generalize decide (9999<x.Seq)=b2;generalize decide (x.Day<0)=a3;generalize decide (109572<x.Day)=b3;generalize decide (x.Item<1)=a4;generalize decide (9999<x.Item)=b4;generalize decide (x.Branch<1)=a5;generalize decide (4<x.Branch)=b5;generalize decide (x.Kind<1)=a6;generalize decide (3<x.Kind)=b6;generalize (x.Kind==1)=a7;generalize decide (x.Patron<1)=a8;generalize decide (9999<x.Patron)=b8;generalize (x.Patron==0)=a9;cases a1
 rotate_left
 ·rfl
 cases b1
 rotate_left
 ·rfl
 cases a2
 rotate_left
 ·rfl
 cases b2
 rotate_left
 ·rfl
 cases a3
 rotate_left
 ·rfl
 cases b3
 rotate_left
 ·rfl
 cases a4
 rotate_left
 ·rfl
 cases b4
 rotate_left
 ·rfl
 cases a5
 rotate_left
 ·rfl
 cases b5
 rotate_left
 ·rfl
 cases a6
 rotate_left
 ·rfl
 cases b6
 rotate_left
 ·rfl
 cases a7<;>cases a8<;>cases b8<;>cases a9<;>rfl
def a5k (x y:Off):Bool:=x.Device==y.Device&&x.Seq==y.Seq
theorem b38 (x y:Off):a5k x y=a5k y x:=by
 unfold a5k;rw[ybe];simp only[yab,ybj];omega
theorem b1o {X:Type} {p:X→Bool}:∀(l:List X) (i:Nat),(match a54 (β:=Unit⊕(Int×Unit)) p (fun i _=>.inr ((i:Int),())) (.inl ()) i l with | .inl _=>some (-1:Int) | .inr (v,_)=>some v).map (fun r=>decide (0≤r))=some (l.any p):=by
 intro l
 induction l with
 |nil=>intro i;rfl
 |cons x l ih=>
  intro i;simp only[a54,List.any_cons];cases p x with
  |true=>simp
  |false=>simp only[yaC,Bool.false_or];exact ih _
theorem c67 {γ:Type} {q:γ→Off→Option Bool} {p:Off→Bool} {g:γ} (hq:∀x,q g x=some (p x)) {l:List Off} (hl:l.length<1000000000) :
 qj q l g=(match a54 (β:=Unit⊕(Int×Unit)) p (fun i _=>.inr ((i:Int),())) (.inl ()) 0 l with | .inl _=>some (-1:Int) | .inr (v,_)=>some v):=by
 unfold qj;have h:=a9t (step:=b17 q) (fun i=>(l,g,(l.length:Int),(i:Int),())) l p (fun i _=>.inr ((i:Int),())) (.inl ()) hl
  (by simp only[b17,dge,yaC])
  (fun i x hx=>by
   have hi:=(zL hx)
   simp only[b17,dlt hi,s9,hx,yal,hq,a0h (show i<9223372036854775807 by omega)])
 rw[show f7 (b17 q) (l,g,(l.length:Int),0,())=_ from h];cases a54 (β:=Unit⊕(Int×Unit)) p (fun i _=>.inr ((i:Int),())) (.inl ()) 0 l<;>rfl
theorem c4y {γ:Type} {q:γ→Off→Option Bool} {p:Off→Bool} {g:γ} (hq:∀x,q g x=some (p x)) {l:List Off} (hl:l.length<1000000000) :
 qaa q l g=some (l.any p):=by
 unfold qaa;rw[c67 hq hl,←b1o l 0];cases a54 (β:=Unit⊕(Int×Unit)) p (fun i _=>.inr ((i:Int),())) (.inl ()) 0 l<;>rfl
def a8d (l:List Off):Int:=a41 (fun _ x=>chk x) 0 l
theorem b7j {l:List Off} (hl:l.length<1000000000):f7 b13 (l,l,(l.length:Int),0,())=some (if a8d l==0 then .inl (l,()) else .inr (a8d l,())):=
 a5s (step:=b13) (fun i=>(l,l,(l.length:Int),(i:Int),())) l (fun _ x=>chk x) (.inl (l,())) (fun e=>.inr (e,())) hl
  (by simp only[b13,dge,yaC])
  (fun i x hx=>by
   have hi:=(zL hx)
   simp only[b13,dlt hi,s9,hx,yal,c66,a0h (show i<9223372036854775807 by omega),b0g];by_cases h:chk x=0
   ·rw[h];rfl
   ·rw[show (chk x==0)=false by simpa using h];rfl)
theorem b7k {l:List Off} (hl:l.length<1000000000):f7 b15 (l,0,())=some (if a8d l==0 then .inl (l,()) else .inr (a8d l,())):=
 a5s (step:=b15) (fun i=>(l,(i:Int),())) l (fun _ x=>chk x) (.inl (l,())) (fun e=>.inr (e,())) hl
  (by simp only[b15,dge,yaC])
  (fun i x hx=>by
   have hi:=(zL hx)
   simp only[b15,dlt hi,s9,hx,yal,c4z,a0h (show i<9223372036854775807 by omega),b0g];by_cases h:chk x=0
   ·rw[h];rfl
   ·rw[show (chk x==0)=false by simpa using h];rfl)
def a7t (l:List Off):Bool:=a4z (fun i x=>!(l.take i).any (fun y=>a5k x y)) 0 l
theorem c7a (y v:Off):qp y v=some (a5k v y):=by
 unfold qp a5k;cases v.Device==y.Device<;>rfl
theorem b47 {l:List Off} (hl:l.length<1000000):f7 a5n (l,l,(l.length:Int),0,())=some (bif a7t l then .inl (l,()) else .inr (7,())):=
 a0r (step:=a5n) (fun i=>(l,l,(l.length:Int),(i:Int),())) l (fun i x=>!(l.take i).any (fun y=>a5k x y)) (.inr (7,())) (.inl (l,())) (by omega)
  (by simp only[a5n,dge,yaC])
  (fun i x hx=>by
   have hi:=(zL hx)
   have g1:(decide ((0:Int)≤(0:Int))&&(decide ((0:Int)≤(i:Int))&&decide ((i:Int)≤(l.length:Int))))=true:=by
    simp only[yab,yac];omega
   have e0:((l.take ((i:Int)).toNat).drop ((0:Int)).toNat)=l.take i:=by simp
   simp only[a5n,dlt hi,s9,hx,yal,g1,e0];rw[c4y (p:=fun y=>a5k x y) (fun y=>c7a y x) (by rw[List.length_take];omega)];simp only[a0h (show i<9223372036854775807 by omega)];cases (l.take i).any (fun y=>a5k x y)<;>rfl)
theorem b49 {l:List Off} {i:Nat} {x:Off} (hx:l[i]?=some x) (hl:l.length<1000000):f7 a4i (l,(i:Int),0,())=some (bif !(l.take i).any (fun y=>a5k x y) then .inl (l,(i:Int),()) else .inr (7,())):=by
 have hi:=(zL hx)
 have ht:(l.take i).length=i:=by rw[List.length_take];omega
 have h:=a0r (step:=a4i) (fun k=>(l,(i:Int),(k:Int),())) (l.take i) (fun _ y=>!a5k x y) (.inr (7,())) (.inl (l,(i:Int),())) (by omega)
  (by rw[ht];simp only[a4i,dge,yaC])
  (fun k y hy=>by
   have hk:k<i:=by have:=(zL hy);omega
   have hy2:l[k]?=some y:=by rw[yaJ]at hy;rwa [yaq hk]at hy
   simp -zeta only[a4i,dlt hk,s9,hx,hy2,yal,a0h (show k<9223372036854775807 by omega)];unfold a5k;cases x.Device==y.Device<;>cases x.Seq==y.Seq<;>rfl)
 rw[show f7 a4i (l,(i:Int),0,())=_ from h,a3j];have e:∀l:List Off,l.all (fun y=>!a5k x y)=!l.any (fun y=>a5k x y):=by
  intro l
  induction l with
  |nil=>rfl
  |cons z l ih=>rw[List.all_cons,List.any_cons,ih,Bool.not_or]
 rw[e]
theorem b48 {l:List Off} (hl:l.length<1000000):f7 a5o (l,0,())=some (bif a7t l then .inl (l,()) else .inr (7,())):=
 a0r (step:=a5o) (fun i=>(l,(i:Int),())) l (fun i x=>!(l.take i).any (fun y=>a5k x y)) (.inr (7,())) (.inl (l,())) (by omega)
  (by simp only[a5o,dge,yaC])
  (fun i x hx=>by
   have hi:=(zL hx)
   simp only[a5o,dlt hi,yal,b49 hx hl];cases (l.take i).any (fun y=>a5k x y) with
   |true=>rfl
   |false=>simp only[Bool.not_false,yal,a0h (show i<9223372036854775807 by omega)])
theorem b43 {l:List Off} (h:a7t l=true):∀(i j:Nat) (x y:Off),l[i]?=some x→l[j]?=some y→a5k x y=true→i=j:=by
 unfold a7t at h;rw[b2r]at h;have key:∀(i j:Nat) (x y:Off),l[i]?=some x→l[j]?=some y→j<i→a5k x y=false:=by
  intro i j x y hx hy hji;have:=h i x hx;rw[yaF]at this;simp only[yay,List.any_eq_false]at this;have hm:y∈l.take i:=yaj (i:=j) (by rw[yaJ,yaq hji];exact hy);simpa using this y hm
 intro i j x y hx hy hk;rcases Nat.lt_trichotomy i j with q|q|q
 ·rw[b38,key j i y x hy hx q]at hk;cases hk
 ·exact q
 ·rw[key i j x y hx hy q]at hk;cases hk
end
section
open Ev
open Go (IntKind Lit)
def ltO (a b:Off):Bool:=bif !(a.Day==b.Day) then decide (a.Day<b.Day) else bif !(a.Device==b.Device) then decide (a.Device<b.Device) else decide (a.Seq<b.Seq)
theorem c40 (a b:Off):qaf a b=some (ltO a b):=by
 unfold qaf ltO;cases a.Day==b.Day<;>cases a.Device==b.Device<;>rfl
theorem a6e (a b:Off):ltO a b=true↔a.Day<b.Day∨(a.Day=b.Day∧(a.Device<b.Device∨(a.Device=b.Device∧a.Seq<b.Seq))):=by
 unfold ltO;cases h1:a.Day==b.Day with
 |false=>
  have:a.Day≠b.Day:=by simpa using h1
  simp only[Bool.not_false,yal,yac];omega
 |true=>
  have e1:a.Day=b.Day:=by simpa using h1
  cases h2:a.Device==b.Device with
  |false=>
   have:a.Device≠b.Device:=by simpa using h2
   simp only[yaU,Bool.not_false,yal,yaC,yac];omega
  |true=>
   have:a.Device=b.Device:=by simpa using h2
   simp only[yaU,yaC,yac];omega
theorem c1n (a:Off):ltO a a=false:=by
 cases h:ltO a a with
 |false=>rfl
 |true=>rw[a6e]at h;omega
theorem b41 {a b c:Off} (h:ltO a b=true) (k:ltO b c=true):ltO a c=true:=by
 rw[a6e]at *;omega
theorem c1o {a b:Off} (h:ltO a b=false) (k:ltO b a=false):a5k a b=true:=by
 rw[Bool.eq_false_iff]at h k;unfold a5k;simp only[yab,ybj];rw[ne_eq,a6e]at h k;omega
structure OkN (x:Off):Prop where
 d0:0≤x.Day
 d1:x.Day≤109572
 v0:1≤x.Device
 v1:x.Device≤9
 s0:1≤x.Seq
 s1:x.Seq≤9999
theorem b76 {x:Off} (h:chk x=0):OkN x:=by
 unfold chk at h;cases h1:(((!wi x.Device 1 9||!wi x.Seq 1 9999)||!wi x.Day 0 109572)||!wi x.Item 1 9999)||!wi x.Branch 1 4 with
 |true=>rw[h1]at h;cases h
 |false=>
  simp only[Bool.or_eq_false_iff,Bool.not_eq_false']at h1;obtain ⟨⟨⟨⟨a,b⟩,c⟩,-⟩,-⟩:=h1;unfold wi at a b c;simp only[yab,yac]at a b c;exact ⟨c.1,c.2,a.1,a.2,b.1,b.2⟩
def cmO (a b:Off):Int:=if wr .i64 (a.Day-b.Day)=0 then (if wr .i64 (a.Device-b.Device)=0 then wr .i64 (a.Seq-b.Seq) else wr .i64 (a.Device-b.Device)) else wr .i64 (a.Day-b.Day)
theorem c65 (a b:Off):qf a b=some (cmO a b):=by
 unfold qf cmO;generalize wr .i64 (a.Day-b.Day)=x;generalize wr .i64 (a.Device-b.Device)=y;generalize wr .i64 (a.Seq-b.Seq)=z;have step:∀(k:Nat) (v:Int),([x,y,z]:List Int)[k]?=some v→a9g ((([x,y,z]:List Int).length:Int),(k:Int),[x,y,z],())=if v=0 then some (.inl ((([x,y,z]:List Int).length:Int),((k+1:Nat):Int),[x,y,z],())) else some (.inr (.inr (v,()))):=fun k v hv=>by
  have hk:=(zL hv)
  have h3:([x,y,z]:List Int).length=3:=rfl;simp only[a9g,dlt hk,s9,hv,yal,Int.toNat_natCast,a0h (show k<9223372036854775807 by omega)];by_cases h:v=0
  ·rw[yaq h,show (v==0)=true by simpa using h];rfl
  ·rw[yah h,show (v==0)=false by simpa using h];rfl
 have hw:f7 a9g ((([x,y,z]:List Int).length:Int),0,[x,y,z],())=some (if x=0 then (if y=0 then (if z=0 then .inl () else .inr (z,())) else .inr (y,())) else .inr (x,())):=by
  refine a2e 4 (by rw[a00];omega) ?_;have s0:a9g ((([x,y,z]:List Int).length:Int),0,[x,y,z],())=if x=0 then some (.inl ((([x,y,z]:List Int).length:Int),((0+1:Nat):Int),[x,y,z],())) else some (.inr (.inr (x,()))):=step 0 x rfl
  have s1:=step 1 y rfl;have s2:=step 2 z rfl;have s3:a9g ((([x,y,z]:List Int).length:Int),((2+1:Nat):Int),[x,y,z],())=some (.inr (.inl ())):=rfl;rw[y6,s0];by_cases hx:x=0
  ·rw[yaq hx,yaq hx];simp only;rw[y6,s1];by_cases hy:y=0
   ·rw[yaq hy,yaq hy];simp only;rw[y6,s2];by_cases hz:z=0
    ·rw[yaq hz,yaq hz];simp only;rw[y6,s3]
    ·rw[yah hz,yah hz]
   ·rw[yah hy,yah hy]
  ·rw[yah hx,yah hx]
 rw[hw];by_cases hx:x=0
 ·rw[yaq hx,yaq hx];by_cases hy:y=0
  ·rw[yaq hy,yaq hy];by_cases hz:z=0
   ·rw[yaq hz,hz]
   ·rw[yah hz]
  ·rw[yah hy,yah hy]
 ·rw[yah hx,yah hx]
theorem c3f {a b:Off} (ha:OkN a) (hb:OkN b):decide (cmO a b<0)=ltO a b:=by
 obtain ⟨a1,a2,a3,a4,a5,a6⟩:=ha;obtain ⟨b1,b2,b3,b4,b5,b6⟩:=hb;rw[ybe,yac,a6e];unfold cmO;rw[x7 (n:=a.Day-b.Day) (by omega) (by omega),x7 (n:=a.Device-b.Device) (by omega) (by omega),x7 (n:=a.Seq-b.Seq) (by omega) (by omega)];by_cases h1:a.Day-b.Day=0
 ·rw[yaq h1];by_cases h2:a.Device-b.Device=0
  ·rw[yaq h2];omega
  ·rw[yah h2];omega
 ·rw[yah h1];omega
def srt (l:List Off):Bool:=(List.range (l.length-1)).all fun i=>match l[i+1]?,l[i]? with|some x,some y=>!decide (cmO x y<0)|_,_=>true
theorem b5p {l:List Off} (hl:l.length<1000000):qi (fun (g:Unit×Unit) x0 x1=>qf x0 x1) l ((),())=some (srt l):=by
 unfold qi;rcases Nat.eq_zero_or_pos l.length with h0|hpos
 ·have:l=[]:=yaZ.1 h0;subst this;rfl
 ·have e:wr .i64 ((l.length:Int)-1)=((l.length-1:Nat):Int):=by rw[x7 (by omega) (by omega)];omega
  rw[e];have hlen:((List.range (l.length-1)).reverse).length=l.length-1:=by simp
  have h:=a0r (step:=b5b (fun (g:Unit×Unit) x0 x1=>qf x0 x1)) (fun j=>(l,((),()),((l.length-1-j:Nat):Int),())) (List.range (l.length-1)).reverse
   (fun _ i=>match l[i+1]?,l[i]? with|some x,some y=>!decide (cmO x y<0)|_,_=>true) (.inr (false,())) (.inl ()) (by omega)
   (by rw[hlen,Nat.sub_self];rfl)
   (fun j q hq=>by
    have hj:j<l.length-1:=by have:=(zL hq);omega
    have eq:q=l.length-1-1-j:=by
     rw[List.getElem?_reverse (by simpa using hj)]at hq;simp only[List.length_range]at hq;rw[List.getElem?_range (by omega)]at hq;exact (yaL hq).symm
    have e1:l.length-1-j=q+1:=by omega
    have h1:q+1<l.length:=by omega
    have h2:q<l.length:=by omega
    have p0:decide ((0:Int)<((q+1:Nat):Int))=true:=c72;simp only[b5b,e1,p0,yal,s9,b5u (show q<1000000000 by omega),yaa h1,yaa h2,c65];rw[show l.length-1-(j+1)=q by omega];cases decide (cmO l[q+1] l[q]<0)<;>rfl)
  rw[show f7 (b5b (fun (g:Unit×Unit) x0 x1=>qf x0 x1)) (l,((),()),((l.length-1:Nat):Int),())=_ from h,a3j,List.all_reverse];unfold srt;cases (List.range (l.length-1)).all fun i=>match l[i+1]?,l[i]? with|some x,some y=>!decide (cmO x y<0)|_,_=>true<;>rfl
def asB (l:List Off):Bool:=(List.range (l.length-1)).all fun i=>match l[i+1]?,l[i]? with|some x,some y=>ltO y x|_,_=>true
theorem b5a {l:List Off} (hl:l.length<1000000) (hpos:0<l.length):f7 a2y (l,1,())=some (bif asB l then .inl () else .inr (3,())):=by
 have hlen:(List.range (l.length-1)).length=l.length-1:=by simp
 have h:=a0r (step:=a2y) (fun j=>(l,((j+1:Nat):Int),())) (List.range (l.length-1)) (fun _ i=>match l[i+1]?,l[i]? with|some x,some y=>ltO y x|_,_=>true) (.inr (3,())) (.inl ()) (by omega)
  (by
   rw[hlen,show l.length-1+1=l.length by omega];simp only[a2y,dge,yaC])
  (fun j q hq=>by
   have hj:j<l.length-1:=by have:=(zL hq);omega
   have eq:q=j:=by
    rw[List.getElem?_range hj]at hq;exact (yaL hq).symm
   subst eq;have h1:q+1<l.length:=by omega
   have h2:q<l.length:=by omega
   simp only[a2y,dlt h1,yal,s9,b5u (show q<1000000000 by omega),yaa h1,yaa h2,c40];rw[a0h (show q+1<9223372036854775807 by omega)];cases ltO l[q] l[q+1]<;>rfl)
 rw[show f7 a2y (l,1,())=_ from h,a3j];rfl
theorem b14:f7 a2y ([],1,())=some (.inl ()):=a2e 1 (by rw[a00];omega) rfl
theorem c0o {l:List Off} (h:a8d l=0):∀x∈l,OkN x:=by
 unfold a8d at h;rw[a5h]at h;intro x hx;obtain ⟨i,hi⟩:=List.getElem?_of_mem hx;exact b76 (h i x hi)
theorem c2b {l:List Off} (h:a8d l=0) (ho:a7t l=true):srt l=asB l:=by
 have hk:=c0o h;unfold srt asB;rw[ybe,yag,yag];have key:∀i∈List.range (l.length-1),(match l[i+1]?,l[i]? with|some x,some y=>!decide (cmO x y<0)|_,_=>true)=(match l[i+1]?,l[i]? with|some x,some y=>ltO y x|_,_=>true):=fun i hi=>by
  rw[ybb]at hi;have h1:i+1<l.length:=by omega
  have h2:i<l.length:=by omega
  rw[yaa h1,yaa h2];simp only;rw[c3f (hk _ (List.getElem_mem h1)) (hk _ (List.getElem_mem h2))];cases hlt:ltO l[i+1] l[i]with
  |true=>
   cases hlt2:ltO l[i] l[i+1]with
   |false=>rfl
   |true=>have:=b41 hlt hlt2;rw[c1n]at this;cases this
  |false=>
   cases hlt2:ltO l[i] l[i+1]with
   |true=>rfl
   |false=>
    have:=b43 ho (i+1) i _ _ (yaa h1) (yaa h2) (c1o hlt hlt2);omega
 constructor
 ·intro H i hi;rw[←key i hi];exact H i hi
 ·intro H i hi;rw[key i hi];exact H i hi
def rtO (l:List Off):Int:=bif decide (128<(l.length:Int)) then 13 else if a8d l==0 then (bif a7t l then (bif asB l then 0 else 3) else 7) else a8d l
theorem c4x {l:List Off} (hl:l.length<1000000):qa l=some (rtO l):=by
 unfold qa rtO;cases decide (128<(l.length:Int)) with
 |true=>rfl
 |false=>
  simp only[yaC];rw[b7j (by omega)];by_cases h:a8d l=0
  ·rw[h];simp only[yaP,ybf];rw[b47 hl];cases ho:a7t l with
   |false=>rfl
   |true=>
    simp only[yal];rw[b5p hl];simp only;rw[c2b h ho];cases asB l<;>rfl
  ·rw[show (a8d l==0)=false by simpa using h];rfl
theorem c42 {l:List Off} (hl:l.length<1000000):qb l=some (rtO l):=by
 unfold qb rtO;cases decide (128<(l.length:Int)) with
 |true=>rfl
 |false=>
  simp only[yaC];rw[b7k (by omega)];by_cases h:a8d l=0
  ·rw[h];simp only[yaP,ybf];rw[b48 hl];cases ho:a7t l with
   |false=>rfl
   |true=>
    simp only[yal];rcases Nat.eq_zero_or_pos l.length with h0|hpos
    ·have:l=[]:=yaZ.1 h0;subst this;rw[b14];rfl
    ·rw[b5a hl hpos];cases asB l<;>rfl
  ·rw[show (a8d l==0)=false by simpa using h];rfl
end
section
open Ev
open Go (IntKind)
set_option maxRecDepth 100000
theorem b6m:∀(f u:Nat) (a:List UInt8),(b0c f u a).length≤f+a.length:=by
 intro f
 induction f with
 |zero=>intro u a;simp[b0c]
 |succ f ih=>
  intro u a;simp only[b0c,c6];split
  ·simp;omega
  ·have:=ih (u / 10) (UInt8.ofNat (48+u % 10)::a);simp only[yba]at this;omega
def dec (n:Int):List UInt8:=b0c 20 n.natAbs []
theorem a0g (n:Int):(dec n).length≤20:=b6m 20 n.natAbs []
theorem a15 {n:Int} (h0:0≤n) (h1:n≤9223372036854775807):qd n=some (dec n):=by
 unfold qd dec;rw[show (decide (-9223372036854775808≤n)&&decide (n≤9223372036854775807))=true by rw[yab,yac,yac];omega,
  show decide (n<0)=false by rw[yau];omega]
 rfl
theorem a6y (u:Nat) (h:u<10):blJ ([wr .u8 (wr .i64 (48+(u:Int)))])=[UInt8.ofNat (48+u)]:=by
 rw[x7 (n:=48+(u:Int)) (by omega) (by omega)];have:u=0∨u=1∨u=2∨u=3∨u=4∨u=5∨u=6∨u=7∨u=8∨u=9:=by omega
 rcases this with rfl|rfl|rfl|rfl|rfl|rfl|rfl|rfl|rfl|rfl<;>rfl
theorem c5z (u:Nat):((u:Int)).tmod 10=((u % 10:Nat):Int):=by rw[Int.tmod_eq_emod_of_nonneg (by omega)];rfl
theorem c5y (u:Nat):((u:Int)).tdiv 10=((u / 10:Nat):Int):=by rw[Int.tdiv_eq_ediv_of_nonneg (by omega)];rfl
theorem b6k:∀(k u:Nat) (s:List UInt8),u<10 ^ (k+1)→u<9223372036854775808→s.length≤100-k→k≤30→
 ∃(v:Nat) (t:List UInt8),v<10∧t.length≤100∧y6 b16 (k+1) ((u:Int),s,())=some ((v:Int),t,())∧UInt8.ofNat (48+v)::t=b0c (k+1) u s:=by
 intro k
 induction k with
 |zero=>
  intro u s h _ hs _;have h:u<10:=by simpa using h
  refine ⟨u,s,h,by omega,?_,?_⟩
  ·simp only[y6,b16];rw[show decide ((10:Int)≤(u:Int))=false by rw[yau];omega];rfl
  ·simp only[b0c];rw[show decide (u<10)=true by rw[yac];exact h];rfl
 |succ k ih=>
  intro u s h hb hs hk;by_cases h10:u<10
  ·refine ⟨u,s,h10,by omega,?_,?_⟩
   ·rw[y6];simp only[b16];rw[show decide ((10:Int)≤(u:Int))=false by rw[yau];omega];rfl
   ·rw[b0c];rw[show decide (u<10)=true by rw[yac];exact h10];rfl
  ·have hd:u / 10<10 ^ (k+1):=by
    rw[Nat.div_lt_iff_lt_mul (by omega)];rw[Nat.pow_succ]at h;exact h
   obtain ⟨v,t,a1,a2,a3,a4⟩:=ih (u / 10) (UInt8.ofNat (48+u % 10)::s) hd (by omega) (by simp;omega) (by omega);refine ⟨v,t,a1,a2,?_,?_⟩
   ·rw[y6];have e1:wr .i64 ((u:Int).tdiv 10)=((u / 10:Nat):Int):=by rw[c5y,x7 (by omega) (by omega)]
    simp only[b16];rw[show decide ((10:Int)≤(u:Int))=true by rw[yac];omega,c5z,a6y (u % 10) (by omega),e1,
     show decide (([UInt8.ofNat (48+u % 10)]:List UInt8).length+s.length≤LIM)=true by rw[yac,y9];simp;omega]
    exact a3
   ·rw[b0c];rw[show decide (u<10)=false by rw[yau];exact h10];exact a4
theorem x9 {n:Int} (h0:0≤n) (h1:n≤9223372036854775807):qg n=some (dec n):=by
 obtain ⟨u,rfl⟩:=Int.eq_ofNat_of_zero_le h0;have hu:u<10 ^ 20:=by
  have:(10:Nat) ^ 20=100000000000000000000:=by decide
  omega
 obtain ⟨v,t,a1,a2,a3,a4⟩:=b6k 19 u [] hu (by omega) (by simp) (by omega);unfold qg;rw[a2e 20 (by rw[a00];omega) a3];simp only;rw[a6y v a1,show decide (([UInt8.ofNat (48+v)]:List UInt8).length+t.length≤LIM)=true by rw[yac,y9];simp;omega];simp only[yal];show some (UInt8.ofNat (48+v)::t)=_
 rw[a4];rfl
def c6d (n w:Nat):Bool:=match q8 (n:Int) (w:Int),qm (n:Int) (w:Int) with
 |some a,some b=>a==b&&a.length==w
 |_,_=>false
theorem b7h:(List.range 300).all (fun k=>c6d (1900+k) 4)=true:=kr
theorem c1u:(List.range 32).all (fun k=>c6d k 2)=true:=kr
theorem a7u {n w:Nat} (h:c6d n w=true):∃s,q8 (n:Int) (w:Int)=some s∧qm (n:Int) (w:Int)=some s∧s.length=w:=by
 unfold c6d at h;split at h
 ·rename_i a b h1 h2;rw[yab,ybj,ybj]at h;obtain ⟨rfl,h3⟩:=h;exact ⟨a,h1,h2,h3⟩
 ·cases h
theorem c8a {n:Nat} (h:n<300):∃s,q8 ((1900+n:Nat):Int) 4=some s∧qm ((1900+n:Nat):Int) 4=some s∧s.length=4:=
 a7u (yag.1 b7h n (ybb.2 h))
theorem c7q {n:Nat} (h:n<32):∃s,q8 (n:Int) 2=some s∧qm (n:Int) 2=some s∧s.length=2:=
 a7u (yag.1 c1u n (ybb.2 h))
theorem dle {a b:Nat} (h:a≤b):decide (a≤b)=true:=by rw[yac];exact h
theorem b33 {d:Int} (h0:0≤d) (h1:d≤109572):∃(n m k:Nat) (y mo da:List UInt8),Prt d n m∧k<32∧1≤k∧(k:Int)=d-ny n-bf (lpN n) m+1∧q8 ((1900+n:Nat):Int) 4=some y∧q8 (m:Int) 2=some mo∧q8 (k:Int) 2=some da∧
 y.length=4∧mo.length=2∧da.length=2∧
 qaj d=some (y++[45]++mo++[45]++da)∧qak d=some (y++[45]++mo++[45]++da):=by
 obtain ⟨n,m,hp⟩:=c4v h0 h1;have hp':=hp;obtain ⟨hn,a1,a2,m1,m2,b1,b2⟩:=hp';have hst:=b23 (lpN n) m m1 m2;obtain ⟨k,hk⟩:=Int.eq_ofNat_of_zero_le (a:=d-ny n-bf (lpN n) m+1) (by omega);have hk:d-ny n-bf (lpN n) m+1=(k:Int):=hk;obtain ⟨y,y1,y2,y3⟩:=c8a hn;obtain ⟨mo,o1,o2,o3⟩:=c7q (n:=m) (by omega);obtain ⟨da,e1,e2,e3⟩:=c7q (n:=k) (by omega);refine ⟨n,m,k,y,mo,da,hp,by omega,by omega,hk.symm,y1,o1,e1,y3,o3,e3,?_,?_⟩
 ·unfold qaj;rw[c63 hp,hk];simp only[yaP,yaU,yaC,y1,o1,e1];rw[dle (by rw[y9];simp;omega),dle (by rw[y9];simp;omega),dle (by rw[y9];simp;omega),dle (by rw[y9];simp;omega)];rfl
 ·unfold qak;rw[c64 hp,hk];simp only[yaP,yaU,yaC,y2,o2,e2];rw[dle (by rw[y9];simp;omega),dle (by rw[y9];simp;omega),dle (by rw[y9];simp;omega),dle (by rw[y9];simp;omega)];rfl
def dat (d:Int):List UInt8:=match qaj d with|some s=>s|none=>[]
theorem b0b {d:Int} (h0:0≤d) (h1:d≤109572):qaj d=some (dat d)∧qak d=some (dat d)∧(dat d).length=10:=by
 obtain ⟨n,m,k,y,mo,da,-,-,-,-,-,-,-,l1,l2,l3,e1,e2⟩:=b33 h0 h1;have:dat d=y++[45]++mo++[45]++da:=by unfold dat;rw[e1]
 rw[this];exact ⟨e1,e2,by simp;omega⟩
structure OkA (x:Off):Prop where
 n:OkN x
 i0:1≤x.Item
 i1:x.Item≤9999
 b0:1≤x.Branch
 b1:x.Branch≤4
 k0:1≤x.Kind
 k1:x.Kind≤3
 p0:x.Kind=1→1≤x.Patron∧x.Patron≤9999
 p1:x.Kind≠1→x.Patron=0
theorem b97 {x:Off} (h:chk x=0):OkA x:=by
 have hn:=b76 h;unfold chk at h;cases h1:(((!wi x.Device 1 9||!wi x.Seq 1 9999)||!wi x.Day 0 109572)||!wi x.Item 1 9999)||!wi x.Branch 1 4 with
 |true=>rw[h1]at h;cases h
 |false=>
  rw[h1,yaC]at h;simp only[Bool.or_eq_false_iff,Bool.not_eq_false']at h1;obtain ⟨⟨⟨⟨a,b⟩,c⟩,hi⟩,hb⟩:=h1;cases h2:wi x.Kind 1 3 with
  |false=>rw[h2]at h;cases h
  |true=>
   rw[h2,yaU,yaC]at h;cases h3:((x.Kind==1&&!wi x.Patron 1 9999)||(!(x.Kind==1)&&!(x.Patron==0))) with
   |true=>rw[h3]at h;cases h
   |false=>
    unfold wi at hi hb h2 h3;simp only[yab,yac]at hi hb h2;simp only[Bool.or_eq_false_iff,Bool.and_eq_false_iff,yaM,ne_eq,Bool.not_eq_false',yab,yac,ybj]at h3;exact ⟨hn,hi.1,hi.2,hb.1,hb.2,h2.1,h2.2,fun e=>h3.1.resolve_left (fun h=>h e),fun e=>h3.2.resolve_left e⟩
theorem b0f {l:List Off} (h:a8d l=0):∀x∈l,OkA x:=by
 intro x hx;obtain ⟨i,hi⟩:=List.getElem?_of_mem hx;exact b97 ((a5h (f:=fun _ x=>chk x)).1 h i x hi)
def b7d (x:Off):List UInt8:=
 if x.Kind=1 then [108,111,97,110,32]++dec x.Item++[32]++dec x.Patron
 else if x.Kind=2 then [98,97,99,107,32]++dec x.Item else [114,101,110,101,119,32]++dec x.Item
def a0x (x:Off):List UInt8:=dec x.Device++[32]++dec x.Seq++[32]++dat x.Day++[32]++b7d x++[32]++dec x.Branch
theorem b7e (x:Off):(b7d x).length≤60:=by
 have h1:=a0g x.Item;have h2:=a0g x.Patron;unfold b7d;split
 ·simp;omega
 ·split<;>(simp;omega)
theorem a39 {x:Off} (h:OkA x):(a0x x).length≤150:=by
 have h1:=a0g x.Device;have h2:=a0g x.Seq;have h3:=(b0b h.n.d0 h.n.d1).2.2;have h4:=b7e x;have h5:=a0g x.Branch;unfold a0x;simp;omega
theorem a57 (a b:List UInt8) (l:List (List UInt8)) (s:List UInt8):Go.Lib.join (a::b::l) s=a++s++Go.Lib.join (b::l) s:=by
 unfold Go.Lib.join;simp[List.intercalate]
theorem b2i {x:Off} (h:OkA x):∃l,qw x=some l∧qt l [32]=some (a0x x):=by
 have hn:=h.n;have hi0:=h.i0;have hi1:=h.i1;have hb0:=h.b0;have hb1:=h.b1;have v0:=hn.v0;have v1:=hn.v1;have s0:=hn.s0;have s1:=hn.s1;have hlen:=a39 h;unfold qw;rw[a15 (n:=x.Device) (by omega) (by omega),a15 (n:=x.Seq) (by omega) (by omega),(b0b hn.d0 hn.d1).1,a15 (n:=x.Item) (by omega) (by omega),a15 (n:=x.Branch) (by omega) (by omega)];simp -zeta only;have join:∀l,Go.Lib.join l [32]=a0x x→l.length≤10→qt l [32]=some (a0x x):=fun l e hl=>by
  unfold qt;rw[e,show (decide (l.length≤1073741824)&&decide ((a0x x).length≤1073741824))=true by rw[yab,yac,yac];omega];rfl
 by_cases k1:x.Kind=1
 ·obtain ⟨p0,p1⟩:=h.p0 k1;rw[k1,a15 (n:=x.Patron) (by omega) (by omega)];refine ⟨_,rfl,join _ ?_ (by simp)⟩;simp only[List.cons_append,List.nil_append,a57,Go.Lib.join_one];unfold a0x b7d;rw[yaq k1];simp
 ·rw[show (x.Kind==1)=false by rw[yaM];exact k1];by_cases k2:x.Kind=2
  ·rw[k2];refine ⟨_,rfl,join _ ?_ (by simp)⟩;simp only[List.cons_append,List.nil_append,a57,Go.Lib.join_one];unfold a0x b7d;rw[yah k1,yaq k2];simp
  ·rw[show (x.Kind==2)=false by rw[yaM];exact k2];refine ⟨_,rfl,join _ ?_ (by simp)⟩;simp only[List.cons_append,List.nil_append,a57,Go.Lib.join_one];unfold a0x b7d;rw[yah k1,yah k2];simp
theorem c41 {x:Off} (h:OkA x):qah x=some (a0x x++[10]):=by
 have hn:=h.n;have hi0:=h.i0;have hi1:=h.i1;have hb0:=h.b0;have hb1:=h.b1;have v0:=hn.v0;have v1:=hn.v1;have s0:=hn.s0;have s1:=hn.s1;have h1:=a0g x.Device;have h2:=a0g x.Seq;have h3:=(b0b h.n.d0 h.n.d1).2.2;have h4:=a0g x.Item;have h5:=a0g x.Branch;have h6:=a0g x.Patron;have hL:=y9;unfold qah;rw[x9 (n:=x.Device) (by omega) (by omega),x9 (n:=x.Seq) (by omega) (by omega),(b0b hn.d0 hn.d1).2.1,x9 (n:=x.Item) (by omega) (by omega),x9 (n:=x.Branch) (by omega) (by omega)];dsimp only;by_cases k1:x.Kind=1
 ·obtain ⟨p0,p1⟩:=h.p0 k1;rw[k1,x9 (n:=x.Patron) (by omega) (by omega)];simp only[yaP,yal,yaK,yba,List.length_nil]
  repeat rw[dle (by omega)]
  simp only[yal];unfold a0x b7d;rw[yaq k1];simp
 ·rw[show (x.Kind==1)=false by rw[yaM];exact k1];by_cases k2:x.Kind=2
  ·rw[k2];simp only[yaP,yal,yaC,yaK,yba,List.length_nil]
   repeat rw[dle (by omega)]
   simp only[yal];unfold a0x b7d;rw[yah k1,yaq k2];simp
  ·rw[show (x.Kind==2)=false by rw[yaM];exact k2];simp only[yaC,yaK,yba,List.length_nil]
   repeat rw[dle (by omega)]
   simp only[yal];unfold a0x b7d;rw[yah k1,yah k2];simp
def b5r (l:List Off):List UInt8:=(l.map fun x=>a0x x++[10]).flatten
theorem b6w:∀(l:List Off) (s:List UInt8),l.foldl (fun s x=>s++(a0x x++[10])) s=s++b5r l:=by
 intro l
 induction l with
 |nil=>intro s;simp[b5r]
 |cons x l ih=>intro s;rw[List.foldl_cons,ih];simp[b5r]
theorem b9l (a b:List UInt8):blI (a++b)=blI a++blI b:=List.map_append
theorem b6v:∀(l:List Off) (s:List UInt8),l.foldl (fun s x=>s++blI (a0x x++[10])) (blI s)=blI (s++b5r l):=by
 intro l
 induction l with
 |nil=>intro s;simp[b5r]
 |cons x l ih=>intro s;rw[List.foldl_cons,←b9l,ih];simp[b5r]
theorem b9n (s:List UInt8):blJ (blI s)=s:=by
 have:=b75 [] s;simpa[blJ]using this
theorem b9m (s:List UInt8):(blI s).length=s.length:=ybc ..
theorem a23 {α β X σ:Type} {step:α→Option (α⊕β)} (Inv:Nat→σ→Prop) (enc:Nat→σ→α) (l:List X) (f:X→σ→σ) (fin:σ→β) (hl:l.length<1000000000) (h0:∀s,step (enc l.length s)=some (.inr (fin s)))
 (h1:∀i x s,l[i]?=some x→Inv i s→step (enc i s)=some (.inl (enc (i+1) (f x s)))∧Inv (i+1) (f x s)) (s:σ) (hs:Inv 0 s):f7 step (enc 0 s)=some (fin (l.foldl (fun s x=>f x s) s)):=by
 have h:=a24 (step:=step) Inv enc l (fun i x s=>.inl (f x s)) fin (by show l.length<18446744073709551616;omega) (fun s _=>h0 s) (fun i x s hx hi=>by
  obtain ⟨a,b⟩:=h1 i x s hx hi;exact ⟨by rw[a],fun s' e=>by cases e;exact b⟩) s hs
 rw[h,b2c]
theorem c68 {l:List Off} (hl:l.length<100000):qk l=some (if rtO l==0 then (b5r l,0) else ([],rtO l)):=by
 unfold qk;rw[c4x (by omega)];simp only;by_cases hr:rtO l=0
 ·rw[hr];have hok:∀x∈l,OkA x:=by
   refine b0f ?_;have h:=hr;unfold rtO at h;cases h0:decide (128<(l.length:Int)) with
   |true=>rw[h0]at h;cases h
   |false=>
    rw[h0,yaC]at h;by_cases he:a8d l=0
    ·exact he
    ·rw[yah (by simpa using he)]at h;exact absurd h he
  have h:=a23 (step:=b18) (fun i (s:List Int)=>s.length≤200*i) (fun i s=>(l,(l.length:Int),(i:Int),s,())) l (fun x s=>s++blI (a0x x++[10])) (fun s=>(s,())) (by omega)
   (fun s=>by simp only[b18];rw[show decide ((l.length:Int)<(l.length:Int))=false by simp];rfl)
   (fun i x s hx hs=>by
    obtain ⟨hi,hx'⟩:=yaz.1 hx;have hx2:OkA x:=hok x (yaj hx);obtain ⟨w,w1,w2⟩:=b2i hx2;have hlen:=a39 hx2;refine ⟨?_,by rw[yaK,b9m,yaK];simp;omega⟩;simp only[b18];rw[show decide ((i:Int)<(l.length:Int))=true by rw[yac];omega,s9,hx];simp only[yal,w1,w2];rw[dle (by rw[y9];simp;omega),dle (by rw[y9];simp;omega),a0h (by omega)];rfl) [] (by simp)
  have h:f7 b18 (l,(l.length:Int),0,([]:List Int),())=some (blI ([]++b5r l),()):=by rw[←b6v];exact h
  rw[h];simp only[yaP,yaU,yaC,List.nil_append,b9n,ybf]
 ·rw[show (rtO l==0)=false by rw[yaM];exact hr];rfl
theorem c69 {l:List Off} (hl:l.length<100000):qn l=some (if rtO l==0 then (b5r l,0) else ([],rtO l)):=by
 unfold qn;rw[c42 (by omega)];simp only;by_cases hr:rtO l=0
 ·rw[hr];have hok:∀x∈l,OkA x:=by
   refine b0f ?_;have h:=hr;unfold rtO at h;cases h0:decide (128<(l.length:Int)) with
   |true=>rw[h0]at h;cases h
   |false=>
    rw[h0,yaC]at h;by_cases he:a8d l=0
    ·exact he
    ·rw[yah (by simpa using he)]at h;exact absurd h he
  have h:=a23 (step:=b19) (fun i (s:List UInt8)=>s.length≤200*i) (fun i s=>(l,s,(i:Int),())) l (fun x s=>s++(a0x x++[10])) (fun s=>(s,())) (by omega)
   (fun s=>by simp only[b19];rw[show decide ((l.length:Int)<(l.length:Int))=false by simp];rfl)
   (fun i x s hx hs=>by
    obtain ⟨hi,hx'⟩:=yaz.1 hx;have hx2:OkA x:=hok x (yaj hx);have hlen:=a39 hx2;refine ⟨?_,by rw[yaK,yaK];simp;omega⟩;simp only[b19];rw[show decide ((i:Int)<(l.length:Int))=true by rw[yac];omega,s9,hx];simp only[yal,c41 hx2];rw[dle (by rw[y9];simp;omega),a0h (by omega)];rfl) [] (by simp)
  have h:f7 b19 (l,[],0,())=some ([]++b5r l,()):=by rw[←b6w];exact h
  rw[h];simp only[yaP,yaU,yaC,List.nil_append,ybf]
 ·rw[show (rtO l==0)=false by rw[yaM];exact hr];rfl
theorem a2b (l:List Off):qs l=some true:=by
 unfold qs;have hal:qo=some true:=rfl;cases h1:decide (140<(l.length:Int)) with
 |true=>simp only[yal,hal]
 |false=>
  rw[yau]at h1;simp only[yaC];rw[c68 (by omega),c69 (by omega),c4x (by omega),c42 (by omega)];generalize (if rtO l==0 then (b5r l,(0:Int)) else ([],rtO l))=p;obtain ⟨a,b⟩:=p;simp only[yaP,yal,hal]
end
end Go.Proofs.YtpdenibljogamaaGreatDoor
