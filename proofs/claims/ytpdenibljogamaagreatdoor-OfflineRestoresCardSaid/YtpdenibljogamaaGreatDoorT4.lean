/- OfflineRestores: a part of the proof of the given statement, which is proved without conditions. -/
import Derived.Test.YtpdenibljogamaaGreatDoorT3
import Derived.Sort.Defs
import Derived.Lib.Small
import Derived.Lib.BitFns
import Derived.Lib.DecodeN
import Derived.Lib.AtoiAll
import Derived.Lib.Repeat
import Derived.Lib.Join
import Derived.Lib.Bytealg
import Derived.Lib.SlicesCompact
import Derived.Shelf.Strings.Builder1
import Derived.Shelf.Strings.OnBuilder
import Derived.Shelf.LaysM
import Derived.Shelf.LaysC
import Derived.Shelf.Strconv.AtoiAll
import Derived.Shelf.Strconv.Itoa3
import Derived.Shelf.Strings.Search1
import Derived.Shelf.Strings.Search2
import Derived.Shelf.Strings.Search3
import Derived.Shelf.Strings.Count
import Derived.Shelf.Strings.Repeat
import Derived.Ground.Names2Prog
import Derived.Ground.NamesProg
import Derived.Test.YtpdenibljogamaaGreatDoorProg
import Derived.Tactics
import Derived.Tactics2
import Derived.WalkKit
import Derived.WalkSpells
import Derived.StillTactics
import Derived.Laws.Pointers
import Derived.Deep.RegionHeld3
import Derived.LoopTactic
import Derived.KernelRfl
import Derived.Lib.AppendIntMem
import Derived.Laws.BitsLemmas
set_option linter.all false
namespace Go.Proofs.YtpdenibljogamaaGreatDoor.Ev
open Go
def blk (c:Nat):Bool:=c==32||c==160
end Go.Proofs.YtpdenibljogamaaGreatDoor.Ev
namespace Go.Proofs.YtpdenibljogamaaGreatDoor
open Ev
open Go (IntKind)
section
set_option maxRecDepth 100000
structure Off where
 Device:Int
 Seq:Int
 Day:Int
 Kind:Int
 Item:Int
 Patron:Int
 Branch:Int
structure Outcome where
 Device:Int
 Seq:Int
 Err:Int
structure Loan where
 Item:Int
 Patron:Int
 Out:Int
 Due:Int
 Renewals:Int
 Recalled:Bool
structure Custody where
 State:Int
 Branch:Int
 Who:Int
 To:Int
structure Item where
 ID:Int
 Record:Int
 Branch:Int
 Kind:Int
 Price:Int
 Call:List UInt8
 Custody:Custody
structure Move where
 Day:Int
 Item:Int
 Kind:Int
 Branch:Int
 Who:Int
structure Patron where
 ID:Int
 Kind:Int
 Branch:Int
 Until:Int
 Stopped:Bool
 Name:List UInt8
structure Hold where
 ID:Int
 Patron:Int
 Record:Int
 Item:Int
 Pickup:Int
 Placed:Int
 State:Int
 Got:Int
 Until:Int
 Asleep:Int
 Rank:Int
structure Charge where
 ID:Int
 Patron:Int
 Item:Int
 Day:Int
 Kind:Int
 Amount:Int
 Paid:Int
structure Rule where
 Patron:Int
 Item:Int
 Branch:Int
 Days:Int
 Renewals:Int
 Fine:Int
 Grace:Int
 MaxFine:Int
 Loans:Int
 Shelf:Int
 Recall:Int
 Fixed:Int
 Rank:Int
inductive Kd where
 |kOff
 |ki64
 |ku8
 |kstr
 |kOutcome
 |kSOff
 |kLoan
 |kItem
 |kMove
 |kPatron
 |kHold
 |kCharge
 |kRule
 |ku64
 |kerr
abbrev El:Kd→Type
 |.kOff=>Off
 |.ki64=>Int
 |.ku8=>Int
 |.kstr=>List UInt8
 |.kOutcome=>Outcome
 |.kSOff=>List Off
 |.kLoan=>Loan
 |.kItem=>Item
 |.kMove=>Move
 |.kPatron=>Patron
 |.kHold=>Hold
 |.kCharge=>Charge
 |.kRule=>Rule
 |.ku64=>Int
 |.kerr=>Bool
abbrev DD:=D Kd El
abbrev Sm (R:Type):=y5 Kd El R
abbrev b3f {α β:Type} (ta:List (Nat×Nat×Kd)) (se ss bs az:List Nat) (fc:FC Kd El α) [FCC fc] (step:α→Option (α⊕β)) (oc:OC Kd El β):LD Kd El α β:=⟨ta,se,ss,bs,az,fc,step,oc⟩
instance:KdEq Kd where
 dec:=fun a b=>match a,b with
  |.kOff,.kOff=>some ⟨rfl⟩
  |.ki64,.ki64=>some ⟨rfl⟩
  |.ku8,.ku8=>some ⟨rfl⟩
  |.kstr,.kstr=>some ⟨rfl⟩
  |.kOutcome,.kOutcome=>some ⟨rfl⟩
  |.kSOff,.kSOff=>some ⟨rfl⟩
  |.kLoan,.kLoan=>some ⟨rfl⟩
  |.kItem,.kItem=>some ⟨rfl⟩
  |.kMove,.kMove=>some ⟨rfl⟩
  |.kPatron,.kPatron=>some ⟨rfl⟩
  |.kHold,.kHold=>some ⟨rfl⟩
  |.kCharge,.kCharge=>some ⟨rfl⟩
  |.kRule,.kRule=>some ⟨rfl⟩
  |.ku64,.ku64=>some ⟨rfl⟩
  |.kerr,.kerr=>some ⟨rfl⟩
  |_,_=>none
abbrev wr (k:IntKind) (n:Int):Int:=IntKind.wrap k n
def c2s (x:Off):List DD:=[.int .i64 x.Device,.int .i64 x.Seq,.int .i64 x.Day,.int .i64 x.Kind,.int .i64 x.Item,.int .i64 x.Patron,.int .i64 x.Branch]
def w9:CC Kd El Off:=(CC.cons (Cod.int .i64) (CC.cons (Cod.int .i64) (CC.cons (Cod.int .i64) (CC.cons (Cod.int .i64) (CC.cons (Cod.int .i64) (CC.cons (Cod.int .i64) (CC.cons (Cod.int .i64) CC.nil))))))).iso c2s (fun p=>⟨p.1,p.2.1,p.2.2.1,p.2.2.2.1,p.2.2.2.2.1,p.2.2.2.2.2.1,p.2.2.2.2.2.2.1⟩)
def b0b (x:Outcome):List DD:=[.int .i64 x.Device,.int .i64 x.Seq,.int .i64 x.Err]
def a29:CC Kd El Outcome:=(CC.cons (Cod.int .i64) (CC.cons (Cod.int .i64) (CC.cons (Cod.int .i64) CC.nil))).iso b0b (fun p=>⟨p.1,p.2.1,p.2.2.1⟩)
def b8j (x:Loan):List DD:=[.int .i64 x.Item,.int .i64 x.Patron,.int .i64 x.Out,.int .i64 x.Due,.int .i64 x.Renewals,.bool x.Recalled]
def a9z:CC Kd El Loan:=(CC.cons (Cod.int .i64) (CC.cons (Cod.int .i64) (CC.cons (Cod.int .i64) (CC.cons (Cod.int .i64) (CC.cons (Cod.int .i64) (CC.cons Cod.bool CC.nil)))))).iso b8j (fun p=>⟨p.1,p.2.1,p.2.2.1,p.2.2.2.1,p.2.2.2.2.1,p.2.2.2.2.2.1⟩)
def b0a (x:Custody):List DD:=[.int .i64 x.State,.int .i64 x.Branch,.int .i64 x.Who,.int .i64 x.To]
def a6f:CC Kd El Custody:=(CC.cons (Cod.int .i64) (CC.cons (Cod.int .i64) (CC.cons (Cod.int .i64) (CC.cons (Cod.int .i64) CC.nil)))).iso b0a (fun p=>⟨p.1,p.2.1,p.2.2.1,p.2.2.2.1⟩)
def b8i (x:Item):List DD:=[.int .i64 x.ID,.int .i64 x.Record,.int .i64 x.Branch,.int .i64 x.Kind,.int .i64 x.Price,.str x.Call,.int .i64 x.Custody.State,.int .i64 x.Custody.Branch,.int .i64 x.Custody.Who,.int .i64 x.Custody.To]
def a9y:CC Kd El Item:=(CC.cons (Cod.int .i64) (CC.cons (Cod.int .i64) (CC.cons (Cod.int .i64) (CC.cons (Cod.int .i64) (CC.cons (Cod.int .i64) (CC.cons Cod.str (CC.cons (Cod.int .i64) (CC.cons (Cod.int .i64) (CC.cons (Cod.int .i64) (CC.cons (Cod.int .i64) CC.nil)))))))))).iso b8i (fun p=>⟨p.1,p.2.1,p.2.2.1,p.2.2.2.1,p.2.2.2.2.1,p.2.2.2.2.2.1,⟨p.2.2.2.2.2.2.1,p.2.2.2.2.2.2.2.1,p.2.2.2.2.2.2.2.2.1,p.2.2.2.2.2.2.2.2.2.1⟩⟩)
def b8k (x:Move):List DD:=[.int .i64 x.Day,.int .i64 x.Item,.int .i64 x.Kind,.int .i64 x.Branch,.int .i64 x.Who]
def a90:CC Kd El Move:=(CC.cons (Cod.int .i64) (CC.cons (Cod.int .i64) (CC.cons (Cod.int .i64) (CC.cons (Cod.int .i64) (CC.cons (Cod.int .i64) CC.nil))))).iso b8k (fun p=>⟨p.1,p.2.1,p.2.2.1,p.2.2.2.1,p.2.2.2.2.1⟩)
def b23 (x:Patron):List DD:=[.int .i64 x.ID,.int .i64 x.Kind,.int .i64 x.Branch,.int .i64 x.Until,.bool x.Stopped,.str x.Name]
def a4l:CC Kd El Patron:=(CC.cons (Cod.int .i64) (CC.cons (Cod.int .i64) (CC.cons (Cod.int .i64) (CC.cons (Cod.int .i64) (CC.cons Cod.bool (CC.cons Cod.str CC.nil)))))).iso b23 (fun p=>⟨p.1,p.2.1,p.2.2.1,p.2.2.2.1,p.2.2.2.2.1,p.2.2.2.2.2.1⟩)
def b8h (x:Hold):List DD:=[.int .i64 x.ID,.int .i64 x.Patron,.int .i64 x.Record,.int .i64 x.Item,.int .i64 x.Pickup,.int .i64 x.Placed,.int .i64 x.State,.int .i64 x.Got,.int .i64 x.Until,.int .i64 x.Asleep,.int .i64 x.Rank]
def a9x:CC Kd El Hold:=(CC.cons (Cod.int .i64) (CC.cons (Cod.int .i64) (CC.cons (Cod.int .i64) (CC.cons (Cod.int .i64) (CC.cons (Cod.int .i64) (CC.cons (Cod.int .i64) (CC.cons (Cod.int .i64) (CC.cons (Cod.int .i64) (CC.cons (Cod.int .i64) (CC.cons (Cod.int .i64) (CC.cons (Cod.int .i64) CC.nil))))))))))).iso b8h (fun p=>⟨p.1,p.2.1,p.2.2.1,p.2.2.2.1,p.2.2.2.2.1,p.2.2.2.2.2.1,p.2.2.2.2.2.2.1,p.2.2.2.2.2.2.2.1,p.2.2.2.2.2.2.2.2.1,p.2.2.2.2.2.2.2.2.2.1,p.2.2.2.2.2.2.2.2.2.2.1⟩)
def b22 (x:Charge):List DD:=[.int .i64 x.ID,.int .i64 x.Patron,.int .i64 x.Item,.int .i64 x.Day,.int .i64 x.Kind,.int .i64 x.Amount,.int .i64 x.Paid]
def a4k:CC Kd El Charge:=(CC.cons (Cod.int .i64) (CC.cons (Cod.int .i64) (CC.cons (Cod.int .i64) (CC.cons (Cod.int .i64) (CC.cons (Cod.int .i64) (CC.cons (Cod.int .i64) (CC.cons (Cod.int .i64) CC.nil))))))).iso b22 (fun p=>⟨p.1,p.2.1,p.2.2.1,p.2.2.2.1,p.2.2.2.2.1,p.2.2.2.2.2.1,p.2.2.2.2.2.2.1⟩)
def b8l (x:Rule):List DD:=[.int .i64 x.Patron,.int .i64 x.Item,.int .i64 x.Branch,.int .i64 x.Days,.int .i64 x.Renewals,.int .i64 x.Fine,.int .i64 x.Grace,.int .i64 x.MaxFine,.int .i64 x.Loans,.int .i64 x.Shelf,.int .i64 x.Recall,.int .i64 x.Fixed,.int .i64 x.Rank]
def a91:CC Kd El Rule:=(CC.cons (Cod.int .i64) (CC.cons (Cod.int .i64) (CC.cons (Cod.int .i64) (CC.cons (Cod.int .i64) (CC.cons (Cod.int .i64) (CC.cons (Cod.int .i64) (CC.cons (Cod.int .i64) (CC.cons (Cod.int .i64) (CC.cons (Cod.int .i64) (CC.cons (Cod.int .i64) (CC.cons (Cod.int .i64) (CC.cons (Cod.int .i64) (CC.cons (Cod.int .i64) CC.nil))))))))))))).iso b8l (fun p=>⟨p.1,p.2.1,p.2.2.1,p.2.2.2.1,p.2.2.2.2.1,p.2.2.2.2.2.1,p.2.2.2.2.2.2.1,p.2.2.2.2.2.2.2.1,p.2.2.2.2.2.2.2.2.1,p.2.2.2.2.2.2.2.2.2.1,p.2.2.2.2.2.2.2.2.2.2.1,p.2.2.2.2.2.2.2.2.2.2.2.1,p.2.2.2.2.2.2.2.2.2.2.2.2.1⟩)
def ccK:(k:Kd)→CC Kd El (El k)
 |.kOff=>w9
 |.ki64=>CC.one (Cod.int .i64)
 |.ku8=>CC.one (Cod.int .u8)
 |.kstr=>CC.one Cod.str
 |.kOutcome=>a29
 |.kSOff=>CC.one (Cod.lst Kd.kOff)
 |.kLoan=>a9z
 |.kItem=>a9y
 |.kMove=>a90
 |.kPatron=>a4l
 |.kHold=>a9x
 |.kCharge=>a4k
 |.kRule=>a91
 |.ku64=>CC.one (Cod.int .u64)
 |.kerr=>CC.one Cod.ifc
def d1c:Kd→Nat
 |.kOff=>7
 |.ki64=>1
 |.ku8=>1
 |.kstr=>1
 |.kOutcome=>3
 |.kSOff=>1
 |.kLoan=>6
 |.kItem=>10
 |.kMove=>5
 |.kPatron=>6
 |.kHold=>11
 |.kCharge=>7
 |.kRule=>13
 |.ku64=>1
 |.kerr=>1
def d1b (t:Nat):Option Kd:=bif Nat.beq t 357 then some .ku8 else bif Nat.beq t 356 then some .ku8 else bif Nat.beq t 301 then some .ki64 else bif Nat.beq t 225 then some .ku64 else bif Nat.beq t 166 then some .ku64 else bif Nat.beq t 157 then some .ki64 else bif Nat.beq t 118 then some .ku64 else bif Nat.beq t 105 then some .kRule else bif Nat.beq t 103 then some .kCharge else bif Nat.beq t 101 then some .kHold else bif Nat.beq t 99 then some .kLoan else bif Nat.beq t 97 then some .kPatron else bif Nat.beq t 95 then some .kItem else bif Nat.beq t 70 then some .kerr else bif Nat.beq t 69 then some .kerr else bif Nat.beq t 64 then some .kOutcome else bif Nat.beq t 61 then some .kOff else bif Nat.beq t 57 then some .kMove else bif Nat.beq t 24 then some .ki64 else bif Nat.beq t 22 then some .kSOff else bif Nat.beq t 20 then some .kerr else bif Nat.beq t 12 then some .ku64 else bif Nat.beq t 11 then some .kstr else bif Nat.beq t 10 then some .kstr else bif Nat.beq t 9 then some .kstr else bif Nat.beq t 6 then some .ku8 else bif Nat.beq t 5 then some .ku8 else bif Nat.beq t 3 then some .ki64 else bif Nat.beq t 2 then some .ki64 else none
def d4:List Int:=(List.range 20).map fun i=>((10 ^ i:Nat):Int)
def u0:List Bool:=[false]
def y0:List Bool:=[false]
def a8s (t:Nat):Option ((k:Kd)×List (El k)):=bif Nat.beq t 6 then some ⟨.kerr,y0⟩ else bif Nat.beq t 5 then some ⟨.kerr,u0⟩ else bif Nat.beq t 4 then some ⟨.ku64,d4⟩ else none
def d1e (f:Nat):Md:=bif Nat.beq f 30 then .bld else bif Nat.beq f 27 then .bld else bif Nat.beq f 130 then .mut else bif Nat.beq f 126 then .mut else bif Nat.beq f 125 then .newb else bif Nat.beq f 114 then .inpl else bif Nat.beq f 66 then .inpl else bif Nat.beq f 42 then .inpl else bif Nat.beq f 90 then .mut else bif Nat.beq f 39 then .fresh else bif Nat.beq f 29 then .fresh else .data
def c6t (t:Nat):Bool:=Nat.beq t 93||(Nat.beq t 61||(false))
def d1a (f:Nat):Option Kd:=bif Nat.beq f 114 then some .kOff else bif Nat.beq f 66 then some .kOff else bif Nat.beq f 42 then some .kOff else none
def c9x (n:Nat):Bool:=Nat.beq n 4
def d01:Option (BlK Kd El):=some ⟨.ku8,blI,blJ,68,5,c22 27 30⟩
def c9z:Kd→Bool:=fun | .ku8=>true|_=>false
def d02:Option (ByK Kd El):=some ⟨.ku8,blI,blJ⟩
def sg:Sg Kd El:=⟨fun k=>(ccK k).enc,fun k=>(ccK k).dec,d1c,d1b,a8s,d1e,c6t,fun _=>none,d1a,c9x,d01,c9z,d02⟩
def a41 (x y:Off):Bool:=(x.Device==y.Device&&(x.Seq==y.Seq&&(x.Day==y.Day&&(x.Kind==y.Kind&&(x.Item==y.Item&&(x.Patron==y.Patron&&(x.Branch==y.Branch&&true)))))))
abbrev ZC:=CC Kd El
abbrev ZF:=FC Kd El
abbrev ZD:=Cod Kd El
abbrev Zi:ZD Int:=Cod.int .i64
abbrev Zb:ZD Bool:=Cod.bool
abbrev Zl (k:Kd):ZD (List (El k)):=Cod.lst k
abbrev Zn:ZC Unit:=CC.nil
abbrev Zz:ZF Unit:=FC.nil
section
variable {α β:Type}
abbrev Zc:ZD α→ZC β→ZC (α×β):=CC.cons
abbrev Zs:Nat→ZD α→ZF β→ZF (α×β):=FC.slot
end
end
section
def q9 (l:List (List UInt8)) (sep:List UInt8):Option (List UInt8):=bif decide (l.length≤1073741824)&&decide ((Go.Lib.join l sep).length≤1073741824) then some (Go.Lib.join l sep) else none
def qy (s:List UInt8) (n:Int):Option (List UInt8):=bif decide (0≤n)&&(decide (n.toNat≤1073741824)&&decide (s.length*n.toNat≤1073741824)) then some (Go.Lib.repeatL s n.toNat) else none
def q8 (s sep:List UInt8):Option Int:=match sep with | [c]=>some ((Go.Lib.countByte s c:Nat):Int)|_=>none
def qz (s sep:List UInt8):Option Int:=match sep with | [c]=>some (Go.Lib.indexByte s c)|_=>none
def qn (s:List UInt8):Option (Int×Bool):=bif decide (s.length≤LIM) then some (match Go.Lib.atoiAll s with | .ok n=>(n,true) | .range=>(Go.Lib.atoiSat s,false)|_=>(0,false)) else none
def qp (s sep:List UInt8):Option Int:=match sep with | [c]=>some (Go.Lib.indexByte s c)|_=>none
def qx (_s:List UInt8) (_n:Int):Option (List (List UInt8)):=none
def qak (s:List UInt8) (c:Int):Option Int:=some (Go.Lib.indexByte s c.toNat.toUInt8)
@[inline] def a98:Nat→Nat→List UInt8→List UInt8|0,_,a=>a|f+1,u,a=>bif decide (u<10) then UInt8.ofNat (48+u)::a else a98 f (u / 10) (UInt8.ofNat (48+u % 10)::a)
def qc (n:Int):Option (List UInt8):=bif decide (-9223372036854775808≤n)&&decide (n≤9223372036854775807) then some (bif decide (n<0) then 45::a98 20 n.natAbs [] else a98 20 n.natAbs []) else none
end
section
set_option maxRecDepth 100000
def ql:Option Bool:=some true
def qs (n:Int) (least:Int) (most:Int):Option Bool:=
 let k (v:Bool):Option Bool:=some v;bif decide (least≤n) then k (decide (n≤most)) else k false
def qq (x:Off):Option Int:=
 match qs x.Device 1 9 with|some r1 =>(let k24 (v:Bool):Option Int:=let k23 (v6:Bool):Option Int:=let k22 (v9:Bool):Option Int:=let k21 (v12:Bool):Option Int:=bif v12 then some 2 else match qs x.Kind 1 3 with|some r14 =>bif !r14 then some 1 else let k20 (v17:Bool):Option Int:=let k (v19:Bool):Option Int:=bif v19 then some 2 else some 0;bif v17 then k true else bif !(x.Kind==1) then k (!(x.Patron==0)) else k false;bif x.Kind==1 then match qs x.Patron 1 9999 with|some r16 =>k20 (!r16)|none =>none else k20 false|none =>none;bif v9 then k21 true else match qs x.Branch 1 4 with|some r11 =>k21 (!r11)|none =>none;bif v6 then k22 true else match qs x.Item 1 9999 with|some r8 =>k22 (!r8)|none =>none;bif v then k23 true else match qs x.Day 0 109572 with|some r5 =>k23 (!r5)|none =>none;bif !r1 then k24 true else match qs x.Seq 1 9999 with|some r3 =>k24 (!r3)|none =>none)|none =>none
def qr (y:Off) (v:Off):Option Bool:=
 let k (v1:Bool):Option Bool:=some v1;bif v.Device==y.Device then k (v.Seq==y.Seq) else k false
def b3q {γ0:Type} (p:γ0→Off→Option Bool):((List Off)×γ0×Int×Int×Unit)→Option (((List Off)×γ0×Int×Int×Unit)⊕((Unit)⊕(Int×Unit))):=fun (s,g,v,v1,_)=>
 bif decide (v1<v) then match a0d s v1 with|some x =>(match p g x with|some r =>bif r then some (.inr (.inr (v1,()))) else some (.inl (s,g,v,wr .i64 (v1+1),()))|none =>none)|none =>none else some (.inr (.inl (())))
def qi {γ0:Type} (p:γ0→Off→Option Bool) (s:List Off) (g:γ0):Option Int:=
 match j3 (b3q p) (s,g,(s.length:Int),0,()) with|some (.inl (_)) =>some (-1)|some (.inr (v,_)) =>some v|none =>none
def qaj {γ0:Type} (p:γ0→Off→Option Bool) (s:List Off) (g:γ0):Option Bool:=
 match qi p s g with|some r1 =>some (decide (0≤r1))|none =>none
def b0v:(Int×Int×(List Int)×Unit)→Option ((Int×Int×(List Int)×Unit)⊕((Unit)⊕(Int×Unit))):=fun (v,v1,l,_)=>
 bif decide (v1<v) then match a0d l v1 with|some _ =>(match l[v1.toNat]? with|some x =>bif !(x==0) then some (.inr (.inr (x,()))) else some (.inl (v,wr .i64 (v1+1),l,()))|none =>none)|none =>none else some (.inr (.inl (())))
def qe (a:Off) (b:Off):Option Int:=
 match j3 b0v ((([wr .i64 (a.Day-b.Day),wr .i64 (a.Device-b.Device),wr .i64 (a.Seq-b.Seq)]).length:Int),0,[wr .i64 (a.Day-b.Day),wr .i64 (a.Device-b.Device),wr .i64 (a.Seq-b.Seq)],()) with|some (.inl (_)) =>some 0|some (.inr (v,_)) =>some v|none =>none
def b64 {γ0:Type} (p:γ0→Off→Off→Option Int):((List Off)×γ0×Int×Unit)→Option (((List Off)×γ0×Int×Unit)⊕((Unit)⊕(Bool×Unit))):=fun (x,g,i,_)=>
 bif decide (0<i) then match a0d x i with|some x1 =>(match a0d x (wr .i64 (i-1)) with|some x2 =>(match p g x1 x2 with|some r =>bif decide (r<0) then some (.inr (.inr (false,()))) else some (.inl (x,g,wr .i64 (i-1),()))|none =>none)|none =>none)|none =>none else some (.inr (.inl (())))
def qh {γ0:Type} (p:γ0→Off→Off→Option Int) (x:List Off) (g:γ0):Option Bool:=
 match j3 (b64 p) (x,g,wr .i64 ((x.length:Int)-1),()) with|some (.inl (_)) =>some true|some (.inr (v,_)) =>some v|none =>none
def b3o:((List Off)×(List Off)×Int×Int×Unit)→Option (((List Off)×(List Off)×Int×Int×Unit)⊕(((List Off)×Unit)⊕(Int×Unit))):=fun (l,v,v1,v2,_)=>
 bif decide (v2<v1) then match a0d v v2 with|some x =>(match qq x with|some r3 =>bif !(r3==0) then some (.inr (.inr (r3,()))) else some (.inl (l,v,v1,wr .i64 (v2+1),()))|none =>none)|none =>none else some (.inr (.inl (l,())))
def a6r:((List Off)×(List Off)×Int×Int×Unit)→Option (((List Off)×(List Off)×Int×Int×Unit)⊕(((List Off)×Unit)⊕(Int×Unit))):=fun (l,v,v5,v6,_)=>
 bif decide (v6<v5) then match a0d v v6 with|some x =>bif decide (0≤(0:Int))&&(decide ((0:Int)≤v6)&&decide (v6≤(l.length:Int))) then match qaj (fun g x0=>qr x0 g.2.1) ((l.take v6.toNat).drop (0:Int).toNat) ((),(x,())) with|some r7 =>bif r7 then some (.inr (.inr (7,()))) else some (.inl (l,v,v5,wr .i64 (v6+1),()))|none =>none else none|none =>none else some (.inr (.inl (l,())))
def qa (l:List Off):Option Int:=
 bif decide (128<(l.length:Int)) then some 13 else match j3 b3o (l,l,(l.length:Int),0,()) with|some (.inl (l4,_)) =>(match j3 a6r (l4,l4,(l4.length:Int),0,()) with|some (.inl (l8,_)) =>(match qh (fun g x0 x1=>qe x0 x1) l8 ((),()) with|some r9 =>bif !r9 then some 3 else some 0|none =>none)|some (.inr (v,_)) =>some v|none =>none)|some (.inr (v10,_)) =>some v10|none =>none
def qam (day:Int):Option Bool:=
 let k (v:Bool):Option Bool:=some v;bif decide (0≤day) then k (decide (day≤109572)) else k false
def qv (y:Int):Option Bool:=
 let k (v1:Bool):Option Bool:=some v1;bif (y.tmod 4)==0 then bif !((y.tmod 100)==0) then k true else k ((y.tmod 400)==0) else k false
def b63:(Int×Int×Int×Unit)→Option ((Int×Int×Int×Unit)⊕((Int×Unit))):=fun (y,day,k,_)=>
 bif decide (k<y) then match qv k with|some r1 =>let k3 (day2:Int):Option ((Int×Int×Int×Unit)⊕((Int×Unit))):=some (.inl (y,day2,wr .i64 (k+1),()));bif r1 then k3 (wr .i64 (day+1)) else k3 day|none =>none else some (.inr ((day,())))
def qf (y:Int):Option Int:=
 match j3 b63 (y,wr .i64 ((wr .i64 (y-1900))*365),1900,()) with|some ((day,_)) =>some day|none =>none
def qt (y:Int) (m:Int):Option Int:=
 let k4 (v:Int):Option Int:=let k3 (v2:Bool):Option Int:=let k (n:Int):Option Int:=some n;bif v2 then k (wr .i64 (v+1)) else k v;bif decide (2<m) then match qv y with|some r1 =>k3 r1|none =>none else k3 false;bif (wr .i64 (m-1))==0 then k4 0 else bif (wr .i64 (m-1))==1 then k4 31 else bif (wr .i64 (m-1))==2 then k4 59 else bif (wr .i64 (m-1))==3 then k4 90 else bif (wr .i64 (m-1))==4 then k4 120 else bif (wr .i64 (m-1))==5 then k4 151 else bif (wr .i64 (m-1))==6 then k4 181 else bif (wr .i64 (m-1))==7 then k4 212 else bif (wr .i64 (m-1))==8 then k4 243 else bif (wr .i64 (m-1))==9 then k4 273 else bif (wr .i64 (m-1))==10 then k4 304 else bif (wr .i64 (m-1))==11 then k4 334 else none
def b9h:(Int×Int×Unit)→Option ((Int×Int×Unit)⊕((Int×Int×Unit))):=fun (day,y,_)=>
 let k (v:Bool):Option ((Int×Int×Unit)⊕((Int×Int×Unit))):=bif v then some (.inl (day,wr .i64 (y+1),())) else some (.inr ((day,y,())));bif decide (y<2199) then match qf (wr .i64 (y+1)) with|some r2 =>k (decide (r2≤day))|none =>none else k false
def b9i:(Int×Int×Int×Unit)→Option ((Int×Int×Int×Unit)⊕((Int×Int×Int×Unit))):=fun (y,rest,m,_)=>
 match qt y m with|some r6 =>bif decide (rest<r6) then some (.inl (y,rest,wr .i64 (m-1),())) else some (.inr ((y,rest,m,())))|none =>none
def qd (day:Int):Option (Int×Int×Int×Int):=
 match qam day with|some r1 =>(bif !r1 then some (0,0,0,2) else match j3 b9h (day,wr .i64 (1900+(wr .i64 (day.tdiv 366))),()) with|some ((day3,y,_)) =>(match qf y with|some r5 =>(match j3 b9i (y,wr .i64 (day3-r5),12,()) with|some ((y7,rest,m,_)) =>(match qt y7 m with|some r9 =>some (y7,m,wr .i64 ((wr .i64 (rest-r9))+1),0)|none =>none)|none =>none)|none =>none)|none =>none)|none =>none
def qai (n:Int) (width:Int):Option (List UInt8):=
 match qc n with|some r1 =>(match qy ([48]) (wr .i64 (width-(r1.length:Int))) with|some r3 =>bif decide (r3.length+r1.length≤LIM) then some (r3++r1) else none|none =>none)|none =>none
def qap (day:Int):Option (List UInt8):=
 match qd day with|some (r1,r2,r3,r4) =>(bif !(r4==0) then some ([]) else match qai r1 4 with|some r6 =>bif decide (r6.length+([45]).length≤LIM) then match qai r2 2 with|some r8 =>bif decide ((r6++([45])).length+r8.length≤LIM) then bif decide (((r6++([45]))++r8).length+([45]).length≤LIM) then match qai r3 2 with|some r10 =>bif decide ((((r6++([45]))++r8)++([45])).length+r10.length≤LIM) then some ((((r6++([45]))++r8)++([45]))++r10) else none|none =>none else none else none|none =>none else none|none =>none)|none =>none
def qu (x:Off):Option (List (List UInt8)):=
 match qc x.Device with|some r1 =>(match qc x.Seq with|some r3 =>(match qap x.Day with|some r5 =>(match qc x.Item with|some r7 =>(match qc x.Branch with|some r9 =>let k (l:List (List UInt8)):Option (List (List UInt8)):=some l;bif x.Kind==1 then match qc x.Patron with|some r11 =>bif decide (([r1,r3,r5]:List (List UInt8)).length+([[108,111,97,110],r7,r11,r9]:List (List UInt8)).length≤LIM) then k (([r1,r3,r5])++([[108,111,97,110],r7,r11,r9]:List (List UInt8))) else none|none =>none else bif x.Kind==2 then bif decide (([r1,r3,r5]:List (List UInt8)).length+([[98,97,99,107],r7,r9]:List (List UInt8)).length≤LIM) then k (([r1,r3,r5])++([[98,97,99,107],r7,r9]:List (List UInt8))) else none else bif decide (([r1,r3,r5]:List (List UInt8)).length+([[114,101,110,101,119],r7,r9]:List (List UInt8)).length≤LIM) then some (([r1,r3,r5])++([[114,101,110,101,119],r7,r9]:List (List UInt8))) else none|none =>none)|none =>none)|none =>none)|none =>none)|none =>none
def b3r:((List Off)×Int×Int×(List Int)×Unit)→Option (((List Off)×Int×Int×(List Int)×Unit)⊕(((List Int)×Unit))):=fun (v,v2,v3,l,_)=>
 bif decide (v3<v2) then match a0d v v3 with|some x =>(match qu x with|some l4 =>(match q9 l4 ([32]) with|some r6 =>bif decide (r6.length+([10]).length≤LIM) then bif decide (l.length+(r6++([10])).length≤LIM) then some (.inl (v,v2,wr .i64 (v3+1),l++blI (r6++([10])),())) else none else none|none =>none)|none =>none)|none =>none else some (.inr ((l,())))
def qj (l:List Off):Option ((List UInt8)×Int):=
 match qa l with|some r1 =>(bif !(r1==0) then some ([],r1) else match j3 b3r (l,(l.length:Int),0,([]:List Int),()) with|some ((l7,_)) =>some (blJ l7,0)|none =>none)|none =>none
def qae (s:List UInt8) (sep:List UInt8):Option ((List UInt8)×(List UInt8)×Bool):=
 match qp s sep with|some r1 =>bif decide (0≤r1) then bif decide (0≤(0:Int))&&(decide ((0:Int)≤r1)&&decide (r1≤(s.length:Int))) then bif decide (0≤(wr .i64 (r1+(sep.length:Int)):Int))&&(decide ((wr .i64 (r1+(sep.length:Int)):Int)≤(s.length:Int))&&decide ((s.length:Int)≤(s.length:Int))) then some ((s.take r1.toNat).drop (0:Int).toNat,(s.take (s.length:Int).toNat).drop (wr .i64 (r1+(sep.length:Int)):Int).toNat,true) else none else none else some (s,[],false)|none =>none
def qal (s:List UInt8) (sep:List UInt8):Option ((List UInt8)×(List UInt8)×Bool):=
 match qae s sep with|some (r1,r2,r3) =>some (r1,r2,r3)|none =>none
def a6s:((List UInt8)×(List UInt8)×Int×Int×Int×(List (List UInt8))×Unit)→Option (((List UInt8)×(List UInt8)×Int×Int×Int×(List (List UInt8))×Unit)⊕(((List UInt8)×Int×(List (List UInt8))×Unit))):=fun (s,sep,sepSave,n,i,l,_)=>
 bif decide (i<n) then match qz s sep with|some r5 =>bif decide (r5<0) then some (.inr ((s,i,l,()))) else bif decide (0≤(0:Int))&&(decide ((0:Int)≤wr .i64 (r5+sepSave))&&decide (wr .i64 (r5+sepSave)≤(s.length:Int))) then match a0d l i with|some _ =>(match l[i.toNat]? with|some x =>bif decide (0≤(wr .i64 (r5+(sep.length:Int)):Int))&&(decide ((wr .i64 (r5+(sep.length:Int)):Int)≤(s.length:Int))&&decide ((s.length:Int)≤(s.length:Int))) then some (.inl ((s.take (s.length:Int).toNat).drop (wr .i64 (r5+(sep.length:Int)):Int).toNat,sep,sepSave,n,wr .i64 (i+1),l.set i.toNat ((s.take (wr .i64 (r5+sepSave)).toNat).drop (0:Int).toNat),())) else none|none =>none)|none =>none else none|none =>none else some (.inr ((s,i,l,())))
def qm (s:List UInt8) (sep:List UInt8) (sepSave:Int) (n:Int):Option (List (List UInt8)):=
 bif n==0 then some ([]) else bif sep==([]) then match qx s n with|some r1 =>some r1|none =>none else let k (n4:Int):Option (List (List UInt8)):=bif decide (0≤(if wr .i64 ((s.length:Int)+1)<n4 then wr .i64 ((s.length:Int)+1) else n4))&&(decide ((if wr .i64 ((s.length:Int)+1)<n4 then wr .i64 ((s.length:Int)+1) else n4)≤(LIM:Int))&&(if wr .i64 ((s.length:Int)+1)<n4 then wr .i64 ((s.length:Int)+1) else n4)==(if wr .i64 ((s.length:Int)+1)<n4 then wr .i64 ((s.length:Int)+1) else n4)) then match j3 a6s (s,sep,sepSave,wr .i64 ((if wr .i64 ((s.length:Int)+1)<n4 then wr .i64 ((s.length:Int)+1) else n4)-1),0,List.replicate (if wr .i64 ((s.length:Int)+1)<n4 then wr .i64 ((s.length:Int)+1) else n4).toNat ([]:List UInt8),()) with|some ((s6,i,l,_)) =>(match a0d l i with|some _ =>(match l[i.toNat]? with|some x =>bif decide (0≤(0:Int))&&(decide ((0:Int)≤wr .i64 (i+1))&&decide (wr .i64 (i+1)≤((l.set i.toNat s6).length:Int))) then some (((l.set i.toNat s6).take (wr .i64 (i+1)).toNat).drop (0:Int).toNat) else none|none =>none)|none =>none)|none =>none else none;bif decide (n<0) then match q8 s sep with|some r3 =>k (wr .i64 (r3+1))|none =>none else k n
def qan (s:List UInt8) (sep:List UInt8):Option (List (List UInt8)):=
 match qm s sep 0 (-1) with|some r1 =>some r1|none =>none
def b3p:((List UInt8)×(List Int)×Int×Int×Unit)→Option (((List UInt8)×(List Int)×Int×Int×Unit)⊕(((List UInt8)×Unit)⊕(Int×Bool×Unit))):=fun (s,v,v1,v2,_)=>
 bif decide (v2<v1) then match a0d v v2 with|some x =>let k (v3:Bool):Option (((List UInt8)×(List Int)×Int×Int×Unit)⊕(((List UInt8)×Unit)⊕(Int×Bool×Unit))):=bif v3 then some (.inr (.inr (0,false,()))) else some (.inl (s,v,v1,wr .i64 (v2+1),()));bif decide (x<48) then k true else k (decide (57<x))|none =>none else some (.inr (.inl (s,())))
def qg (s:List UInt8):Option (Int×Bool):=
 match j3 b3p (s,blI s,((blI s).length:Int),0,()) with|some (.inl (s4,_)) =>(match qn s4 with|some (r5,r6) =>some (r5,r6)|none =>none)|some (.inr (v,v7,_)) =>some (v,v7)|none =>none
def qao (y:Int) (m:Int):Option Int:=
 let k11 (v:Bool):Option Int:=let k10 (v1:Bool):Option Int:=let k9 (v2:Bool):Option Int:=let k6 (v5:Int):Option Int:=some v5;bif v2 then k6 0 else let k (v4:Bool):Option Int:=bif v4 then k6 29 else let k8 (v7:Int):Option Int:=some v7;bif (wr .i64 (m-1))==0 then k8 31 else bif (wr .i64 (m-1))==1 then k8 28 else bif (wr .i64 (m-1))==2 then k8 31 else bif (wr .i64 (m-1))==3 then k8 30 else bif (wr .i64 (m-1))==4 then k8 31 else bif (wr .i64 (m-1))==5 then k8 30 else bif (wr .i64 (m-1))==6 then k8 31 else bif (wr .i64 (m-1))==7 then k8 31 else bif (wr .i64 (m-1))==8 then k8 30 else bif (wr .i64 (m-1))==9 then k8 31 else bif (wr .i64 (m-1))==10 then k8 30 else bif (wr .i64 (m-1))==11 then k8 31 else none;bif m==2 then match qv y with|some r3 =>k r3|none =>none else k false;bif v1 then k9 true else k9 (decide (12<m));bif v then k10 true else k10 (decide (m<1));bif decide (y<1900) then k11 true else k11 (decide (2199<y))
def qag (y:Int) (m:Int) (d:Int):Option (Int×Int):=
 let k (v:Bool):Option (Int×Int):=bif v then some (0,2) else match qf y with|some r3 =>(match qt y m with|some r5 =>some (wr .i64 ((wr .i64 ((wr .i64 (r3+r5))+d))-1),0)|none =>none)|none =>none;bif decide (d<1) then k true else match qao y m with|some r1 =>k (decide (r1<d))|none =>none
def qaq (s:List UInt8):Option (Int×Int):=
 let k18 (v:Bool):Option (Int×Int):=let k17 (v2:Bool):Option (Int×Int):=bif v2 then some (0,3) else bif decide (0≤(0:Int))&&(decide ((0:Int)≤4)&&decide (4≤(s.length:Int))) then match qg ((s.take (4:Int).toNat).drop (0:Int).toNat) with|some (r3,r4) =>bif decide (0≤(5:Int))&&(decide ((5:Int)≤7)&&decide (7≤(s.length:Int))) then match qg ((s.take (7:Int).toNat).drop (5:Int).toNat) with|some (r6,r7) =>bif decide (0≤(8:Int))&&(decide ((8:Int)≤(s.length:Int))&&decide ((s.length:Int)≤(s.length:Int))) then match qg ((s.take (s.length:Int).toNat).drop (8:Int).toNat) with|some (r9,r10) =>let k16 (v11:Bool):Option (Int×Int):=let k (v12:Bool):Option (Int×Int):=bif v12 then some (0,3) else match qag r3 r6 r9 with|some (r14,r15) =>some (r14,r15)|none =>none;bif v11 then k true else k (!r10);bif !r4 then k16 true else k16 (!r7)|none =>none else none|none =>none else none|none =>none else none;bif v then k17 true else match a0d s 7 with|some b1 =>k17 (!((b1.toNat:Int)==45))|none =>none;bif !((s.length:Int)==10) then k18 true else match a0d s 4 with|some b =>k18 (!((b.toNat:Int)==45))|none =>none
def qb (s:List UInt8) (d:Off):Option (Bool×Off):=
 match qn s with|some (r1,r2) =>let k8 (v:Bool):Option (Bool×Off):=let k7 (v3:Bool):Option (Bool×Off):=let k (v6:Bool):Option (Bool×Off):=some (v6,(⟨r1,d.Seq,d.Day,d.Kind,d.Item,d.Patron,d.Branch⟩:Off));bif v3 then match qc r1 with|some r5 =>k (r5==s)|none =>none else k false;bif v then k7 (decide ((s.length:Int)≤9)) else k7 false;bif r2 then k8 (decide (0≤r1)) else k8 false|none =>none
def qad (s:List UInt8) (d:Off):Option (Bool×Off):=
 match qn s with|some (r1,r2) =>let k8 (v:Bool):Option (Bool×Off):=let k7 (v3:Bool):Option (Bool×Off):=let k (v6:Bool):Option (Bool×Off):=some (v6,(⟨d.Device,r1,d.Day,d.Kind,d.Item,d.Patron,d.Branch⟩:Off));bif v3 then match qc r1 with|some r5 =>k (r5==s)|none =>none else k false;bif v then k7 (decide ((s.length:Int)≤9)) else k7 false;bif r2 then k8 (decide (0≤r1)) else k8 false|none =>none
def qac (s:List UInt8) (d:Off):Option (Bool×Off):=
 match qn s with|some (r1,r2) =>let k8 (v:Bool):Option (Bool×Off):=let k7 (v3:Bool):Option (Bool×Off):=let k (v6:Bool):Option (Bool×Off):=some (v6,(⟨d.Device,d.Seq,d.Day,d.Kind,r1,d.Patron,d.Branch⟩:Off));bif v3 then match qc r1 with|some r5 =>k (r5==s)|none =>none else k false;bif v then k7 (decide ((s.length:Int)≤9)) else k7 false;bif r2 then k8 (decide (0≤r1)) else k8 false|none =>none
def qaa (s:List UInt8) (d:Off):Option (Bool×Off):=
 match qn s with|some (r1,r2) =>let k8 (v:Bool):Option (Bool×Off):=let k7 (v3:Bool):Option (Bool×Off):=let k (v6:Bool):Option (Bool×Off):=some (v6,(⟨d.Device,d.Seq,d.Day,d.Kind,d.Item,d.Patron,r1⟩:Off));bif v3 then match qc r1 with|some r5 =>k (r5==s)|none =>none else k false;bif v then k7 (decide ((s.length:Int)≤9)) else k7 false;bif r2 then k8 (decide (0≤r1)) else k8 false|none =>none
def qab (s:List UInt8) (d:Off):Option (Bool×Off):=
 match qn s with|some (r1,r2) =>let k8 (v:Bool):Option (Bool×Off):=let k7 (v3:Bool):Option (Bool×Off):=let k (v6:Bool):Option (Bool×Off):=some (v6,(⟨d.Device,d.Seq,d.Day,d.Kind,d.Item,r1,d.Branch⟩:Off));bif v3 then match qc r1 with|some r5 =>k (r5==s)|none =>none else k false;bif v then k7 (decide ((s.length:Int)≤9)) else k7 false;bif r2 then k8 (decide (0≤r1)) else k8 false|none =>none
def qaf (s:List UInt8):Option (Off×Bool):=
 match qan s ([32]) with|some r1 =>(bif decide ((r1.length:Int)<6) then some ((⟨0,0,0,0,0,0,0⟩:Off),false) else match a0d r1 2 with|some x =>(match qaq x with|some (r3,r4) =>let k50 (v:Bool) (x9:Off):Option (Off×Bool):=let k49 (v14:Bool) (x15:Off):Option (Off×Bool):=let k48 (v20:Bool) (x21:Off):Option (Off×Bool):=let k47 (v26:Bool) (x27:Off):Option (Off×Bool):=match a0d r1 3 with|some x28 =>let k46 (v29:Bool):Option (Off×Bool):=let k45 (ok43:Bool) (x44:Off):Option (Off×Bool):=some (x44,ok43);bif v29 then match a0d r1 5 with|some x30 =>(match qab x30 (⟨x27.Device,x27.Seq,x27.Day,1,x27.Item,x27.Patron,x27.Branch⟩:Off) with|some (r32,x33) =>bif r32 then k45 v26 x33 else k45 false x33|none =>none)|none =>none else match a0d r1 3 with|some x35 =>let k42 (v36:Bool):Option (Off×Bool):=bif v36 then k45 v26 (⟨x27.Device,x27.Seq,x27.Day,2,x27.Item,x27.Patron,x27.Branch⟩:Off) else match a0d r1 3 with|some x37 =>let k (v38:Bool):Option (Off×Bool):=bif v38 then k45 v26 (⟨x27.Device,x27.Seq,x27.Day,3,x27.Item,x27.Patron,x27.Branch⟩:Off) else k45 false x27;bif x37==([114,101,110,101,119]) then k ((r1.length:Int)==6) else k false|none =>none;bif x35==([98,97,99,107]) then k42 ((r1.length:Int)==6) else k42 false|none =>none;bif x28==([108,111,97,110]) then k46 ((r1.length:Int)==7) else k46 false|none =>none;bif v20 then match a0d r1 (wr .i64 ((r1.length:Int)-1)) with|some x22 =>(match qaa x22 x21 with|some (r24,x25) =>k47 r24 x25|none =>none)|none =>none else k47 false x21;bif v14 then match a0d r1 4 with|some x16 =>(match qac x16 x15 with|some (r18,x19) =>k48 r18 x19|none =>none)|none =>none else k48 false x15;bif v then match a0d r1 1 with|some x10 =>(match qad x10 x9 with|some (r12,x13) =>k49 r12 x13|none =>none)|none =>none else k49 false x9;bif r4==0 then match a0d r1 0 with|some x5 =>(match qb x5 (⟨0,0,r3,0,0,0,0⟩:Off) with|some (r7,x8) =>k50 r7 x8|none =>none)|none =>none else k50 false (⟨0,0,r3,0,0,0,0⟩:Off)|none =>none)|none =>none)|none =>none
def b65:((List UInt8)×Int×(List Off)×Unit)→Option (((List UInt8)×Int×(List Off)×Unit)⊕(((List Off)×Unit)⊕((List Off)×Int×Int×Unit))):=fun (s,n,l,_)=>
 bif !(s==([])) then match qal s ([10]) with|some (r1,r2,r3) =>(match qaf r1 with|some (r5,r6) =>let k (v:Bool):Option (((List UInt8)×Int×(List Off)×Unit)⊕(((List Off)×Unit)⊕((List Off)×Int×Int×Unit))):=bif v then some (.inr (.inr ([],n,3,()))) else bif decide (l.length+([r5]:List Off).length≤LIM) then some (.inl (r2,wr .i64 (n+1),l++([r5]:List Off),())) else none;bif !r3 then k true else k (!r6)|none =>none)|none =>none else some (.inr (.inl (l,())))
def qk (s:List UInt8):Option ((List Off)×Int×Int):=
 match j3 b65 (s,1,([]:List Off),()) with|some (.inl (l,_)) =>(match qa l with|some r7 =>bif !(r7==0) then some ([],0,r7) else some (l,0,0)|none =>none)|some (.inr (v,v8,v9,_)) =>some (v,v8,v9)|none =>none
def b3s:((List Off)×(List Off)×Int×Unit)→Option (((List Off)×(List Off)×Int×Unit)⊕((Unit)⊕(Bool×Unit))):=fun (a,b,i,_)=>
 bif decide (i<(a.length:Int)) then match a0d a i with|some x =>(match a0d b i with|some x1 =>bif !(a41 x x1) then some (.inr (.inr (false,()))) else some (.inl (a,b,wr .i64 (i+1),()))|none =>none)|none =>none else some (.inr (.inl (())))
def qo (a:List Off) (b:List Off):Option Bool:=
 bif !((a.length:Int)==(b.length:Int)) then some false else match j3 b3s (a,b,0,()) with|some (.inl (_)) =>some true|some (.inr (v,_)) =>some v|none =>none
def qw (l:List Off) (s:List UInt8):Option Bool:=
 let k33 (v:Bool):Option Bool:=bif v then match ql with|some r1 =>some r1|none =>none else match qj l with|some (r3,r4) =>let k32 (_:Unit):Option Bool:=match qk s with|some (r15,r16,r17) =>let k27 (v26:Bool):Option Bool:=some v26;bif r17==0 then match qj r15 with|some (r19,r20) =>let k25 (v21:Bool):Option Bool:=bif v21 then match ql with|some r23 =>k27 r23|none =>none else k27 false;bif r20==0 then k25 (r19==s) else k25 false|none =>none else let k31 (v30:Bool):Option Bool:=some v30;bif (r15.length:Int)==0 then match ql with|some r29 =>k31 r29|none =>none else k31 false|none =>none;bif r4==0 then match qk r3 with|some (r6,r7,r8) =>let k13 (v9:Bool):Option Bool:=let k (v12:Bool):Option Bool:=bif v12 then some false else k32 ();bif v9 then k true else match qo l r6 with|some r11 =>k (!r11)|none =>none;bif !(r8==0) then k13 true else k13 (!(r7==0))|none =>none else k32 ()|none =>none;bif decide (140<(l.length:Int)) then k33 true else k33 (decide (6000<(s.length:Int)))
def qah (s:List Off):Option (List Off):=
 bif decide (([]:List Off).length+s.length≤LIM) then some (([])++s) else none
end
section
set_option maxRecDepth 100000
def qa3 (day:Int):Option Bool:=
 let k (v:Bool):Option Bool:=some v;bif decide (0≤day) then k (decide (day≤109572)) else k false
def qav (y:Int) (m:Int):Option Int:=
 let k10 (v:Bool):Option Int:=let k9 (v1:Bool):Option Int:=let k8 (v2:Bool):Option Int:=bif v2 then some 0 else let k7 (v3:Bool):Option Int:=let k6 (v4:Bool):Option Int:=let k (v5:Bool):Option Int:=bif v5 then some 29 else match a0d ([31,28,31,30,31,30,31,31,30,31,30,31]:List Int) (wr .i64 (m-1)) with|some _ =>(match ([31,28,31,30,31,30,31,31,30,31,30,31])[(wr .i64 (m-1)).toNat]? with|some x =>some x|none =>none)|none =>none;bif v4 then k (!(y==2100)) else k false;bif v3 then k6 (!(y==1900)) else k6 false;bif m==2 then k7 ((y.tmod 4)==0) else k7 false;bif v1 then k8 true else k8 (decide (12<m));bif v then k9 true else k9 (decide (m<1));bif decide (y<1900) then k10 true else k10 (decide (2199<y))
def qa2 (y:Int):Option Int:=
 match qav y 2 with|some r1 =>bif r1==29 then some 366 else some 365|none =>none
def b60:(Int×Int×Int×Unit)→Option ((Int×Int×Int×Unit)⊕((Int×Int×Int×Unit))):=fun (day,y,m,_)=>
 match qa2 y with|some r2 =>bif decide (r2≤day) then match qa2 y with|some r4 =>some (.inl (wr .i64 (day-r4),wr .i64 (y+1),m,()))|none =>none else some (.inr ((day,y,m,())))|none =>none
def b61:(Int×Int×Int×Unit)→Option ((Int×Int×Int×Unit)⊕((Int×Int×Int×Unit))):=fun (day,y,m,_)=>
 match qav y m with|some r6 =>bif decide (r6≤day) then match qav y m with|some r8 =>some (.inl (wr .i64 (day-r8),y,wr .i64 (m+1),()))|none =>none else some (.inr ((day,y,m,())))|none =>none
def qa0 (day:Int):Option (Int×Int×Int×Int):=
 match qa3 day with|some r1 =>(bif !r1 then some (0,0,0,2) else match j3 b60 (day,1900,1,()) with|some ((day5,y,m,_)) =>(match j3 b61 (day5,y,m,()) with|some ((day9,y10,m11,_)) =>some (y10,m11,wr .i64 (day9+1),0)|none =>none)|none =>none)|none =>none
def c73:(Int×Int×(List Int)×Int×Unit)→Option ((Int×Int×(List Int)×Int×Unit)⊕(((List Int)×Unit))):=fun (n,size,b,i,_)=>
 bif decide (i<size) then bif decide (([wr .u8 (wr .i64 (48+(n.tmod 10)))]:List Int).length+b.length≤LIM) then some (.inl (wr .i64 (n.tdiv 10),size,([wr .u8 (wr .i64 (48+(n.tmod 10)))])++b,wr .i64 (i+1),())) else none else some (.inr ((b,())))
def qax (n:Int) (size:Int):Option (List UInt8):=
 match j3 c73 (n,size,[],0,()) with|some ((b,_)) =>some (blJ b)|none =>none
def qaw (day:Int):Option (List UInt8):=
 match qa0 day with|some (r1,r2,r3,r4) =>(bif !(r4==0) then some ([]) else match qax r1 4 with|some r6 =>bif decide (r6.length+([45]).length≤LIM) then match qax r2 2 with|some r8 =>bif decide ((r6++([45])).length+r8.length≤LIM) then bif decide (((r6++([45]))++r8).length+([45]).length≤LIM) then match qax r3 2 with|some r10 =>bif decide ((((r6++([45]))++r8)++([45])).length+r10.length≤LIM) then some ((((r6++([45]))++r8)++([45]))++r10) else none|none =>none else none else none|none =>none else none|none =>none)|none =>none
end
section
set_option maxRecDepth 100000
open Go
theorem b1n:e7 w9:=e7.iso (e7.cons (d7.int _) (e7.cons (d7.int _) (e7.cons (d7.int _) (e7.cons (d7.int _) (e7.cons (d7.int _) (e7.cons (d7.int _) (e7.cons (d7.int _) e7.nil))))))) (fun _=>rfl)
theorem a3p:e7 a29:=e7.iso (e7.cons (d7.int _) (e7.cons (d7.int _) (e7.cons (d7.int _) e7.nil))) (fun _=>rfl)
theorem a8e:e7 a9z:=e7.iso (e7.cons (d7.int _) (e7.cons (d7.int _) (e7.cons (d7.int _) (e7.cons (d7.int _) (e7.cons (d7.int _) (e7.cons d7.bool e7.nil)))))) (fun _=>rfl)
theorem a8b:e7 a6f:=e7.iso (e7.cons (d7.int _) (e7.cons (d7.int _) (e7.cons (d7.int _) (e7.cons (d7.int _) e7.nil)))) (fun _=>rfl)
theorem a8d:e7 a9y:=e7.iso (e7.cons (d7.int _) (e7.cons (d7.int _) (e7.cons (d7.int _) (e7.cons (d7.int _) (e7.cons (d7.int _) (e7.cons d7.str (e7.cons (d7.int _) (e7.cons (d7.int _) (e7.cons (d7.int _) (e7.cons (d7.int _) e7.nil)))))))))) (fun _=>rfl)
theorem a8f:e7 a90:=e7.iso (e7.cons (d7.int _) (e7.cons (d7.int _) (e7.cons (d7.int _) (e7.cons (d7.int _) (e7.cons (d7.int _) e7.nil))))) (fun _=>rfl)
theorem a4n:e7 a4l:=e7.iso (e7.cons (d7.int _) (e7.cons (d7.int _) (e7.cons (d7.int _) (e7.cons (d7.int _) (e7.cons d7.bool (e7.cons d7.str e7.nil)))))) (fun _=>rfl)
theorem a8c:e7 a9x:=e7.iso (e7.cons (d7.int _) (e7.cons (d7.int _) (e7.cons (d7.int _) (e7.cons (d7.int _) (e7.cons (d7.int _) (e7.cons (d7.int _) (e7.cons (d7.int _) (e7.cons (d7.int _) (e7.cons (d7.int _) (e7.cons (d7.int _) (e7.cons (d7.int _) e7.nil))))))))))) (fun _=>rfl)
theorem a4m:e7 a4k:=e7.iso (e7.cons (d7.int _) (e7.cons (d7.int _) (e7.cons (d7.int _) (e7.cons (d7.int _) (e7.cons (d7.int _) (e7.cons (d7.int _) (e7.cons (d7.int _) e7.nil))))))) (fun _=>rfl)
theorem a8g:e7 a91:=e7.iso (e7.cons (d7.int _) (e7.cons (d7.int _) (e7.cons (d7.int _) (e7.cons (d7.int _) (e7.cons (d7.int _) (e7.cons (d7.int _) (e7.cons (d7.int _) (e7.cons (d7.int _) (e7.cons (d7.int _) (e7.cons (d7.int _) (e7.cons (d7.int _) (e7.cons (d7.int _) (e7.cons (d7.int _) e7.nil))))))))))))) (fun _=>rfl)
instance:CCC w9:=⟨b1n⟩
instance:CCC a29:=⟨a3p⟩
instance:CCC a9z:=⟨a8e⟩
instance:CCC a6f:=⟨a8b⟩
instance:CCC a9y:=⟨a8d⟩
instance:CCC a90:=⟨a8f⟩
instance:CCC a4l:=⟨a4n⟩
instance:CCC a9x:=⟨a8c⟩
instance:CCC a4k:=⟨a4m⟩
instance:CCC a91:=⟨a8g⟩
end
section
set_option maxRecDepth 100000
abbrev x0a:=Zl .kOff
abbrev x0b:=Zc Zi (Zc Zi Zn)
abbrev x0c:=OC.xs 0 [] [] [] Zz (.r [4] [] [] (Zs 4 Zi Zz))
abbrev x0d:=OC.xs 0 [] [] [] Zz (.r [4] [] [] (Zs 4 Zb Zz))
abbrev c5i:ZC (Unit):=Zn
abbrev a1s:ZD (Bool):=Zb
def c64 (a:Unit):Option (Bool):=ql
abbrev c5k:ZC (Int×Int×Int×Unit):=Zc Zi x0b
abbrev c8v {R:Type}:Sm R:=w6 c5k a1s (fun a=>qs a.1 a.2.1 a.2.2.1)
abbrev c5j:ZC (Off×Unit):=Zc (Cod.agg w9) Zn
abbrev a5i:ZD (Int):=Zi
abbrev c06 {R:Type}:Sm R:=w6 c5j a5i (fun a=>qq a.1)
abbrev c9n:ZC (Off×Off×Unit):=Zc (Cod.agg w9) (Zc (Cod.cptr w9) Zn)
abbrev c07 {R:Type}:Sm R:=w6 c9n a1s (fun a=>qr a.1 a.2.1)
abbrev c5h:ZC ((List Off)×((Unit)×(Off×Unit))×Unit):=Zc x0a (Zc (Cod.fnc 34 (Zn) (Zc (Cod.cptr w9) Zn)) Zn)
abbrev c8q {R:Type}:Sm R:=w6 c5h a5i (fun a=>qi (fun g x0=>qr x0 g.2.1) a.1 a.2.1)
def c10 {R:Type}:Nat→Sm R:=cl 34 c07 c0
abbrev b59:=b3f [] [] [0,1,7,8] [] [] (Zs 0 x0a (Zs 1 (Cod.fnc 34 (Zn) (Zc (Cod.cptr w9) Zn)) (Zs 7 Zi (Zs 8 Zi Zz)))) (b3q (fun g x0=>qr x0 g.2.1)) x0c
def b2c {R:Type}:Lp Kd El R:=lp 2 b59.sem l0
abbrev b7f {R:Type}:Sm R:=w6 c5h a1s (fun a=>qaj (fun g x0=>qr x0 g.2.1) a.1 a.2.1)
abbrev c9j:ZC (Off×Off×Unit):=Zc (Cod.agg w9) (Zc (Cod.agg w9) Zn)
abbrev c02 {R:Type}:Sm R:=w6 c9j a5i (fun a=>qe a.1 a.2.1)
def c1w {R:Type}:Nat→Sm R:=c0
abbrev b55:=b3f [] [] [22,23,24] [] [22] (FC.arr 22 22 (Zs 23 Zi (Zs 24 Zi (FC.own 22 Kd.ki64 false Zz)))) b0v x0c
def b18 {R:Type}:Lp Kd El R:=lp 2 b55.sem l0
abbrev c9k:ZC ((List Off)×((Unit)×(Unit))×Unit):=Zc x0a (Zc (Cod.fnc 36 (Zn) (Zn)) Zn)
abbrev c04 {R:Type}:Sm R:=w6 c9k a1s (fun a=>qh (fun g x0 x1=>qe x0 x1) a.1 a.2.1)
def c1z {R:Type}:Nat→Sm R:=cl 36 c02 c0
abbrev b58:=b3f [] [] [0,1,5] [] [] (Zs 0 x0a (Zs 1 (Cod.fnc 36 (Zn) (Zn)) (Zs 5 Zi Zz))) (b64 (fun g x0 x1=>qe x0 x1)) x0d
def b2b {R:Type}:Lp Kd El R:=lp 2 b58.sem l0
abbrev c1h:ZC ((List Off)×Unit):=Zc x0a Zn
abbrev b7c {R:Type}:Sm R:=w6 c1h a5i (fun a=>qa a.1)
def c1u {R:Type}:Nat→Sm R:=cl 32 c06 (cl 33 b7f (cl 35 c04 c0))
abbrev b52:=b3f [] [] [0,11,12,13] [] [] (Zs 0 x0a (Zs 11 x0a (Zs 12 Zi (Zs 13 Zi Zz)))) b3o (.xs 0 [0] [] [] (Zs 0 x0a Zz) (.r [2] [] [] (Zs 2 Zi Zz)))
abbrev b12:=b3f [] [] [0,23,24,25] [] [] (Zs 0 x0a (Zs 23 x0a (Zs 24 Zi (Zs 25 Zi Zz)))) a6r (.xs 2 [0] [] [] (Zs 0 x0a Zz) (.r [2] [] [] (Zs 2 Zi Zz)))
def a7c {R:Type}:Lp Kd El R:=lp 11 b12.sem (lp 4 b52.sem l0)
abbrev a7q:ZC (Int×Unit):=Zc Zi Zn
abbrev b3t:ZD ((List UInt8)):=Cod.str
def c63 (a:Int×Unit):Option ((List UInt8)):=qc a.1
abbrev c8n {R:Type}:Sm R:=w6 a7q b3t c63
abbrev b7h {R:Type}:Sm R:=w6 a7q a1s (fun a=>qam a.1)
abbrev c1a {R:Type}:Sm R:=w6 a7q a1s (fun a=>qv a.1)
abbrev c03 {R:Type}:Sm R:=w6 a7q a5i (fun a=>qf a.1)
def c1x {R:Type}:Nat→Sm R:=cl 294 c1a c0
abbrev b56:=b3f [] [] [0,4,5] [] [] (Zs 0 Zi (Zs 4 Zi (Zs 5 Zi Zz))) b63 (.x 0 [4] [] [] (Zs 4 Zi Zz))
def b19 {R:Type}:Lp Kd El R:=lp 4 b56.sem l0
abbrev c1i:ZC (Int×Int×Unit):=Zc Zi (Zc Zi Zn)
abbrev c08 {R:Type}:Sm R:=w6 c1i a5i (fun a=>qt a.1 a.2.1)
abbrev d0b:ZD (Int×Int×Int×Int):=(Cod.tup4 (Zc Zi (Zc Zi x0b)))
abbrev c8o {R:Type}:Sm R:=w6 a7q d0b (fun a=>qd a.1)
def c1v {R:Type}:Nat→Sm R:=cl 204 b7h (cl 205 c03 (cl 206 c08 c0))
abbrev b53:=b3f [] [] [0,6] [] [] (Zs 0 Zi (Zs 6 Zi Zz)) b9h (.x 0 [0,6] [] [] (Zs 0 Zi (Zs 6 Zi Zz)))
abbrev b54:=b3f [] [] [6,7,8] [] [] (Zs 6 Zi (Zs 7 Zi (Zs 8 Zi Zz))) b9i (.x 2 [6,7,8] [] [] (Zs 6 Zi (Zs 7 Zi (Zs 8 Zi Zz))))
def a7d {R:Type}:Lp Kd El R:=lp 8 b54.sem (lp 4 b53.sem l0)
abbrev b71:ZC ((List UInt8)×Int×Unit):=Zc Cod.str (Zc Zi Zn)
abbrev c8f:ZD ((List UInt8)):=b3t
def c69 (a:(List UInt8)×Int×Unit):Option ((List UInt8)):=qy a.1 a.2.1
abbrev c8y {R:Type}:Sm R:=w6 b71 c8f c69
abbrev c4n {R:Type}:Sm R:=w6 c1i b3t (fun a=>qai a.1 a.2.1)
abbrev c4r {R:Type}:Sm R:=w6 a7q b3t (fun a=>qap a.1)
abbrev b9j:ZD ((List (List UInt8))):=(Zl .kstr)
abbrev c09 {R:Type}:Sm R:=w6 c5j b9j (fun a=>qu a.1)
abbrev c1g:ZC ((List (List UInt8))×(List UInt8)×Unit):=Zc (Zl .kstr) (Zc Cod.str Zn)
abbrev c79:ZD ((List UInt8)):=b3t
def c61 (a:(List (List UInt8))×(List UInt8)×Unit):Option ((List UInt8)):=q9 a.1 a.2.1
abbrev c01 {R:Type}:Sm R:=w6 c1g c79 c61
abbrev d0d:ZD ((List UInt8)×Int):=(Cod.tup2 (Zc Cod.str (Zc Zi Zn)))
abbrev c8r {R:Type}:Sm R:=w6 c1h d0d (fun a=>qj a.1)
def c11 {R:Type}:Nat→Sm R:=cl 13 b7c (cl 28 c01 (cl 29 c09 c0))
abbrev b6a:=b3f [] [] [5,13,14,15] [] [5] (FC.arr 5 5 (Zs 13 x0a (Zs 14 Zi (Zs 15 Zi (FC.map 5 Kd.ku8 Zz))))) b3r (.x 0 [5] [] [5] (FC.arr 5 5 (FC.map 5 Kd.ku8 Zz)))
def b2d {R:Type}:Lp Kd El R:=lp 6 b6a.sem l0
abbrev a7r:ZC ((List UInt8)×(List UInt8)×Unit):=Zc Cod.str (Zc Cod.str Zn)
abbrev c8d:ZD (Int):=a5i
def c66 (a:(List UInt8)×(List UInt8)×Unit):Option (Int):=qp a.1 a.2.1
abbrev c0x:ZD ((List UInt8)×(List UInt8)×Bool):=(Cod.tup3 (Zc Cod.str (Zc Cod.str (Zc Zb Zn))))
abbrev c4l {R:Type}:Sm R:=w6 a7r c0x (fun a=>qae a.1 a.2.1)
abbrev b7g {R:Type}:Sm R:=w6 a7r c0x (fun a=>qal a.1 a.2.1)
abbrev c5m:ZC ((List UInt8)×Int×Unit):=b71
abbrev c8e:ZD ((List (List UInt8))):=b9j
def c68 (a:(List UInt8)×Int×Unit):Option ((List (List UInt8))):=qx a.1 a.2.1
abbrev c8x {R:Type}:Sm R:=w6 c5m c8e c68
abbrev c1f:ZC ((List UInt8)×(List UInt8)×Unit):=a7r
abbrev c78:ZD (Int):=a5i
def c60 (a:(List UInt8)×(List UInt8)×Unit):Option (Int):=q8 a.1 a.2.1
abbrev c00 {R:Type}:Sm R:=w6 c1f c78 c60
abbrev c1j:ZC ((List UInt8)×(List UInt8)×Unit):=a7r
abbrev c8g:ZD (Int):=a5i
def c7a (a:(List UInt8)×(List UInt8)×Unit):Option (Int):=qz a.1 a.2.1
abbrev c1b {R:Type}:Sm R:=w6 c1j c8g c7a
abbrev c9l:ZC ((List UInt8)×(List UInt8)×Int×Int×Unit):=Zc Cod.str (Zc Cod.str x0b)
abbrev c8t {R:Type}:Sm R:=w6 c9l b9j (fun a=>qm a.1 a.2.1 a.2.2.1 a.2.2.2.1)
def c13 {R:Type}:Nat→Sm R:=cl 268 c8x (cl 269 c00 (cl 270 c1b c0))
abbrev b13:=b3f [] [] [0,1,2,3,9,10] [] [31] (Zs 0 Cod.str (Zs 1 Cod.str (Zs 2 Zi (Zs 3 Zi (FC.arr 9 31 (Zs 10 Zi (FC.own 31 Kd.kstr false Zz))))))) a6s (.x 0 [0,9,10] [] [31] (Zs 0 Cod.str (FC.arr 9 31 (Zs 10 Zi (FC.own 31 Kd.kstr false Zz)))))
def b2f {R:Type}:Lp Kd El R:=lp 11 b13.sem l0
abbrev c4p {R:Type}:Sm R:=w6 a7r b9j (fun a=>qan a.1 a.2.1)
abbrev a9n:ZC ((List UInt8)×Unit):=Zc Cod.str Zn
abbrev c8c:ZD (Int×Bool):=(Cod.tup2 (Zc Zi (Zc Cod.ifc Zn)))
def c65 (a:(List UInt8)×Unit):Option (Int×Bool):=qn a.1
abbrev c05 {R:Type}:Sm R:=w6 a9n c8c c65
abbrev d0c:ZD (Int×Bool):=(Cod.tup2 (Zc Zi (Zc Zb Zn)))
abbrev c8p {R:Type}:Sm R:=w6 a9n d0c (fun a=>qg a.1)
def c1y {R:Type}:Nat→Sm R:=cl 175 c05 c0
abbrev b57:=b3f [] [] [0,9,10,11] [] [] (Zs 0 Cod.str (Zs 9 (Zl .ku8) (Zs 10 Zi (Zs 11 Zi Zz)))) b3p (.xs 0 [0] [] [] (Zs 0 Cod.str Zz) (.r [2,3] [] [] (Zs 2 Zi (Zs 3 Zb Zz))))
def b2a {R:Type}:Lp Kd El R:=lp 2 b57.sem l0
abbrev c4q {R:Type}:Sm R:=w6 c1i a5i (fun a=>qao a.1 a.2.1)
abbrev c0y:ZD (Int×Int):=(Cod.tup2 x0b)
abbrev c4m {R:Type}:Sm R:=w6 c5k c0y (fun a=>qag a.1 a.2.1 a.2.2.1)
abbrev c4s {R:Type}:Sm R:=w6 a9n c0y (fun a=>qaq a.1)
abbrev c5g:ZC ((List UInt8)×Unit×Unit):=Zc Cod.str (Zc (Cod.ptrc 100000) Zn)
abbrev c8m {R:Type}:Sm R:=b4c c5g (BC.one w9) a1s (fun a b=>qb a.1 b)
abbrev b91:ZC ((List UInt8)×Unit×Unit):=Zc Cod.str (Zc (Cod.ptro 100000 1) Zn)
abbrev c4k {R:Type}:Sm R:=b4c b91 (BC.one w9) a1s (fun a b=>qad a.1 b)
abbrev b90:ZC ((List UInt8)×Unit×Unit):=Zc Cod.str (Zc (Cod.ptro 100000 4) Zn)
abbrev c4j {R:Type}:Sm R:=b4c b90 (BC.one w9) a1s (fun a b=>qac a.1 b)
abbrev b9y:ZC ((List UInt8)×Unit×Unit):=Zc Cod.str (Zc (Cod.ptro 100000 6) Zn)
abbrev c4h {R:Type}:Sm R:=b4c b9y (BC.one w9) a1s (fun a b=>qaa a.1 b)
abbrev b9z:ZC ((List UInt8)×Unit×Unit):=Zc Cod.str (Zc (Cod.ptro 100000 5) Zn)
abbrev c4i {R:Type}:Sm R:=b4c b9z (BC.one w9) a1s (fun a b=>qab a.1 b)
abbrev c8a:ZD (Off×Bool):=(Cod.tup2 (Zc (Cod.agg w9) (Zc Zb Zn)))
abbrev b7d {R:Type}:Sm R:=w6 a9n c8a (fun a=>qaf a.1)
abbrev d0e:ZD ((List Off)×Int×Int):=(Cod.tup3 (Zc x0a x0b))
abbrev c8s {R:Type}:Sm R:=w6 a9n d0e (fun a=>qk a.1)
def c12 {R:Type}:Nat→Sm R:=cl 13 b7c (cl 49 b7g (cl 50 b7d c0))
abbrev b6b:=b3f [(5,5,Kd.kOff)] [] [0,5,6] [] [5] (Zs 0 Cod.str (FC.arr 5 5 (Zs 6 Zi (FC.own 5 Kd.kOff false Zz)))) b65 (.xs 0 [5] [] [5] (FC.arr 5 5 (FC.own 5 Kd.kOff false Zz)) (.r [2,3,4] [] [] (Zs 2 x0a (Zs 3 Zi (Zs 4 Zi Zz)))))
def b2e {R:Type}:Lp Kd El R:=lp 3 b6b.sem l0
abbrev c9m:ZC ((List Off)×(List Off)×Unit):=Zc x0a (Zc x0a Zn)
abbrev c8u {R:Type}:Sm R:=w6 c9m a1s (fun a=>qo a.1 a.2.1)
def c14 {R:Type}:Nat→Sm R:=c0
abbrev b6c:=b3f [] [] [0,1,5] [] [] (Zs 0 x0a (Zs 1 x0a (Zs 5 Zi Zz))) b3s x0d
def b2g {R:Type}:Lp Kd El R:=lp 4 b6c.sem l0
abbrev c5l:ZC ((List Off)×(List UInt8)×Unit):=Zc x0a (Zc Cod.str Zn)
abbrev d0f:ZD (Bool):=a1s
def c67 (a:(List Off)×(List UInt8)×Unit):Option (Bool):=qw a.1 a.2.1
abbrev c8w {R:Type}:Sm R:=w6 c5l d0f c67
abbrev c5f:ZC ((List Off)×Unit):=c1h
abbrev c8b:ZD ((List Off)):=x0a
def c62 (a:(List Off)×Unit):Option ((List Off)):=qah a.1
abbrev b7e {R:Type}:Sm R:=w6 c5f c8b c62
abbrev b4e:ZC ((List UInt8)×Int×Unit):=Zc Cod.str (Zc (Cod.int .u8) Zn)
abbrev c0z:ZD (Int):=a5i
def c0l (a:(List UInt8)×Int×Unit):Option (Int):=qak a.1 a.2.1
abbrev c4o {R:Type}:Sm R:=w6 b4e c0z c0l
end
end Go.Proofs.YtpdenibljogamaaGreatDoor
namespace Go.Proofs.YtpdenibljogamaaGreatDoor.Ev
open Go
open Go.Shelf Go.RowKit
variable {P:Program} {ρ:Ren}
theorem a38 {w:World} {b i:Nat} {v:Value} {cs:Array Value} {t:TypeId} (h:w.heap[b]?=some (.cells cs t (0,0))) :
 (w.setCell ⟨b,i,none⟩ v).heap[b]?=some (.cells (cs.setIfInBounds i v) t (0,0))∧(∀k,k≠b→(w.setCell ⟨b,i,none⟩ v).heap[k]?=w.heap[k]?)∧(w.setCell ⟨b,i,none⟩ v).heap.size=w.heap.size∧
 (w.setCell ⟨b,i,none⟩ v).os=w.os∧(w.setCell ⟨b,i,none⟩ v).output=w.output∧(w.setCell ⟨b,i,none⟩ v).tape=w.tape:=by
 refine ⟨by simp[World.setCell,Array.getElem?_modify,h],fun k hk=>?_,by simp[World.setCell],rfl,rfl,rfl⟩;simp only[World.setCell,Array.getElem?_modify];rw[yah (fun e=>hk e.symm)]
theorem a7o.own {w:World} {blk e:Nat} {l:List UInt8} {v:Value} (h:a7o w blk e l v):w.ownsRow 0 e 1 v l.length (Lib.byteCells l)∧v.ownBlock=obk v:=by
 rcases h with ⟨rfl,rfl⟩|⟨bb,cap,cur,rfl,h1,h2,h3,h4,h5,h6⟩
 ·exact ⟨⟨rfl,.inl ⟨rfl,rfl⟩⟩,rfl⟩
 ·exact ⟨⟨by rw[Lib.byteCells_length,ybo],.inr ⟨bb,cap,cur,rfl,ya7 _,h1,h2,h3,by rw[ybo];exact h4,by rw[ybo];exact h5⟩⟩,rfl⟩
theorem a7o.of {w:World} {blk e T:Nat} {cs:Array Value} {l:List UInt8} {v:Value} {n:Nat} (hn:n=l.length) (h:w.ownsRow 0 e 1 v n (Lib.byteCells l)) (hb:w.heap[blk]?=some (.cells cs T (0,0))) (hT:T≠e):a7o w blk e l v:=by
 subst hn;obtain ⟨-,⟨h1,h2⟩|⟨g,cap,cur,h1,-,h2,h3,h4,h5,h6⟩⟩:=h
 ·exact .inl ⟨h1,yaV.1 h2⟩
 ·rw[ybo]at h5 h6;exact .inr ⟨g,cap,cur,h1,h2,h3,h4,h5,h6,fun e'=>by subst e';rw[h2]at hb;cases hb;exact hT rfl⟩
theorem a3z {f:Nat} {vs:Array Value} {w:World} {Q:Value→World→Prop} (he:∀args w,(callFunc f args).run P w=.ok (.enter f args) w) (h:Calls P f vs w fun e w'=>∃v,e=.returned v∧Q v w'):o0 P f vs w Q:=by
 unfold o0;rw[he];refine h.mono (fun e w' hq=>?_);obtain ⟨v,rfl,hv⟩:=hq;exact hv
theorem a7x {w:World} {t u ty e n:Nat} {i:TypeInfo} (ht:P.underlying t=some (.slice e)) (hu:P.underlying u=some .string) (hi:P.info? e=some i) (hz:i.zero=some (.int .u8 0)) (hsize:i.size=1) (hby:i.bytes=1)
 {v:Value} {xs:List Value} (hown:w.ownsRow 0 e 1 v n xs) {s:ByteArray} (h63:n+s.size≤maxLen) (hbytes:n+s.size≤140737488355328) {v':Value} {w':World} (hr:(Builtin.append_ #[t,u] ty #[v,.string s]).run P w=.ok v' w') :
 ∀bb,obk v'=some bb→obk v=some bb∨w.heap.size≤bb:=by
 have hsmall:n+s.size≤9223372036854775807:=by simp only[maxLen]at h63;omega
 have hxl:xs.length=n:=by simpa using hown.1
 rcases hown.2 with ⟨rfl,rfl⟩|⟨g,cap,cur,rfl,hbg,hg,hnc,hcm,hcs,htake⟩
 ·obtain ⟨v2,w2,hr2,h2,-,-⟩:=Lib.run_append_own_string (P:=P) w w.heap.size t u ty e i ht hu hi hz hsize hby (.slice none 0 0) 0 [] ⟨rfl,.inl ⟨rfl,rfl⟩⟩ s h63 hbytes (yal _);rw[hr]at hr2;cases hr2
  intro bb hbb;rcases h2.2 with ⟨h,_⟩|⟨g,cap,cur,h,hb,_⟩
  ·rw[h]at hbb;cases hbb
  ·rw[h]at hbb;cases hbb;exact .inr hb
 ·by_cases hroom:n+s.size≤cap
  ·have hr2:=Lib.run_append_room_string (P:=P) w t u ty e i ht hu hi hsize g n cap cur hg s hroom (by omega);rw[hr]at hr2;cases hr2
   exact fun bb hbb=>.inl hbb
  ·have holds:∀j u,xs[j]?=some u→w.cell? ((⟨g,0,none⟩:Addr).add j)=some u:=hown.cells (g:=g) rfl;have hr2:=Lib.run_append_grow_string (P:=P) w t u ty e i (.int .u8 0) ht hu hi hz ⟨g,0,none⟩ n cap xs (by rw[hsize];simpa using hxl) holds s (by omega) (by omega) (by rw[hby];exact growslice_fits (by omega) (by omega));rw[hr]at hr2;cases hr2
   intro bb hbb;cases hbb
   exact .inr (yal _)
theorem a0t {ops:Array Oper} {rest:List Oper} {o:Oper} {a:Act} {w:World} {Q:Exit→Act→World→Prop} (hgd:o.guard=none) (sl x:Operand) (t u:TypeId)
 (ho:o.op=.call {callee:=.builtin .append,args:=#[sl,x],argTypes:=#[t,u]})
 (e:TypeId) (i:TypeInfo) (ht:P.underlying t=some (.slice e)) (hu:P.underlying u=some .string) (hi:P.info? e=some i) (hz:i.zero=some (.int .u8 0)) (hsize:i.size=1) (hby:i.bytes=1)
 (v:Value) (n:Nat) (xs:List Value) (hs:a.eval sl=v) (hown:w.ownsRow 0 e 1 v n xs) (s:ByteArray) (hx:a.eval x=.string s) (h63:n+s.size≤maxLen) (hbytes:n+s.size≤140737488355328)
 (h:∀v' w',w'.ownsRow 0 e 1 v' (n+s.size) (xs++Lib.strCells s)→w.grownBy w' v.ownBlock→(∀bb,obk v'=some bb→obk v=some bb∨w.heap.size≤bb)→wpList P ops Q rest (a.put o.dst v') w'):wpList P ops Q (o::rest) a w:=by
 refine wpList_plain hgd fun K hK=>?_
 obtain ⟨v',w',hr,h2,h3,-⟩:=Lib.run_append_own_string (P:=P) w 0 t u o.type e i ht hu hi hz hsize hby v n xs hown s h63 hbytes (ya7 _);have h5:=a7x ht hu hi hz hsize hby hown h63 hbytes hr;unfold Oper.wp execOp;simp only[ho,resolve,invoke,builtin,Sem.run_bind,Sem.run_pure,Result.andThen_ok,List.map_toArray,yaP,List.map_nil,hs,hx,hr];exact hK _ _ (h v' w' h2 h3 h5)
theorem a5d (blk:Nat) (v:Value) (w:World):a9k blk v v w w:=⟨yal _,rfl,rfl,rfl,fun _ _ _ _=>rfl,fun _ h=>.inl h⟩
theorem a5c {blk:Nat} {v:Value} {w w':World} (h:a9k blk v v w w'):a9k blk v v w w'.drew:=h
theorem b3j {blk:Nat} {v:Value} {w w':World} (h:a9k blk v v w w') (o:Obj):a9k blk v v w (w'.alloc o):=
 ⟨ybj h.1 (by rw[World.size_alloc];omega),h.2.1,h.2.2.1,h.2.2.2.1,fun b h1 h2 h3=>(Lib.alloc_old w' o b (yat h1 h.1)).trans (h.2.2.2.2.1 b h1 h2 h3),h.2.2.2.2.2⟩
theorem b0s {blk g n cap:Nat} {w w':World} (h:a9k blk (.slice (some ⟨g,0,none⟩) n cap) (.slice (some ⟨g,0,none⟩) n cap) w w') (m:Nat):a9k blk (.slice (some ⟨g,0,none⟩) n cap) (.slice (some ⟨g,0,none⟩) n cap) w (w'.freeze ⟨g,0,none⟩ m):=by
 unfold World.freeze;split
 ·exact h
 ·refine ⟨by simpa using h.1,h.2.1,h.2.2.1,h.2.2.2.1,fun b h1 h2 h3=>?_,h.2.2.2.2.2⟩;simp only[Array.getElem?_modify];rw[yah (fun e=>h3 (by rw[←e];rfl))];exact h.2.2.2.2.1 b h1 h2 h3
set_option maxHeartbeats 2000000 in
set_option maxRecDepth 100000 in
theorem a3m (L:Lays.n169 P ρ) (X:Builder.Extra P ρ) {blk:Nat} {p v:Value} {w:World} (hbk:w.heap[blk]?=some (.cells #[p,v] (ρ.t 72) (0,0))) (q:Option Addr) {ao:Option Addr} {cap:Nat} (hv:v=.slice ao 0 cap)
 {W:World} (hSD:(Builtin.unsafeSliceData_ #[(ρ.t 37)] (ρ.t 127) #[.slice ao 0 cap]).run P w.drew=.ok (.pointer q) W) (hW:W=w.drew∨∃o,W=w.drew.alloc o) :
 Calls P (ρ.f 169) #[.pointer (some ⟨blk,0,none⟩)] w fun e w'=>∃r,e=.returned r∧r=.string ⟨#[]⟩∧a9k blk v v w w':=by
 have hUS:∀(W:World) (q:Option Addr),(Builtin.unsafeString_ #[(ρ.t 127),(ρ.t 3)] (ρ.t 9) #[.pointer q,.int .i64 0]).run P W=.ok (.string .empty) W:=fun W q=>Lib.run_unsafeString_none W _ _ _ q
 have hlt:blk<w.heap.size:=(yad.1 hbk).1;have hoW:a9k blk v v w W:=by
  rcases hW with rfl|⟨o,rfl⟩
  ·exact a5c (a5d _ _ _)
  ·exact b3j (a5c (a5d _ _ _)) o
 have hbW:W.heap[blk]?=some (.cells #[p,v] (ρ.t 72) (0,0)):=by
  rcases hW with rfl|⟨o,rfl⟩
  ·exact hbk
  ·exact (Lib.alloc_old w.drew o blk hlt).trans hbk
 subst hv;have c1:w.drew.cell? ⟨blk,1,none⟩=some (.slice ao 0 cap):=by
  have:w.drew.heap[blk]?=some (.cells #[p,.slice ao 0 cap] (ρ.t 72) (0,0)):=hbk;rw[Lib.cell_of_heap this];rfl
 have c0:w.cell? ⟨blk,1,none⟩=some (.slice ao 0 cap):=c1;have c2:W.cell? ⟨blk,1,none⟩=some (.slice ao 0 cap):=by rw[Lib.cell_of_heap hbW];rfl
 have mixed:=L.mixed;have t72:=L.t72;have a72:=L.a72;have z72:=L.z72;have v72:=L.v72;have u72:=run_underlying L.t72;have t70:=L.t70;have a70:=L.a70;have z70:=L.z70;have v70:=L.v70;have u70:=run_underlying L.t70;have t37:=L.t37;have a37:=L.a37;have z37:=L.z37;have v37:=L.v37;have u37:=run_underlying L.t37;have t127:=L.t127;have a127:=L.a127;have z127:=L.z127;have v127:=L.v127;have u127:=run_underlying L.t127;have t3:=L.t3;have a3:=L.a3;have z3:=L.z3;have v3:=L.v3;have u3:=run_underlying L.t3;have t9:=L.t9;have a9:=L.a9;have z9:=L.z9;have v9:=L.v9;have u9:=run_underlying L.t9;have t5:=X.t5;have a5:=X.a5;have z5:=X.z5;have v5:=X.v5;have u5:=run_underlying X.t5;clear hW hbW hbk
 go_enter L.f169,Body.n169_ntmps ρ
 go_wp2
 go_region_o
 all_goals (go_wp2;go_ret;exact ⟨_,rfl,rfl,hoW⟩)
set_option maxHeartbeats 2000000 in
set_option maxRecDepth 100000 in
theorem b05 (L:Lays.n169 P ρ) (X:Builder.Extra P ρ) {blk g cap:Nat} {p:Value} {cur:Array Value} {l:List UInt8} {w:World} (hbk:w.heap[blk]?=some (.cells #[p,.slice (some ⟨g,0,none⟩) l.length cap] (ρ.t 72) (0,0))) (h0:l≠[])
 (hg:w.heap[g]?=some (.cells cur (ρ.t 5) (0,0))) (hnc:l.length≤cap) (hcm:cap≤9223372036854775807) (hcs:cur.size=cap) (htake:cur.toList.take l.length=l.map (fun b=>Value.int .u8 b.toNat)) :
 Calls P (ρ.f 169) #[.pointer (some ⟨blk,0,none⟩)] w fun e w'=>∃r,e=.returned r∧r=.string ⟨l.toArray⟩∧a9k blk (.slice (some ⟨g,0,none⟩) l.length cap) (.slice (some ⟨g,0,none⟩) l.length cap) w w':=by
 have hl0:l.length≠0:=by simpa using h0
 have c1:w.drew.cell? ⟨blk,1,none⟩=some (.slice (some ⟨g,0,none⟩) l.length cap):=by
  have:w.drew.heap[blk]?=some (.cells #[p,.slice (some ⟨g,0,none⟩) l.length cap] (ρ.t 72) (0,0)):=hbk;rw[Lib.cell_of_heap this];rfl
 have hSD:(Builtin.unsafeSliceData_ #[(ρ.t 37)] (ρ.t 127) #[.slice (some ⟨g,0,none⟩) l.length cap]).run P w.drew=.ok (.pointer (some ⟨g,0,none⟩)) w.drew:=
  Lib.run_unsafeSliceData_row _ _ _ _ _ _ (by omega)
 have hUS:(Builtin.unsafeString_ #[(ρ.t 127),(ρ.t 3)] (ρ.t 9) #[.pointer (some ⟨g,0,none⟩),.int .i64 l.length]).run P w.drew=.ok (.string ⟨l.toArray⟩) (w.drew.freeze ⟨g,0,none⟩ l.length):=by
  refine Lib.run_unsafeString_row w.drew (ρ.t 127) (ρ.t 3) (ρ.t 9) (ρ.t 5) L.t127 X.cellsByte g cur.size (by have hg':w.drew.heap[g]?=some (.cells cur (ρ.t 5) (0,0)):=hg;simp[World.shape?,hg']) l h0 (by omega) (by omega) ?_;intro j x hx;have hj:j<l.length:=(zL hx)
  have h1:(cur.toList.take l.length)[j]?=some (.int .u8 x.toNat):=by rw[htake,yaF,hx];rfl
  rw[yaN,yaq hj]at h1;have hg':w.drew.heap[g]?=some (.cells cur (ρ.t 5) (0,0)):=hg;rw[Addr.add_lit];simp only[World.cell?,hg',yaH];simpa using h1
 have hfin:a9k blk (.slice (some ⟨g,0,none⟩) l.length cap) (.slice (some ⟨g,0,none⟩) l.length cap) w (w.drew.freeze ⟨g,0,none⟩ l.length):=b0s (a5c (a5d _ _ _)) _;have mixed:=L.mixed;have t72:=L.t72;have a72:=L.a72;have z72:=L.z72;have v72:=L.v72;have u72:=run_underlying L.t72;have t70:=L.t70;have a70:=L.a70;have z70:=L.z70;have v70:=L.v70;have u70:=run_underlying L.t70;have t37:=L.t37;have a37:=L.a37;have z37:=L.z37;have v37:=L.v37;have u37:=run_underlying L.t37;have t127:=L.t127;have a127:=L.a127;have z127:=L.z127;have v127:=L.v127;have u127:=run_underlying L.t127;have t3:=L.t3;have a3:=L.a3;have z3:=L.z3;have v3:=L.v3;have u3:=run_underlying L.t3;have t9:=L.t9;have a9:=L.a9;have z9:=L.z9;have v9:=L.v9;have u9:=run_underlying L.t9;have t5:=X.t5;have a5:=X.a5;have z5:=X.z5;have v5:=X.v5;have u5:=run_underlying X.t5;clear htake hcs hcm hnc hg hbk h0 hl0
 go_enter L.f169,Body.n169_ntmps ρ
 go_wp2
 go_region_o
 all_goals (go_wp2;go_ret;exact ⟨_,rfl,rfl,hfin⟩)
theorem b06 (L:Lays.n169 P ρ) (X:Builder.Extra P ρ):a28 P (ρ.t 72) (ρ.t 5) (ρ.f 169):=by
 intro w blk p v l hp hb hbuf;have e169:∀args w,(callFunc (ρ.f 169) args).run P w=.ok (.enter (ρ.f 169) args) w:=enters_of L.f169 kr rfl;refine a3z e169 ?_;rcases hbuf with ⟨rfl,rfl⟩|⟨g,cap,cur,rfl,h1,h2,h3,h4,h5,h6⟩
 ·exact a3m L X hb none rfl (W:=w.drew) rfl (.inl rfl)
 ·cases l with
  |nil=>
   by_cases hc0:cap=0
   ·subst hc0;refine a3m L X hb _ rfl (Lib.run_unsafeSliceData_zero w.drew _ _ (ρ.t 5) L.t127 ⟨g,0,none⟩ 0 ((ρ.t 5),cur.size) ?_) (.inr ⟨_,rfl⟩);have hg':w.drew.heap[g]?=some (.cells cur (ρ.t 5) (0,0)):=h1;simp[World.shape?,hg']
   ·exact a3m L X hb _ rfl (Lib.run_unsafeSliceData_row _ _ _ _ _ _ hc0) (.inl rfl)
  |cons x r=>exact b05 L X hb (by simp) h1 h2 h3 h4 h5
end Go.Proofs.YtpdenibljogamaaGreatDoor.Ev
namespace Go.Proofs
open Go.Shelf
def Tryz.lays169_ren:Go.Shelf.Ren:=⟨fun|169=>30|n=>n,fun|70=>65|9=>9|0=>0|72=>68|37=>66|127=>115|3=>3|5=>5|n=>n,fun|n=>n⟩
theorem Tryz.lays169:Go.Proofs.Lays.n169 Tryz.prog Tryz.lays169_ren:={
 mixed:=by kernel_rfl
 f169:=Tryz.func30.trans (congrArg some (by kernel_rfl))
 t0:=Tryz.underlying0
 a0:=Tryz.isAgg0
 z0:=Tryz.sizeOf0
 v0:=Tryz.zeroValue0
 t3:=Tryz.underlying3
 a3:=Tryz.isAgg3
 z3:=Tryz.sizeOf3
 v3:=Tryz.zeroValue3
 t9:=Tryz.underlying9
 a9:=Tryz.isAgg9
 z9:=Tryz.sizeOf9
 v9:=Tryz.zeroValue9
 t37:=Tryz.underlying66
 a37:=Tryz.isAgg66
 z37:=Tryz.sizeOf66
 v37:=Tryz.zeroValue66
 t70:=Tryz.underlying65
 a70:=Tryz.isAgg65
 z70:=Tryz.sizeOf65
 v70:=Tryz.zeroValue65
 t72:=Tryz.underlying68
 a72:=Tryz.isAgg68
 z72:=Tryz.sizeOf68
 v72:=Tryz.zeroValue68
 t127:=Tryz.underlying115
 a127:=Tryz.isAgg115
 z127:=Tryz.sizeOf115
 v127:=Tryz.zeroValue115}
theorem Tryz.Builder_Extra_169:Builder.Extra Tryz.prog Tryz.lays169_ren:={
 sizeBuilder:=by kernel_rfl
 liesBuilder:=by kernel_rfl
 t5:=Tryz.underlying5
 a5:=Tryz.isAgg5
 z5:=Tryz.sizeOf5
 v5:=Tryz.zeroValue5
 infoByte:=by kernel_rfl
 cellsByte:=by kernel_rfl
 sizeByte:=by kernel_rfl
 neB5:=by decide}
def Tryz.lays156_ren:Go.Shelf.Ren:=⟨fun|156=>28|165=>60|166=>27|169=>30|240=>59|241=>108|276=>107|277=>202|n=>n,fun|31=>74|9=>9|3=>3|4=>4|0=>0|20=>20|72=>68|76=>71|70=>65|37=>66|75=>70|127=>115|164=>151|5=>5|80=>76|n=>n,fun|n=>n⟩
theorem Tryz.lays156:Go.Proofs.Lays.n156 Tryz.prog Tryz.lays156_ren:={
 mixed:=by kernel_rfl
 f156:=Tryz.func28.trans (congrArg some (by kernel_rfl))
 f165:=Tryz.func60.trans (congrArg some (by kernel_rfl))
 f166:=Tryz.func27.trans (congrArg some (by kernel_rfl))
 f169:=Tryz.func30.trans (congrArg some (by kernel_rfl))
 f240:=Tryz.func59.trans (congrArg some (by kernel_rfl))
 f241:=Tryz.func108.trans (congrArg some (by kernel_rfl))
 f276:=Tryz.func107.trans (congrArg some (by kernel_rfl))
 f277:=Tryz.func202.trans (congrArg some (by kernel_rfl))
 t0:=Tryz.underlying0
 a0:=Tryz.isAgg0
 z0:=Tryz.sizeOf0
 v0:=Tryz.zeroValue0
 t3:=Tryz.underlying3
 a3:=Tryz.isAgg3
 z3:=Tryz.sizeOf3
 v3:=Tryz.zeroValue3
 t4:=Tryz.underlying4
 a4:=Tryz.isAgg4
 z4:=Tryz.sizeOf4
 v4:=Tryz.zeroValue4
 t9:=Tryz.underlying9
 a9:=Tryz.isAgg9
 z9:=Tryz.sizeOf9
 v9:=Tryz.zeroValue9
 t20:=Tryz.underlying20
 a20:=Tryz.isAgg20
 z20:=Tryz.sizeOf20
 v20:=Tryz.zeroValue20
 t31:=Tryz.underlying74
 a31:=Tryz.isAgg74
 z31:=Tryz.sizeOf74
 v31:=Tryz.zeroValue74
 t37:=Tryz.underlying66
 a37:=Tryz.isAgg66
 z37:=Tryz.sizeOf66
 v37:=Tryz.zeroValue66
 t70:=Tryz.underlying65
 a70:=Tryz.isAgg65
 z70:=Tryz.sizeOf65
 v70:=Tryz.zeroValue65
 t72:=Tryz.underlying68
 a72:=Tryz.isAgg68
 z72:=Tryz.sizeOf68
 v72:=Tryz.zeroValue68
 t75:=Tryz.underlying70
 a75:=Tryz.isAgg70
 z75:=Tryz.sizeOf70
 v75:=Tryz.zeroValue70
 t76:=Tryz.underlying71
 a76:=Tryz.isAgg71
 z76:=Tryz.sizeOf71
 v76:=Tryz.zeroValue71
 t127:=Tryz.underlying115
 a127:=Tryz.isAgg115
 z127:=Tryz.sizeOf115
 v127:=Tryz.zeroValue115
 t164:=Tryz.underlying151
 a164:=Tryz.isAgg151
 z164:=Tryz.sizeOf151
 v164:=Tryz.zeroValue151}
theorem Tryz.Builder_Extra_156:Builder.Extra Tryz.prog Tryz.lays156_ren:={
 sizeBuilder:=by kernel_rfl
 liesBuilder:=by kernel_rfl
 t5:=Tryz.underlying5
 a5:=Tryz.isAgg5
 z5:=Tryz.sizeOf5
 v5:=Tryz.zeroValue5
 infoByte:=by kernel_rfl
 cellsByte:=by kernel_rfl
 sizeByte:=by kernel_rfl
 neB5:=by decide}
open Go.RowKit in
theorem Tryz.q9_none (a:Option Addr) (c:Nat) (sep:ByteArray) (w:World) :
 Calls Tryz.prog 28 #[.slice a 0 c,.string sep] w fun e w'=>e=.returned (.string ⟨#[]⟩)∧w'=w:=Any.strings_Join_none Tryz.lays156 Tryz.Builder_Extra_156 a c sep w
open Go.RowKit in
theorem Tryz.q9 (bk o c:Nat) (xs:List ByteArray) (sep:ByteArray) (w:World) (hcells:∀(j:Nat) x,xs[j]?=some x→w.cell? ⟨bk,o+j,none⟩=some (.string x)) (hbk:bk<w.heap.size) (hN:xs.length≤140737488355328) (hcap:xs.length≤c) (hlen:(Lib.join (xs.map (·.data.toList)) sep.data.toList).length≤140737488355328) :
 Calls Tryz.prog 28 #[.slice (some ⟨bk,o,none⟩) xs.length c,.string sep] w fun e w'=>e=.returned (.string ⟨(Lib.join (xs.map (·.data.toList)) sep.data.toList).toArray⟩)∧Below w.heap.size w w':=Any.strings_Join Tryz.lays156 Tryz.Builder_Extra_156 bk o c xs sep w hcells hbk hN hcap hlen
def Tryz.laysM171_ren:Go.Shelf.Ren:=⟨fun|171=>61|243=>109|246=>203|283=>290|284=>291|285=>292|286=>293|129=>123|317=>341|318=>342|319=>343|320=>344|337=>368|338=>369|n=>n,fun|3=>3|9=>9|2=>2|4=>4|171=>266|0=>0|53=>166|37=>66|5=>5|173=>268|212=>317|51=>164|20=>20|213=>318|46=>118|232=>346|233=>347|n=>n,fun|17=>4|18=>7|19=>8|n=>n⟩
theorem Tryz.laysM171:Go.Proofs.LaysM.n171 Tryz.prog Tryz.laysM171_ren:={
 mixed:=by kernel_rfl
 f129:=Tryz.func123.trans (congrArg some (by kernel_rfl))
 f171:=Tryz.func61.trans (congrArg some (by kernel_rfl))
 f243:=Tryz.func109.trans (congrArg some (by kernel_rfl))
 f246:=Tryz.func203.trans (congrArg some (by kernel_rfl))
 f283:=Tryz.func290.trans (congrArg some (by kernel_rfl))
 f284:=Tryz.func291.trans (congrArg some (by kernel_rfl))
 f285:=Tryz.func292.trans (congrArg some (by kernel_rfl))
 f286:=Tryz.func293.trans (congrArg some (by kernel_rfl))
 f317:=Tryz.func341.trans (congrArg some (by kernel_rfl))
 f318:=Tryz.func342.trans (congrArg some (by kernel_rfl))
 f319:=Tryz.func343.trans (congrArg some (by kernel_rfl))
 f320:=Tryz.func344.trans (congrArg some (by kernel_rfl))
 f337:=Tryz.func368.trans (congrArg some (by kernel_rfl))
 f338:=Tryz.func369.trans (congrArg some (by kernel_rfl))
 t0:=Tryz.underlying0
 a0:=Tryz.isAgg0
 z0:=Tryz.sizeOf0
 v0:=Tryz.zeroValue0
 t2:=Tryz.underlying2
 a2:=Tryz.isAgg2
 z2:=Tryz.sizeOf2
 v2:=Tryz.zeroValue2
 t3:=Tryz.underlying3
 a3:=Tryz.isAgg3
 z3:=Tryz.sizeOf3
 v3:=Tryz.zeroValue3
 t4:=Tryz.underlying4
 a4:=Tryz.isAgg4
 z4:=Tryz.sizeOf4
 v4:=Tryz.zeroValue4
 t5:=Tryz.underlying5
 a5:=Tryz.isAgg5
 z5:=Tryz.sizeOf5
 v5:=Tryz.zeroValue5
 t9:=Tryz.underlying9
 a9:=Tryz.isAgg9
 z9:=Tryz.sizeOf9
 v9:=Tryz.zeroValue9
 t20:=Tryz.underlying20
 a20:=Tryz.isAgg20
 z20:=Tryz.sizeOf20
 v20:=Tryz.zeroValue20
 t37:=Tryz.underlying66
 a37:=Tryz.isAgg66
 z37:=Tryz.sizeOf66
 v37:=Tryz.zeroValue66
 t46:=Tryz.underlying118
 a46:=Tryz.isAgg118
 z46:=Tryz.sizeOf118
 v46:=Tryz.zeroValue118
 t51:=Tryz.underlying164
 a51:=Tryz.isAgg164
 z51:=Tryz.sizeOf164
 v51:=Tryz.zeroValue164
 t53:=Tryz.underlying166
 a53:=Tryz.isAgg166
 z53:=Tryz.sizeOf166
 v53:=Tryz.zeroValue166
 t171:=Tryz.underlying266
 a171:=Tryz.isAgg266
 z171:=Tryz.sizeOf266
 v171:=Tryz.zeroValue266
 t173:=Tryz.underlying268
 a173:=Tryz.isAgg268
 z173:=Tryz.sizeOf268
 v173:=Tryz.zeroValue268
 t212:=Tryz.underlying317
 a212:=Tryz.isAgg317
 z212:=Tryz.sizeOf317
 v212:=Tryz.zeroValue317
 t213:=Tryz.underlying318
 a213:=Tryz.isAgg318
 z213:=Tryz.sizeOf318
 t232:=Tryz.underlying346
 a232:=Tryz.isAgg346
 z232:=Tryz.sizeOf346
 v232:=Tryz.zeroValue346
 t233:=Tryz.underlying347
 a233:=Tryz.isAgg347
 z233:=Tryz.sizeOf347
 v233:=Tryz.zeroValue347
 g17:=by kernel_rfl
 g18:=by kernel_rfl
 g19:=by kernel_rfl
 i0:=by kernel_rfl
 i2:=by kernel_rfl
 i3:=by kernel_rfl
 i4:=by kernel_rfl
 i5:=by kernel_rfl
 i9:=by kernel_rfl
 i20:=by kernel_rfl
 i37:=by kernel_rfl
 i46:=by kernel_rfl
 i51:=by kernel_rfl
 i53:=by kernel_rfl
 i171:=by kernel_rfl
 i173:=by kernel_rfl
 i212:=by kernel_rfl
 i232:=by kernel_rfl
 i233:=by kernel_rfl
 m17:=by kernel_rfl
 m18:=by kernel_rfl
 m19:=by kernel_rfl}
open Go.RowKit Go.Sort Go.Lib in
theorem Tryz.qc (n:Int) (h0 : -9223372036854775808≤n) (h1:n≤9223372036854775807) (w:World) (htab:Lib.TabIs Tryz.prog w "internal/strconv.uint64pow10" .u64 Lib.pow10Tab) :
 Calls Tryz.prog 61 #[.int .i64 n] w fun e w'=>e=.returned (.string ⟨(Lib.itoa n).toArray⟩)∧∃k os,w'=grow (w.drewN k) os:=Any.strconv_Itoa Tryz.laysM171 n h0 h1 w htab
def Tryz.laysC172_ren:Go.Shelf.Ren:=⟨fun|172=>175|244=>272|245=>273|247=>333|279=>334|280=>335|281=>336|282=>337|287=>365|316=>366|171=>61|205=>367|321=>376|322=>377|243=>109|246=>203|283=>290|284=>291|285=>292|286=>293|129=>123|317=>341|318=>342|319=>343|320=>344|337=>368|338=>369|n=>n,fun|9=>9|3=>3|75=>70|76=>71|4=>4|5=>5|167=>301|37=>66|0=>0|85=>302|2=>2|168=>304|53=>166|175=>330|46=>118|210=>333|127=>115|145=>345|143=>343|21=>21|171=>266|173=>268|212=>317|51=>164|20=>20|213=>318|232=>346|233=>347|80=>76|n=>n,fun|15=>5|16=>6|17=>4|18=>7|19=>8|n=>n⟩
theorem Tryz.laysC172:Go.Proofs.LaysC.n172 Tryz.prog Tryz.laysC172_ren:={
 mixed:=by kernel_rfl
 f129:=Tryz.func123.trans (congrArg some (by kernel_rfl))
 f171:=Tryz.func61.trans (congrArg some (by kernel_rfl))
 f172:=Tryz.func175.trans (congrArg some (by kernel_rfl))
 f205:=Tryz.func367.trans (congrArg some (by kernel_rfl))
 f243:=Tryz.func109.trans (congrArg some (by kernel_rfl))
 f244:=Tryz.func272.trans (congrArg some (by kernel_rfl))
 f245:=Tryz.func273.trans (congrArg some (by kernel_rfl))
 f246:=Tryz.func203.trans (congrArg some (by kernel_rfl))
 f247:=Tryz.func333.trans (congrArg some (by kernel_rfl))
 f279:=Tryz.func334.trans (congrArg some (by kernel_rfl))
 f280:=Tryz.func335.trans (congrArg some (by kernel_rfl))
 f281:=Tryz.func336.trans (congrArg some (by kernel_rfl))
 f282:=Tryz.func337.trans (congrArg some (by kernel_rfl))
 f283:=Tryz.func290.trans (congrArg some (by kernel_rfl))
 f284:=Tryz.func291.trans (congrArg some (by kernel_rfl))
 f285:=Tryz.func292.trans (congrArg some (by kernel_rfl))
 f286:=Tryz.func293.trans (congrArg some (by kernel_rfl))
 f287:=Tryz.func365.trans (congrArg some (by kernel_rfl))
 f316:=Tryz.func366.trans (congrArg some (by kernel_rfl))
 f317:=Tryz.func341.trans (congrArg some (by kernel_rfl))
 f318:=Tryz.func342.trans (congrArg some (by kernel_rfl))
 f319:=Tryz.func343.trans (congrArg some (by kernel_rfl))
 f320:=Tryz.func344.trans (congrArg some (by kernel_rfl))
 f321:=Tryz.func376.trans (congrArg some (by kernel_rfl))
 f322:=Tryz.func377.trans (congrArg some (by kernel_rfl))
 f337:=Tryz.func368.trans (congrArg some (by kernel_rfl))
 f338:=Tryz.func369.trans (congrArg some (by kernel_rfl))
 t0:=Tryz.underlying0
 a0:=Tryz.isAgg0
 z0:=Tryz.sizeOf0
 v0:=Tryz.zeroValue0
 t2:=Tryz.underlying2
 a2:=Tryz.isAgg2
 z2:=Tryz.sizeOf2
 v2:=Tryz.zeroValue2
 t3:=Tryz.underlying3
 a3:=Tryz.isAgg3
 z3:=Tryz.sizeOf3
 v3:=Tryz.zeroValue3
 t4:=Tryz.underlying4
 a4:=Tryz.isAgg4
 z4:=Tryz.sizeOf4
 v4:=Tryz.zeroValue4
 t5:=Tryz.underlying5
 a5:=Tryz.isAgg5
 z5:=Tryz.sizeOf5
 v5:=Tryz.zeroValue5
 t9:=Tryz.underlying9
 a9:=Tryz.isAgg9
 z9:=Tryz.sizeOf9
 v9:=Tryz.zeroValue9
 t20:=Tryz.underlying20
 a20:=Tryz.isAgg20
 z20:=Tryz.sizeOf20
 v20:=Tryz.zeroValue20
 t21:=Tryz.underlying21
 a21:=Tryz.isAgg21
 z21:=Tryz.sizeOf21
 v21:=Tryz.zeroValue21
 t37:=Tryz.underlying66
 a37:=Tryz.isAgg66
 z37:=Tryz.sizeOf66
 v37:=Tryz.zeroValue66
 t46:=Tryz.underlying118
 a46:=Tryz.isAgg118
 z46:=Tryz.sizeOf118
 v46:=Tryz.zeroValue118
 t51:=Tryz.underlying164
 a51:=Tryz.isAgg164
 z51:=Tryz.sizeOf164
 v51:=Tryz.zeroValue164
 t53:=Tryz.underlying166
 a53:=Tryz.isAgg166
 z53:=Tryz.sizeOf166
 v53:=Tryz.zeroValue166
 t75:=Tryz.underlying70
 a75:=Tryz.isAgg70
 z75:=Tryz.sizeOf70
 v75:=Tryz.zeroValue70
 t76:=Tryz.underlying71
 a76:=Tryz.isAgg71
 z76:=Tryz.sizeOf71
 v76:=Tryz.zeroValue71
 t85:=Tryz.underlying302
 a85:=Tryz.isAgg302
 z85:=Tryz.sizeOf302
 v85:=Tryz.zeroValue302
 t127:=Tryz.underlying115
 a127:=Tryz.isAgg115
 z127:=Tryz.sizeOf115
 v127:=Tryz.zeroValue115
 t143:=Tryz.underlying343
 a143:=Tryz.isAgg343
 z143:=Tryz.sizeOf343
 v143:=Tryz.zeroValue343
 t145:=Tryz.underlying345
 a145:=Tryz.isAgg345
 z145:=Tryz.sizeOf345
 v145:=Tryz.zeroValue345
 t167:=Tryz.underlying301
 a167:=Tryz.isAgg301
 z167:=Tryz.sizeOf301
 v167:=Tryz.zeroValue301
 t168:=Tryz.underlying304
 a168:=Tryz.isAgg304
 z168:=Tryz.sizeOf304
 v168:=Tryz.zeroValue304
 t171:=Tryz.underlying266
 a171:=Tryz.isAgg266
 z171:=Tryz.sizeOf266
 v171:=Tryz.zeroValue266
 t173:=Tryz.underlying268
 a173:=Tryz.isAgg268
 z173:=Tryz.sizeOf268
 v173:=Tryz.zeroValue268
 t175:=Tryz.underlying330
 a175:=Tryz.isAgg330
 z175:=Tryz.sizeOf330
 v175:=Tryz.zeroValue330
 t210:=Tryz.underlying333
 a210:=Tryz.isAgg333
 z210:=Tryz.sizeOf333
 v210:=Tryz.zeroValue333
 t212:=Tryz.underlying317
 a212:=Tryz.isAgg317
 z212:=Tryz.sizeOf317
 v212:=Tryz.zeroValue317
 t213:=Tryz.underlying318
 a213:=Tryz.isAgg318
 z213:=Tryz.sizeOf318
 t232:=Tryz.underlying346
 a232:=Tryz.isAgg346
 z232:=Tryz.sizeOf346
 v232:=Tryz.zeroValue346
 t233:=Tryz.underlying347
 a233:=Tryz.isAgg347
 z233:=Tryz.sizeOf347
 v233:=Tryz.zeroValue347
 g15:=by kernel_rfl
 g16:=by kernel_rfl
 g17:=by kernel_rfl
 g18:=by kernel_rfl
 g19:=by kernel_rfl
 t80:=Tryz.underlying76
 a80:=Tryz.isAgg76
 z80:=Tryz.sizeOf76
 v80:=Tryz.zeroValue76
 i0:=by kernel_rfl
 i2:=by kernel_rfl
 i3:=by kernel_rfl
 i4:=by kernel_rfl
 i5:=by kernel_rfl
 i9:=by kernel_rfl
 i20:=by kernel_rfl
 i21:=by kernel_rfl
 i37:=by kernel_rfl
 i46:=by kernel_rfl
 i51:=by kernel_rfl
 i53:=by kernel_rfl
 i75:=by kernel_rfl
 i76:=by kernel_rfl
 i80:=by kernel_rfl
 i85:=by kernel_rfl
 i127:=by kernel_rfl
 i143:=by kernel_rfl
 i145:=by kernel_rfl
 i167:=by kernel_rfl
 i168:=by kernel_rfl
 i171:=by kernel_rfl
 i173:=by kernel_rfl
 i175:=by kernel_rfl
 i210:=by kernel_rfl
 i212:=by kernel_rfl
 i232:=by kernel_rfl
 i233:=by kernel_rfl
 m15:=by kernel_rfl
 m16:=by kernel_rfl
 m17:=by kernel_rfl
 m18:=by kernel_rfl
 m19:=by kernel_rfl
 c0:=by kernel_rfl
 c2:=by kernel_rfl
 c3:=by kernel_rfl
 c4:=by kernel_rfl
 c5:=by kernel_rfl
 c9:=by kernel_rfl
 c20:=by kernel_rfl
 c21:=by kernel_rfl
 c37:=by kernel_rfl
 c46:=by kernel_rfl
 c51:=by kernel_rfl
 c53:=by kernel_rfl
 c75:=by kernel_rfl
 c76:=by kernel_rfl
 c80:=by kernel_rfl
 c85:=by kernel_rfl
 c127:=by kernel_rfl
 c143:=by kernel_rfl
 c145:=by kernel_rfl
 c167:=by kernel_rfl
 c168:=by kernel_rfl
 c171:=by kernel_rfl
 c173:=by kernel_rfl
 c175:=by kernel_rfl
 c210:=by kernel_rfl
 c212:=by kernel_rfl
 c213:=by kernel_rfl
 c232:=by kernel_rfl
 c233:=by kernel_rfl}
open Go.RowKit in
theorem Tryz.qn_ok (s:ByteArray) (hmax:s.size≤9223372036854775806) (v:Int) (h:Lib.atoiAll s.data.toList=.ok v) (w:World) :
 Calls Tryz.prog 175 #[.string s] w fun e w'=>e=.returned (.tuple #[.int .i64 v,.nilIface])∧(w'=w∨∃t,w'=Lib.bytesWorld w 5 t):=Any.strconv_Atoi_ok Tryz.laysC172 s hmax v h w
open Go.RowKit in
theorem Tryz.qn_bad (s:ByteArray) (hlim:s.size≤281474976710656) (h1:∀n,Lib.atoiAll s.data.toList≠.ok n) (h2:Lib.atoiAll s.data.toList≠.range) (ev:Value) (w:World) (hv:w.cell? ⟨5,0,none⟩=some ev) (hev:ev=.nilIface∨∃te pe,ev=.iface te pe) :
 Calls Tryz.prog 175 #[.string s] w fun e w'=>∃N,e=.returned (.tuple #[.int .i64 (0),.iface 304 (.pointer (some ⟨N,0,none⟩))])∧w.heap.size≤N∧w'.heap[N]?=some (.cells #[.string ⟨#[65,116,111,105]⟩,.string s,ev] 333 (0,0))∧Below w.heap.size w w':=by
 cases h:Lib.atoiAll s.data.toList with
 |ok n=>exact absurd h (h1 n)
 |range=>exact absurd h h2
 |_=>exact Any.strconv_Atoi_syntax Tryz.laysC172 s hlim h ev w hv hev
open Go.RowKit in
theorem Tryz.qn_range (s:ByteArray) (hlim:s.size≤281474976710656) (h:Lib.atoiAll s.data.toList=.range) (ev:Value) (w:World) (hv:w.cell? ⟨6,0,none⟩=some ev) (hev:ev=.nilIface∨∃te pe,ev=.iface te pe) :
 Calls Tryz.prog 175 #[.string s] w fun e w'=>∃N,e=.returned (.tuple #[.int .i64 (Lib.atoiSat s.data.toList),.iface 304 (.pointer (some ⟨N,0,none⟩))])∧w.heap.size≤N∧w'.heap[N]?=some (.cells #[.string ⟨#[65,116,111,105]⟩,.string s,ev] 333 (0,0))∧Below w.heap.size w w':=Any.strconv_Atoi_range Tryz.laysC172 s hlim h ev w hv hev
def Tryz.lays217_ren:Go.Shelf.Ren:=⟨fun|217=>264|266=>328|n=>n,fun|9=>9|5=>5|3=>3|n=>n,fun|n=>n⟩
theorem Tryz.lays217:Go.Proofs.Lays.n217 Tryz.prog Tryz.lays217_ren:={
 mixed:=by kernel_rfl
 f217:=Tryz.func264.trans (congrArg some (by kernel_rfl))
 f266:=Tryz.func328.trans (congrArg some (by kernel_rfl))
 t3:=Tryz.underlying3
 a3:=Tryz.isAgg3
 z3:=Tryz.sizeOf3
 v3:=Tryz.zeroValue3
 t5:=Tryz.underlying5
 a5:=Tryz.isAgg5
 z5:=Tryz.sizeOf5
 v5:=Tryz.zeroValue5
 t9:=Tryz.underlying9
 a9:=Tryz.isAgg9
 z9:=Tryz.sizeOf9
 v9:=Tryz.zeroValue9}
open Go.RowKit Go.Lib in
theorem Tryz.qak (s:ByteArray) (c:Int) (w:World) :
 Calls Tryz.prog 264 #[.string s,.int .u8 c] w fun e w'=>e=.returned (.int .i64 (Lib.indexByte s.data.toList c.toNat.toUInt8))∧w'=w:=Any.stringslite_IndexByte Tryz.lays217 s c w
def Tryz.lays219_ren:Go.Shelf.Ren:=⟨fun|219=>171|217=>264|225=>265|224=>266|267=>267|266=>328|314=>329|n=>n,fun|9=>9|3=>3|4=>4|5=>5|46=>118|146=>296|51=>164|n=>n,fun|1=>0|n=>n⟩
theorem Tryz.lays219:Go.Proofs.Lays.n219 Tryz.prog Tryz.lays219_ren:={
 mixed:=by kernel_rfl
 f217:=Tryz.func264.trans (congrArg some (by kernel_rfl))
 f219:=Tryz.func171.trans (congrArg some (by kernel_rfl))
 f224:=Tryz.func266.trans (congrArg some (by kernel_rfl))
 f225:=Tryz.func265.trans (congrArg some (by kernel_rfl))
 f266:=Tryz.func328.trans (congrArg some (by kernel_rfl))
 f267:=Tryz.func267.trans (congrArg some (by kernel_rfl))
 f314:=Tryz.func329.trans (congrArg some (by kernel_rfl))
 t3:=Tryz.underlying3
 a3:=Tryz.isAgg3
 z3:=Tryz.sizeOf3
 v3:=Tryz.zeroValue3
 t4:=Tryz.underlying4
 a4:=Tryz.isAgg4
 z4:=Tryz.sizeOf4
 v4:=Tryz.zeroValue4
 t5:=Tryz.underlying5
 a5:=Tryz.isAgg5
 z5:=Tryz.sizeOf5
 v5:=Tryz.zeroValue5
 t9:=Tryz.underlying9
 a9:=Tryz.isAgg9
 z9:=Tryz.sizeOf9
 v9:=Tryz.zeroValue9
 t46:=Tryz.underlying118
 a46:=Tryz.isAgg118
 z46:=Tryz.sizeOf118
 v46:=Tryz.zeroValue118
 t51:=Tryz.underlying164
 a51:=Tryz.isAgg164
 z51:=Tryz.sizeOf164
 v51:=Tryz.zeroValue164
 t146:=Tryz.underlying296
 a146:=Tryz.isAgg296
 z146:=Tryz.sizeOf296
 v146:=Tryz.zeroValue296
 g1:=by kernel_rfl}
open Go.RowKit Go.Lib in
theorem Tryz.qp_one (s:ByteArray) (c:UInt8) (w:World) :
 Calls Tryz.prog 171 #[.string s,.string ⟨#[c]⟩] w fun e w'=>e=.returned (.int .i64 (Lib.indexByte s.data.toList c))∧w'=w:=Any.stringslite_Index_one Tryz.lays219 s c w
def Tryz.lays143_ren:Go.Shelf.Ren:=⟨fun|143=>270|219=>171|217=>264|225=>265|224=>266|267=>267|266=>328|314=>329|n=>n,fun|9=>9|3=>3|4=>4|5=>5|46=>118|146=>296|51=>164|n=>n,fun|1=>0|n=>n⟩
theorem Tryz.lays143:Go.Proofs.Lays.n143 Tryz.prog Tryz.lays143_ren:={
 mixed:=by kernel_rfl
 f143:=Tryz.func270.trans (congrArg some (by kernel_rfl))
 f217:=Tryz.func264.trans (congrArg some (by kernel_rfl))
 f219:=Tryz.func171.trans (congrArg some (by kernel_rfl))
 f224:=Tryz.func266.trans (congrArg some (by kernel_rfl))
 f225:=Tryz.func265.trans (congrArg some (by kernel_rfl))
 f266:=Tryz.func328.trans (congrArg some (by kernel_rfl))
 f267:=Tryz.func267.trans (congrArg some (by kernel_rfl))
 f314:=Tryz.func329.trans (congrArg some (by kernel_rfl))
 t3:=Tryz.underlying3
 a3:=Tryz.isAgg3
 z3:=Tryz.sizeOf3
 v3:=Tryz.zeroValue3
 t4:=Tryz.underlying4
 a4:=Tryz.isAgg4
 z4:=Tryz.sizeOf4
 v4:=Tryz.zeroValue4
 t5:=Tryz.underlying5
 a5:=Tryz.isAgg5
 z5:=Tryz.sizeOf5
 v5:=Tryz.zeroValue5
 t9:=Tryz.underlying9
 a9:=Tryz.isAgg9
 z9:=Tryz.sizeOf9
 v9:=Tryz.zeroValue9
 t46:=Tryz.underlying118
 a46:=Tryz.isAgg118
 z46:=Tryz.sizeOf118
 v46:=Tryz.zeroValue118
 t51:=Tryz.underlying164
 a51:=Tryz.isAgg164
 z51:=Tryz.sizeOf164
 v51:=Tryz.zeroValue164
 t146:=Tryz.underlying296
 a146:=Tryz.isAgg296
 z146:=Tryz.sizeOf296
 v146:=Tryz.zeroValue296
 g1:=by kernel_rfl}
open Go.RowKit Go.Lib in
theorem Tryz.qz_one (s:ByteArray) (c:UInt8) (w:World) :
 Calls Tryz.prog 270 #[.string s,.string ⟨#[c]⟩] w fun e w'=>e=.returned (.int .i64 (Lib.indexByte s.data.toList c))∧w'=w:=Any.strings_Index_one Tryz.lays143 s c w
def Tryz.lays138_ren:Go.Shelf.Ren:=⟨fun|138=>269|195=>330|218=>332|143=>270|219=>171|217=>264|225=>265|224=>266|267=>267|266=>328|314=>329|n=>n,fun|9=>9|3=>3|4=>4|5=>5|0=>0|46=>118|146=>296|51=>164|n=>n,fun|1=>0|n=>n⟩
theorem Tryz.lays138:Go.Proofs.Lays.n138 Tryz.prog Tryz.lays138_ren:={
 mixed:=by kernel_rfl
 f138:=Tryz.func269.trans (congrArg some (by kernel_rfl))
 f143:=Tryz.func270.trans (congrArg some (by kernel_rfl))
 f195:=Tryz.func330.trans (congrArg some (by kernel_rfl))
 f217:=Tryz.func264.trans (congrArg some (by kernel_rfl))
 f218:=Tryz.func332.trans (congrArg some (by kernel_rfl))
 f219:=Tryz.func171.trans (congrArg some (by kernel_rfl))
 f224:=Tryz.func266.trans (congrArg some (by kernel_rfl))
 f225:=Tryz.func265.trans (congrArg some (by kernel_rfl))
 f266:=Tryz.func328.trans (congrArg some (by kernel_rfl))
 f267:=Tryz.func267.trans (congrArg some (by kernel_rfl))
 f314:=Tryz.func329.trans (congrArg some (by kernel_rfl))
 t0:=Tryz.underlying0
 a0:=Tryz.isAgg0
 z0:=Tryz.sizeOf0
 v0:=Tryz.zeroValue0
 t3:=Tryz.underlying3
 a3:=Tryz.isAgg3
 z3:=Tryz.sizeOf3
 v3:=Tryz.zeroValue3
 t4:=Tryz.underlying4
 a4:=Tryz.isAgg4
 z4:=Tryz.sizeOf4
 v4:=Tryz.zeroValue4
 t5:=Tryz.underlying5
 a5:=Tryz.isAgg5
 z5:=Tryz.sizeOf5
 v5:=Tryz.zeroValue5
 t9:=Tryz.underlying9
 a9:=Tryz.isAgg9
 z9:=Tryz.sizeOf9
 v9:=Tryz.zeroValue9
 t46:=Tryz.underlying118
 a46:=Tryz.isAgg118
 z46:=Tryz.sizeOf118
 v46:=Tryz.zeroValue118
 t51:=Tryz.underlying164
 a51:=Tryz.isAgg164
 z51:=Tryz.sizeOf164
 v51:=Tryz.zeroValue164
 t146:=Tryz.underlying296
 a146:=Tryz.isAgg296
 z146:=Tryz.sizeOf296
 v146:=Tryz.zeroValue296
 g1:=by kernel_rfl}
open Go.RowKit Go.Lib in
theorem Tryz.q8_one (s:ByteArray) (c:UInt8) (w:World) :
 Calls Tryz.prog 269 #[.string s,.string ⟨#[c]⟩] w fun e w'=>e=.returned (.int .i64 (Lib.countByte s.data.toList c))∧w'=w:=Any.strings_Count_one Tryz.lays138 s c w
def Tryz.lays105_ren:Go.Shelf.Ren:=⟨fun|105=>207|212=>295|99=>296|165=>60|166=>27|170=>297|169=>30|263=>345|264=>346|206=>347|240=>59|241=>108|276=>107|277=>202|n=>n,fun|9=>9|3=>3|4=>4|20=>20|0=>0|46=>118|109=>271|5=>5|72=>68|76=>71|51=>164|146=>296|53=>166|148=>320|70=>65|37=>66|75=>70|127=>115|164=>151|80=>76|n=>n,fun|n=>n⟩
theorem Tryz.lays105:Go.Proofs.Lays.n105 Tryz.prog Tryz.lays105_ren:={
 mixed:=by kernel_rfl
 f99:=Tryz.func296.trans (congrArg some (by kernel_rfl))
 f105:=Tryz.func207.trans (congrArg some (by kernel_rfl))
 f165:=Tryz.func60.trans (congrArg some (by kernel_rfl))
 f166:=Tryz.func27.trans (congrArg some (by kernel_rfl))
 f169:=Tryz.func30.trans (congrArg some (by kernel_rfl))
 f170:=Tryz.func297.trans (congrArg some (by kernel_rfl))
 f206:=Tryz.func347.trans (congrArg some (by kernel_rfl))
 f212:=Tryz.func295.trans (congrArg some (by kernel_rfl))
 f240:=Tryz.func59.trans (congrArg some (by kernel_rfl))
 f241:=Tryz.func108.trans (congrArg some (by kernel_rfl))
 f263:=Tryz.func345.trans (congrArg some (by kernel_rfl))
 f264:=Tryz.func346.trans (congrArg some (by kernel_rfl))
 f276:=Tryz.func107.trans (congrArg some (by kernel_rfl))
 f277:=Tryz.func202.trans (congrArg some (by kernel_rfl))
 t0:=Tryz.underlying0
 a0:=Tryz.isAgg0
 z0:=Tryz.sizeOf0
 v0:=Tryz.zeroValue0
 t3:=Tryz.underlying3
 a3:=Tryz.isAgg3
 z3:=Tryz.sizeOf3
 v3:=Tryz.zeroValue3
 t4:=Tryz.underlying4
 a4:=Tryz.isAgg4
 z4:=Tryz.sizeOf4
 v4:=Tryz.zeroValue4
 t5:=Tryz.underlying5
 a5:=Tryz.isAgg5
 z5:=Tryz.sizeOf5
 v5:=Tryz.zeroValue5
 t9:=Tryz.underlying9
 a9:=Tryz.isAgg9
 z9:=Tryz.sizeOf9
 v9:=Tryz.zeroValue9
 t20:=Tryz.underlying20
 a20:=Tryz.isAgg20
 z20:=Tryz.sizeOf20
 v20:=Tryz.zeroValue20
 t37:=Tryz.underlying66
 a37:=Tryz.isAgg66
 z37:=Tryz.sizeOf66
 v37:=Tryz.zeroValue66
 t46:=Tryz.underlying118
 a46:=Tryz.isAgg118
 z46:=Tryz.sizeOf118
 v46:=Tryz.zeroValue118
 t51:=Tryz.underlying164
 a51:=Tryz.isAgg164
 z51:=Tryz.sizeOf164
 v51:=Tryz.zeroValue164
 t53:=Tryz.underlying166
 a53:=Tryz.isAgg166
 z53:=Tryz.sizeOf166
 v53:=Tryz.zeroValue166
 t70:=Tryz.underlying65
 a70:=Tryz.isAgg65
 z70:=Tryz.sizeOf65
 v70:=Tryz.zeroValue65
 t72:=Tryz.underlying68
 a72:=Tryz.isAgg68
 z72:=Tryz.sizeOf68
 v72:=Tryz.zeroValue68
 t75:=Tryz.underlying70
 a75:=Tryz.isAgg70
 z75:=Tryz.sizeOf70
 v75:=Tryz.zeroValue70
 t76:=Tryz.underlying71
 a76:=Tryz.isAgg71
 z76:=Tryz.sizeOf71
 v76:=Tryz.zeroValue71
 t109:=Tryz.underlying271
 a109:=Tryz.isAgg271
 z109:=Tryz.sizeOf271
 v109:=Tryz.zeroValue271
 t127:=Tryz.underlying115
 a127:=Tryz.isAgg115
 z127:=Tryz.sizeOf115
 v127:=Tryz.zeroValue115
 t146:=Tryz.underlying296
 a146:=Tryz.isAgg296
 z146:=Tryz.sizeOf296
 v146:=Tryz.zeroValue296
 t148:=Tryz.underlying320
 a148:=Tryz.isAgg320
 z148:=Tryz.sizeOf320
 v148:=Tryz.zeroValue320
 t164:=Tryz.underlying151
 a164:=Tryz.isAgg151
 z164:=Tryz.sizeOf151
 v164:=Tryz.zeroValue151}
theorem Tryz.Builder_Extra_105:Builder.Extra Tryz.prog Tryz.lays105_ren:={
 sizeBuilder:=by kernel_rfl
 liesBuilder:=by kernel_rfl
 t5:=Tryz.underlying5
 a5:=Tryz.isAgg5
 z5:=Tryz.sizeOf5
 v5:=Tryz.zeroValue5
 infoByte:=by kernel_rfl
 cellsByte:=by kernel_rfl
 sizeByte:=by kernel_rfl
 neB5:=by decide}
open Go.RowKit Go.Lib in
theorem Tryz.qy (s:ByteArray) (c:Nat) (w:World) (hc:c≤9223372036854775807) (hlen:s.size*c≤140737488355328) :
 Calls Tryz.prog 207 #[.string s,.int .i64 c] w fun e w'=>e=.returned (.string ⟨(Lib.repeatL s.data.toList c).toArray⟩)∧Below w.heap.size w w':=Any.strings_Repeat Tryz.lays105 Tryz.Builder_Extra_105 s c w hc hlen
end Go.Proofs
namespace Go.Proofs.YtpdenibljogamaaGreatDoor.Ev
open Go
open Go.Shelf Go.RowKit
set_option maxHeartbeats 1000000 in
set_option maxRecDepth 100000 in
theorem c17 {blk:Nat} {p v:Value} {w:World} (hp:p=.pointer none∨p=.pointer (some ⟨blk,0,none⟩)) (hb:w.heap[blk]?=some (.cells #[p,v] 68 (0,0))) :
 Calls Tryz.prog 59 #[.pointer (some ⟨blk,0,none⟩)] w fun e w'=>e=.returned (.tuple #[])∧w'.heap[blk]?=some (.cells #[.pointer (some ⟨blk,0,none⟩),v] 68 (0,0))∧(∀k,k≠blk→w'.heap[k]?=w.heap[k]?)∧w'.heap.size=w.heap.size∧w'.os=w.os∧w'.output=w.output∧w'.tape=w.tape:=by
 have c0:w.cell? ⟨blk,0,none⟩=some p:=by simp[World.cell?,hb]
 have hsize:(Tryz.prog.info? 68).map (·.size)=some 2:=kr;obtain ⟨j,hj,hjs⟩:=yay.1 hsize;rcases hp with rfl|rfl
 ·have hsh:w.shape? blk=some (68,2):=by simp[World.shape?,hb]
  have hfz:w.frozen? ⟨blk,0,none⟩=false:=by simp[World.frozen?,hb]
  have hl:liesAt Tryz.prog Tryz.prog.depth 68 (2 / Tryz.prog.cellsOf 68) 0 68 1=true:=kr;obtain ⟨h1,h2⟩:=a38 (i:=0) (v:=.pointer (some ⟨blk,0,none⟩)) hb;have fin:(w.setCell ⟨blk,0,none⟩ (.pointer (some ⟨blk,0,none⟩))).heap[blk]?=some (.cells #[.pointer (some ⟨blk,0,none⟩),v] 68 (0,0))∧(∀k,k≠blk→(w.setCell ⟨blk,0,none⟩ (.pointer (some ⟨blk,0,none⟩))).heap[k]?=w.heap[k]?)∧(w.setCell ⟨blk,0,none⟩ (.pointer (some ⟨blk,0,none⟩))).heap.size=w.heap.size∧(w.setCell ⟨blk,0,none⟩ (.pointer (some ⟨blk,0,none⟩))).os=w.os∧(w.setCell ⟨blk,0,none⟩ (.pointer (some ⟨blk,0,none⟩))).output=w.output∧(w.setCell ⟨blk,0,none⟩ (.pointer (some ⟨blk,0,none⟩))).tape=w.tape:=⟨h1,h2⟩
  clear h1 h2 hb
  go_enter Tryz.func59,Tryz.ntmps59
  go_wp2
  rw[Lib.run_to_unsafe w ⟨blk,0,none⟩ Tryz.underlying65 Tryz.underlying151 hj (by rw[hjs];decide) hsh (Nat.zero_lt_succ 1)];simp only[Result.andThen];rw[Oper.upon_value]
  go_wp2
  rw[run_callFunc_extern Tryz.func107 kr kr kr (e:=Extern.AbiNoEscape.same) kr];rw[Lib.run_noEscape];simp only[Result.andThen];rw[Oper.upon_value]
  go_wp2
  rw[Lib.run_from_unsafe w ⟨blk,0,none⟩ Tryz.underlying151 Tryz.underlying65 hj hsh hl];simp only[Result.andThen];rw[Oper.upon_value]
  go_wp2
  go_end0
  exact ⟨rfl,fin⟩
 ·go_enter Tryz.func59,Tryz.ntmps59
  go_wp2
  rw[Lib.run_neq_ptr_same w _ Tryz.underlying65 hj]
  go_wp2
  go_end0
  exact ⟨rfl,hb,fun _ _=>rfl,rfl,rfl,rfl,rfl⟩
set_option maxHeartbeats 2000000 in
set_option maxRecDepth 100000 in
theorem b36:a2n Tryz.prog 68 5 27:=by
 intro w blk p v l s hp hb hbuf hlen;unfold LIM at hlen;have e166:∀args w,(callFunc 27 args).run Tryz.prog w=.ok (.enter 27 args) w:=enters_of Tryz.func27 kr rfl;refine a3z e166 ?_;have hss:s.data.toList.length=s.size:=by rw[yaY];rfl
 have hib:(Tryz.prog.info? 5).map (fun i=>(i.zero,i.size,i.bytes))=some (some (.int .u8 0),1,1):=kr;obtain ⟨i0,hi,hz0,hz1,hz2⟩:=info_parts hib;have e240:∀args w,(callFunc 59 args).run Tryz.prog w=.ok (.enter 59 args) w:=enters_of Tryz.func59 kr rfl;have hblt:blk<w.heap.size:=(yad.1 hb).1
 go_enter Tryz.func27,Tryz.ntmps27
 go_wp2_with (go_at_fn 59;refine (c17 hp hb).mono ?_)
 rintro e w1 ⟨rfl,hbk,hk1,hs1,ho1,hu1,ht1⟩;have hbuf1:a7o w1 blk 5 l v:=by
  rcases hbuf with h|⟨bb,cap,cur,h1,h2,h3,h4,h5,h6,h7⟩
  ·exact .inl h
  ·exact .inr ⟨bb,cap,cur,h1,(hk1 bb h7).trans h2,h3,h4,h5,h6,h7⟩
 obtain ⟨hown,hob⟩:=hbuf1.own;have hne:v.ownBlock≠some blk:=by
  rcases hbuf1 with ⟨rfl,-⟩|⟨bb,cap,cur,rfl,-,-,-,-,-,h7⟩
  ·simp[Value.ownBlock]
  ·simpa[Value.ownBlock]using h7
 have c0:w1.cell? ⟨blk,0,none⟩=some (.pointer (some ⟨blk,0,none⟩)):=by rw[Lib.cell_of_heap hbk];rfl
 have c1:w1.cell? ⟨blk,1,none⟩=some v:=by rw[Lib.cell_of_heap hbk];rfl
 go_wp2_with (at_builtin;refine a0t rfl _ _ 66 9 rfl 5 i0 Tryz.underlying66 Tryz.underlying9 hi hz0 hz1 hz2 _ _ _ rfl hown s rfl ?c3 ?c4 ?_)
 case c3=>unfold maxLen;omega
 case c4=>omega
 intro v' w2 hown' hgrow hwhere;have hlt:blk<w1.heap.size:=by omega
 have hb2:w2.heap[blk]?=some (.cells #[.pointer (some ⟨blk,0,none⟩),v] 68 (0,0)):=by
  rw[hgrow.block blk hlt (fun e=>hne e.symm)];exact hbk
 have d0:w2.cell? ⟨blk,0,none⟩=some (.pointer (some ⟨blk,0,none⟩)):=by rw[Lib.cell_of_heap hb2];rfl
 have d1:w2.cell? ⟨blk,1,none⟩=some v:=by rw[Lib.cell_of_heap hb2];rfl
 have f1:w2.frozen? ⟨blk,1,none⟩=false:=Lib.frozen_of_heap hb2 1;have hbc:Lib.byteCells l++Lib.strCells s=Lib.byteCells (l++s.data.toList):=by simp[Lib.byteCells,Lib.strCells]
 have hbuf2:a7o w2 blk 5 (l++s.data.toList) v':=a7o.of (n:=l.length+s.size) (by rw[ybd,hss]) (by rw[←hbc];exact hown') hb2 (by decide);obtain ⟨ao,n',cap,hv'⟩:∃ao n' cap,v'=.slice ao n' cap:=by
  rcases hbuf2 with ⟨hv,_⟩|⟨g,cap,cur,hv,_⟩
  ·exact ⟨_,_,_,hv⟩
  ·exact ⟨_,_,_,hv⟩
 obtain ⟨q1,q2,q3,q4,q5,q6⟩:=a38 (i:=1) (v:=v') hb2;have fin:∃p' v'',(p'=.pointer none∨p'=.pointer (some ⟨blk,0,none⟩))∧(w2.setCell ⟨blk,1,none⟩ v').heap[blk]?=some (.cells #[p',v''] 68 (0,0))∧a7o (w2.setCell ⟨blk,1,none⟩ v') blk 5 (l++s.data.toList) v''∧a9k blk v v'' w (w2.setCell ⟨blk,1,none⟩ v'):=by
  refine ⟨_,v',.inr rfl,q1,?_,by have:=hgrow.size;omega,by rw[q4,hgrow.os,ho1],by rw[q5,hgrow.output,hu1],by rw[q6,hgrow.tape,ht1],fun b hb' hbne hbo=>?_,fun bb hbb=>?_⟩
  ·rcases hbuf2 with h|⟨bb,cap,cur,h1,h2,h3,h4,h5,h6,h7⟩
   ·exact .inl h
   ·exact .inr ⟨bb,cap,cur,h1,(q2 bb h7).trans h2,h3,h4,h5,h6,h7⟩
  ·rw[q2 b hbne,hgrow.block b (by omega) (fun e=>hbo (by rw[←hob];exact e.symm)),hk1 b hbne]
  ·rcases hwhere bb hbb with q|q
   ·exact .inl q
   ·exact .inr (by omega)
 clear q1 q2 q3 q4 q5 q6 hbuf2 hown' hgrow hbuf1 hown hwhere;subst hv'
 go_wp2
 go_ret2
 exact ⟨_,rfl,fin⟩
end Go.Proofs.YtpdenibljogamaaGreatDoor.Ev
namespace Go.Proofs.YtpdenibljogamaaGreatDoor
section
set_option maxRecDepth 100000
open Ev
open Go (IntKind)
open Go
theorem c56:∀k,e7 (ccK k)
 |.kOff=>b1n
 |.ki64=>e7.one (d7.int _)
 |.ku8=>e7.one (d7.int _)
 |.kstr=>e7.one d7.str
 |.kOutcome=>a3p
 |.kSOff=>e7.one (d7.lst _)
 |.kLoan=>a8e
 |.kItem=>a8d
 |.kMove=>a8f
 |.kPatron=>a4n
 |.kHold=>a8c
 |.kCharge=>a4m
 |.kRule=>a8g
 |.ku64=>e7.one (d7.int _)
 |.kerr=>e7.one d7.ifc
theorem d1h:SgOk sg:=c4t (cc:=ccK) (fun _=>rfl) (fun _=>rfl) c56 (by intro k x;cases k<;>rfl) (by intro k x;cases k<;>rfl) (by intro k;cases k<;>decide)
theorem eok:∀t,c6t t=true→EqOk Tryz.prog t:=b1w kr (b1w kr (c2v))
theorem c9q:BlSpec Tryz.prog sg ⟨.ku8,blI,blJ,68,5,c22 27 30⟩:=b4r (k:=Kd.ku8) rfl b94 rfl c1s kr b36 (b06 Tryz.lays169 Tryz.Builder_Extra_169)
theorem good:GoodP Tryz.prog sg:=⟨d1g kr kr,d1h,eok,(fun _ _ h=>by cases h),(fun _ h=>by cases h;exact c9q),(fun _ h=>by cases h;exact c1t id rfl (fun _=>rfl) (fun s=>List.map_id _) (fun xs=>by rw[List.map_id]))⟩
end
section
open Go Ev
open Go.Lib Go.RowKit
set_option maxRecDepth 100000
theorem b8e:∀(f u:Nat) (a:List UInt8),u<10 ^ f→a98 f u a=if f=0 then a else Lib.decDigits u++a:=by
 intro f
 induction f with
 |zero=>intro u a _;rfl
 |succ f ih=>
  intro u a h;rw[yah (by omega),Lib.decDigits];simp only[a98,c6,yac];by_cases h1:u<10
  ·rw[yaq h1,dif_pos h1];rfl
  ·rw[yah h1,dif_neg h1,ih _ _ (by rw[Nat.pow_succ]at h;omega)];have hf:f≠0:=fun e=>by subst e;simp at h;omega
   rw[yah hf,ya5];rfl
theorem c24 {n:Int} {s:List UInt8} (h:qc n=some s):(-9223372036854775808≤n∧n≤9223372036854775807)∧s=Lib.itoa n:=by
 unfold qc at h;rw[c6]at h;split at h
 ·rename_i hr;rw[yab,yac,yac]at hr;cases h
  refine ⟨hr,?_⟩;have hd:a98 20 n.natAbs []=Lib.decDigits n.natAbs:=by
   rw[b8e 20 _ _ (by have:(10:Nat) ^ 20=100000000000000000000:=rfl;omega)];simp
  unfold Lib.itoa;rw[hd,c6];by_cases hn:n<0
  ·simp[hn]
  ·simp only[hn,decide_false,if_false,ya3];rw[show n.toNat=n.natAbs by omega]
 ·cases h
theorem b32 {w:World} {I:Nat→Nat→Prop} {mb:List Nat} (h:a52 sg w I) (hb:b2p sg w mb):Lib.TabIs Tryz.prog w "internal/strconv.uint64pow10" .u64 Lib.pow10Tab:=by
 obtain ⟨-,cs,t,m,h1,h2⟩:=hb 4 .ku64 d4 kr kr;unfold Lib.TabIs World.var?;rw[show Tryz.prog.globalNamed "internal/strconv.uint64pow10" = some 4 by kernel_rfl];simp only[ya9,h1];have hlen:d4.length=20:=by simp[d4]
 replace h2:cs.size=d4.length*1:=h2;refine congrArg some (Array.ext ?_ (fun i hi1 hi2=>?_))
 ·rw[h2];simp[hlen,Lib.pow10Tab]
 ·have hl:i<d4.length:=by omega
  obtain ⟨v,k1,-,k3⟩:=h 4 .ku64 d4 kr i hl 0 (.int .u64 d4[i]) rfl;rw[k3.int_inv]at k1;replace k1:w.cell? ⟨4,i*1+0,none⟩=some (.int .u64 d4[i]):=k1;rw[ybo,yaW]at k1;unfold World.cell? at k1;simp only[h1]at k1;have e:cs[i]=.int .u64 d4[i]:=by simpa[hi1]using k1
  rw[e];simp[d4,Lib.pow10Tab]
theorem c23 {w:World} {I J:Nat→Nat→Prop} {vs:Array Value} {n:Int} (ha:a6d sg w I J vs [.int .i64 n]):vs = #[.int .i64 n]:=by
 obtain ⟨h1,h2⟩:=ha;have h1:vs.size=1:=h1;have h0:=h2 0 vs[0] (.int .i64 n) (yag (by omega)) rfl;apply Array.ext
 ·simp[h1]
 ·intro i hi1 hi2;have:i=0:=by omega
  subst this;simpa using h0.int_inv
theorem c9v:fnB Tryz.prog 61 Tryz.f61 []=true:=kr
theorem a3q:∀ds a r,a7q.dec ds=some a→c63 a=some r→Con Tryz.prog sg 61 ds [] (b3t.enc r) []:=by
 intro ds a r hd hf;obtain ⟨code,fok,-,-⟩:=p5 Tryz.func61 c9v;have hac:e7 a7q:=e7.cons (d7.int _) e7.nil;have hw:=hac ds a hd;obtain ⟨n,⟨⟩⟩:=a;unfold Con;rw[show sg.md 61=.data by kernel_rfl];intro _ w I J vs hp ha;have hv:=c23 (n:=n) (hw.args ha);subst hv;obtain ⟨⟨h1,h2⟩,hr⟩:=c24 (n:=n) (s:=r) hf;subst hr;unfold o0;rw[MuLone.run_callFunc_enter fok.at_ fok.name fok.body _ w];refine (Tryz.qc n h1 h2 w (b32 hp.gl hp.gb)).mono ?_;rintro e w' ⟨rfl,k,os,rfl⟩;have hb:=below_grow w.heap.size w (yal _) k os;exact ⟨I,⟨hb.size,hb.os,hb.output,hb.tape,hb.block,fun _ _ h=>h,fun _ _ h=>.inl h,fun b o hi=>yat (hp.ib b o hi) hb.size⟩,.str ⟨(Lib.itoa n).toArray⟩⟩
end
section
open Go Ev
open Go.Lib Go.RowKit
set_option maxRecDepth 100000
theorem a4p {f:Nat} (hmd:sg.md f=.data) (henter:∀args w,(callFunc f args).run Tryz.prog w=.ok (.enter f args) w) {ds:List DD} {d:DD}
 (h:∀w I J vs,Pre sg w I J []→a6d sg w I J vs ds→Calls Tryz.prog f vs w fun e w'=>∃v,e=.returned v∧Below w.heap.size w w'∧DR sg w' I I v d):Con Tryz.prog sg f ds [] d []:=by
 unfold Con;rw[hmd];intro _ w I J vs hp ha;refine a3z henter ((h w I J vs hp ha).mono ?_);rintro e w' ⟨v,rfl,hb,hd⟩;exact ⟨v,rfl,I,⟨hb.size,hb.os,hb.output,hb.tape,hb.block,fun _ _ h=>h,fun _ _ h=>.inl h,fun b o hi=>yat (hp.ib b o hi) hb.size⟩,hd⟩
theorem c5p {w:World} {I J:Nat→Nat→Prop} {vs:Array Value} {d:DD} (ha:a6d sg w I J vs [d]):∃v,vs = #[v]∧DR sg w I J v d:=by
 obtain ⟨h1,h2⟩:=ha;have h1:vs.size=1:=h1;refine ⟨vs[0],?_,h2 0 vs[0] d (yag (by omega)) rfl⟩;apply Array.ext
 ·simp[h1]
 ·intro i hi1 hi2;have:i=0:=by omega
  subst this;rfl
theorem a6e {w:World} {I J:Nat→Nat→Prop} {vs:Array Value} {d e:DD} (ha:a6d sg w I J vs [d,e]):∃v u,vs = #[v,u]∧DR sg w I J v d∧DR sg w I J u e:=by
 obtain ⟨h1,h2⟩:=ha;have h1:vs.size=2:=h1;refine ⟨vs[0],vs[1],?_,h2 0 vs[0] d (yag (by omega)) rfl,h2 1 vs[1] e (yag (by omega)) rfl⟩;apply Array.ext
 ·simp[h1]
 ·intro i hi1 hi2;rcases (by omega:i=0∨i=1) with rfl|rfl<;>rfl
theorem a5t {w:World} {I J:Nat→Nat→Prop} {v:Value} {s:List UInt8} (h:DR sg w I J v (.str s)):v=.string ⟨s.toArray⟩:=by
 cases h
 rfl
theorem c5r (s:List UInt8):(⟨s.toArray⟩:ByteArray).size=s.length:=rfl
theorem b1y {w:World} {I:Nat→Nat→Prop} {n:Nat} {xs:List Bool} (hg:a8s n=some ⟨.kerr,xs⟩) (hx:xs=[false]) (h:a52 sg w I):∃t v,w.cell? ⟨n,0,none⟩=some (.iface t v):=by
 subst hx;obtain ⟨v,h1,-,h2⟩:=h n .kerr [false] hg 0 (by simp) 0 (.ifc false) rfl;cases h2 with
 |ifcS t x=>exact ⟨t,x,by simpa using h1⟩
theorem b5l {w:World} {I:Nat→Nat→Prop} {n:Int} {v:Value} {b:Bool} (h:DR sg w I I v (.ifc b)):DR sg w I I (.tuple #[.int .i64 n,v]) (.tup [.int .i64 n,.ifc b]):=by
 refine .tup _ _ rfl fun i u d h1 h2=>?_
 match i,h1,h2 with
 |0,h1,h2=>cases h1;cases h2;exact .int _ _
 |1,h1,h2=>cases h1;cases h2;exact h
 |i+2,h1,h2=>simp at h1
theorem a4q:∀ds a r,a9n.dec ds=some a→c65 a=some r→Con Tryz.prog sg 175 ds [] (c8c.enc r) []:=by
 intro ds a r hd hf;have hac:e7 a9n:=e7.cons d7.str e7.nil;have hw:=hac ds a hd;obtain ⟨s,⟨⟩⟩:=a;refine a4p kr (enters_of Tryz.func175 kr rfl) fun w I J vs hp ha=>?_
 obtain ⟨v,rfl,h1⟩:=c5p (d:=.str s) (hw.args ha);rw[a5t h1];have hf:qn s=some r:=hf;unfold qn at hf;rw[c6]at hf;split at hf
 rotate_left
 ·cases hf
 rename_i hl;rw[yac]at hl;have hl:s.length≤1073741824:=hl;have hsz:(⟨s.toArray⟩:ByteArray).size=s.length:=rfl;have hf:=yaM hf;cases hn:Lib.atoiAll s with
 |ok n=>
  rw[hn]at hf;subst hf;refine (Tryz.qn_ok ⟨s.toArray⟩ (by omega) n hn w).mono ?_;rintro e w' ⟨rfl,hW⟩;refine ⟨_,rfl,?_,b5l .ifcN⟩;rcases hW with rfl|⟨t,rfl⟩
  ·exact Below.refl _ _
  ·exact Lib.bytesWorld_below _ _ _
 |range=>
  rw[hn]at hf;subst hf;obtain ⟨t,x,hc⟩:=b1y (n:=6) rfl rfl hp.gl;refine (Tryz.qn_range ⟨s.toArray⟩ (by omega) hn _ w hc (.inr ⟨t,x,rfl⟩)).mono ?_;rintro e w' ⟨N,rfl,-,-,hb⟩;exact ⟨_,rfl,hb,b5l (.ifcS _ _)⟩
 |_=>
  rw[hn]at hf;subst hf;obtain ⟨t,x,hc⟩:=b1y (n:=5) rfl rfl hp.gl;refine (Tryz.qn_bad ⟨s.toArray⟩ (by omega) (fun n e=>by cases hn.symm.trans e) (fun e=>by cases hn.symm.trans e) _ w hc (.inr ⟨t,x,rfl⟩)).mono ?_;rintro e w' ⟨N,rfl,-,-,hb⟩;exact ⟨_,rfl,hb,b5l (.ifcS _ _)⟩
theorem c6l:∀ds a r,a7r.dec ds=some a→c66 a=some r→Con Tryz.prog sg 171 ds [] (c8d.enc r) []:=by
 intro ds a r hd hf;have hac:e7 a7r:=e7.cons d7.str (e7.cons d7.str e7.nil);have hw:=hac ds a hd;obtain ⟨s,sep,⟨⟩⟩:=a;have key:∃c,sep=[c]∧r=Lib.indexByte s c:=by
  have hf:qp s sep=some r:=hf;unfold qp at hf;split at hf
  ·exact ⟨_,rfl,(yaM hf).symm⟩
  ·cases hf
 clear hf hd;obtain ⟨c,rfl,rfl⟩:=key;refine a4p kr (enters_of Tryz.func171 kr rfl) fun w I J vs hp ha=>?_
 obtain ⟨v,u,rfl,h1,h2⟩:=a6e (d:=.str s) (e:=.str [c]) (hw.args ha);rw[a5t h1,a5t h2];refine (Tryz.qp_one ⟨s.toArray⟩ c w).mono ?_;rintro e w' ⟨rfl,rfl⟩;exact ⟨_,rfl,Below.refl _ _,.int _ _⟩
theorem c6q:∀ds a r,c5m.dec ds=some a→c68 a=some r→Con Tryz.prog sg 268 ds [] (c8e.enc r) []:=by
 intro ds a r _ hf;have hf:(none:Option (List (List UInt8)))=some r:=hf;cases hf
theorem c2k:∀ds a r,b4e.dec ds=some a→c0l a=some r→Con Tryz.prog sg 264 ds [] (c0z.enc r) []:=by
 intro ds a r hd hf;have hac:e7 b4e:=e7.cons d7.str (e7.cons (d7.int _) e7.nil);have hw:=hac ds a hd;obtain ⟨s,c,⟨⟩⟩:=a;refine a4p kr (enters_of Tryz.func264 kr rfl) fun w I J vs hp ha=>?_
 obtain ⟨v,u,rfl,h1,h2⟩:=a6e (d:=.str s) (e:=.int .u8 c) (hw.args ha);rw[a5t h1,h2.int_inv];have hf:some (Lib.indexByte s c.toNat.toUInt8)=some r:=hf;cases hf
 refine (Tryz.qak ⟨s.toArray⟩ c w).mono ?_;rintro e w' ⟨rfl,rfl⟩;exact ⟨_,rfl,Below.refl _ _,.int _ _⟩
theorem c0c:∀ds a r,b71.dec ds=some a→c69 a=some r→Con Tryz.prog sg 207 ds [] (c8f.enc r) []:=by
 intro ds a r hd hf;have hac:e7 b71:=e7.cons d7.str (e7.cons (d7.int _) e7.nil);have hw:=hac ds a hd;obtain ⟨s,n,⟨⟩⟩:=a;refine a4p kr (enters_of Tryz.func207 kr rfl) fun w I J vs hp ha=>?_
 obtain ⟨v,u,rfl,h1,h2⟩:=a6e (d:=.str s) (e:=.int .i64 n) (hw.args ha);rw[a5t h1,h2.int_inv];have hf:qy s n=some r:=hf;unfold qy at hf;rw[c6]at hf;split at hf
 ·rename_i hl;simp only[yab,yac]at hl;obtain ⟨l0,l1,l2⟩:=hl;cases hf
  have hn:n=(n.toNat:Int):=by omega
  have h:=Tryz.qy ⟨s.toArray⟩ n.toNat w (by omega) (by rw[c5r];omega);rw[←hn]at h;refine h.mono ?_;rintro e w' ⟨rfl,hb⟩;exact ⟨_,rfl,hb,.str ⟨(Lib.repeatL s n.toNat).toArray⟩⟩
 ·cases hf
theorem b97:∀ds a r,c1g.dec ds=some a→c61 a=some r→Con Tryz.prog sg 28 ds [] (c79.enc r) []:=by
 intro ds a r hd hf;have hac:e7 c1g:=e7.cons (d7.lst _) (e7.cons d7.str e7.nil);have hw:=hac ds a hd;obtain ⟨l,sep,⟨⟩⟩:=a;refine a4p kr (enters_of Tryz.func28 kr rfl) fun w I J vs hp ha=>?_
 obtain ⟨v,u,rfl,h1,h2⟩:=a6e (d:=.lst Kd.kstr l) (e:=.str sep) (hw.args ha);rw[a5t h2];have hf:q9 l sep=some r:=hf;unfold q9 at hf;rw[c6]at hf;split at hf
 rotate_left
 ·cases hf
 rename_i hl;simp only[yab,yac]at hl;obtain ⟨l1,l2⟩:=hl;cases hf
 cases h1 with
 |lst0 ad cap k h=>
  refine (Tryz.q9_none ad cap ⟨sep.toArray⟩ w).mono ?_;rintro e w' ⟨rfl,rfl⟩;exact ⟨_,rfl,Below.refl _ _,.str ⟨#[]⟩⟩
 |lst b off cap k xs cv hcap hc hv=>
  have hsz:sg.sz Kd.kstr=1:=rfl;have hcell:∀(i:Nat) (hi:i<l.length),w.cell? ⟨b,off+i,none⟩=some (.string ⟨(l[i]:List UInt8).toArray⟩):=fun i hi=>by
   obtain ⟨e1,-⟩:=hc i 0 hi (by rw[hsz];omega);rw[hsz,ybo,yaW]at e1;have e2:=hv i hi 0 (.str l[i]) rfl;rw[e1,a5t e2]
  by_cases h0:l.length=0
  ·have:l=[]:=yaV.1 h0;subst this;refine (Tryz.q9_none (some ⟨b,off,none⟩) cap ⟨sep.toArray⟩ w).mono ?_;rintro e w' ⟨rfl,rfl⟩;exact ⟨_,rfl,Below.refl _ _,.str ⟨#[]⟩⟩
  ·have hbk:b<w.heap.size:=hp.ib _ _ (hc 0 0 (by omega) (by rw[hsz];omega)).2;have hmap:((l.map fun x:List UInt8=>(⟨x.toArray⟩:ByteArray)).map (·.data.toList))=l:=by
    rw[List.map_map];exact List.map_id l
   have h:=Tryz.q9 b off cap (l.map fun x:List UInt8=>(⟨x.toArray⟩:ByteArray)) ⟨sep.toArray⟩ w (fun j x hx=>by
    rw[yaF,yay]at hx;obtain ⟨y,hy,rfl⟩:=hx;obtain ⟨hj,rfl⟩:=yaz.1 hy;exact hcell j hj) hbk (by rw[ybn];omega) (by rw[ybn];exact hcap) (by rw[hmap];exact ybj l2 (by omega))
   rw[hmap,ybn]at h;refine h.mono ?_;rintro e w' ⟨rfl,hb⟩;exact ⟨_,rfl,hb,.str ⟨(Lib.join l sep).toArray⟩⟩
theorem c0d:∀ds a r,c1j.dec ds=some a→c7a a=some r→Con Tryz.prog sg 270 ds [] (c8g.enc r) []:=by
 intro ds a r hd hf;have hac:e7 c1j:=e7.cons d7.str (e7.cons d7.str e7.nil);have hw:=hac ds a hd;obtain ⟨s,sep,⟨⟩⟩:=a;have key:∃c,sep=[c]∧r=Lib.indexByte s c:=by
  have hf:qz s sep=some r:=hf;unfold qz at hf;split at hf
  ·exact ⟨_,rfl,(yaM hf).symm⟩
  ·cases hf
 clear hf hd;obtain ⟨c,rfl,rfl⟩:=key;refine a4p kr (enters_of Tryz.func270 kr rfl) fun w I J vs hp ha=>?_
 obtain ⟨v,u,rfl,h1,h2⟩:=a6e (d:=.str s) (e:=.str [c]) (hw.args ha);rw[a5t h1,a5t h2];refine (Tryz.qz_one ⟨s.toArray⟩ c w).mono ?_;rintro e w' ⟨rfl,rfl⟩;exact ⟨_,rfl,Below.refl _ _,.int _ _⟩
theorem b96:∀ds a r,c1f.dec ds=some a→c60 a=some r→Con Tryz.prog sg 269 ds [] (c78.enc r) []:=by
 intro ds a r hd hf;have hac:e7 c1f:=e7.cons d7.str (e7.cons d7.str e7.nil);have hw:=hac ds a hd;obtain ⟨s,sep,⟨⟩⟩:=a;have key:∃c,sep=[c]∧r=((Lib.countByte s c:Nat):Int):=by
  have hf:q8 s sep=some r:=hf;unfold q8 at hf;split at hf
  ·exact ⟨_,rfl,(yaM hf).symm⟩
  ·cases hf
 clear hf hd;obtain ⟨c,rfl,rfl⟩:=key;refine a4p kr (enters_of Tryz.func269 kr rfl) fun w I J vs hp ha=>?_
 obtain ⟨v,u,rfl,h1,h2⟩:=a6e (d:=.str s) (e:=.str [c]) (hw.args ha);rw[a5t h1,a5t h2];refine (Tryz.q8_one ⟨s.toArray⟩ c w).mono ?_;rintro e w' ⟨rfl,rfl⟩;exact ⟨_,rfl,Below.refl _ _,.int _ _⟩
end
section
set_option maxRecDepth 100000
open Ev
open Go (IntKind)
open Go
theorem c2h:SG Tryz.prog sg 39 @b7e:=d06 (loops:=l0) (ids:=[]) good Tryz.func39 kr kr cg0 all_nil (fun a=>kr) kr
def d0p {R:Type}:Nat→Sm R:=cl 28 c01 (cl 39 b7e (cl 61 c8n (cl 175 c05 (cl 207 c8y (cl 264 c4o (cl 269 c00 (cl 270 c1b c0)))))))
theorem c18:CG Tryz.prog sg @d0p:=(cgc (sgP b97) (cgc c2h (cgc (sgP a3q) (cgc (sgP a4q) (cgc (sgP c0c) (cgc (sgP c2k) (cgc (sgP b96) (cgc (sgP c0d) cg0))))))))
def d0k:List Nat:=[10,11,13,15,17,19,23,25,26,29,32,33,34,35,36,40,41,42,44,49,50,53,54,55,56,57,58,62,65,66,67,68,71,87,88,89,90,95,97,98,99,100,101,102,104,110,111,114,123,124,125,126,130,171,172,173,174,179,188,195,198,204,205,206,271,286,287,294]
theorem c9w:c47 Tryz.prog d0k=true:=kr
theorem b9l:b2y Tryz.prog sg d0k @d0p 40 10 [] [] (fun d bs=>some (d,bs))=some (a1s.enc true,[]):=kr
theorem c6i:∀ds a r,c5i.dec ds=some a→c64 a=some r→Con Tryz.prog sg 10 ds [] (a1s.enc r) []:=d07 (rc:=a1s) (r0:=true) good c9w c18 b9l
end
section
set_option maxRecDepth 100000
open Ev
open Go (IntKind)
open Go
noncomputable abbrev ZP:=Tryz.prog
theorem c6n:SG ZP sg 65 @c8v:=a8h good Tryz.func65 kr kr cg0 (fun a=>kr)
theorem c6m:SG ZP sg 32 @c06:=a8h good Tryz.func32 kr kr (cgc c6n cg0) (fun a=>kr)
theorem c0a:SG ZP sg 34 @c07:=a8h good Tryz.func34 kr kr cg0 (fun a=>kr)
theorem c6z:fnB ZP 40 Tryz.f40 [2]=true:=kr
theorem c5z:CG ZP sg @c10:=(cgc c0a cg0)
theorem c3k:e8 ZP sg 0 Tryz.f40 @b2c 2:=a3f b59 good Tryz.func40 c6z c5z all_nil (fun a=>kr) kr (fun _ _=>rfl)
theorem c6f:SG ZP sg 40 @c8q:=b39 (loops:=b2c) good Tryz.func40 c6z kr c5z (all_cons c3k all_nil) (fun a=>kr)
theorem c2j:SG ZP sg 33 @b7f:=a8h good Tryz.func33 kr kr (cgc c0a (cgc c6f cg0)) (fun a=>kr)
theorem c6y:fnB ZP 36 Tryz.f36 [2]=true:=kr
theorem c5v:CG ZP sg @c1w:=cg0
theorem c3g:e8 ZP sg 0 Tryz.f36 @b18 2:=a3f b55 good Tryz.func36 c6y c5v all_nil (fun a=>kr) kr (fun _ _=>rfl)
theorem c6c:SG ZP sg 36 @c02:=b39 (loops:=b18) good Tryz.func36 c6y kr c5v (all_cons c3g all_nil) (fun a=>kr)
theorem c6x:fnB ZP 35 Tryz.f35 [2]=true:=kr
theorem c5y:CG ZP sg @c1z:=(cgc c6c cg0)
theorem c3j:e8 ZP sg 0 Tryz.f35 @b2b 2:=a3f b58 good Tryz.func35 c6x c5y all_nil (fun a=>kr) kr (fun _ _=>rfl)
theorem c6e:SG ZP sg 35 @c04:=b39 (loops:=b2b) good Tryz.func35 c6x kr c5y (all_cons c3j all_nil) (fun a=>kr)
theorem c2y:fnB ZP 13 Tryz.f13 [4,11]=true:=kr
theorem c15:CG ZP sg @c1u:=(cgc c6m (cgc c2j (cgc c6e cg0)))
theorem c3d:e8 ZP sg 0 Tryz.f13 @a7c 4:=a3f b52 good Tryz.func13 c2y c15 all_nil (fun a=>kr) kr (fun _ _=>rfl)
theorem b8u:e8 ZP sg 0 Tryz.f13 @a7c 11:=a3f b12 good Tryz.func13 c2y c15 all_nil (fun a=>kr) kr (fun _ _=>rfl)
theorem b98:SG ZP sg 13 @b7c:=b39 (loops:=a7c) good Tryz.func13 c2y kr c15 (all_cons c3d (all_cons b8u all_nil)) (fun a=>kr)
theorem c2m:SG ZP sg 204 @b7h:=a8h good Tryz.func204 kr kr cg0 (fun a=>kr)
theorem b49:SG ZP sg 294 @c1a:=a8h good Tryz.func294 kr kr cg0 (fun a=>kr)
theorem c0k:fnB ZP 205 Tryz.f205 [4]=true:=kr
theorem c5w:CG ZP sg @c1x:=(cgc b49 cg0)
theorem c3h:e8 ZP sg 0 Tryz.f205 @b19 4:=a3f b56 good Tryz.func205 c0k c5w all_nil (fun a=>kr) kr (fun _ _=>rfl)
theorem b99:SG ZP sg 205 @c03:=b39 (loops:=b19) good Tryz.func205 c0k kr c5w (all_cons c3h all_nil) (fun a=>kr)
theorem c0b:SG ZP sg 206 @c08:=a8h good Tryz.func206 kr kr (cgc b49 cg0) (fun a=>kr)
theorem b5q:fnB ZP 110 Tryz.f110 [4,8]=true:=kr
theorem c16:CG ZP sg @c1v:=(cgc c2m (cgc b99 (cgc c0b cg0)))
theorem c3e:e8 ZP sg 0 Tryz.f110 @a7d 4:=a3f b53 good Tryz.func110 b5q c16 all_nil (fun a=>kr) kr (fun _ _=>rfl)
theorem c3f:e8 ZP sg 0 Tryz.f110 @a7d 8:=a3f b54 good Tryz.func110 b5q c16 all_nil (fun a=>kr) kr (fun _ _=>rfl)
theorem c6b:SG ZP sg 110 @c8o:=b39 (loops:=a7d) good Tryz.func110 b5q kr c16 (all_cons c3e (all_cons c3f all_nil)) (fun a=>kr)
theorem c2i:SG ZP sg 111 @c4n:=a8h good Tryz.func111 kr kr (cgc (sgP a3q) (cgc (sgP c0c) cg0)) (fun a=>kr)
theorem c2p:SG ZP sg 62 @c4r:=a8h good Tryz.func62 kr kr (cgc c6b (cgc c2i cg0)) (fun a=>kr)
theorem c6o:SG ZP sg 29 @c09:=d05 (loops:=l0) (ids:=[]) good Tryz.func29 kr kr (cgc (sgP a3q) (cgc c2p cg0)) all_nil (fun a=>kr)
theorem c6u:fnB ZP 11 Tryz.f11 [6]=true:=kr
theorem c50:CG ZP sg @c11:=(cgc b98 (cgc (sgP b97) (cgc c6o cg0)))
theorem c3l:e8 ZP sg 0 Tryz.f11 @b2d 6:=a3f b6a good Tryz.func11 c6u c50 all_nil (fun a=>kr) kr (fun _ _=>rfl)
theorem c6g:SG ZP sg 11 @c8r:=b39 (loops:=b2d) good Tryz.func11 c6u kr c50 (all_cons c3l all_nil) (fun a=>kr)
theorem c2e:SG ZP sg 87 @c4l:=a8h good Tryz.func87 kr kr (cgc (sgP c6l) cg0) (fun a=>kr)
theorem c2l:SG ZP sg 49 @b7g:=a8h good Tryz.func49 kr kr (cgc c2e cg0) (fun a=>kr)
theorem c0i:fnB ZP 172 Tryz.f172 [11]=true:=kr
theorem c54:CG ZP sg @c13:=(cgc (sgP c6q) (cgc (sgP b96) (cgc (sgP c0d) cg0)))
theorem b8v:e8 ZP sg 0 Tryz.f172 @b2f 11:=a3f b13 good Tryz.func172 c0i c54 all_nil (fun a=>kr) kr (fun _ _=>rfl)
theorem c6j:SG ZP sg 172 @c8t:=b39 (loops:=b2f) good Tryz.func172 c0i kr c54 (all_cons b8v all_nil) (fun a=>kr)
theorem c2n:SG ZP sg 88 @c4p:=a8h good Tryz.func88 kr kr (cgc c6j cg0) (fun a=>kr)
theorem c0j:fnB ZP 173 Tryz.f173 [2]=true:=kr
theorem c5x:CG ZP sg @c1y:=(cgc (sgP a4q) cg0)
theorem c3i:e8 ZP sg 0 Tryz.f173 @b2a 2:=a3f b57 good Tryz.func173 c0j c5x all_nil (fun a=>kr) kr (fun _ _=>rfl)
theorem c6d:SG ZP sg 173 @c8p:=b39 (loops:=b2a) good Tryz.func173 c0j kr c5x (all_cons c3i all_nil) (fun a=>kr)
theorem c2o:SG ZP sg 271 @c4q:=a8h good Tryz.func271 kr kr (cgc b49 cg0) (fun a=>kr)
theorem c2g:SG ZP sg 174 @c4m:=a8h good Tryz.func174 kr kr (cgc b99 (cgc c0b (cgc c2o cg0))) (fun a=>kr)
theorem c2q:SG ZP sg 89 @c4s:=a8h good Tryz.func89 kr kr (cgc c6d (cgc c2g cg0)) (fun a=>kr)
theorem c6a:SG ZP sg 90 @c8m:=c59 (loops:=l0) (ids:=[]) good Tryz.func90 kr kr (cgc (sgP a3q) (cgc (sgP a4q) cg0)) all_nil (fun a b=>kr)
theorem c2d:SG ZP sg 90 @c4k:=c59 (loops:=l0) (ids:=[]) good Tryz.func90 kr kr (cgc (sgP a3q) (cgc (sgP a4q) cg0)) all_nil (fun a b=>kr)
theorem c2c:SG ZP sg 90 @c4j:=c59 (loops:=l0) (ids:=[]) good Tryz.func90 kr kr (cgc (sgP a3q) (cgc (sgP a4q) cg0)) all_nil (fun a b=>kr)
theorem c2a:SG ZP sg 90 @c4h:=c59 (loops:=l0) (ids:=[]) good Tryz.func90 kr kr (cgc (sgP a3q) (cgc (sgP a4q) cg0)) all_nil (fun a b=>kr)
theorem c2b:SG ZP sg 90 @c4i:=c59 (loops:=l0) (ids:=[]) good Tryz.func90 kr kr (cgc (sgP a3q) (cgc (sgP a4q) cg0)) all_nil (fun a b=>kr)
theorem c2f:SG ZP sg 50 @b7d:=a8h good Tryz.func50 kr kr (cgc c2n (cgc c2q (cgc (sgi (ac:=c5g) c6a (sgi (ac:=b91) c2d (sgi (ac:=b90) c2c (sgi (ac:=b9y) c2a (sgi (ac:=b9z) c2b sg0))))) cg0))) (fun a=>kr)
theorem c6w:fnB ZP 23 Tryz.f23 [3]=true:=kr
theorem c52:CG ZP sg @c12:=(cgc b98 (cgc c2l (cgc c2f cg0)))
theorem c3m:e8 ZP sg 0 Tryz.f23 @b2e 3:=a3f b6b good Tryz.func23 c6w c52 all_nil (fun a=>kr) kr (fun _ _=>rfl)
theorem c6h:SG ZP sg 23 @c8s:=b39 (loops:=b2e) good Tryz.func23 c6w kr c52 (all_cons c3m all_nil) (fun a=>kr)
theorem c6v:fnB ZP 17 Tryz.f17 [4]=true:=kr
theorem c55:CG ZP sg @c14:=cg0
theorem c3n:e8 ZP sg 0 Tryz.f17 @b2g 4:=a3f b6c good Tryz.func17 c6v c55 all_nil (fun a=>kr) kr (fun _ _=>rfl)
theorem c6k:SG ZP sg 17 @c8u:=b39 (loops:=b2g) good Tryz.func17 c6v kr c55 (all_cons c3n all_nil) (fun a=>kr)
theorem c6p:SG ZP sg 9 @c8w:=a8h good Tryz.func9 kr kr (cgc (sgP c6i) (cgc c6g (cgc c6k (cgc c6h cg0)))) (fun a=>kr)
end
section
open Ev
open Go (IntKind)
section
variable {α β σ X:Type}
theorem b25 {step:α→Option (α⊕β)}:∀{n m:Nat} {a:α} {b:β},n≤m→y6 step n a=some b→y6 step m a=some b:=by
 intro n
 induction n with
 |zero=>intro m a b _ h;cases h
 |succ n ih=>
  intro m a b hm h;obtain ⟨m,rfl⟩:∃k,m=k+1:=⟨m-1,by omega⟩
  simp only[y6]at h ⊢;cases h1:step a with
  |none=>rw[h1]at h;cases h
  |some x=>
   rw[h1]at h;cases x with
   |inl a'=>exact ih (by omega) h
   |inr b'=>exact h
theorem a25 {step:α→Option (α⊕β)} {a:α} {b:β} (n:Nat) (hn:n≤a7p) (h:y6 step n a=some b):j3 step a=some b:=b25 hn h
theorem a1u {step:α→Option (α⊕β)} (Inv:α→Prop) (μ:α→Nat) (f:α→β)
 (h:∀a,Inv a→(∃a',step a=some (.inl a')∧Inv a'∧μ a'<μ a∧f a'=f a)∨step a=some (.inr (f a))) {a:α} (ha:Inv a) (hm:μ a<a7p):j3 step a=some (f a):=by
 have key:∀n a,Inv a→μ a<n→y6 step n a=some (f a):=by
  intro n
  induction n with
  |zero=>intro a _ h;omega
  |succ n ih=>
   intro a hi hn;simp only[y6];rcases h a hi with ⟨a',h1,h2,h3,h4⟩|h1
   ·rw[h1];simp only;rw[ih a' h2 (by omega),h4]
   ·rw[h1]
 exact key a7p a ha hm
def a23 (f:Nat→X→σ→σ⊕β) (fin:σ→β):Nat→List X→σ→β
 |_,[],s=>fin s
 |i,x::l,s=>match f i x s with
  |.inl s'=>a23 f fin (i+1) l s'
  |.inr b=>b
theorem a3u {step:α→Option (α⊕β)} (Inv:Nat→σ→Prop) (enc:Nat→σ→α) (l:List X) (f:Nat→X→σ→σ⊕β) (fin:σ→β) (hl:l.length<a7p)
 (h0:∀s,Inv l.length s→step (enc l.length s)=some (.inr (fin s)))
 (h1:∀i x s,l[i]?=some x→Inv i s→(step (enc i s)=some (match f i x s with | .inl s'=>.inl (enc (i+1) s') | .inr b=>.inr b))∧∀s',f i x s=.inl s'→Inv (i+1) s')
 (s:σ) (hs:Inv 0 s):j3 step (enc 0 s)=some (a23 f fin 0 l s):=by
 have key:∀k i s,i+k=l.length→Inv i s→y6 step (k+1) (enc i s)=some (a23 f fin i (l.drop i) s):=by
  intro k
  induction k with
  |zero=>
   intro i s hi hs;have:i=l.length:=by omega
   subst this;rw[List.drop_length];simp only[y6,h0 s hs,a23]
  |succ k ih=>
   intro i s hi hs;have hlt:i<l.length:=by omega
   obtain ⟨e1,e2⟩:=h1 i l[i] s (yaa hlt) hs;rw[List.drop_eq_getElem_cons hlt];rw[y6,e1];simp only[a23];cases hf:f i l[i] s with
   |inl s'=>simp only;exact ih (i+1) s' (by omega) (e2 s' hf)
   |inr b=>rfl
 have:=key l.length 0 s (by omega) hs;exact a25 (l.length+1) (by omega) (by simpa using this)
theorem a2k {step:α→Option (α⊕β)} (enc:Nat→σ→α) (l:List X) (f:Nat→X→σ→σ⊕β) (fin:σ→β) (hl:l.length<a7p)
 (h0:∀s,step (enc l.length s)=some (.inr (fin s)))
 (h1:∀i x s,l[i]?=some x→step (enc i s)=some (match f i x s with | .inl s'=>.inl (enc (i+1) s') | .inr b=>.inr b))
 (s:σ):j3 step (enc 0 s)=some (a23 f fin 0 l s):=
 a3u (fun _ _=>True) enc l f fin hl (fun s _=>h0 s) (fun i x s hx _=>⟨h1 i x s hx,fun _ _=>trivial⟩) s trivial
def a56 (f:Nat→X→Int):Nat→List X→Int
 |_,[]=>0
 |i,x::l=>if f i x==0 then a56 f (i+1) l else f i x
theorem b7a {f:Nat→X→Int} {d:β} {g:Int→β}:∀{l:List X} {i:Nat},a23 (σ:=Unit) (fun i x _=>if f i x==0 then .inl () else .inr (g (f i x))) (fun _=>d) i l ()=if a56 f i l==0 then d else g (a56 f i l):=by
 intro l
 induction l with
 |nil=>intros;rfl
 |cons x l ih=>
  intro i;simp only[a23,a56];by_cases h:(f i x==0)=true
  ·simp only[h,ybr];exact ih
  ·have h2:¬f i x=0:=fun e=>h (by simp[e])
   simp[h2]
theorem a6m {f:Nat→X→Int}:∀{l:List X} {i:Nat},a56 f i l=0↔∀k x,l[k]?=some x→f (i+k) x=0:=by
 intro l
 induction l with
 |nil=>intro i;simp[a56]
 |cons y l ih=>
  intro i;simp only[a56];constructor
  ·intro h k x hk;split at h
   ·rename_i h1;cases k with
    |zero=>simp at hk;subst hk;simpa using h1
    |succ k=>have:=(ih (i:=i+1)).1 h k x (by simpa using hk);rwa [show i+(k+1)=i+1+k by omega]
   ·rename_i h1;exfalso;apply h1;simp[h]
  ·intro h;have h0:=h 0 y rfl;simp only[yaW]at h0;rw[h0];simp only[yaG,ybr];exact ih.2 (fun k x hk=>by have:=h (k+1) x (by simpa using hk);rwa [show i+(k+1)=i+1+k by omega]at this)
theorem b3w {f:X→σ→σ} {fin:σ→β}:∀{l:List X} {i:Nat} {s:σ},a23 (fun _ x s=>.inl (f x s)) fin i l s=fin (l.foldl (fun s x=>f x s) s):=by
 intro l
 induction l with
 |nil=>intros;rfl
 |cons x l ih=>intro i s;simp only[a23,List.foldl_cons];exact ih
end
section
variable {α β σ X:Type} {step:α→Option (α⊕β)}
def b5o (a:α) (g:Int→β) (e:Int):Option (α⊕β):=if e==0 then some (.inl a) else some (.inr (g e))
theorem b34 (enc:Nat→α) (l:List X) (f:Nat→X→Int) (d:β) (g:Int→β) (hl:l.length<1000000000) (h0:step (enc l.length)=some (.inr d))
 (h1:∀i x,l[i]?=some x→step (enc i)=b5o (enc (i+1)) g (f i x)):j3 step (enc 0)=some (if a56 f 0 l==0 then d else g (a56 f 0 l)):=by
 have h:=a2k (step:=step) (fun i (_:Unit)=>enc i) l (fun i x _=>if f i x==0 then .inl () else .inr (g (f i x))) (fun _=>d) (by show l.length<18446744073709551616;omega) (fun _=>h0)
  (fun i x _ hx=>by rw[h1 i x hx];unfold b5o;split<;>rfl) ()
 rw[h,b7a]
def a65 (p:X→Bool) (g:Nat→X→β) (d:β):Nat→List X→β
 |_,[]=>d
 |i,x::l=>bif p x then g i x else a65 p g d (i+1) l
theorem b09 (enc:Nat→α) (l:List X) (p:X→Bool) (g:Nat→X→β) (d:β) (hl:l.length<1000000000) (h0:step (enc l.length)=some (.inr d))
 (h1:∀i x,l[i]?=some x→step (enc i)=bif p x then some (.inr (g i x)) else some (.inl (enc (i+1)))):j3 step (enc 0)=some (a65 p g d 0 l):=by
 have h:=a2k (step:=step) (fun i (_:Unit)=>enc i) l (fun i x _=>if p x then .inr (g i x) else .inl ()) (fun _=>d) (by show l.length<18446744073709551616;omega) (fun _=>h0)
  (fun i x _ hx=>by rw[h1 i x hx];cases p x<;>rfl) ()
 rw[h];have key:∀(l:List X) (i:Nat),a23 (σ:=Unit) (fun i x _=>if p x then .inr (g i x) else .inl ()) (fun _=>d) i l ()=a65 p g d i l:=by
  intro l
  induction l with
  |nil=>intro i;rfl
  |cons x l ih=>
   intro i;simp only[a23,a65];cases p x with
   |true=>rfl
   |false=>exact ih _
 rw[key]
def a54 (p:Nat→X→Bool):Nat→List X→Bool
 |_,[]=>true
 |i,x::l=>p i x&&a54 p (i+1) l
theorem a13 (enc:Nat→α) (l:List X) (p:Nat→X→Bool) (b d:β) (hl:l.length<1000000000) (h0:step (enc l.length)=some (.inr d))
 (h1:∀i x,l[i]?=some x→step (enc i)=bif p i x then some (.inl (enc (i+1))) else some (.inr b)):j3 step (enc 0)=some (bif a54 p 0 l then d else b):=by
 have h:=a2k (step:=step) (fun i (_:Unit)=>enc i) l (fun i x _=>if p i x then .inl () else .inr b) (fun _=>d) (by show l.length<18446744073709551616;omega) (fun _=>h0)
  (fun i x _ hx=>by rw[h1 i x hx];cases p i x<;>rfl) ()
 rw[h];have key:∀(l:List X) (i:Nat),a23 (σ:=Unit) (fun i x _=>if p i x then .inl () else .inr b) (fun _=>d) i l ()=bif a54 p i l then d else b:=by
  intro l
  induction l with
  |nil=>intro i;rfl
  |cons x l ih=>
   intro i;simp only[a23,a54];cases p i x with
   |true=>exact ih _
   |false=>rfl
 rw[key]
theorem a4c {p:X→Bool}:∀{l:List X} {i:Nat},a54 (fun _=>p) i l=l.all p:=by
 intro l
 induction l with
 |nil=>intros;rfl
 |cons x l ih=>intro i;simp only[a54,ybc];rw[ih]
theorem b4g {p:Nat→X→Bool}:∀{l:List X} {i:Nat},a54 p i l=true↔∀k x,l[k]?=some x→p (i+k) x=true:=by
 intro l
 induction l with
 |nil=>intro i;simp[a54]
 |cons y l ih=>
  intro i;simp only[a54,yab];rw[ih];constructor
  ·rintro ⟨h0,h⟩ k x hk;cases k with
   |zero=>simp at hk;subst hk;exact h0
   |succ k=>have:=h k x (by simpa using hk);rwa [show i+(k+1)=i+1+k by omega]
  ·intro h;exact ⟨h 0 y rfl,fun k x hk=>by have:=h (k+1) x (by simpa using hk);rwa [show i+(k+1)=i+1+k by omega]at this⟩
end
theorem t8 {n:Int} (h1 : -9223372036854775808≤n) (h2:n≤9223372036854775807):wr .i64 n=n:=by
 unfold wr;rw[IntKind.wrap_i64];omega
theorem y9 {n:Nat} (h:n<9223372036854775807):wr .i64 ((n:Int)+1)=((n+1:Nat):Int):=by
 rw[t8 (by omega) (by omega)];rfl
theorem b7p {j:Nat} (h:j<1000000000):wr .i64 (((j+1:Nat):Int)-1)=(j:Int):=by
 rw[show ((j+1:Nat):Int)-1=(j:Int) by omega];exact t8 (by omega) (by omega)
theorem d08 {j:Nat}:decide ((0:Int)<((j+1:Nat):Int))=true:=by rw[yac];omega
theorem s9 {α:Type} (l:List α) (i:Nat):a0d l (i:Int)=l[i]?:=by
 unfold a0d;simp
theorem a0l:LIM=1073741824:=rfl
theorem a1j:a7p=18446744073709551616:=rfl
end
section
open Ev
open Go (IntKind)
theorem dlt {i n:Nat} (h:i<n):decide ((i:Int)<(n:Int))=true:=by simpa using h
theorem dge {n:Nat}:decide ((n:Int)<(n:Int))=false:=by simp
end
section
open Ev
open Go (IntKind)
set_option maxRecDepth 100000
def lp (y:Int):Bool:=(y.tmod 4==0)&&(!(y.tmod 100==0)||(y.tmod 400==0))
def lpN (n:Nat):Bool:=lp ((1900+n:Nat):Int)
def lcN:Nat→Nat
 |0=>0
 |k+1=>lcN k+(if lpN k then 1 else 0)
def ny (n:Nat):Int:=((365*n+lcN n:Nat):Int)
def yl (l:Bool):Int:=if l then 366 else 365
theorem a7f (n:Nat):ny (n+1)=ny n+yl (lpN n):=by
 unfold ny yl;simp only[lcN];split<;>omega
theorem c0p (n:Nat):lcN n≤n:=by
 induction n with
 |zero=>exact yal 0
 |succ n ih=>simp only[lcN];split<;>omega
theorem a3h {a b:Nat} (h:a≤b):ny a≤ny b:=by
 induction b with
 |zero=>
  have:a=0:=by omega
  subst this;exact Int.le_refl _
 |succ b ih=>
  rcases Nat.eq_or_lt_of_le h with e|e
  ·subst e;exact Int.le_refl _
  ·have h1:=ih (by omega);have h2:=a7f b;have h3:365≤yl (lpN b):=by unfold yl;split<;>omega
   omega
theorem c92:ny 0=0:=rfl
theorem c0u:ny 300=109573:=kr
theorem c7o {a b:Nat} {d:Int} (h1:ny a≤d) (h2:d<ny (a+1)) (h3:ny b≤d) (h4:d<ny (b+1)):a=b:=by
 rcases Nat.lt_trichotomy a b with h|h|h
 ·have:=a3h (show a+1≤b by omega);omega
 ·exact h
 ·have:=a3h (show b+1≤a by omega);omega
theorem c93 {d:Int} (h0:0≤d):∀k,d<ny k→∃n,n<k∧ny n≤d∧d<ny (n+1):=by
 intro k
 induction k with
 |zero=>intro h;rw[c92]at h;omega
 |succ k ih=>
  intro h;by_cases hk:d<ny k
  ·obtain ⟨n,h1,h2⟩:=ih hk;exact ⟨n,by omega,h2⟩
  ·exact ⟨k,by omega,by omega,h⟩
def bf (l:Bool):Nat→Int
 |0=>0|1=>0|2=>31|3=>yl l-306|4=>yl l-275|5=>yl l-245|6=>yl l-214|7=>yl l-184|8=>yl l-153|9=>yl l-122|10=>yl l-92|11=>yl l-61|12=>yl l-31
 |_=>yl l
theorem a9t (l:Bool):∀m,1≤m→m≤12→bf l m+28≤bf l (m+1)∧bf l (m+1)≤bf l m+31
 |0,h,_=>by omega
 |1,_,_=>by cases l<;>decide
 |2,_,_=>by cases l<;>decide
 |3,_,_=>by cases l<;>decide
 |4,_,_=>by cases l<;>decide
 |5,_,_=>by cases l<;>decide
 |6,_,_=>by cases l<;>decide
 |7,_,_=>by cases l<;>decide
 |8,_,_=>by cases l<;>decide
 |9,_,_=>by cases l<;>decide
 |10,_,_=>by cases l<;>decide
 |11,_,_=>by cases l<;>decide
 |12,_,_=>by cases l<;>decide
 |m+13,_,h=>by omega
theorem a2e (l:Bool) {a b:Nat} (ha:1≤a) (h:a≤b) (hb:b≤13):bf l a≤bf l b:=by
 induction b with
 |zero=>omega
 |succ b ih=>
  rcases Nat.eq_or_lt_of_le h with e|e
  ·subst e;exact Int.le_refl _
  ·have h1:=ih (by omega) (by omega);have:=(a9t l b (by omega) (by omega)).1;omega
theorem c5s (l:Bool) {a b:Nat} {d:Int} (a1:1≤a) (a2:a≤12) (b1:1≤b) (b2:b≤12) (h1:bf l a≤d) (h2:d<bf l (a+1)) (h3:bf l b≤d) (h4:d<bf l (b+1)):a=b:=by
 rcases Nat.lt_trichotomy a b with h|h|h
 ·have:=a2e l (show 1≤a+1 by omega) (show a+1≤b by omega) (by omega);omega
 ·exact h
 ·have:=a2e l (show 1≤b+1 by omega) (show b+1≤a by omega) (by omega);omega
theorem c9o (l:Bool) {d:Int} (h0:0≤d):∀k,1≤k→k≤13→d<bf l k→∃m,1≤m∧m<k∧bf l m≤d∧d<bf l (m+1):=by
 intro k
 induction k with
 |zero=>intro h;omega
 |succ k ih=>
  intro _ hk h;by_cases h1:k=0
  ·subst h1;have:bf l 1=0:=rfl;rw[this]at h;omega
  by_cases h2:d<bf l k
  ·obtain ⟨n,h3,h4,h5⟩:=ih (by omega) (by omega) h2;exact ⟨n,h3,by omega,h5⟩
  ·exact ⟨k,by omega,by omega,by omega,h⟩
theorem a2r (l:Bool) {m:Nat} (h1:1≤m) (h2:m≤13):0≤bf l m∧bf l m≤366:=by
 have a:=a2e l (yal 1) h1 h2;have b:=a2e l h1 h2 (yal 13);have c:bf l 1=0:=rfl;have d:bf l 13≤366:=by cases l<;>decide
 omega
theorem c38 (y:Int):qv y=some (lp y):=by
 unfold qv lp;cases (y.tmod 4==0)<;>cases (y.tmod 100==0)<;>cases (y.tmod 400==0)<;>rfl
theorem c34 {n:Nat} (hn:n≤300):qf ((1900+n:Nat):Int)=some (ny n):=by
 unfold qf;have e0:wr .i64 ((wr .i64 (((1900+n:Nat):Int)-1900))*365)=((365*n:Nat):Int):=by
  rw[t8 (n:=((1900+n:Nat):Int)-1900) (by omega) (by omega),t8 (by omega) (by omega)];omega
 rw[e0];have h:=a1u (step:=b63) (fun a=>∃i,i≤n∧a=(((1900+n:Nat):Int),((365*n+lcN i:Nat):Int),((1900+i:Nat):Int),())) (fun a=>(a.1-a.2.2.1).toNat) (fun _=>(ny n,())) (fun a ha=>by
  obtain ⟨i,hi,rfl⟩:=ha;have hl:=c0p i;by_cases e:i=n
  ·subst e;refine .inr ?_;simp only[b63];rw[show decide (((1900+i:Nat):Int)<((1900+i:Nat):Int))=false by simp];rfl
  ·refine .inl ⟨(((1900+n:Nat):Int),((365*n+lcN (i+1):Nat):Int),((1900+(i+1):Nat):Int),()),?_,⟨i+1,by omega,rfl⟩,by show (((1900+n:Nat):Int)-((1900+(i+1):Nat):Int)).toNat<(((1900+n:Nat):Int)-((1900+i:Nat):Int)).toNat;omega,rfl⟩;simp only[b63,c38];rw[show decide (((1900+i:Nat):Int)<((1900+n:Nat):Int))=true by rw[yac];omega];simp only[yai];have e1:wr .i64 (((1900+i:Nat):Int)+1)=((1900+(i+1):Nat):Int):=by rw[t8 (by omega) (by omega)];omega
   have e2:wr .i64 (((365*n+lcN i:Nat):Int)+1)=((365*n+lcN i+1:Nat):Int):=by rw[t8 (by omega) (by omega)];omega
   rw[e1,e2];have e3:lp ((1900+i:Nat):Int)=lpN i:=rfl;rw[e3];simp only[lcN];cases lpN i<;>rfl) (a:=(((1900+n:Nat):Int),((365*n:Nat):Int),1900,())) ⟨0,by omega,rfl⟩ (by show (((1900+n:Nat):Int)-1900).toNat<a7p;rw[a1j];omega)
 rw[h]
theorem c36 (y:Int):∀{m:Nat},1≤m→m≤12→qt y (m:Int)=some (bf (lp y) m):=by
 intro m h1 h2;have hl:=c38 y;have:m=1∨m=2∨m=3∨m=4∨m=5∨m=6∨m=7∨m=8∨m=9∨m=10∨m=11∨m=12:=by omega
 unfold qt;rw[hl];generalize lp y=l;rcases this with rfl|rfl|rfl|rfl|rfl|rfl|rfl|rfl|rfl|rfl|rfl|rfl<;>cases l<;>rfl
def Prt (d:Int) (n m:Nat):Prop:=n<300∧ny n≤d∧d<ny (n+1)∧1≤m∧m≤12∧bf (lpN n) m≤d-ny n∧d-ny n<bf (lpN n) (m+1)
theorem c7r {d:Int} (h0:0≤d) (h1:d≤109572):∃n m,Prt d n m:=by
 obtain ⟨n,a,b,c⟩:=c93 h0 300 (by rw[c0u];omega);have hs:=a7f n;obtain ⟨m,e,f,g,h⟩:=c9o (lpN n) (d:=d-ny n) (by omega) 13 (by omega) (by omega) (by show d-ny n<yl (lpN n);omega);exact ⟨n,m,a,b,c,e,by omega,g,h⟩
theorem a0q {n:Nat} (h:n≤300):0≤ny n∧ny n≤109573:=by
 have a:=a3h (ya7 n);have b:=a3h h;rw[c92]at a;rw[c0u]at b;exact ⟨a,b⟩
theorem c95 {d:Int} {n m:Nat} (h:Prt d n m):qd d=some (((1900+n:Nat):Int),(m:Int),d-ny n-bf (lpN n) m+1,0):=by
 obtain ⟨hn,a1,a2,m1,m2,b1,b2⟩:=h;have hb:=a0q (n:=n) (by omega);have hb':=a0q (n:=n+1) (by omega);have h0:0≤d:=by omega
 unfold qd;have hk:qam d=some true:=by
  unfold qam;rw[show decide (0≤d)=true by rw[yac];omega,show decide (d≤109572)=true by rw[yac];omega];rfl
 rw[hk];simp only[yaL,yas];have hq:(d.tdiv 366)=((d.toNat / 366:Nat):Int):=by rw[Int.tdiv_eq_ediv_of_nonneg h0];omega
 have e0:wr .i64 (1900+wr .i64 (d.tdiv 366))=((1900+d.toNat / 366:Nat):Int):=by
  rw[hq,t8 (n:=((d.toNat / 366:Nat):Int)) (by omega) (by omega),t8 (by omega) (by omega)];omega
 rw[e0];have hle:∀k,ny k≤366*k:=fun k=>by unfold ny;have:=c0p k;omega
 have hs:d.toNat / 366≤n:=by
  rcases ya4 n (d.toNat / 366) with h|h
  ·have h1:=hle (n+1);have:366*(n+1)≤366*(d.toNat / 366):=Nat.mul_le_mul_left _ h;omega
  ·exact h
 have hw:=a1u (step:=b9h) (fun a=>∃i,i≤n∧a=(d,((1900+i:Nat):Int),())) (fun a=>(((1900+n:Nat):Int)-a.2.1).toNat) (fun _=>(d,((1900+n:Nat):Int),())) (fun a ha=>by
  obtain ⟨i,hi,rfl⟩:=ha;simp only[b9h];have e1:wr .i64 (((1900+i:Nat):Int)+1)=((1900+(i+1):Nat):Int):=by rw[t8 (by omega) (by omega)];omega
  simp only[e1,c34 (show i+1≤300 by omega)];by_cases e:i=n
  ·subst e;refine .inr ?_;rw[show decide (ny (i+1)≤d)=false by rw[yak];omega];cases decide (((1900+i:Nat):Int)<2199)<;>rfl
  ·refine .inl ⟨(d,((1900+(i+1):Nat):Int),()),?_,⟨i+1,by omega,rfl⟩,by show (((1900+n:Nat):Int)-((1900+(i+1):Nat):Int)).toNat<(((1900+n:Nat):Int)-((1900+i:Nat):Int)).toNat;omega,trivial⟩;have:=a3h (show i+1≤n by omega);rw[show decide (ny (i+1)≤d)=true by rw[yac];omega,show decide (((1900+i:Nat):Int)<2199)=true by rw[yac];omega];rfl) (a:=(d,((1900+d.toNat / 366:Nat):Int),())) ⟨_,hs,rfl⟩ (by show (((1900+n:Nat):Int)-((1900+d.toNat / 366:Nat):Int)).toNat<a7p;rw[a1j];omega)
 rw[hw];simp only[c34 (show n≤300 by omega)];have e2:wr .i64 (d-ny n)=d-ny n:=t8 (by omega) (by omega);rw[e2];have elp:lp ((1900+n:Nat):Int)=lpN n:=rfl;have hw2:=a1u (step:=b9i) (fun a=>∃i:Nat,m≤i∧i≤12∧a=(((1900+n:Nat):Int),d-ny n,(i:Int),())) (fun a=>a.2.2.1.toNat) (fun _=>(((1900+n:Nat):Int),d-ny n,(m:Int),())) (fun a ha=>by
  obtain ⟨i,hi,hi2,rfl⟩:=ha;simp only[b9i,c36 _ (show 1≤i by omega) hi2,elp];by_cases e:i=m
  ·subst e;refine .inr ?_;rw[show decide (d-ny n<bf (lpN n) i)=false by rw[yak];omega];rfl
  ·refine .inl ⟨(((1900+n:Nat):Int),d-ny n,((i-1:Nat):Int),()),?_,⟨i-1,by omega,by omega,rfl⟩,by show (((i-1:Nat):Int)).toNat<((i:Int)).toNat;omega,trivial⟩;have:=a2e (lpN n) (show 1≤m+1 by omega) (show m+1≤i by omega) (by omega);rw[show decide (d-ny n<bf (lpN n) i)=true by rw[yac];omega];simp only[yai];have e3:wr .i64 ((i:Int)-1)=((i-1:Nat):Int):=by rw[t8 (by omega) (by omega)];omega
   rw[e3]) (a:=(((1900+n:Nat):Int),d-ny n,12,())) ⟨12,m2,by omega,rfl⟩ (by show ((12:Int)).toNat<a7p;rw[a1j];decide)
 rw[hw2];simp only[c36 _ m1 m2,elp];have hbb:=a2r (lpN n) m1 (show m≤13 by omega);have e4:wr .i64 ((wr .i64 (d-ny n-bf (lpN n) m))+1)=d-ny n-bf (lpN n) m+1:=by
  rw[t8 (n:=d-ny n-bf (lpN n) m) (by omega) (by omega),t8 (by omega) (by omega)]
 rw[e4]
theorem c7m {n:Nat} (h:n<300):(((((1900+n:Nat):Int)).tmod 4==0)&&(!(((1900+n:Nat):Int)==1900)&&!(((1900+n:Nat):Int)==2100)))=lpN n:=by
 unfold lpN lp;have e:∀k:Nat,(((1900+n:Nat):Int)).tmod (k:Int)=(((1900+n) % k:Nat):Int):=fun k=>by rw[Int.tmod_eq_emod_of_nonneg (by omega)];rfl
 rw[show (4:Int)=((4:Nat):Int) from rfl,show (100:Int)=((100:Nat):Int) from rfl,show (400:Int)=((400:Nat):Int) from rfl,e,e,e];rw[ybi];simp only[yab,yaO,yaC,yaR,yaI,ne_eq];omega
theorem c0w {n m:Nat} (hn:n<300) (m1:1≤m) (m2:m≤12):qav ((1900+n:Nat):Int) (m:Int)=some (bf (lpN n) (m+1)-bf (lpN n) m):=by
 unfold qav;rw[show decide (((1900+n:Nat):Int)<1900)=false by rw[yak];omega,show decide (2199<((1900+n:Nat):Int))=false by rw[yak];omega,
  show decide ((m:Int)<1)=false by rw[yak];omega,show decide (12<(m:Int))=false by rw[yak];omega]
 have hr:=c7m hn;simp only[yas];have:m=1∨m=2∨m=3∨m=4∨m=5∨m=6∨m=7∨m=8∨m=9∨m=10∨m=11∨m=12:=by omega
 generalize ((((1900+n:Nat):Int)).tmod 4==0)=a at hr;generalize (((1900+n:Nat):Int)==1900)=b at hr;generalize (((1900+n:Nat):Int)==2100)=c at hr;generalize lpN n=l at hr;subst hr;rcases this with rfl|rfl|rfl|rfl|rfl|rfl|rfl|rfl|rfl|rfl|rfl|rfl<;>cases a<;>cases b<;>cases c<;>rfl
theorem c7u {n:Nat} (hn:n<300):qa2 ((1900+n:Nat):Int)=some (yl (lpN n)):=by
 unfold qa2;have h:=c0w (m:=2) hn (by omega) (by omega);have h:qav ((1900+n:Nat):Int) 2=some (bf (lpN n) 3-bf (lpN n) 2):=h;rw[h];generalize lpN n=l;cases l<;>rfl
theorem c7t {d:Int} {n m:Nat} (h:Prt d n m):qa0 d=some (((1900+n:Nat):Int),(m:Int),d-ny n-bf (lpN n) m+1,0):=by
 obtain ⟨hn,a1,a2,m1,m2,b1,b2⟩:=h;have hb:=a0q (n:=n) (by omega);have hb':=a0q (n:=n+1) (by omega);have h0:0≤d:=by omega
 unfold qa0;have hk:qa3 d=some true:=by
  unfold qa3;rw[show decide (0≤d)=true by rw[yac];omega,show decide (d≤109572)=true by rw[yac];omega];rfl
 rw[hk];simp only[yaL,yas];have hw:=a1u (step:=b60) (fun a=>∃i,i≤n∧a=(d-ny i,((1900+i:Nat):Int),1,())) (fun a=>(((1900+n:Nat):Int)-a.2.1).toNat) (fun _=>(d-ny n,((1900+n:Nat):Int),1,())) (fun a ha=>by
  obtain ⟨i,hi,rfl⟩:=ha;simp only[b60,c7u (show i<300 by omega)];have hs:=a7f i;by_cases e:i=n
  ·subst e;refine .inr ?_;rw[show decide (yl (lpN i)≤d-ny i)=false by rw[yak];omega];rfl
  ·refine .inl ⟨(d-ny (i+1),((1900+(i+1):Nat):Int),1,()),?_,⟨i+1,by omega,rfl⟩,by show (((1900+n:Nat):Int)-((1900+(i+1):Nat):Int)).toNat<(((1900+n:Nat):Int)-((1900+i:Nat):Int)).toNat;omega,trivial⟩;have:=a3h (show i+1≤n by omega);have hbi:=a0q (n:=i) (by omega);rw[show decide (yl (lpN i)≤d-ny i)=true by rw[yac];omega];simp only[yai];have hy:365≤yl (lpN i):=by unfold yl;split<;>omega
   have e1:wr .i64 (((1900+i:Nat):Int)+1)=((1900+(i+1):Nat):Int):=by rw[t8 (by omega) (by omega)];omega
   have e2:wr .i64 (d-ny i-yl (lpN i))=d-ny (i+1):=by rw[t8 (by omega) (by omega)];omega
   rw[e1,e2]) (a:=(d,1900,1,())) ⟨0,by omega,by rw[c92,Int.sub_zero];rfl⟩ (by show (((1900+n:Nat):Int)-1900).toNat<a7p;rw[a1j];omega)
 rw[hw];simp only;have hw2:=a1u (step:=b61) (fun a=>∃i:Nat,1≤i∧i≤m∧a=(d-ny n-bf (lpN n) i,((1900+n:Nat):Int),(i:Int),())) (fun a=>((m:Int)-a.2.2.1).toNat) (fun _=>(d-ny n-bf (lpN n) m,((1900+n:Nat):Int),(m:Int),())) (fun a ha=>by
  obtain ⟨i,hi,hi2,rfl⟩:=ha;simp only[b61,c0w hn hi (show i≤12 by omega)];by_cases e:i=m
  ·subst e;refine .inr ?_;rw[show decide (bf (lpN n) (i+1)-bf (lpN n) i≤d-ny n-bf (lpN n) i)=false by rw[yak];omega];rfl
  ·refine .inl ⟨(d-ny n-bf (lpN n) (i+1),((1900+n:Nat):Int),((i+1:Nat):Int),()),?_,⟨i+1,by omega,by omega,rfl⟩,by show ((m:Int)-((i+1:Nat):Int)).toNat<((m:Int)-(i:Int)).toNat;omega,trivial⟩;have:=a2e (lpN n) (show 1≤i+1 by omega) (show i+1≤m by omega) (by omega);rw[show decide (bf (lpN n) (i+1)-bf (lpN n) i≤d-ny n-bf (lpN n) i)=true by rw[yac];omega];simp only[yai];have hbb:=a2r (lpN n) (show 1≤i+1 by omega) (show i+1≤13 by omega);have e3:wr .i64 ((i:Int)+1)=((i+1:Nat):Int):=by rw[t8 (by omega) (by omega)];omega
   have e4:wr .i64 (d-ny n-bf (lpN n) i-(bf (lpN n) (i+1)-bf (lpN n) i))=d-ny n-bf (lpN n) (i+1):=by rw[t8 (by omega) (by omega)];omega
   rw[e3,e4]) (a:=(d-ny n,((1900+n:Nat):Int),1,())) ⟨1,by omega,by omega,by show _=(d-ny n-0,_,_,());rw[Int.sub_zero];rfl⟩ (by show ((m:Int)-1).toNat<a7p;rw[a1j];omega)
 rw[hw2];simp only;have hbb:=a2r (lpN n) m1 (show m≤13 by omega);rw[t8 (n:=d-ny n-bf (lpN n) m+1) (by omega) (by omega)]
end
section
open Ev
open Go (IntKind Lit)
def wi (n lo hi:Int):Bool:=decide (lo≤n)&&decide (n≤hi)
theorem d0a (n lo hi:Int):qs n lo hi=some (wi n lo hi):=by
 unfold qs wi;cases h:decide (lo≤n)<;>simp[h]
def chk (x:Off):Int:=
 bif (((!wi x.Device 1 9||!wi x.Seq 1 9999)||!wi x.Day 0 109572)||!wi x.Item 1 9999)||!wi x.Branch 1 4 then 2
 else bif !wi x.Kind 1 3 then 1
 else bif (x.Kind==1&&!wi x.Patron 1 9999)||(!(x.Kind==1)&&!(x.Patron==0)) then 2 else 0
theorem c98 (x:Off):qq x=some (chk x):=by
 unfold qq chk;simp -zeta only[d0a];generalize wi x.Device 1 9=a1;generalize wi x.Seq 1 9999=a2;generalize wi x.Day 0 109572=a3;generalize wi x.Item 1 9999=a4;generalize wi x.Branch 1 4=a5;generalize wi x.Kind 1 3=a6;generalize (x.Kind==1)=a7;generalize wi x.Patron 1 9999=a8;generalize (x.Patron==0)=a9;dsimp only;cases a1
 ·rfl
 cases a2
 ·rfl
 cases a3
 ·rfl
 cases a4
 ·rfl
 cases a5
 ·rfl
 cases a6
 ·rfl
 cases a7<;>cases a8<;>cases a9<;>rfl
def b27 (x y:Off):Bool:=x.Device==y.Device&&x.Seq==y.Seq
theorem b5z (x y:Off):b27 x y=b27 y x:=by
 unfold b27;rw[ybi];simp only[yab,yaR];omega
theorem b24 {X:Type} {p:X→Bool}:∀(l:List X) (i:Nat),(match a65 (β:=Unit⊕(Int×Unit)) p (fun i _=>.inr ((i:Int),())) (.inl ()) i l with | .inl _=>some (-1:Int) | .inr (v,_)=>some v).map (fun r=>decide (0≤r))=some (l.any p):=by
 intro l
 induction l with
 |nil=>intro i;rfl
 |cons x l ih=>
  intro i;simp only[a65,List.any_cons];cases p x with
  |true=>simp
  |false=>simp only[yas,Bool.false_or];exact ih _
theorem c97 {γ:Type} {q:γ→Off→Option Bool} {p:Off→Bool} {g:γ} (hq:∀x,q g x=some (p x)) {l:List Off} (hl:l.length<1000000000) :
 qi q l g=(match a65 (β:=Unit⊕(Int×Unit)) p (fun i _=>.inr ((i:Int),())) (.inl ()) 0 l with | .inl _=>some (-1:Int) | .inr (v,_)=>some v):=by
 unfold qi;have h:=b09 (step:=b3q q) (fun i=>(l,g,(l.length:Int),(i:Int),())) l p (fun i _=>.inr ((i:Int),())) (.inl ()) hl
  (by simp only[b3q,dge,yas])
  (fun i x hx=>by
   have hi:=(zL hx)
   simp only[b3q,dlt hi,s9,hx,yai,hq,y9 (show i<9223372036854775807 by omega)])
 rw[show j3 (b3q q) (l,g,(l.length:Int),0,())=_ from h];cases a65 (β:=Unit⊕(Int×Unit)) p (fun i _=>.inr ((i:Int),())) (.inl ()) 0 l<;>rfl
theorem c7z {γ:Type} {q:γ→Off→Option Bool} {p:Off→Bool} {g:γ} (hq:∀x,q g x=some (p x)) {l:List Off} (hl:l.length<1000000000) :
 qaj q l g=some (l.any p):=by
 unfold qaj;rw[c97 hq hl,←b24 l 0];cases a65 (β:=Unit⊕(Int×Unit)) p (fun i _=>.inr ((i:Int),())) (.inl ()) 0 l<;>rfl
def b4a (l:List Off):Int:=a56 (fun _ x=>chk x) 0 l
theorem b9g {l:List Off} (hl:l.length<1000000000):j3 b3o (l,l,(l.length:Int),0,())=some (if b4a l==0 then .inl (l,()) else .inr (b4a l,())):=
 b34 (step:=b3o) (fun i=>(l,l,(l.length:Int),(i:Int),())) l (fun _ x=>chk x) (.inl (l,())) (fun e=>.inr (e,())) hl
  (by simp only[b3o,dge,yas])
  (fun i x hx=>by
   have hi:=(zL hx)
   simp only[b3o,dlt hi,s9,hx,yai,c98,y9 (show i<9223372036854775807 by omega),b5o];by_cases h:chk x=0
   ·rw[h];rfl
   ·rw[show (chk x==0)=false by simpa using h];rfl)
def b3i (l:List Off):Bool:=a54 (fun i x=>!(l.take i).any (fun y=>b27 x y)) 0 l
theorem c99 (y v:Off):qr y v=some (b27 v y):=by
 unfold qr b27;cases v.Device==y.Device<;>rfl
theorem b62 {l:List Off} (hl:l.length<1000000):j3 a6r (l,l,(l.length:Int),0,())=some (bif b3i l then .inl (l,()) else .inr (7,())):=
 a13 (step:=a6r) (fun i=>(l,l,(l.length:Int),(i:Int),())) l (fun i x=>!(l.take i).any (fun y=>b27 x y)) (.inr (7,())) (.inl (l,())) (by omega)
  (by simp only[a6r,dge,yas])
  (fun i x hx=>by
   have hi:=(zL hx)
   have g1:(decide ((0:Int)≤(0:Int))&&(decide ((0:Int)≤(i:Int))&&decide ((i:Int)≤(l.length:Int))))=true:=by
    simp only[yab,yac];omega
   have e0:((l.take ((i:Int)).toNat).drop ((0:Int)).toNat)=l.take i:=by simp
   simp only[a6r,dlt hi,s9,hx,yai,g1,e0];rw[c7z (p:=fun y=>b27 x y) (fun y=>c99 y x) (by rw[List.length_take];omega)];simp only[y9 (show i<9223372036854775807 by omega)];cases (l.take i).any (fun y=>b27 x y)<;>rfl)
theorem b6u {l:List Off} (h:b3i l=true):∀(i j:Nat) (x y:Off),l[i]?=some x→l[j]?=some y→b27 x y=true→i=j:=by
 unfold b3i at h;rw[b4g]at h;have key:∀(i j:Nat) (x y:Off),l[i]?=some x→l[j]?=some y→j<i→b27 x y=false:=by
  intro i j x y hx hy hji;have:=h i x hx;rw[yaH]at this;simp only[yaC,List.any_eq_false]at this;have hm:y∈l.take i:=yam (i:=j) (by rw[yaN,yaq hji];exact hy);simpa using this y hm
 intro i j x y hx hy hk;rcases Nat.lt_trichotomy i j with q|q|q
 ·rw[b5z,key j i y x hy hx q]at hk;cases hk
 ·exact q
 ·rw[key i j x y hx hy q]at hk;cases hk
end
section
open Ev
open Go (IntKind Lit)
def ltO (a b:Off):Bool:=bif !(a.Day==b.Day) then decide (a.Day<b.Day) else bif !(a.Device==b.Device) then decide (a.Device<b.Device) else decide (a.Seq<b.Seq)
theorem a7e (a b:Off):ltO a b=true↔a.Day<b.Day∨(a.Day=b.Day∧(a.Device<b.Device∨(a.Device=b.Device∧a.Seq<b.Seq))):=by
 unfold ltO;cases h1:a.Day==b.Day with
 |false=>
  have:a.Day≠b.Day:=by simpa using h1
  simp only[Bool.not_false,yai,yac];omega
 |true=>
  have e1:a.Day=b.Day:=by simpa using h1
  cases h2:a.Device==b.Device with
  |false=>
   have:a.Device≠b.Device:=by simpa using h2
   simp only[yaL,Bool.not_false,yai,yas,yac];omega
  |true=>
   have:a.Device=b.Device:=by simpa using h2
   simp only[yaL,yas,yac];omega
theorem c3u (a:Off):ltO a a=false:=by
 cases h:ltO a a with
 |false=>rfl
 |true=>rw[a7e]at h;omega
theorem b6r {a b c:Off} (h:ltO a b=true) (k:ltO b c=true):ltO a c=true:=by
 rw[a7e]at *;omega
theorem c3v {a b:Off} (h:ltO a b=false) (k:ltO b a=false):b27 a b=true:=by
 rw[Bool.eq_false_iff]at h k;unfold b27;simp only[yab,yaR];rw[ne_eq,a7e]at h k;omega
structure OkN (x:Off):Prop where
 d0:0≤x.Day
 d1:x.Day≤109572
 v0:1≤x.Device
 v1:x.Device≤9
 s0:1≤x.Seq
 s1:x.Seq≤9999
theorem b95 {x:Off} (h:chk x=0):OkN x:=by
 unfold chk at h;cases h1:(((!wi x.Device 1 9||!wi x.Seq 1 9999)||!wi x.Day 0 109572)||!wi x.Item 1 9999)||!wi x.Branch 1 4 with
 |true=>rw[h1]at h;cases h
 |false=>
  simp only[ybg,Bool.not_eq_false']at h1;obtain ⟨⟨⟨⟨a,b⟩,c⟩,-⟩,-⟩:=h1;unfold wi at a b c;simp only[yab,yac]at a b c;exact ⟨c.1,c.2,a.1,a.2,b.1,b.2⟩
def cmO (a b:Off):Int:=if wr .i64 (a.Day-b.Day)=0 then (if wr .i64 (a.Device-b.Device)=0 then wr .i64 (a.Seq-b.Seq) else wr .i64 (a.Device-b.Device)) else wr .i64 (a.Day-b.Day)
theorem c96 (a b:Off):qe a b=some (cmO a b):=by
 unfold qe cmO;generalize wr .i64 (a.Day-b.Day)=x;generalize wr .i64 (a.Device-b.Device)=y;generalize wr .i64 (a.Seq-b.Seq)=z;have step:∀(k:Nat) (v:Int),([x,y,z]:List Int)[k]?=some v→b0v ((([x,y,z]:List Int).length:Int),(k:Int),[x,y,z],())=if v=0 then some (.inl ((([x,y,z]:List Int).length:Int),((k+1:Nat):Int),[x,y,z],())) else some (.inr (.inr (v,()))):=fun k v hv=>by
  have hk:=(zL hv)
  have h3:([x,y,z]:List Int).length=3:=rfl;simp only[b0v,dlt hk,s9,hv,yai,yaZ,y9 (show k<9223372036854775807 by omega)];by_cases h:v=0
  ·rw[yaq h,show (v==0)=true by simpa using h];rfl
  ·rw[yah h,show (v==0)=false by simpa using h];rfl
 have hw:j3 b0v ((([x,y,z]:List Int).length:Int),0,[x,y,z],())=some (if x=0 then (if y=0 then (if z=0 then .inl () else .inr (z,())) else .inr (y,())) else .inr (x,())):=by
  refine a25 4 (by rw[a1j];omega) ?_;have s0:b0v ((([x,y,z]:List Int).length:Int),0,[x,y,z],())=if x=0 then some (.inl ((([x,y,z]:List Int).length:Int),((0+1:Nat):Int),[x,y,z],())) else some (.inr (.inr (x,()))):=step 0 x rfl
  have s1:=step 1 y rfl;have s2:=step 2 z rfl;have s3:b0v ((([x,y,z]:List Int).length:Int),((2+1:Nat):Int),[x,y,z],())=some (.inr (.inl ())):=rfl;rw[y6,s0];by_cases hx:x=0
  ·rw[yaq hx,yaq hx];simp only;rw[y6,s1];by_cases hy:y=0
   ·rw[yaq hy,yaq hy];simp only;rw[y6,s2];by_cases hz:z=0
    ·rw[yaq hz,yaq hz];simp only;rw[y6,s3]
    ·rw[yah hz,yah hz]
   ·rw[yah hy,yah hy]
  ·rw[yah hx,yah hx]
 rw[hw];by_cases hx:x=0
 ·rw[yaq hx,yaq hx];by_cases hy:y=0
  ·rw[yaq hy,yaq hy];by_cases hz:z=0
   ·rw[yaq hz,hz]
   ·rw[yah hz]
  ·rw[yah hy,yah hy]
 ·rw[yah hx,yah hx]
theorem c58 {a b:Off} (ha:OkN a) (hb:OkN b):decide (cmO a b<0)=ltO a b:=by
 obtain ⟨a1,a2,a3,a4,a5,a6⟩:=ha;obtain ⟨b1,b2,b3,b4,b5,b6⟩:=hb;rw[ybi,yac,a7e];unfold cmO;rw[t8 (n:=a.Day-b.Day) (by omega) (by omega),t8 (n:=a.Device-b.Device) (by omega) (by omega),t8 (n:=a.Seq-b.Seq) (by omega) (by omega)];by_cases h1:a.Day-b.Day=0
 ·rw[yaq h1];by_cases h2:a.Device-b.Device=0
  ·rw[yaq h2];omega
  ·rw[yah h2];omega
 ·rw[yah h1];omega
def srt (l:List Off):Bool:=(List.range (l.length-1)).all fun i=>match l[i+1]?,l[i]? with|some x,some y=>!decide (cmO x y<0)|_,_=>true
theorem b7k {l:List Off} (hl:l.length<1000000):qh (fun (g:Unit×Unit) x0 x1=>qe x0 x1) l ((),())=some (srt l):=by
 unfold qh;rcases Nat.eq_zero_or_pos l.length with h0|hpos
 ·have:l=[]:=yaV.1 h0;subst this;rfl
 ·have e:wr .i64 ((l.length:Int)-1)=((l.length-1:Nat):Int):=by rw[t8 (by omega) (by omega)];omega
  rw[e];have hlen:((List.range (l.length-1)).reverse).length=l.length-1:=by simp
  have h:=a13 (step:=b64 (fun (g:Unit×Unit) x0 x1=>qe x0 x1)) (fun j=>(l,((),()),((l.length-1-j:Nat):Int),())) (List.range (l.length-1)).reverse
   (fun _ i=>match l[i+1]?,l[i]? with|some x,some y=>!decide (cmO x y<0)|_,_=>true) (.inr (false,())) (.inl ()) (by omega)
   (by rw[hlen,Nat.sub_self];rfl)
   (fun j q hq=>by
    have hj:j<l.length-1:=by have:=(zL hq);omega
    have eq:q=l.length-1-1-j:=by
     rw[List.getElem?_reverse (by simpa using hj)]at hq;simp only[List.length_range]at hq;rw[List.getElem?_range (by omega)]at hq;exact (yaM hq).symm
    have e1:l.length-1-j=q+1:=by omega
    have h1:q+1<l.length:=by omega
    have h2:q<l.length:=by omega
    have p0:decide ((0:Int)<((q+1:Nat):Int))=true:=d08;simp only[b64,e1,p0,yai,s9,b7p (show q<1000000000 by omega),yaa h1,yaa h2,c96];rw[show l.length-1-(j+1)=q by omega];cases decide (cmO l[q+1] l[q]<0)<;>rfl)
  rw[show j3 (b64 (fun (g:Unit×Unit) x0 x1=>qe x0 x1)) (l,((),()),((l.length-1:Nat):Int),())=_ from h,a4c,List.all_reverse];unfold srt;cases (List.range (l.length-1)).all fun i=>match l[i+1]?,l[i]? with|some x,some y=>!decide (cmO x y<0)|_,_=>true<;>rfl
def asB (l:List Off):Bool:=(List.range (l.length-1)).all fun i=>match l[i+1]?,l[i]? with|some x,some y=>ltO y x|_,_=>true
theorem c2w {l:List Off} (h:b4a l=0):∀x∈l,OkN x:=by
 unfold b4a at h;rw[a6m]at h;intro x hx;obtain ⟨i,hi⟩:=List.getElem?_of_mem hx;exact b95 (h i x hi)
theorem c4u {l:List Off} (h:b4a l=0) (ho:b3i l=true):srt l=asB l:=by
 have hk:=c2w h;unfold srt asB;rw[ybi,yae,yae];have key:∀i∈List.range (l.length-1),(match l[i+1]?,l[i]? with|some x,some y=>!decide (cmO x y<0)|_,_=>true)=(match l[i+1]?,l[i]? with|some x,some y=>ltO y x|_,_=>true):=fun i hi=>by
  rw[yaS]at hi;have h1:i+1<l.length:=by omega
  have h2:i<l.length:=by omega
  rw[yaa h1,yaa h2];simp only;rw[c58 (hk _ (List.getElem_mem h1)) (hk _ (List.getElem_mem h2))];cases hlt:ltO l[i+1] l[i]with
  |true=>
   cases hlt2:ltO l[i] l[i+1]with
   |false=>rfl
   |true=>have:=b6r hlt hlt2;rw[c3u]at this;cases this
  |false=>
   cases hlt2:ltO l[i] l[i+1]with
   |true=>rfl
   |false=>
    have:=b6u ho (i+1) i _ _ (yaa h1) (yaa h2) (c3v hlt hlt2);omega
 constructor
 ·intro H i hi;rw[←key i hi];exact H i hi
 ·intro H i hi;rw[key i hi];exact H i hi
def rtO (l:List Off):Int:=bif decide (128<(l.length:Int)) then 13 else if b4a l==0 then (bif b3i l then (bif asB l then 0 else 3) else 7) else b4a l
theorem c7v {l:List Off} (hl:l.length<1000000):qa l=some (rtO l):=by
 unfold qa rtO;cases decide (128<(l.length:Int)) with
 |true=>rfl
 |false=>
  simp only[yas];rw[b9g (by omega)];by_cases h:b4a l=0
  ·rw[h];simp only[yaG,ybr];rw[b62 hl];cases ho:b3i l with
   |false=>rfl
   |true=>
    simp only[yai];rw[b7k hl];simp only;rw[c4u h ho];cases asB l<;>rfl
  ·rw[show (b4a l==0)=false by simpa using h];rfl
end
section
open Ev
open Go (IntKind)
set_option maxRecDepth 100000
theorem b8f:∀(f u:Nat) (a:List UInt8),(a98 f u a).length≤f+a.length:=by
 intro f
 induction f with
 |zero=>intro u a;simp[a98]
 |succ f ih=>
  intro u a;simp only[a98,c6];split
  ·simp;omega
  ·have:=ih (u / 10) (UInt8.ofNat (48+u % 10)::a);simp only[ybl]at this;omega
def dec (n:Int):List UInt8:=a98 20 n.natAbs []
theorem a4z (n:Int):(dec n).length≤20:=b8f 20 n.natAbs []
theorem a1c {n:Int} (h0:0≤n) (h1:n≤9223372036854775807):qc n=some (dec n):=by
 unfold qc dec;rw[show (decide (-9223372036854775808≤n)&&decide (n≤9223372036854775807))=true by rw[yab,yac,yac];omega,
  show decide (n<0)=false by rw[yak];omega]
 rfl
def c9e (n w:Nat):Bool:=match qai (n:Int) (w:Int),qax (n:Int) (w:Int) with
 |some a,some b=>a==b&&a.length==w
 |_,_=>false
theorem b9d:(List.range 300).all (fun k=>c9e (1900+k) 4)=true:=kr
theorem c31:(List.range 32).all (fun k=>c9e k 2)=true:=kr
theorem a83 {n w:Nat} (h:c9e n w=true):∃s,qai (n:Int) (w:Int)=some s∧qax (n:Int) (w:Int)=some s∧s.length=w:=by
 unfold c9e at h;split at h
 ·rename_i a b h1 h2;rw[yab,yaR,yaR]at h;obtain ⟨rfl,h3⟩:=h;exact ⟨a,h1,h2,h3⟩
 ·cases h
theorem d1f {n:Nat} (h:n<300):∃s,qai ((1900+n:Nat):Int) 4=some s∧qax ((1900+n:Nat):Int) 4=some s∧s.length=4:=
 a83 (yae.1 b9d n (yaS.2 h))
theorem d0t {n:Nat} (h:n<32):∃s,qai (n:Int) 2=some s∧qax (n:Int) 2=some s∧s.length=2:=
 a83 (yae.1 c31 n (yaS.2 h))
theorem dle {a b:Nat} (h:a≤b):decide (a≤b)=true:=by rw[yac];exact h
theorem a8p {d:Int} (h0:0≤d) (h1:d≤109572):∃(n m k:Nat) (y mo da:List UInt8),Prt d n m∧k<32∧1≤k∧(k:Int)=d-ny n-bf (lpN n) m+1∧qai ((1900+n:Nat):Int) 4=some y∧qai (m:Int) 2=some mo∧qai (k:Int) 2=some da∧
 y.length=4∧mo.length=2∧da.length=2∧
 qap d=some (y++[45]++mo++[45]++da)∧qaw d=some (y++[45]++mo++[45]++da):=by
 obtain ⟨n,m,hp⟩:=c7r h0 h1;have hp':=hp;obtain ⟨hn,a1,a2,m1,m2,b1,b2⟩:=hp';have hst:=a9t (lpN n) m m1 m2;obtain ⟨k,hk⟩:=Int.eq_ofNat_of_zero_le (a:=d-ny n-bf (lpN n) m+1) (by omega);have hk:d-ny n-bf (lpN n) m+1=(k:Int):=hk;obtain ⟨y,y1,y2,y3⟩:=d1f hn;obtain ⟨mo,o1,o2,o3⟩:=d0t (n:=m) (by omega);obtain ⟨da,e1,e2,e3⟩:=d0t (n:=k) (by omega);refine ⟨n,m,k,y,mo,da,hp,by omega,by omega,hk.symm,y1,o1,e1,y3,o3,e3,?_,?_⟩
 ·unfold qap;rw[c95 hp,hk];simp only[yaG,yaL,yas,y1,o1,e1];rw[dle (by rw[a0l];simp;omega),dle (by rw[a0l];simp;omega),dle (by rw[a0l];simp;omega),dle (by rw[a0l];simp;omega)];rfl
 ·unfold qaw;rw[c7t hp,hk];simp only[yaG,yaL,yas,y2,o2,e2];rw[dle (by rw[a0l];simp;omega),dle (by rw[a0l];simp;omega),dle (by rw[a0l];simp;omega),dle (by rw[a0l];simp;omega)];rfl
def dat (d:Int):List UInt8:=match qap d with|some s=>s|none=>[]
theorem c0f {d:Int} (h0:0≤d) (h1:d≤109572):qap d=some (dat d)∧qaw d=some (dat d)∧(dat d).length=10:=by
 obtain ⟨n,m,k,y,mo,da,-,-,-,-,-,-,-,l1,l2,l3,e1,e2⟩:=a8p h0 h1;have:dat d=y++[45]++mo++[45]++da:=by unfold dat;rw[e1]
 rw[this];exact ⟨e1,e2,by simp;omega⟩
structure OkA (x:Off):Prop where
 n:OkN x
 i0:1≤x.Item
 i1:x.Item≤9999
 b0:1≤x.Branch
 b1:x.Branch≤4
 k0:1≤x.Kind
 k1:x.Kind≤3
 p0:x.Kind=1→1≤x.Patron∧x.Patron≤9999
 p1:x.Kind≠1→x.Patron=0
theorem c19 {x:Off} (h:chk x=0):OkA x:=by
 have hn:=b95 h;unfold chk at h;cases h1:(((!wi x.Device 1 9||!wi x.Seq 1 9999)||!wi x.Day 0 109572)||!wi x.Item 1 9999)||!wi x.Branch 1 4 with
 |true=>rw[h1]at h;cases h
 |false=>
  rw[h1,yas]at h;simp only[ybg,Bool.not_eq_false']at h1;obtain ⟨⟨⟨⟨a,b⟩,c⟩,hi⟩,hb⟩:=h1;cases h2:wi x.Kind 1 3 with
  |false=>rw[h2]at h;cases h
  |true=>
   rw[h2,yaL,yas]at h;cases h3:((x.Kind==1&&!wi x.Patron 1 9999)||(!(x.Kind==1)&&!(x.Patron==0))) with
   |true=>rw[h3]at h;cases h
   |false=>
    unfold wi at hi hb h2 h3;simp only[yab,yac]at hi hb h2;simp only[ybg,Bool.and_eq_false_iff,yaI,ne_eq,Bool.not_eq_false',yab,yac,yaR]at h3;exact ⟨hn,hi.1,hi.2,hb.1,hb.2,h2.1,h2.2,fun e=>h3.1.resolve_left (fun h=>h e),fun e=>h3.2.resolve_left e⟩
theorem b1x {l:List Off} (h:b4a l=0):∀x∈l,OkA x:=by
 intro x hx;obtain ⟨i,hi⟩:=List.getElem?_of_mem hx;exact c19 ((a6m (f:=fun _ x=>chk x)).1 h i x hi)
def b4b (x:Off):List UInt8:=
 if x.Kind=1 then [108,111,97,110,32]++dec x.Item++[32]++dec x.Patron
 else if x.Kind=2 then [98,97,99,107,32]++dec x.Item else [114,101,110,101,119,32]++dec x.Item
def a0j (x:Off):List UInt8:=dec x.Device++[32]++dec x.Seq++[32]++dat x.Day++[32]++b4b x++[32]++dec x.Branch
theorem b85 (x:Off):(b4b x).length≤60:=by
 have h1:=a4z x.Item;have h2:=a4z x.Patron;unfold b4b;split
 ·simp;omega
 ·split<;>(simp;omega)
theorem a47 {x:Off} (h:OkA x):(a0j x).length≤150:=by
 have h1:=a4z x.Device;have h2:=a4z x.Seq;have h3:=(c0f h.n.d0 h.n.d1).2.2;have h4:=b85 x;have h5:=a4z x.Branch;unfold a0j;simp;omega
theorem a1z (a b:List UInt8) (l:List (List UInt8)) (s:List UInt8):Go.Lib.join (a::b::l) s=a++s++Go.Lib.join (b::l) s:=by
 unfold Go.Lib.join;simp[List.intercalate]
theorem b35 {x:Off} (h:OkA x):∃l,qu x=some l∧q9 l [32]=some (a0j x):=by
 have hn:=h.n;have hi0:=h.i0;have hi1:=h.i1;have hb0:=h.b0;have hb1:=h.b1;have v0:=hn.v0;have v1:=hn.v1;have s0:=hn.s0;have s1:=hn.s1;have hlen:=a47 h;unfold qu;rw[a1c (n:=x.Device) (by omega) (by omega),a1c (n:=x.Seq) (by omega) (by omega),(c0f hn.d0 hn.d1).1,a1c (n:=x.Item) (by omega) (by omega),a1c (n:=x.Branch) (by omega) (by omega)];simp -zeta only;have join:∀l,Go.Lib.join l [32]=a0j x→l.length≤10→q9 l [32]=some (a0j x):=fun l e hl=>by
  unfold q9;rw[e,show (decide (l.length≤1073741824)&&decide ((a0j x).length≤1073741824))=true by rw[yab,yac,yac];omega];rfl
 by_cases k1:x.Kind=1
 ·obtain ⟨p0,p1⟩:=h.p0 k1;rw[k1,a1c (n:=x.Patron) (by omega) (by omega)];refine ⟨_,rfl,join _ ?_ (by simp)⟩;simp only[ybk,ybm,a1z,Go.Lib.join_one];unfold a0j b4b;rw[yaq k1];simp
 ·rw[show (x.Kind==1)=false by rw[yaI];exact k1];by_cases k2:x.Kind=2
  ·rw[k2];refine ⟨_,rfl,join _ ?_ (by simp)⟩;simp only[ybk,ybm,a1z,Go.Lib.join_one];unfold a0j b4b;rw[yah k1,yaq k2];simp
  ·rw[show (x.Kind==2)=false by rw[yaI];exact k2];refine ⟨_,rfl,join _ ?_ (by simp)⟩;simp only[ybk,ybm,a1z,Go.Lib.join_one];unfold a0j b4b;rw[yah k1,yah k2];simp
def a9m (l:List Off):List UInt8:=(l.map fun x=>a0j x++[10]).flatten
theorem c1q (a b:List UInt8):blI (a++b)=blI a++blI b:=List.map_append
theorem b8p:∀(l:List Off) (s:List UInt8),l.foldl (fun s x=>s++blI (a0j x++[10])) (blI s)=blI (s++a9m l):=by
 intro l
 induction l with
 |nil=>intro s;simp[a9m]
 |cons x l ih=>intro s;rw[List.foldl_cons,←c1q,ih];simp[a9m]
theorem c1r (s:List UInt8):blJ (blI s)=s:=by
 have:=b94 [] s;simpa[blJ]using this
theorem a9u (s:List UInt8):(blI s).length=s.length:=ybn ..
theorem a9i {α β X σ:Type} {step:α→Option (α⊕β)} (Inv:Nat→σ→Prop) (enc:Nat→σ→α) (l:List X) (f:X→σ→σ) (fin:σ→β) (hl:l.length<1000000000) (h0:∀s,step (enc l.length s)=some (.inr (fin s)))
 (h1:∀i x s,l[i]?=some x→Inv i s→step (enc i s)=some (.inl (enc (i+1) (f x s)))∧Inv (i+1) (f x s)) (s:σ) (hs:Inv 0 s):j3 step (enc 0 s)=some (fin (l.foldl (fun s x=>f x s) s)):=by
 have h:=a3u (step:=step) Inv enc l (fun i x s=>.inl (f x s)) fin (by show l.length<18446744073709551616;omega) (fun s _=>h0 s) (fun i x s hx hi=>by
  obtain ⟨a,b⟩:=h1 i x s hx hi;exact ⟨by rw[a],fun s' e=>by cases e;exact b⟩) s hs
 rw[h,b3w]
theorem c74 {l:List Off} (hl:l.length<100000):qj l=some (if rtO l==0 then (a9m l,0) else ([],rtO l)):=by
 unfold qj;rw[c7v (by omega)];simp only;by_cases hr:rtO l=0
 ·rw[hr];have hok:∀x∈l,OkA x:=by
   refine b1x ?_;have h:=hr;unfold rtO at h;cases h0:decide (128<(l.length:Int)) with
   |true=>rw[h0]at h;cases h
   |false=>
    rw[h0,yas]at h;by_cases he:b4a l=0
    ·exact he
    ·rw[yah (by simpa using he)]at h;exact absurd h he
  have h:=a9i (step:=b3r) (fun i (s:List Int)=>s.length≤200*i) (fun i s=>(l,(l.length:Int),(i:Int),s,())) l (fun x s=>s++blI (a0j x++[10])) (fun s=>(s,())) (by omega)
   (fun s=>by simp only[b3r];rw[show decide ((l.length:Int)<(l.length:Int))=false by simp];rfl)
   (fun i x s hx hs=>by
    obtain ⟨hi,hx'⟩:=yaz.1 hx;have hx2:OkA x:=hok x (yam hx);obtain ⟨w,w1,w2⟩:=b35 hx2;have hlen:=a47 hx2;refine ⟨?_,by rw[ybd,a9u,ybd];simp;omega⟩;simp only[b3r];rw[show decide ((i:Int)<(l.length:Int))=true by rw[yac];omega,s9,hx];simp only[yai,w1,w2];rw[dle (by rw[a0l];simp;omega),dle (by rw[a0l];simp;omega),y9 (by omega)];rfl) [] (by simp)
  have h:j3 b3r (l,(l.length:Int),0,([]:List Int),())=some (blI ([]++a9m l),()):=by rw[←b8p];exact h
  rw[h];simp only[yaG,yaL,yas,ybm,c1r,ybr]
 ·rw[show (rtO l==0)=false by rw[yaI];exact hr];rfl
end
section
open Ev
open Go (IntKind)
set_option maxRecDepth 100000
def i7 (c:UInt8):List UInt8→List UInt8×List UInt8×Bool
 | []=>([],[],false)
 |b::s=>if b=c then ([],s,true) else (b::(i7 c s).1,(i7 c s).2.1,(i7 c s).2.2)
theorem a1x (c:UInt8):∀s,(i7 c s).2.2=true→s=(i7 c s).1++c::(i7 c s).2.1
 | [],h=>by cases h
 |b::s,h=>by
  unfold i7 at h ⊢;by_cases hb:b=c
  ·rw[yaq hb,hb];rfl
  ·rw[yah hb]at h ⊢;have:=a1x c s h;simp only[ybk];rw[←this]
theorem a63 (c:UInt8):∀s,(i7 c s).2.2=false→(i7 c s).1=s∧(i7 c s).2.1=[]
 | [],h=>⟨rfl,rfl⟩
 |b::s,h=>by
  unfold i7 at h ⊢;by_cases hb:b=c
  ·rw[yaq hb]at h;cases h
  ·rw[yah hb]at h ⊢;obtain ⟨h1,h2⟩:=a63 c s h;exact ⟨by simp only[h1],h2⟩
theorem a4t (c:UInt8):∀s,c∉(i7 c s).1
 | []=>by simp[i7]
 |b::s=>by
  unfold i7;by_cases hb:b=c
  ·rw[yaq hb];simp
  ·rw[yah hb];simp only[yau,not_or];exact ⟨fun e=>hb e.symm,a4t c s⟩
theorem a94 (c:UInt8):∀(t r:List UInt8),c∉t→i7 c (t++c::r)=(t,r,true)
 | [],r,_=>by simp[i7]
 |b::t,r,h=>by
  simp only[yau,not_or]at h;simp only[ybk,i7];rw[yah (fun e=>h.1 e.symm),a94 c t r h.2]
theorem a6g (c:UInt8):∀(t:List UInt8),c∉t→i7 c t=(t,[],false)
 | [],_=>rfl
 |b::t,h=>by
  simp only[yau,not_or]at h;simp only[i7];rw[yah (fun e=>h.1 e.symm),a6g c t h.2]
theorem a30 (c:UInt8):∀s,Go.Lib.indexByte s c=(bif (i7 c s).2.2 then ((i7 c s).1.length:Int) else -1)
 | []=>rfl
 |b::s=>by
  unfold Go.Lib.indexByte i7;by_cases hb:b=c
  ·rw[yaq (by simpa using hb),yaq hb];rfl
  ·rw[yah (by simpa using hb),yah hb,a30 c s];cases (i7 c s).2.2
   ·rfl
   ·simp only[yai];have hne:¬((((i7 c s).1.length:Int) == -1)=true):=by
     intro e;have:=yaR.1 e;omega
    rw[yah hne];simp
theorem a1w (c:UInt8) (s:List UInt8):(i7 c s).2.2=true→(i7 c s).1.length+1+(i7 c s).2.1.length=s.length:=fun h=>by
 have:=congrArg List.length (a1x c s h);simp at this;omega
theorem a1b (c:UInt8) (s:List UInt8):(i7 c s).2.2=true→s.count c=(i7 c s).2.1.count c+1:=fun h=>by
 have:=congrArg (List.count c) (a1x c s h);rw[List.count_append,List.count_eq_zero_of_not_mem (a4t c s),List.count_cons_self]at this;omega
theorem a0z (c:UInt8) (s:List UInt8):(i7 c s).2.2=false→s.count c=0:=fun h=>by
 have:=a4t c s;rw[(a63 c s h).1]at this;exact List.count_eq_zero_of_not_mem this
theorem b1u (c:UInt8) (s:List UInt8) (h:(i7 c s).2.2=true):s.take (i7 c s).1.length=(i7 c s).1∧s.drop ((i7 c s).1.length+1)=(i7 c s).2.1:=by
 have e:=a1x c s h;generalize (i7 c s).1=t at e;generalize (i7 c s).2.1=r at e;subst e;exact ⟨by simp,by rw[←List.drop_drop];simp⟩
theorem d00:decide ((0:Int)≤0)=true:=rfl
theorem a7n {a b:Int} (h:a≤b):decide (a≤b)=true:=by rw[yac];exact h
theorem b7v {a b:Int} (h:a<b):decide (a<b)=true:=by rw[yac];exact h
theorem b6t {a b:Int} (h:¬a<b):decide (a<b)=false:=by rw[yak];exact h
theorem d0q {a b:Int} (h:¬a≤b):decide (a≤b)=false:=by rw[yak];exact h
theorem c7w {c:UInt8} {s:List UInt8} (hs:s.length<1000000000):qae s [c]=some (i7 c s):=by
 unfold qae;cases h:(i7 c s).2.2 with
 |true=>
  have hl:=a1w c s h;obtain ⟨h1,h2⟩:=b1u c s h;have hi:qp s [c]=some ((i7 c s).1.length:Int):=by
   show some (Go.Lib.indexByte s c)=_
   rw[a30,h];rfl
  rw[hi];dsimp only;rw[show wr .i64 (((i7 c s).1.length:Int)+(([c]:List UInt8).length:Int))=(((i7 c s).1.length+1:Nat):Int) by rw[List.length_singleton,t8 (by omega) (by omega)];omega];rw[a7n (show (0:Int)≤((i7 c s).1.length:Int) by omega),a7n (show ((i7 c s).1.length:Int)≤(s.length:Int) by omega),a7n (show (0:Int)≤(((i7 c s).1.length+1:Nat):Int) by omega),
   a7n (show (((i7 c s).1.length+1:Nat):Int)≤(s.length:Int) by omega),a7n (Int.le_refl (s.length:Int)),d00]
  simp only[ybe,yai,yaZ,List.take_length,h1,h2,Int.toNat_zero,List.drop_zero];rw[←h]
 |false=>
  have hi:qp s [c]=some (-1):=by
   show some (Go.Lib.indexByte s c)=_
   rw[a30,h];rfl
  rw[hi];dsimp only;rw[show decide ((0:Int)≤-1)=false from rfl];obtain ⟨h1,h2⟩:=a63 c s h;simp only[yas];have:i7 c s=((i7 c s).1,(i7 c s).2.1,(i7 c s).2.2):=rfl;rw[this,h1,h2,h]
theorem c70 {c:UInt8} {s:List UInt8} (hs:s.length<1000000000):qal s [c]=some (i7 c s):=by
 unfold qal;rw[c7w hs]
def b2l (c:UInt8):Nat→List UInt8→List (List UInt8)
 |0,s=>[s]
 |k+1,s=>bif (i7 c s).2.2 then (i7 c s).1::b2l c k (i7 c s).2.1 else [s]
def j4 (c:UInt8) (s:List UInt8):List (List UInt8):=b2l c (s.count c) s
theorem a9c (c:UInt8):∀(k:Nat) (s:List UInt8),s.count c≤k→b2l c k s=j4 c s:=by
 intro k
 induction k with
 |zero=>intro s h;unfold j4;rw[show s.count c=0 by omega]
 |succ k ih=>
  intro s h;cases hf:(i7 c s).2.2 with
  |false=>
   unfold j4;rw[a0z c s hf];show (bif (i7 c s).2.2 then _ else _)=_
   rw[hf];rfl
  |true=>
   have hc:=a1b c s hf;unfold j4;rw[hc];show (bif (i7 c s).2.2 then _ else _)=(bif (i7 c s).2.2 then _ else _)
   rw[hf];simp only[yai];rw[ih _ (by omega)];rfl
theorem w3 (c:UInt8) (s:List UInt8):j4 c s=bif (i7 c s).2.2 then (i7 c s).1::j4 c (i7 c s).2.1 else [s]:=by
 cases hf:(i7 c s).2.2 with
 |false=>unfold j4;rw[a0z c s hf];rfl
 |true=>
  have hc:=a1b c s hf;rw[←a9c c (s.count c) s (yal _),hc];show (bif (i7 c s).2.2 then _ else _)=_
  rw[hf];simp only[yai];rw[a9c c _ _ (yal _)]
theorem b31:∀(k:Nat) (s:List UInt8) (dn:List (List UInt8)),s.count 32=k→s.length<1000000000→dn.length+k<1000000000→
 ∃(t:List UInt8) (l:List (List UInt8)),l.length=dn.length+k+1∧y6 a6s (k+1) (s,[32],0,((dn.length+k:Nat):Int),(dn.length:Int),dn++List.replicate (k+1) [],())=some (t,((dn.length+k:Nat):Int),l,())∧l.set (dn.length+k) t=dn++j4 32 s:=by
 intro k
 induction k with
 |zero=>
  intro s dn h0 hs hd;refine ⟨s,dn++List.replicate 1 [],by simp,?_,?_⟩
  ·simp only[y6,a6s,yaW];rw[show decide ((dn.length:Int)<(dn.length:Int))=false by simp];rfl
  ·have:(i7 32 s).2.2=false:=by
    cases hf:(i7 32 s).2.2 with
    |false=>rfl
    |true=>have:=a1b 32 s hf;omega
   rw[w3,this];simp[List.set_append]
 |succ k ih=>
  intro s dn h0 hs hd;have hf:(i7 32 s).2.2=true:=by
   cases hf:(i7 32 s).2.2 with
   |true=>rfl
   |false=>have:=a0z 32 s hf;omega
  have hl:=a1w 32 s hf;have hc:=a1b 32 s hf;obtain ⟨h1,h2⟩:=b1u 32 s hf;obtain ⟨t,l,e1,e2,e3⟩:=ih (i7 32 s).2.1 (dn++[(i7 32 s).1]) (by omega) (by omega) (by simp;omega);have en:(dn++[(i7 32 s).1]).length+k=dn.length+(k+1):=by simp;omega
  rw[en]at e1 e2 e3;refine ⟨t,l,by omega,?_,?_⟩
  ·rw[y6];simp only[a6s];rw[b7v (show (dn.length:Int)<((dn.length+(k+1):Nat):Int) by omega)];have hidx:qz s [32]=some (((i7 32 s).1.length:Nat):Int):=by
    show some (Go.Lib.indexByte s 32)=_
    rw[a30,hf];rfl
   rw[yai,hidx];dsimp only;rw[b6t (show ¬((i7 32 s).1.length:Int)<0 by omega)];rw[show wr .i64 (((i7 32 s).1.length:Int)+0)=((i7 32 s).1.length:Int) by rw[t8 (by omega) (by omega)];omega,
    show wr .i64 (((i7 32 s).1.length:Int)+(([32]:List UInt8).length:Int))=(((i7 32 s).1.length+1:Nat):Int) by rw[List.length_singleton,t8 (by omega) (by omega)];omega]
   rw[d00,a7n (show (0:Int)≤((i7 32 s).1.length:Int) by omega),a7n (show ((i7 32 s).1.length:Int)≤(s.length:Int) by omega),a7n (show (0:Int)≤(((i7 32 s).1.length+1:Nat):Int) by omega),
    a7n (show (((i7 32 s).1.length+1:Nat):Int)≤(s.length:Int) by omega),a7n (Int.le_refl (s.length:Int)),s9,yaZ,y9 (by omega)]
   have hg:(dn++List.replicate (k+1+1) ([]:List UInt8))[dn.length]?=some []:=by simp
   simp only[hg,ybe,yai,yas,yaZ,List.take_length,h1,h2,Int.toNat_zero,List.drop_zero];have hset:(dn++List.replicate (k+1+1) ([]:List UInt8)).set dn.length (i7 32 s).1=(dn++[(i7 32 s).1])++List.replicate (k+1) []:=by
    rw[List.set_append_right _ _ (yal _),Nat.sub_self,List.replicate_succ,List.set_cons_zero];simp
   rw[hset];have en2:(dn++[(i7 32 s).1]).length=dn.length+1:=by simp
   rw[en2]at e2;exact e2
  ·rw[e3,w3 32 s,hf];simp
theorem a6w (c:UInt8):∀(k:Nat) (s:List UInt8),s.count c=k→(j4 c s).length=k+1:=by
 intro k
 induction k with
 |zero=>intro s h;unfold j4;rw[h];rfl
 |succ k ih=>
  intro s h;have hf:(i7 c s).2.2=true:=by
   cases hf:(i7 c s).2.2 with
   |true=>rfl
   |false=>have:=a0z c s hf;omega
  have hc:=a1b c s hf;rw[w3,hf];simp only[yai,ybl];rw[ih _ (by omega)]
theorem c0v {s:List UInt8} (hs:s.length<100000000):qan s [32]=some (j4 32 s):=by
 unfold qan qm;rw[show ((-1:Int)==0)=false from rfl,show (([32]:List UInt8)==[])=false from rfl,show decide ((-1:Int)<0)=true from rfl];have hcnt:q8 s [32]=some ((s.count 32:Nat):Int):=rfl;have hcl:s.count 32≤s.length:=List.count_le_length;simp -zeta only[yai,yas,hcnt];rw[y9 (by omega),y9 (by omega)];simp only;rw[yah (show ¬((s.length+1:Nat):Int)<((s.count 32+1:Nat):Int) by omega)];rw[a7n (show (0:Int)≤((s.count 32+1:Nat):Int) by omega),a7n (show ((s.count 32+1:Nat):Int)≤(LIM:Int) by rw[a0l];omega)];rw[show wr .i64 (((s.count 32+1:Nat):Int)-1)=((s.count 32:Nat):Int) from b7p (by omega),yaZ];obtain ⟨t,l,e1,e2,e3⟩:=b31 (s.count 32) s [] rfl (by omega) (by simp;omega);have e2:y6 a6s (s.count 32+1) (s,[32],0,((s.count 32:Nat):Int),0,List.replicate (s.count 32+1) [],())=some (t,((s.count 32:Nat):Int),l,()):=by
  simpa using e2
 rw[a25 _ (by rw[a1j];omega) e2];simp only[yaG,ybe,yai];simp at e1 e3;rw[s9,yaZ,yaa (show s.count 32<l.length by omega),y9 (by omega)];simp only;rw[d00,a7n (show (0:Int)≤((s.count 32+1:Nat):Int) by omega),a7n (show ((s.count 32+1:Nat):Int)≤((l.set (s.count 32) t).length:Int) by rw[List.length_set];omega)];simp only[ybe,yai,yaZ,Int.toNat_zero,List.drop_zero];rw[List.take_of_length_le (by rw[List.length_set];omega),e3]
end
section
open Ev
open Go (IntKind)
set_option maxRecDepth 100000
def dgt (c:UInt8):Bool:=decide (48≤c.toNat)&&decide (c.toNat≤57)
def val:List UInt8→Nat→Nat
 | [],a=>a
 |c::r,a=>val r (10*a+(c.toNat-48))
def nlz (s:List UInt8):Bool:=decide (s.length=1)||!(s.head?==some 48)
def a26 (s:List UInt8):Bool:=(decide (1≤s.length)&&decide (s.length≤9))&&(nlz s&&s.all dgt)
theorem b08:∀(w:List UInt8) (c:UInt8) (a:Nat),val (w++[c]) a=10*val w a+(c.toNat-48)
 | [],c,a=>rfl
 |d::w,c,a=>by simp only[ybk,val];exact b08 w c _
theorem a5x:∀(s:List UInt8) (a:Nat),s.all dgt=true→a*10 ^ s.length≤val s a∧val s a<(a+1)*10 ^ s.length
 | [],a,_=>by simp[val]
 |c::s,a,h=>by
  simp only[ybc,yab,dgt,yac]at h;obtain ⟨h1,h2⟩:=a5x s (10*a+(c.toNat-48)) h.2;simp only[val,ybl,Nat.pow_succ];have e1:a*(10 ^ s.length*10)≤(10*a+(c.toNat-48))*10 ^ s.length:=by
   rw[ybf (10 ^ s.length) 10,←Nat.mul_assoc];exact yaB _ (by omega)
  have e2:(10*a+(c.toNat-48)+1)*10 ^ s.length≤(a+1)*(10 ^ s.length*10):=by
   rw[ybf (10 ^ s.length) 10,←Nat.mul_assoc];exact yaB _ (by omega)
  omega
theorem b4x (c:UInt8) (h:dgt c=true):UInt8.ofNat (48+(c.toNat-48))=c:=by
 simp only[dgt,yab,yac]at h;apply UInt8.toNat_inj.1;rw[show 48+(c.toNat-48)=c.toNat by omega];simp
theorem a24 {u:Nat} (h:u<10):(UInt8.ofNat (48+u)).toNat=48+u:=by
 have:u=0∨u=1∨u=2∨u=3∨u=4∨u=5∨u=6∨u=7∨u=8∨u=9:=by omega
 rcases this with rfl|rfl|rfl|rfl|rfl|rfl|rfl|rfl|rfl|rfl<;>rfl
theorem b5k:∀(f u:Nat) (a:List UInt8),u<10 ^ f→1≤f→∃w,a98 f u a=w++a∧w≠[]∧w.all dgt=true∧nlz w=true∧val w 0=u∧(1≤u→w.head?≠some 48):=by
 intro f
 induction f with
 |zero=>intro u a _ h;omega
 |succ f ih=>
  intro u a hu _;rw[a98];by_cases h:u<10
  ·rw[show decide (u<10)=true by rw[yac];exact h];refine ⟨[UInt8.ofNat (48+u)],rfl,by simp,by simp[dgt,a24 h];omega,by simp[nlz],by show 10*0+((UInt8.ofNat (48+u)).toNat-48)=u;rw[a24 h];omega,fun h1 e=>?_⟩;simp only[List.head?_cons,yaf]at e;have:=congrArg UInt8.toNat e;rw[a24 h]at this;have e48:(48:UInt8).toNat=48:=rfl;omega
  ·rw[show decide (u<10)=false by rw[yak];exact h];have hf:1≤f:=by
    rcases f with _|f
    ·simp at hu;omega
    ·omega
   obtain ⟨w,e1,e2,e3,e4,e5,e6⟩:=ih (u / 10) (UInt8.ofNat (48+u % 10)::a) (by rw[Nat.div_lt_iff_lt_mul (by omega)];rw[Nat.pow_succ]at hu;exact hu) hf;have hm:u % 10<10:=Nat.mod_lt _ (by omega);have hh:w.head?≠some 48:=e6 (by omega)
   match w,e2,hh with
   |b::w,_,hh=>
   have hh':b≠48:=fun e=>hh (by simp[e])
   refine ⟨(b::w)++[UInt8.ofNat (48+u % 10)],by simp only[yas];rw[e1];simp,by simp,?_,?_,?_,fun _=>?_⟩
   ·rw[List.all_append,e3];simp[dgt,a24 hm];omega
   ·simp[nlz,hh']
   ·rw[b08,e5,a24 hm];omega
   ·simp[hh']
theorem b8g:∀(f:Nat) (s:List UInt8) (a:List UInt8),s.length≤f→s≠[]→s.all dgt=true→nlz s=true→a98 f (val s 0) a=s++a:=by
 intro f
 induction f with
 |zero=>intro s a h h0;exact absurd (yaV.1 (by omega)) h0
 |succ f ih=>
  intro s a hl h0 hd hn;obtain ⟨w,c,rfl⟩:∃w c,s=w++[c]:=⟨s.dropLast,s.getLast h0,(List.dropLast_concat_getLast h0).symm⟩
  rw[List.all_append,yab]at hd;have hc:dgt c=true:=by simpa using hd.2
  have hc':=hc;simp only[dgt,yab,yac]at hc';rw[b08,a98];by_cases hw:w=[]
  ·subst hw;show (bif decide (10*0+(c.toNat-48)<10) then _ else _)=_
   rw[show decide (10*0+(c.toNat-48)<10)=true by rw[yac];omega];show UInt8.ofNat (48+(10*0+(c.toNat-48)))::a=_
   rw[Nat.mul_zero,yaH,b4x c hc];rfl
  ·match w,hw with
   |b::w,_=>
   have hb:b≠48:=by
    intro e;simp[nlz,e]at hn
   have hb':dgt b=true:=by simp at hd;exact hd.1.1
   have h1:1≤val (b::w) 0:=by
    have hbb:=hb';simp only[dgt,yab,yac]at hbb;have hbn:b.toNat≠48:=fun e=>hb (UInt8.toNat_inj.1 (by rw[e];rfl))
    have hwd:w.all dgt=true:=by have:=hd.1;rw[ybc,yab]at this;exact this.2
    have:=(a5x w (10*0+(b.toNat-48)) hwd).1;have hp:0<10 ^ w.length:=Nat.pow_pos (show 0<10 by omega);have h2:1*10 ^ w.length≤(10*0+(b.toNat-48))*10 ^ w.length:=yaB _ (by omega);simp only[val];omega
   rw[show decide (10*val (b::w) 0+(c.toNat-48)<10)=false by rw[yak];omega];simp only[yas];rw[show (10*val (b::w) 0+(c.toNat-48)) / 10=val (b::w) 0 by omega,show (10*val (b::w) 0+(c.toNat-48)) % 10=c.toNat-48 by omega,b4x c hc,
    ih (b::w) (c::a) (by simp at hl ⊢;omega) (by simp) hd.1 (by simp[nlz,hb])]
   simp
theorem d0u:(10:Nat) ^ 9=1000000000:=by decide
theorem a04 {s:List UInt8} (h:a26 s=true):1≤s.length∧s.length≤9∧nlz s=true∧s.all dgt=true:=by
 unfold a26 at h;simp only[yab,yac]at h;exact ⟨h.1.1,h.1.2,h.2.1,h.2.2⟩
theorem c83 {s:List UInt8} (h:s.all dgt=true) (hl:s.length≤9):val s 0<1000000000:=by
 have h1:=(a5x s 0 h).2;have h2:(10:Nat) ^ s.length≤10 ^ 9:=Nat.pow_le_pow_right (by omega) hl;rw[d0u]at h2;omega
theorem a3c {s:List UInt8} (h:a26 s=true):dec ((val s 0:Nat):Int)=s:=by
 obtain ⟨h1,h2,h3,h4⟩:=a04 h;unfold dec;rw[Int.natAbs_natCast,b8g 20 s [] (by omega) (fun e=>by subst e;simp at h1) h4 h3,List.append_nil]
theorem b5i {n:Int} (h0:0≤n) (h1:n≤9223372036854775807) (hl:(dec n).length≤9):a26 (dec n)=true∧((val (dec n) 0:Nat):Int)=n:=by
 have hp:(10:Nat) ^ 20=100000000000000000000:=by decide
 obtain ⟨w,e1,e2,e3,e4,e5,-⟩:=b5k 20 n.natAbs [] (by omega) (by omega);have hd:dec n=w:=by unfold dec;rw[e1,List.append_nil]
 rw[hd]at hl ⊢;refine ⟨?_,by rw[e5];omega⟩;unfold a26;simp only[yab,yac];refine ⟨⟨?_,hl⟩,e4,e3⟩;rcases w with _|⟨b,w⟩
 ·exact absurd rfl e2
 ·simp
theorem a3r:∀(s:List UInt8) (a:Nat),s.all dgt=true→a*10 ^ s.length+10 ^ s.length≤1000000000000000000→Go.Lib.parseUint10 a s=.ok (val s a)
 | [],a,_,_=>rfl
 |c::s,a,h,hb=>by
  simp only[ybc,yab]at h;have hc:=h.1;simp only[dgt,yab,yac]at hc;simp only[ybl,Nat.pow_succ]at hb;have hp:0<10 ^ s.length:=Nat.pow_pos (show 0<10 by omega);have ha:a<1000000000000000000:=by
   rcases ya4 a 1000000000000000000 with h|h
   ·exact h
   ·have:1000000000000000000*1≤a*(10 ^ s.length*10):=Nat.mul_le_mul h (by omega);omega
  simp only[Go.Lib.parseUint10];rw[yaq hc,yah (by omega),yah (by omega),ybf a 10];refine a3r s _ h.2 ?_;have e:(10*a+(c.toNat-48))*10 ^ s.length+10 ^ s.length≤a*(10 ^ s.length*10)+10 ^ s.length*10:=by
   have:(10*a+(c.toNat-48))*10 ^ s.length≤(10*a+9)*10 ^ s.length:=yaB _ (by omega);have e2:(10*a+9)*10 ^ s.length=a*(10 ^ s.length*10)+9*10 ^ s.length:=by rw[yaU,ybf (10 ^ s.length) 10,←Nat.mul_assoc,ybf a 10]
   omega
  omega
theorem a09 {s:List UInt8} (h:s.all dgt=true) (h1:1≤s.length) (h2:s.length≤9):Go.Lib.atoiAll s=.ok ((val s 0:Nat):Int):=by
 match s,h1 with
 |c::r,_=>
 have hc:dgt c=true:=by simp at h;exact h.1
 simp only[dgt,yab,yac]at hc;have hv:=c83 h h2;have hpw:(10:Nat) ^ (c::r).length≤10 ^ 9:=Nat.pow_le_pow_right (by omega) h2;rw[d0u]at hpw;unfold Go.Lib.atoiAll;simp only;rw[yah (show ¬(c.toNat=43∨c.toNat=45) by omega)];unfold Go.Lib.parseMag;rw[yah (by simp),a3r _ 0 h (by rw[Nat.zero_mul];omega)];simp only;rw[yah (by omega),yah (by omega),yah (by omega)]
theorem b1i {s:List UInt8} (hs:s.length≤1000000):∃n b,qn s=some (n,b)∧(-9223372036854775808≤n∧n≤9223372036854775807)∧(a26 s=true→n=((val s 0:Nat):Int)∧b=true):=by
 have ha:qn s=some (match Go.Lib.atoiAll s with | .ok n=>(n,true) | .range=>(Go.Lib.atoiSat s,false)|_=>(0,false)):=by
  unfold qn;rw[show decide (s.length≤LIM)=true by rw[yac,a0l];omega];rfl
 cases hn:Go.Lib.atoiAll s with
 |ok n=>
  refine ⟨n,true,by rw[ha,hn],?_,fun h=>?_⟩
  ·unfold Go.Lib.atoiAll at hn;split at hn
   ·cases hn
   ·simp only at hn;split at hn
    ·cases hn
    ·cases hn
    ·split at hn
     ·cases hn
     ·split at hn
      ·cases hn
      ·injection hn with hn;split at hn<;>omega
  ·obtain ⟨h1,h2,h3,h4⟩:=a04 h;rw[a09 h4 h1 h2]at hn;injection hn with hn;exact ⟨hn.symm,rfl⟩
 |range=>
  refine ⟨_,false,by rw[ha,hn],?_,fun h=>?_⟩
  ·unfold Go.Lib.atoiSat;split<;>omega
  ·obtain ⟨h1,h2,h3,h4⟩:=a04 h;rw[a09 h4 h1 h2]at hn;cases hn
 |_=>
  refine ⟨0,false,by rw[ha,hn],by omega,fun h=>?_⟩;obtain ⟨h1,h2,h3,h4⟩:=a04 h;rw[a09 h4 h1 h2]at hn;cases hn
end
section
open Ev
open Go (IntKind)
set_option maxRecDepth 100000
def c0q (y m:Nat):Int:=bif decide (1900≤y∧y<2200∧1≤m∧m≤12) then bf (lpN (y-1900)) (m+1)-bf (lpN (y-1900)) m else 0
def ofS (y m d:Nat):Int×Int:=bif decide (d<1)||decide (c0q y m<(d:Int)) then (0,2) else (ny (y-1900)+bf (lpN (y-1900)) m+d-1,0)
theorem c71 (y m:Nat):qao (y:Int) (m:Int)=some (c0q y m):=by
 unfold qao c0q;dsimp only;by_cases h1:y<1900
 ·rw[b7v (show (y:Int)<1900 by omega),show decide (1900≤y∧y<2200∧1≤m∧m≤12)=false by rw[yak];omega];rfl
 ·rw[b6t (show ¬(y:Int)<1900 by omega)];simp only[yas];by_cases h2:2199<y
  ·rw[b7v (show (2199:Int)<(y:Int) by omega),show decide (1900≤y∧y<2200∧1≤m∧m≤12)=false by rw[yak];omega];rfl
  ·rw[b6t (show ¬(2199:Int)<(y:Int) by omega)];simp only[yas];by_cases h3:m<1
   ·rw[b7v (show (m:Int)<1 by omega),show decide (1900≤y∧y<2200∧1≤m∧m≤12)=false by rw[yak];omega];rfl
   ·rw[b6t (show ¬(m:Int)<1 by omega)];simp only[yas];by_cases h4:12<m
    ·rw[b7v (show (12:Int)<(m:Int) by omega),show decide (1900≤y∧y<2200∧1≤m∧m≤12)=false by rw[yak];omega];rfl
    ·rw[b6t (show ¬(12:Int)<(m:Int) by omega),show decide (1900≤y∧y<2200∧1≤m∧m≤12)=true by rw[yac];omega,c38];have hl:lp (y:Int)=lpN (y-1900):=by unfold lpN;rw[show 1900+(y-1900)=y by omega]
     rw[hl];generalize lpN (y-1900)=l;have:m=1∨m=2∨m=3∨m=4∨m=5∨m=6∨m=7∨m=8∨m=9∨m=10∨m=11∨m=12:=by omega
     rcases this with rfl|rfl|rfl|rfl|rfl|rfl|rfl|rfl|rfl|rfl|rfl|rfl<;>cases l<;>rfl
theorem b14 {y m d:Nat} (h1:¬d<1) (h2:¬c0q y m<(d:Int)):1900≤y∧y<2200∧1≤m∧m≤12∧c0q y m=bf (lpN (y-1900)) (m+1)-bf (lpN (y-1900)) m:=by
 unfold c0q at h2 ⊢;by_cases h:1900≤y∧y<2200∧1≤m∧m≤12
 ·rw[show decide (1900≤y∧y<2200∧1≤m∧m≤12)=true by rw[yac];exact h];exact ⟨h.1,h.2.1,h.2.2.1,h.2.2.2,rfl⟩
 ·rw[show decide (1900≤y∧y<2200∧1≤m∧m≤12)=false by rw[yak];exact h]at h2;simp only[yas]at h2;omega
theorem c7y (y m d:Nat):qag (y:Int) (m:Int) (d:Int)=some (ofS y m d):=by
 unfold qag ofS;dsimp only;rw[c71];by_cases h1:d<1
 ·rw[b7v (show (d:Int)<1 by omega),show decide (d<1)=true by rw[yac];exact h1];rfl
 ·rw[b6t (show ¬(d:Int)<1 by omega),show decide (d<1)=false by rw[yak];exact h1];simp only[yas,Bool.false_or];by_cases h2:c0q y m<(d:Int)
  ·rw[b7v h2];rfl
  ·rw[b6t h2];obtain ⟨a1,a2,a3,a4,a5⟩:=b14 h1 h2;have e1:=c34 (n:=y-1900) (by omega);rw[show 1900+(y-1900)=y by omega]at e1;have e2:=c36 (y:Int) a3 a4;have hl:lp (y:Int)=lpN (y-1900):=by unfold lpN;rw[show 1900+(y-1900)=y by omega]
   rw[hl]at e2;rw[e1,e2];simp only[yas];have hb:=a0q (n:=y-1900) (by omega);have hbb:=a2r (lpN (y-1900)) a3 (show m≤13 by omega);have hst:=a9t (lpN (y-1900)) m a3 a4;rw[a5]at h2;rw[t8 (n:=ny (y-1900)+bf (lpN (y-1900)) m) (by omega) (by omega),t8 (n:=ny (y-1900)+bf (lpN (y-1900)) m+(d:Int)) (by omega) (by omega),t8 (by omega) (by omega)]
def a96 (a b c d e f g h i j:UInt8):Int×Int:=
 bif (dgt a&&(dgt b&&(dgt c&&(dgt d&&((e==45)&&(dgt f&&(dgt g&&((h==45)&&(dgt i&&dgt j))))))))) then ofS (val [a,b,c,d] 0) (val [f,g] 0) (val [i,j] 0) else (0,3)
def a0i (s:List UInt8):Int×Int:=match s with
 | [a,b,c,d,e,f,g,h,i,j]=>a96 a b c d e f g h i j
 |_=>(0,3)
theorem ten {s:List UInt8} (h:s.length=10):∃a b c d e f g h i j,s=[a,b,c,d,e,f,g,h,i,j]:=by
 match s,h with
 | [a,b,c,d,e,f,g,h,i,j],_=>exact ⟨a,b,c,d,e,f,g,h,i,j,rfl⟩
theorem c0t {s:List UInt8} (h:s.length≠10):a0i s=(0,3):=by
 unfold a0i;split
 ·exact absurd rfl h
 ·rfl
theorem b45 (e:UInt8):((e.toNat:Int)==45)=(e==45):=by
 rw[ybi,yaR,yaR];constructor
 ·intro h;apply UInt8.toNat_inj.1;have:e.toNat=45:=by omega
  rw[this];rfl
 ·intro h;rw[h];rfl
theorem c91 (b:UInt8):(decide ((b.toNat:Int)<48)||decide ((57:Int)<(b.toNat:Int)))=!dgt b:=by
 unfold dgt;rw[ybi];simp only[yaO,yac,yaC,Bool.and_eq_false_iff,yak];omega
theorem c35 {t:List UInt8} (h1:1≤t.length) (h2:t.length≤9):qg t=some (bif t.all dgt then (((val t 0:Nat):Int),true) else (0,false)):=by
 unfold qg;have hw:=a13 (step:=b3p) (fun i=>(t,blI t,((blI t).length:Int),(i:Int),())) t (fun _ b=>dgt b) (.inr (0,false,())) (.inl (t,())) (by omega)
  (by simp only[b3p,a9u];rw[b6t (show ¬(t.length:Int)<(t.length:Int) by omega)];rfl)
  (fun i x hx=>by
   obtain ⟨hi,-⟩:=yaz.1 hx;simp only[b3p,a9u];have hg:(blI t)[i]?=some (x.toNat:Int):=by unfold blI;rw[yaF,hx];rfl
   rw[b7v (show (i:Int)<(t.length:Int) by omega),s9,hg];simp only[yai];have hn:=c91 x;rw[y9 (by omega)];cases hd:dgt x with
   |true=>
    rw[hd,yaL,ybg]at hn;rw[hn.1,hn.2];rfl
   |false=>
    rw[hd,Bool.not_false,yaO]at hn;rcases hn with hn|hn
    ·rw[hn];rfl
    ·rw[hn];cases decide ((x.toNat:Int)<48)<;>rfl)
 rw[a4c]at hw;have hw:j3 b3p (t,blI t,((blI t).length:Int),0,())=_:=hw;rw[hw];cases hd:t.all dgt with
 |false=>rfl
 |true=>
  simp only[yai];have ha:qn t=some (((val t 0:Nat):Int),true):=by
   unfold qn;rw[show decide (t.length≤LIM)=true by rw[yac,a0l];omega,a09 hd h1 h2];rfl
  rw[ha]
theorem c72 {s:List UInt8} (hs:s.length<1000000000):qaq s=some (a0i s):=by
 by_cases hl:s.length=10
 ·obtain ⟨a,b,c,d,e,f,g,h,i,j,rfl⟩:=ten hl;unfold qaq;dsimp only;have g4:a0d [a,b,c,d,e,f,g,h,i,j] 4=some e:=rfl;have g7:a0d [a,b,c,d,e,f,g,h,i,j] 7=some h:=rfl;have t1:([a,b,c,d,e,f,g,h,i,j].take (4:Int).toNat).drop (0:Int).toNat=[a,b,c,d]:=rfl;have t2:([a,b,c,d,e,f,g,h,i,j].take (7:Int).toNat).drop (5:Int).toNat=[f,g]:=rfl;have t3:([a,b,c,d,e,f,g,h,i,j].take (([a,b,c,d,e,f,g,h,i,j].length:Int)).toNat).drop (8:Int).toNat=[i,j]:=rfl;rw[g4,g7,t1,t2,t3,c35 (t:=[a,b,c,d]) (by simp) (by simp),c35 (t:=[f,g]) (by simp) (by simp),c35 (t:=[i,j]) (by simp) (by simp)];dsimp only;rw[show (!((([a,b,c,d,e,f,g,h,i,j]:List UInt8).length:Int)==10))=false from rfl,
   show (decide (0≤(0:Int))&&(decide ((0:Int)≤4)&&decide ((4:Int)≤(([a,b,c,d,e,f,g,h,i,j]:List UInt8).length:Int))))=true from rfl,
   show (decide (0≤(5:Int))&&(decide ((5:Int)≤7)&&decide ((7:Int)≤(([a,b,c,d,e,f,g,h,i,j]:List UInt8).length:Int))))=true from rfl,
   show (decide (0≤(8:Int))&&(decide ((8:Int)≤(([a,b,c,d,e,f,g,h,i,j]:List UInt8).length:Int))&&decide ((([a,b,c,d,e,f,g,h,i,j]:List UInt8).length:Int)≤(([a,b,c,d,e,f,g,h,i,j]:List UInt8).length:Int))))=true from rfl]
  rw[b45,b45];show _=some (a96 a b c d e f g h i j)
  unfold a96;have e1:[a,b,c,d].all dgt=(dgt a&&(dgt b&&(dgt c&&dgt d))):=by simp
  have e2:[f,g].all dgt=(dgt f&&dgt g):=by simp
  have e3:[i,j].all dgt=(dgt i&&dgt j):=by simp
  have e4:(dgt a&&(dgt b&&(dgt c&&(dgt d&&((e==45)&&(dgt f&&(dgt g&&((h==45)&&(dgt i&&dgt j)))))))))=([a,b,c,d].all dgt&&((e==45)&&([f,g].all dgt&&((h==45)&&[i,j].all dgt)))):=by
   rw[e1,e2,e3];simp only[Bool.and_assoc]
  rw[e4];have ho:=c7y (val [a,b,c,d] 0) (val [f,g] 0) (val [i,j] 0);generalize [a,b,c,d].all dgt=x1;generalize [f,g].all dgt=x2;generalize [i,j].all dgt=x3;generalize (e==45)=x4;generalize (h==45)=x5;cases x4
  ·cases x1<;>rfl
  cases x5
  ·cases x1<;>cases x2<;>rfl
  cases x1
  ·cases x2<;>cases x3<;>rfl
  cases x2
  ·cases x3<;>rfl
  cases x3
  ·rfl
  simp only[yaL,yas,yai,ybe];rw[ho]
 ·rw[c0t hl];unfold qaq;dsimp only;rw[show ((s.length:Int)==10)=false by rw[yaI];omega];rfl
end
section
open Ev
open Go (IntKind)
set_option maxRecDepth 100000
def a7m:List UInt8:=[108,111,97,110]
def a6c:List UInt8:=[98,97,99,107]
def a2c:List UInt8:=[114,101,110,101,119]
def b0h (a b c e f:List UInt8):Bool:=((a0i c).2==0)&&(a26 a&&(a26 b&&(a26 e&&a26 f)))
def mkO (a b c e f:List UInt8) (k p:Int):Off:=⟨(val a 0:Nat),(val b 0:Nat),(a0i c).1,k,(val e 0:Nat),p,(val f 0:Nat)⟩
def a15 (w:List (List UInt8)):Option Off:=match w with
 | [a,b,c,k,e,f]=>bif b0h a b c e f then (bif k==a6c then some (mkO a b c e f 2 0) else bif k==a2c then some (mkO a b c e f 3 0) else none) else none
 | [a,b,c,k,e,p,f]=>bif b0h a b c e f&&(k==a7m&&a26 p) then some (mkO a b c e f 1 (val p 0:Nat)) else none
 |_=>none
def atv (s:List UInt8):Int:=match qn s with|some (n,_)=>n|none=>0
theorem a1a {s:List UInt8} (hs:s.length≤1000000) (h:a26 s=true):atv s=((val s 0:Nat):Int):=by
 obtain ⟨n,b,h1,-,h2⟩:=b1i hs;unfold atv;rw[h1];exact (h2 h).1
theorem a82 {s:List UInt8} (hs:s.length≤1000000) {α:Type} (mk:Int→Bool→α) :
 (match qn s with
  |some (r1,r2)=>
   let k8:Bool→Option α:=fun v=>
    let k7:Bool→Option α:=fun v3=>
     let k:Bool→Option α:=fun v6=>some (mk r1 v6)
     bif v3 then (match qc r1 with|some r5=>k (r5==s)|none=>none) else k false
    bif v then k7 (decide ((s.length:Int)≤9)) else k7 false
   bif r2 then k8 (decide (0≤r1)) else k8 false
  |none=>none)=some (mk (atv s) (a26 s)):=by
 obtain ⟨n,b,h1,⟨h2,h3⟩,h4⟩:=b1i hs;have ha:atv s=n:=by unfold atv;rw[h1]
 rw[ha,h1];dsimp only;cases hn:a26 s with
 |true=>
  obtain ⟨rfl,rfl⟩:=h4 hn;have hsp:=a04 hn;rw[a7n (show (0:Int)≤((val s 0:Nat):Int) by omega),a7n (show (s.length:Int)≤9 by omega),a1c (by omega) h3,a3c hn];simp
 |false=>
  cases b with
  |false=>rfl
  |true=>
   simp only[yai];by_cases h0:0≤n
   ·rw[a7n h0];by_cases hl:(s.length:Int)≤9
    ·rw[a7n hl,a1c h0 h3];simp only[yai];rw[show (dec n==s)=false by
      rw[yaI];intro e;have:=(b5i h0 h3 (by rw[e];omega)).1;rw[e,hn]at this;cases this]
    ·rw[d0q hl];rfl
   ·rw[d0q h0];rfl
theorem b86 {s:List UInt8} (hs:s.length≤1000000) (d:Off):qb s d=some (a26 s,⟨atv s,d.Seq,d.Day,d.Kind,d.Item,d.Patron,d.Branch⟩):=a82 hs (fun r v=>(v,(⟨r,d.Seq,d.Day,d.Kind,d.Item,d.Patron,d.Branch⟩:Off)))
theorem b87 {s:List UInt8} (hs:s.length≤1000000) (d:Off):qad s d=some (a26 s,⟨d.Device,atv s,d.Day,d.Kind,d.Item,d.Patron,d.Branch⟩):=a82 hs (fun r v=>(v,(⟨d.Device,r,d.Day,d.Kind,d.Item,d.Patron,d.Branch⟩:Off)))
theorem b88 {s:List UInt8} (hs:s.length≤1000000) (d:Off):qac s d=some (a26 s,⟨d.Device,d.Seq,d.Day,d.Kind,atv s,d.Patron,d.Branch⟩):=a82 hs (fun r v=>(v,(⟨d.Device,d.Seq,d.Day,d.Kind,r,d.Patron,d.Branch⟩:Off)))
theorem b89 {s:List UInt8} (hs:s.length≤1000000) (d:Off):qab s d=some (a26 s,⟨d.Device,d.Seq,d.Day,d.Kind,d.Item,atv s,d.Branch⟩):=a82 hs (fun r v=>(v,(⟨d.Device,d.Seq,d.Day,d.Kind,d.Item,r,d.Branch⟩:Off)))
theorem b9a {s:List UInt8} (hs:s.length≤1000000) (d:Off):qaa s d=some (a26 s,⟨d.Device,d.Seq,d.Day,d.Kind,d.Item,d.Patron,atv s⟩):=a82 hs (fun r v=>(v,(⟨d.Device,d.Seq,d.Day,d.Kind,d.Item,d.Patron,r⟩:Off)))
theorem b30 (c:UInt8):∀(k:Nat) (s:List UInt8),s.count c=k→∀w∈j4 c s,w.length≤s.length:=by
 intro k
 induction k with
 |zero=>
  intro s h w hw;unfold j4 at hw;rw[h]at hw;simp only[b2l,ya2]at hw;rw[hw];exact yal _
 |succ k ih=>
  intro s h w hw;have hf:(i7 c s).2.2=true:=by
   cases hf:(i7 c s).2.2 with
   |true=>rfl
   |false=>have:=a0z c s hf;omega
  have hc:=a1b c s hf;have hl:=a1w c s hf;rw[w3,hf]at hw;simp only[yai,yau]at hw;rcases hw with rfl|hw
  ·omega
  ·have:=ih _ (by omega) w hw;omega
def c3c (r1:List (List UInt8)) (v26:Bool) (x27:Off):Option (Off×Bool):=
 match a0d r1 3 with
 |some x28=>
  let k46:Bool→Option (Off×Bool):=fun v29=>
   let k45:Bool→Off→Option (Off×Bool):=fun ok43 x44=>
    some (x44,ok43)
   bif v29 then
    match a0d r1 5 with
    |some x30=>
     match qab x30 (⟨x27.Device,x27.Seq,x27.Day,1,x27.Item,x27.Patron,x27.Branch⟩:Off) with
     |some (r32,x33)=>
      bif r32 then
       k45 v26 x33
      else
       k45 false x33
     |none=>none
    |none=>none
   else
    match a0d r1 3 with
    |some x35=>
     let k42:Bool→Option (Off×Bool):=fun v36=>
      bif v36 then
       k45 v26 (⟨x27.Device,x27.Seq,x27.Day,2,x27.Item,x27.Patron,x27.Branch⟩:Off)
      else
       match a0d r1 3 with
       |some x37=>
        let k:Bool→Option (Off×Bool):=fun v38=>
         bif v38 then
          k45 v26 (⟨x27.Device,x27.Seq,x27.Day,3,x27.Item,x27.Patron,x27.Branch⟩:Off)
         else
          k45 false x27
        bif x37==([114,101,110,101,119]) then
         k ((r1.length:Int)==6)
        else
         k false
       |none=>none
     bif x35==([98,97,99,107]) then
      k42 ((r1.length:Int)==6)
     else
      k42 false
    |none=>none
  bif x28==([108,111,97,110]) then
   k46 ((r1.length:Int)==7)
  else
   k46 false
 |none=>none
theorem a48 {s a b c e f:List UInt8} {r1:List (List UInt8)} (hs:s.length<1000000) (hr:j4 32 s=r1) (h6:6≤r1.length) (g0:a0d r1 0=some a) (g1:a0d r1 1=some b) (g2:a0d r1 2=some c) (g4:a0d r1 4=some e)
 (gl:a0d r1 (wr .i64 ((r1.length:Int)-1))=some f) (hm:∀w∈r1,w.length≤1000000):∃x,qaf s=c3c r1 (b0h a b c e f) x∧(b0h a b c e f=true→x=⟨atv a,atv b,(a0i c).1,0,atv e,0,atv f⟩):=by
 have mem:∀{i:Int} {w:List UInt8},a0d r1 i=some w→w.length≤1000000:=fun {i w} h=>by
  unfold a0d at h;rw[c6]at h;split at h
  ·exact hm w (yam h)
  ·cases h
 unfold qaf;rw[c0v (by omega),hr];have hd:qaq c=some ((a0i c).1,(a0i c).2):=c72 (by have:=mem g2;omega);have hlt:decide ((r1.length:Int)<6)=false:=b6t (by omega);simp -zeta only[g0,g1,g2,g4,gl,hd,hlt,yas,b86 (mem g0),b87 (mem g1),b88 (mem g4),b9a (mem gl)];unfold b0h;cases ((a0i c).2==0)
 ·exact ⟨⟨0,0,(a0i c).1,0,0,0,0⟩,rfl,fun h=>by cases h⟩
 cases a26 a
 ·exact ⟨⟨atv a,0,(a0i c).1,0,0,0,0⟩,rfl,fun h=>by cases h⟩
 cases a26 b
 ·exact ⟨⟨atv a,atv b,(a0i c).1,0,0,0,0⟩,rfl,fun h=>by cases h⟩
 cases a26 e
 ·exact ⟨⟨atv a,atv b,(a0i c).1,0,atv e,0,0⟩,rfl,fun h=>by cases h⟩
 cases a26 f
 ·exact ⟨⟨atv a,atv b,(a0i c).1,0,atv e,0,atv f⟩,rfl,fun h=>by cases h⟩
 exact ⟨⟨atv a,atv b,(a0i c).1,0,atv e,0,atv f⟩,rfl,fun _=>rfl⟩
theorem a68 {r1:List (List UInt8)} {v:Bool} {x:Off} {k p:List UInt8} (g3:a0d r1 3=some k) (g5:a0d r1 5=some p) (hp:p.length≤1000000):c3c r1 v x =
 bif (k==a7m)&&((r1.length:Int)==7) then some (⟨x.Device,x.Seq,x.Day,1,x.Item,atv p,x.Branch⟩,a26 p&&v)
 else bif (k==a6c)&&((r1.length:Int)==6) then some (⟨x.Device,x.Seq,x.Day,2,x.Item,x.Patron,x.Branch⟩,v)
 else bif (k==a2c)&&((r1.length:Int)==6) then some (⟨x.Device,x.Seq,x.Day,3,x.Item,x.Patron,x.Branch⟩,v) else some (x,false):=by
 unfold c3c;rw[g3,g5];simp -zeta only[b89 hp];have e1:(k==([108,111,97,110]:List UInt8))=(k==a7m):=rfl;have e2:(k==([98,97,99,107]:List UInt8))=(k==a6c):=rfl;have e3:(k==([114,101,110,101,119]:List UInt8))=(k==a2c):=rfl;rw[e1,e2,e3];generalize (k==a7m)=b1;generalize (k==a6c)=b2;generalize (k==a2c)=b3;generalize ((r1.length:Int)==7)=b7;generalize ((r1.length:Int)==6)=b6;cases b1<;>cases b7<;>cases b2<;>cases b6<;>cases b3<;>first|rfl|(cases a26 p<;>rfl)
theorem c7x {s:List UInt8} (hs:s.length<1000000):∃x,qaf s=some (x,(a15 (j4 32 s)).isSome)∧∀y,a15 (j4 32 s)=some y→x=y:=by
 have hm:∀w∈j4 32 s,w.length≤1000000:=fun w hw=>by have:=b30 32 _ s rfl w hw;omega
 by_cases h6:(j4 32 s).length<6
 ·refine ⟨⟨0,0,0,0,0,0,0⟩,?_,?_⟩
  ·unfold qaf;rw[c0v (by omega)];dsimp only;rw[b7v (show ((j4 32 s).length:Int)<6 by omega)];have:a15 (j4 32 s)=none:=by
    unfold a15;split
    ·rename_i h;rw[h]at h6;simp at h6
    ·rename_i h;rw[h]at h6;simp at h6
    ·rfl
   rw[this];rfl
  ·intro y h;unfold a15 at h;split at h
   ·rename_i e;rw[e]at h6;simp at h6
   ·rename_i e;rw[e]at h6;simp at h6
   ·cases h
 ·generalize hr:j4 32 s=r1 at h6 hm
  match r1,h6,hm,hr with
  | [],h6,_,_=>simp at h6
  | [_],h6,_,_=>simp at h6
  | [_,_],h6,_,_=>simp at h6
  | [_,_,_],h6,_,_=>simp at h6
  | [_,_,_,_],h6,_,_=>simp at h6
  | [_,_,_,_,_],h6,_,_=>simp at h6
  | [a,b,c,k,e,f],h6,hm,hr=>
   obtain ⟨x,e1,e2⟩:=a48 hs hr (by simp) (a:=a) (b:=b) (c:=c) (e:=e) (f:=f) rfl rfl rfl rfl rfl hm;rw[e1,a68 (k:=k) (p:=f) rfl rfl (hm f (by simp))];rw[show ((([a,b,c,k,e,f]:List (List UInt8)).length:Int)==7)=false from rfl,show ((([a,b,c,k,e,f]:List (List UInt8)).length:Int)==6)=true from rfl];simp only[Bool.and_false,yas,Bool.and_true,a15];have hA:b0h a b c e f=true→x=⟨((val a 0:Nat):Int),((val b 0:Nat):Int),(a0i c).1,0,((val e 0:Nat):Int),0,((val f 0:Nat):Int)⟩:=fun h=>by
    rw[e2 h];unfold b0h at h;simp only[yab]at h;rw[a1a (hm a (by simp)) h.2.1,a1a (hm b (by simp)) h.2.2.1,a1a (hm e (by simp)) h.2.2.2.1,a1a (hm f (by simp)) h.2.2.2.2]
   cases h5:b0h a b c e f with
   |false=>
    cases (k==a6c) with
    |true=>exact ⟨_,rfl,fun y h=>by cases h⟩
    |false=>cases (k==a2c)<;>exact ⟨_,rfl,fun y h=>by cases h⟩
   |true=>
    have hx:=hA h5;subst hx;cases (k==a6c) with
    |true=>exact ⟨_,rfl,fun y h=>by cases h;rfl⟩
    |false=>
     cases (k==a2c) with
     |true=>exact ⟨_,rfl,fun y h=>by cases h;rfl⟩
     |false=>exact ⟨_,rfl,fun y h=>by cases h⟩
  | [a,b,c,k,e,p,f],h6,hm,hr=>
   obtain ⟨x,e1,e2⟩:=a48 hs hr (by simp) (a:=a) (b:=b) (c:=c) (e:=e) (f:=f) rfl rfl rfl rfl rfl hm;rw[e1,a68 (k:=k) (p:=p) rfl rfl (hm p (by simp))];rw[show ((([a,b,c,k,e,p,f]:List (List UInt8)).length:Int)==7)=true from rfl,show ((([a,b,c,k,e,p,f]:List (List UInt8)).length:Int)==6)=false from rfl];simp only[Bool.and_false,yas,Bool.and_true,a15];have hA:b0h a b c e f=true→x=⟨((val a 0:Nat):Int),((val b 0:Nat):Int),(a0i c).1,0,((val e 0:Nat):Int),0,((val f 0:Nat):Int)⟩:=fun h=>by
    rw[e2 h];unfold b0h at h;simp only[yab]at h;rw[a1a (hm a (by simp)) h.2.1,a1a (hm b (by simp)) h.2.2.1,a1a (hm e (by simp)) h.2.2.2.1,a1a (hm f (by simp)) h.2.2.2.2]
   cases h5:b0h a b c e f with
   |false=>
    cases (k==a7m) with
    |true=>cases a26 p<;>exact ⟨_,rfl,fun y h=>by cases h⟩
    |false=>exact ⟨_,rfl,fun y h=>by cases h⟩
   |true=>
    have hx:=hA h5;subst hx;cases (k==a7m) with
    |true=>
     cases hp:a26 p with
     |true=>
      have hv:=a1a (hm p (by simp)) hp;rw[hv];exact ⟨_,rfl,fun y h=>by cases h;rfl⟩
     |false=>exact ⟨_,rfl,fun y h=>by cases h⟩
    |false=>exact ⟨_,rfl,fun y h=>by cases h⟩
  |a::b::c::k::e::p::q::z::r,h6,hm,hr=>
   have hlen:(a::b::c::k::e::p::q::z::r).length=r.length+8:=by simp
   have hcnt:=a6w 32 _ s rfl;rw[hr,hlen]at hcnt;have hcl:s.count 32≤s.length:=List.count_le_length;obtain ⟨f,hf⟩:∃f,a0d (a::b::c::k::e::p::q::z::r) (wr .i64 (((a::b::c::k::e::p::q::z::r).length:Int)-1))=some f:=by
    rw[hlen,show wr .i64 (((r.length+8:Nat):Int)-1)=((r.length+7:Nat):Int) by rw[t8 (by omega) (by omega)];omega,s9];exact ⟨_,yaa (by rw[hlen];omega)⟩
   obtain ⟨x,e1,e2⟩:=a48 hs hr (by simp) (a:=a) (b:=b) (c:=c) (e:=e) (f:=f) rfl rfl rfl rfl hf hm;rw[e1,a68 (k:=k) (p:=p) rfl rfl (hm p (by simp))];rw[hlen,show (((r.length+8:Nat):Int)==7)=false by rw[yaI];omega,show (((r.length+8:Nat):Int)==6)=false by rw[yaI];omega];simp only[Bool.and_false,yas,a15];exact ⟨x,rfl,fun y h=>by cases h⟩
end
section
open Ev
open Go (IntKind)
set_option maxRecDepth 100000
def pzL:Nat→List UInt8→List Off→List Off⊕Int
 |0,_,l=>.inl l
 |k+1,s,l=>bif s.isEmpty then .inl l else
  bif (i7 10 s).2.2 then (match a15 (j4 32 (i7 10 s).1) with
   |some x=>pzL k (i7 10 s).2.1 (l++[x])
   |none=>.inr ((l.length+1:Nat):Int))
  else .inr ((l.length+1:Nat):Int)
def d0r:List Off⊕Int→((List Off)×Unit)⊕((List Off)×Int×Int×Unit)
 |.inl l=>.inl (l,())
 |.inr n=>.inr ([],n,3,())
theorem a93 (c:UInt8) (s:List UInt8):(i7 c s).1.length≤s.length:=by
 cases h:(i7 c s).2.2 with
 |true=>have:=a1w c s h;omega
 |false=>rw[(a63 c s h).1];exact yal _
theorem isE {s:List UInt8}:(s==([]:List UInt8))=s.isEmpty:=by cases s<;>rfl
theorem b3l:∀(k:Nat) (s:List UInt8) (l:List Off),s.length≤k→l.length+k<1000000→y6 b65 (k+1) (s,((l.length+1:Nat):Int),l,())=some (d0r (pzL (k+1) s l)):=by
 intro k
 induction k with
 |zero=>
  intro s l hs hl;have:s=[]:=yaV.1 (by omega);subst this;rfl
 |succ k ih=>
  intro s l hs hl;rw[y6];unfold pzL;simp only[b65];rw[isE];cases he:s.isEmpty with
  |true=>rfl
  |false=>
   have hle:=a93 10 s;obtain ⟨x,e1,e2⟩:=c7x (s:=(i7 10 s).1) (by omega);rw[c70 (by omega)];simp only[Bool.not_false,yai,yas,e1];cases hf:(i7 10 s).2.2 with
   |false=>rfl
   |true=>
    have hlen:=a1w 10 s hf;simp only[yaL,yas,yai];cases hz:a15 (j4 32 (i7 10 s).1) with
    |none=>rfl
    |some y=>
     have hx:=e2 y hz;subst hx;simp only[Option.isSome_some,yaL,yas];rw[show decide (l.length+([x]:List Off).length≤LIM)=true by rw[yac,a0l,List.length_singleton];omega,y9 (by omega)];have:=ih (i7 10 s).2.1 (l++[x]) (by omega) (by simp;omega);rw[show (l++[x]).length=l.length+1 by simp]at this;exact this
def c5a (s:List UInt8):(List Off)×Int×Int:=match pzL (s.length+1) s []with
 |.inl l=>bif rtO l==0 then (l,0,0) else ([],0,rtO l)
 |.inr n=>([],n,3)
theorem b6z:∀(k:Nat) (s:List UInt8) (l m:List Off),pzL k s l=.inl m→m.length≤l.length+k:=by
 intro k
 induction k with
 |zero=>intro s l m h;cases h;omega
 |succ k ih=>
  intro s l m h;unfold pzL at h;rw[c6]at h;split at h
  ·cases h;omega
  ·rw[c6]at h;split at h
   ·split at h
    ·have:=ih _ _ _ h;simp at this;omega
    ·cases h
   ·cases h
theorem c77 {s:List UInt8} (hs:s.length<900000):qk s=some (c5a s):=by
 unfold qk;have h:=b3l s.length s [] (yal _) (by simp;omega);have h:y6 b65 (s.length+1) (s,1,([]:List Off),())=_:=h;rw[a25 _ (by rw[a1j];omega) h];unfold c5a;cases hp:pzL (s.length+1) s []with
 |inl l=>
  have:=b6z _ _ _ _ hp;simp only[d0r];rw[c7v (by simp at this;omega)];simp only;cases hr:(rtO l==0)<;>rfl
 |inr n=>rfl
theorem b1v (x:Off):a41 x x=true:=by unfold a41;simp
theorem b69 {a:List Off} (ha:a.length<1000000):qo a a=some true:=by
 unfold qo;rw[show ((a.length:Int)==(a.length:Int))=true by simp];simp only[yaL,yas];have h:=a13 (step:=b3s) (fun i=>(a,a,(i:Int),())) a (fun _ x=>a41 x x) (.inr (false,())) (.inl ()) (by omega)
  (by simp only[b3s];rw[b6t (show ¬(a.length:Int)<(a.length:Int) by omega)];rfl)
  (fun i x hx=>by
   obtain ⟨hi,-⟩:=yaz.1 hx;simp only[b3s];rw[b7v (show (i:Int)<(a.length:Int) by omega),s9,hx,y9 (by omega)];simp only[yai,b1v];rfl)
 rw[a4c]at h;have h:j3 b3s (a,a,0,())=_:=h;rw[h,show a.all (fun x=>a41 x x)=true by rw[yae];intro x _;exact b1v x];rfl
end
section
open Ev
open Go (IntKind)
set_option maxRecDepth 100000
theorem a7k:∀(s t:List UInt8) (a b:Nat),s.length=t.length→s.all dgt=true→t.all dgt=true→val s a=val t b→a=b∧s=t
 | [],[],a,b,_,_,_,h=>⟨h,rfl⟩
 |c::s,d::t,a,b,hl,hs,ht,h=>by
  simp only[ybc,yab]at hs ht;obtain ⟨h1,h2⟩:=a7k s t _ _ (by simpa using hl) hs.2 ht.2 h;have hc:=hs.1;have hd:=ht.1;simp only[dgt,yab,yac]at hc hd;refine ⟨by omega,?_⟩;rw[h2,UInt8.toNat_inj.1 (show c.toNat=d.toNat by omega)]
def c9f (n w:Nat):Bool:=match qai (n:Int) (w:Int) with
 |some a=>(a.all dgt&&(val a 0==n))&&(a.length==w)
 |none=>false
theorem b6v:(List.range 300).all (fun k=>c9f (1900+k) 4)=true:=kr
theorem b2i:(List.range 32).all (fun k=>c9f k 2)=true:=kr
theorem a5f {n w:Nat} {s:List UInt8} (h:c9f n w=true) (hs:qai (n:Int) (w:Int)=some s):s.all dgt=true∧val s 0=n∧s.length=w:=by
 unfold c9f at h;rw[hs]at h;simp only[yab,yaR]at h;exact ⟨h.1.1,h.1.2,h.2⟩
theorem d09 {s:List UInt8} (h:s.length=4):∃a b c d,s=[a,b,c,d]:=by
 match s,h with
 | [a,b,c,d],_=>exact ⟨a,b,c,d,rfl⟩
theorem two {s:List UInt8} (h:s.length=2):∃a b,s=[a,b]:=by
 match s,h with
 | [a,b],_=>exact ⟨a,b,rfl⟩
theorem a4y {d:Int} (h0:0≤d) (h1:d≤109572):∃(n m k:Nat) (y mo da:List UInt8),Prt d n m∧1≤k∧(k:Int)=d-ny n-bf (lpN n) m+1∧dat d=y++[45]++mo++[45]++da∧(y.all dgt=true∧val y 0=1900+n∧y.length=4)∧(mo.all dgt=true∧val mo 0=m∧mo.length=2)∧(da.all dgt=true∧val da 0=k∧da.length=2):=by
 obtain ⟨n,m,k,y,mo,da,hp,hk,hk1,hke,e1,e2,e3,-,-,-,e4,-⟩:=a8p h0 h1;have hp':=hp;obtain ⟨hn,-,-,m1,m2,-,-⟩:=hp';refine ⟨n,m,k,y,mo,da,hp,hk1,hke,by unfold dat;rw[e4],a5f (yae.1 b6v n (yaS.2 hn)) e1,a5f (yae.1 b2i m (yaS.2 (by omega))) e2,a5f (yae.1 b2i k (yaS.2 hk)) e3⟩
theorem b5h {d:Int} (h0:0≤d) (h1:d≤109572):a0i (dat d)=(d,0):=by
 obtain ⟨n,m,k,y,mo,da,hp,hk1,hke,e,⟨y1,y2,y3⟩,⟨o1,o2,o3⟩,⟨d1,d2,d3⟩⟩:=a4y h0 h1;obtain ⟨a,b,c,d',rfl⟩:=d09 y3;obtain ⟨f,g,rfl⟩:=two o3;obtain ⟨i,j,rfl⟩:=two d3;rw[e];show a96 a b c d' 45 f g 45 i j=_
 unfold a96;simp only[ybc,List.all_nil,Bool.and_true,yab]at y1 o1 d1;rw[y1.1,y1.2.1,y1.2.2.1,y1.2.2.2,o1.1,o1.2,d1.1,d1.2,y2,o2,d2];simp only[yaG,ybe,yai];obtain ⟨hn,p1,p2,m1,m2,p3,p4⟩:=hp;unfold ofS c0q;rw[Nat.add_sub_cancel_left,show decide (1900≤1900+n∧1900+n<2200∧1≤m∧m≤12)=true by rw[yac];omega];simp only[yai];rw[show decide (k<1)=false by rw[yak];omega,b6t (show ¬(bf (lpN n) (m+1)-bf (lpN n) m<(k:Int)) by omega)];simp only[Bool.or_self,yas];rw[show ny n+bf (lpN n) m+(k:Int)-1=d by omega]
theorem b5g {c:List UInt8} {d:Int} (h:a0i c=(d,0)):0≤d∧d≤109572∧dat d=c:=by
 by_cases hl:c.length=10
 ·obtain ⟨a,b,c',d',e,f,g,hh,i,j,rfl⟩:=ten hl;replace h:a96 a b c' d' e f g hh i j=(d,0):=h;unfold a96 at h;rw[c6]at h;split at h
  rotate_left
  ·cases h
  rename_i hc;simp only[yab,yaR]at hc;obtain ⟨ha,hb,hc',hd',rfl,hf,hg,rfl,hi,hj⟩:=hc;unfold ofS at h;rw[c6]at h;split at h
  ·cases h
  rename_i ho;simp only[yaO,yac,not_or]at ho;obtain ⟨r1,r2,r3,r4,r5⟩:=b14 ho.1 ho.2;obtain ⟨n,hn⟩:∃n,val [a,b,c',d'] 0=1900+n:=⟨val [a,b,c',d'] 0-1900,by omega⟩
  rw[hn,Nat.add_sub_cancel_left]at h r5;have hlen:=ho.2;rw[hn]at hlen r2;rw[r5]at hlen;injection h with h h';have hbb:=a2r (lpN n) r3 (show val [f,g] 0≤13 by omega);have hb13:bf (lpN n) (val [f,g] 0+1)≤yl (lpN n):=a2e (lpN n) (show 1≤val [f,g] 0+1 by omega) (show val [f,g] 0+1≤13 by omega) (yal 13);have hs:=a7f n;have hny:=a0q (n:=n) (by omega);have hny':=a0q (n:=n+1) (by omega);have hp:Prt d n (val [f,g] 0):=⟨by omega,by omega,by omega,r3,r4,by omega,by omega⟩
  have h0:0≤d:=by omega
  have h1:d≤109572:=by omega
  refine ⟨h0,h1,?_⟩;obtain ⟨n',m',k',y',mo',da',hp',hk1,hke,e',⟨y1,y2,y3⟩,⟨o1,o2,o3⟩,⟨d1,d2,d3⟩⟩:=a4y h0 h1;have en:n'=n:=c7o hp'.2.1 hp'.2.2.1 hp.2.1 hp.2.2.1;subst en;have em:m'=val [f,g] 0:=c5s (lpN n') hp'.2.2.2.1 hp'.2.2.2.2.1 r3 r4 hp'.2.2.2.2.2.1 hp'.2.2.2.2.2.2 hp.2.2.2.2.2.1 hp.2.2.2.2.2.2;subst em;have ek:k'=val [i,j] 0:=by omega
  subst ek;rw[e',(a7k y' [a,b,c',d'] 0 0 y3 y1 (by simp[ha,hb,hc',hd']) (by rw[y2,hn])).2,(a7k mo' [f,g] 0 0 o3 o1 (by simp[hf,hg]) o2).2,(a7k da' [i,j] 0 0 d3 d1 (by simp[hi,hj]) d2).2];rfl
 ·rw[c0t hl]at h;cases h
theorem n6 {s:List UInt8} (h:s.all dgt=true) {b:UInt8} (hb:dgt b=false):b∉s:=fun hm=>by
 have:=yae.1 h b hm;rw[hb]at this;cases this
theorem b5j:(List.range 10000).all (fun k=>decide ((a98 20 k []).length≤9))=true:=kr
theorem c9s {n:Int} (h0:0≤n) (h1:n≤9999):(dec n).length≤9:=by
 have:=yae.1 b5j n.natAbs (yaS.2 (by omega));rw[yac]at this;exact this
theorem a0x {n:Int} (h0:0≤n) (h1:n≤9999):a26 (dec n)=true∧((val (dec n) 0:Nat):Int)=n∧(dec n).all dgt=true:=by
 obtain ⟨h2,h3⟩:=b5i h0 (by omega) (c9s h0 h1);exact ⟨h2,h3,(a04 h2).2.2.2⟩
theorem b1s {d:Int} (h0:0≤d) (h1:d≤109572) {b:UInt8} (hb:dgt b=false) (h45:b≠45):b∉dat d:=by
 obtain ⟨n,m,k,y,mo,da,-,-,-,e,⟨y1,-,-⟩,⟨o1,-,-⟩,⟨d1,-,-⟩⟩:=a4y h0 h1;rw[e];simp only[yaA,ya2,not_or];exact ⟨⟨⟨⟨n6 y1 hb,h45⟩,n6 o1 hb⟩,h45⟩,n6 d1 hb⟩
theorem l9 {w r:List UInt8} (h:32∉w):j4 32 (w++[32]++r)=w::j4 32 r:=by
 rw[ya5,List.singleton_append,w3,a94 32 w r h];rfl
theorem a5s {w:List UInt8} (h:32∉w):j4 32 w=[w]:=by
 rw[w3,a6g 32 w h];rfl
theorem b26:∀(k:Nat) (s:List UInt8),s.count 32=k→Go.Lib.join (j4 32 s) [32]=s:=by
 intro k
 induction k with
 |zero=>
  intro s h;unfold j4;rw[h];exact Go.Lib.join_one s [32]
 |succ k ih=>
  intro s h;have hf:(i7 32 s).2.2=true:=by
   cases hf:(i7 32 s).2.2 with
   |true=>rfl
   |false=>have:=a0z 32 s hf;omega
  have hc:=a1b 32 s hf;have hy:=a1x 32 s hf;rw[w3,hf];simp only[yai];have hih:=ih (i7 32 s).2.1 (by omega);have hne:j4 32 (i7 32 s).2.1≠[]:=by
   intro e;have:=a6w 32 _ (i7 32 s).2.1 rfl;rw[e]at this;simp at this
  obtain ⟨x,xs,hx⟩:=List.exists_cons_of_ne_nil hne;rw[hx]at hih ⊢;rw[a1z,hih];rw[ya5,List.singleton_append,←hy]
theorem b0m {x:Off} (h:OkA x):a15 (j4 32 (a0j x))=some x:=by
 have hn:=h.n;have hi0:=h.i0;have hi1:=h.i1;have hb0:=h.b0;have hb1:=h.b1;have v0:=hn.v0;have v1:=hn.v1;have s0:=hn.s0;have s1:=hn.s1;obtain ⟨a1,a2,a3⟩:=a0x (n:=x.Device) (by omega) (by omega);obtain ⟨b1,b2,b3⟩:=a0x (n:=x.Seq) (by omega) (by omega);obtain ⟨e1,e2,e3⟩:=a0x (n:=x.Item) (by omega) (by omega);obtain ⟨f1,f2,f3⟩:=a0x (n:=x.Branch) (by omega) (by omega);have hd:=b5h hn.d0 hn.d1;have n32:dgt 32=false:=rfl;have hda:=b1s hn.d0 hn.d1 (b:=32) rfl (by decide);have h5:b0h (dec x.Device) (dec x.Seq) (dat x.Day) (dec x.Item) (dec x.Branch)=true:=by unfold b0h;rw[a1,b1,e1,f1,hd];rfl
 unfold a0j b4b;by_cases k1:x.Kind=1
 ·obtain ⟨p0,p1⟩:=h.p0 k1;obtain ⟨q1,q2,q3⟩:=a0x (n:=x.Patron) (by omega) (by omega);rw[yaq k1];have e:dec x.Device++[32]++dec x.Seq++[32]++dat x.Day++[32]++([108,111,97,110,32]++dec x.Item++[32]++dec x.Patron)++[32]++dec x.Branch =
   dec x.Device++[32]++(dec x.Seq++[32]++(dat x.Day++[32]++(a7m++[32]++(dec x.Item++[32]++(dec x.Patron++[32]++dec x.Branch))))):=by simp[a7m]
  rw[e,l9 (n6 a3 n32),l9 (n6 b3 n32),l9 hda,l9 (by decide),l9 (n6 e3 n32),l9 (n6 q3 n32),a5s (n6 f3 n32)];unfold a15;simp only[h5,q1,yaG,ybe,yai];unfold mkO;rw[a2,b2,e2,f2,q2,hd,←k1]
 ·rw[yah k1];have hp:=h.p1 k1;by_cases k2:x.Kind=2
  ·rw[yaq k2];have e:dec x.Device++[32]++dec x.Seq++[32]++dat x.Day++[32]++([98,97,99,107,32]++dec x.Item)++[32]++dec x.Branch =
    dec x.Device++[32]++(dec x.Seq++[32]++(dat x.Day++[32]++(a6c++[32]++(dec x.Item++[32]++dec x.Branch)))):=by simp[a6c]
   rw[e,l9 (n6 a3 n32),l9 (n6 b3 n32),l9 hda,l9 (by decide),l9 (n6 e3 n32),a5s (n6 f3 n32)];unfold a15;simp only[h5,yaG,yai];unfold mkO;rw[a2,b2,e2,f2,hd,←k2,←hp]
  ·rw[yah k2];have k3:x.Kind=3:=by have:=h.k0;have:=h.k1;omega
   have e:dec x.Device++[32]++dec x.Seq++[32]++dat x.Day++[32]++([114,101,110,101,119,32]++dec x.Item)++[32]++dec x.Branch =
    dec x.Device++[32]++(dec x.Seq++[32]++(dat x.Day++[32]++(a2c++[32]++(dec x.Item++[32]++dec x.Branch)))):=by simp[a2c]
   rw[e,l9 (n6 a3 n32),l9 (n6 b3 n32),l9 hda,l9 (by decide),l9 (n6 e3 n32),a5s (n6 f3 n32)];unfold a15;simp only[h5,yai,show (a2c==a6c)=false from rfl,yas,yaG];unfold mkO;rw[a2,b2,e2,f2,hd,←k3,←hp]
theorem a8o {a b c e f:List UInt8} (h:b0h a b c e f=true):dec ((val a 0:Nat):Int)=a∧dec ((val b 0:Nat):Int)=b∧dat (a0i c).1=c∧dec ((val e 0:Nat):Int)=e∧dec ((val f 0:Nat):Int)=f:=by
 unfold b0h at h;simp only[yab,yaR]at h;exact ⟨a3c h.2.1,a3c h.2.2.1,(b5g (show a0i c=((a0i c).1,0) by rw[←h.1])).2.2,a3c h.2.2.2.1,a3c h.2.2.2.2⟩
theorem b0l {t:List UInt8} {x:Off} (h:a15 (j4 32 t)=some x):a0j x=t:=by
 have hj:=b26 _ t rfl;generalize j4 32 t=w at h hj;unfold a15 at h;split at h
 ·rename_i a b c k e f;rw[c6]at h;split at h
  rotate_left
  ·cases h
  rename_i h5;obtain ⟨z1,z2,z3,z4,z5⟩:=a8o h5;simp only[a1z,Go.Lib.join_one]at hj;rw[c6]at h;split at h
  ·rename_i hk;rw[yaR]at hk;cases h
   unfold a0j b4b mkO;dsimp only;rw[yah (by decide),yaq rfl,z1,z2,z3,z4,z5,←hj,hk];simp[a6c]
  ·rw[c6]at h;split at h
   ·rename_i hk;rw[yaR]at hk;cases h
    unfold a0j b4b mkO;dsimp only;rw[yah (by decide),yah (by decide),z1,z2,z3,z4,z5,←hj,hk];simp[a2c]
   ·cases h
 ·rename_i a b c k e p f;rw[c6]at h;split at h
  rotate_left
  ·cases h
  rename_i h5;simp only[yab,yaR]at h5;obtain ⟨z1,z2,z3,z4,z5⟩:=a8o h5.1;simp only[a1z,Go.Lib.join_one]at hj;cases h
  unfold a0j b4b mkO;dsimp only;rw[yaq rfl,z1,z2,z3,z4,z5,a3c h5.2.2,←hj,h5.2.1];simp[a7m]
 ·cases h
theorem b6e {x:Off} (h:OkA x):10∉a0j x:=by
 have hn:=h.n;have hi0:=h.i0;have hi1:=h.i1;have hb0:=h.b0;have hb1:=h.b1;have v0:=hn.v0;have v1:=hn.v1;have s0:=hn.s0;have s1:=hn.s1;have a3:=(a0x (n:=x.Device) (by omega) (by omega)).2.2;have b3:=(a0x (n:=x.Seq) (by omega) (by omega)).2.2;have e3:=(a0x (n:=x.Item) (by omega) (by omega)).2.2;have f3:=(a0x (n:=x.Branch) (by omega) (by omega)).2.2;have n10:dgt 10=false:=rfl;have hda:=b1s hn.d0 hn.d1 (b:=10) rfl (by decide);have hm:10∉b4b x:=by
  unfold b4b;by_cases k1:x.Kind=1
  ·obtain ⟨p0,p1⟩:=h.p0 k1;have q3:=(a0x (n:=x.Patron) (by omega) (by omega)).2.2;rw[yaq k1];simp only[yaA,not_or];exact ⟨⟨⟨by decide,n6 e3 n10⟩,by decide⟩,n6 q3 n10⟩
  ·rw[yah k1];split
   ·simp only[yaA,not_or];exact ⟨by decide,n6 e3 n10⟩
   ·simp only[yaA,not_or];exact ⟨by decide,n6 e3 n10⟩
 unfold a0j;simp only[yaA,ya2,not_or];exact ⟨⟨⟨⟨⟨⟨⟨⟨n6 a3 n10,by decide⟩,n6 b3 n10⟩,by decide⟩,hda⟩,by decide⟩,hm⟩,by decide⟩,n6 f3 n10⟩
theorem a4a (x:Off) (l:List Off):a9m (x::l)=a0j x++10::a9m l:=by unfold a9m;simp
theorem c4w (l:List Off):l.length≤(a9m l).length:=by
 induction l with
 |nil=>exact yal 0
 |cons x l ih=>rw[a4a];simp;omega
theorem c33:∀(l:List Off) (k:Nat) (acc:List Off),(∀x∈l,OkA x)→l.length≤k→pzL (k+1) (a9m l) acc=.inl (acc++l):=by
 intro l
 induction l with
 |nil=>intro k acc _ _;simp[pzL,a9m]
 |cons x l ih=>
  intro k acc h hk;unfold pzL;have hx:=h x (by simp);rw[a4a,a94 10 _ _ (b6e hx)];have hne:(a0j x++10::a9m l).isEmpty=false:=by rw[List.isEmpty_eq_false_iff];simp
  rw[hne];simp only[yas,yai,b0m hx];rcases k with _|k
  ·simp at hk
  ·rw[ih k (acc++[x]) (fun y hy=>h y (List.mem_cons_of_mem _ hy)) (by simpa using hk)];simp
theorem c4x:∀(k:Nat) (s:List UInt8) (acc m:List Off),s.length<k→pzL k s acc=.inl m→∃l,m=acc++l∧a9m l=s:=by
 intro k
 induction k with
 |zero=>intro s acc m h;omega
 |succ k ih=>
  intro s acc m hs h;unfold pzL at h;rw[c6]at h;split at h
  ·rename_i he;cases h
   exact ⟨[],by simp,by rw[List.isEmpty_iff.1 he];rfl⟩
  ·rw[c6]at h;split at h
   ·rename_i hf;have hl:=a1w 10 s hf;have hy:=a1x 10 s hf;split at h
    ·rename_i x hz;obtain ⟨l,e1,e2⟩:=ih _ _ _ (by omega) h;refine ⟨x::l,by rw[e1];simp,?_⟩;rw[a4a,b0l hz,e2,←hy]
    ·cases h
   ·cases h
theorem b68 {l:List Off} (h:rtO l=0):(∀x∈l,OkA x)∧l.length≤128:=by
 unfold rtO at h;cases h0:decide (128<(l.length:Int)) with
 |true=>rw[h0]at h;cases h
 |false=>
  rw[yak]at h0;rw[show decide (128<(l.length:Int))=false by rw[yak];exact h0,yas]at h;by_cases he:b4a l=0
  ·exact ⟨b1x he,by omega⟩
  ·rw[yah (by simpa using he)]at h;exact absurd h he
theorem b7m:∀(l:List Off),(∀x∈l,OkA x)→(a9m l).length≤200*l.length
 | [],_=>by simp[a9m]
 |x::l,h=>by
  have h1:=a47 (h x (by simp));have h2:=b7m l (fun y hy=>h y (List.mem_cons_of_mem _ hy));rw[a4a];simp;omega
theorem b9f {l:List Off} (h:rtO l=0):c5a (a9m l)=(l,0,0):=by
 obtain ⟨h1,h2⟩:=b68 h;unfold c5a;rw[c33 l _ [] h1 (c4w l)];simp only[ybm];rw[h];rfl
theorem a17 (l:List Off) (s:List UInt8):qw l s=some true:=by
 unfold qw;have hal:ql=some true:=rfl;dsimp only;cases h1:decide (140<(l.length:Int)) with
 |true=>simp only[yai,hal]
 |false=>
  simp only[yas];cases h2:decide (6000<(s.length:Int)) with
  |true=>simp only[yai,hal]
  |false=>
   rw[yak]at h1 h2;simp only[yas];rw[c74 (show l.length<100000 by omega),c77 (show s.length<900000 by omega)];have key:(match some (c5a s) with
    |some (r15,r16,r17)=>
     bif r17==0 then
      match qj r15 with
      |some (r19,r20)=>
       bif r20==0 then (bif r19==s then (match ql with|some r23=>some r23|none=>none) else some false) else (bif false then (match ql with|some r23=>some r23|none=>none) else some false)
      |none=>none
     else
      bif (r15.length:Int)==0 then (match ql with|some r29=>some r29|none=>none) else some false
    |none=>none)=some true:=by
    unfold c5a;cases hp:pzL (s.length+1) s []with
    |inr n=>rfl
    |inl m=>
     have hm:=b6z _ _ _ _ hp;simp only;cases hr:(rtO m==0) with
     |false=>
      simp only[yas,hr];rfl
     |true=>
      simp only[yai,yaG];rw[c74 (by simp at hm;omega)];obtain ⟨l',e1,e2⟩:=c4x _ _ _ _ (by omega) hp;rw[ybm]at e1;subst e1;rw[yaq hr,e2];simp only[yaG,yai,hal]
   by_cases hr:rtO l=0
   ·rw[yaq (by simpa using hr)];obtain ⟨o1,o2⟩:=b68 hr;have hmx:=b7m l o1;simp only[yaG,yai];rw[c77 (by omega),b9f hr];simp only[yaG,yaL,yas,b69 (show l.length<1000000 by omega)];exact key
   ·rw[yah (by simpa using hr)];simp only;rw[show (rtO l==0)=false by rw[yaI];exact hr];exact key
end
end Go.Proofs.YtpdenibljogamaaGreatDoor
