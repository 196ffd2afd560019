/- CircServes: a part of the proof of the given statement, which is proved without conditions. -/
import Derived.Test.YtdahfgialanmpabGreatDoorS3
import Derived.KernelRfl
import Derived.Test.YtdahfgialanmpabGreatDoorProg
import Derived.Shelf.RegionOpenPlain
import Derived.WalkKit
import Derived.Lib.Walk
import Derived.Lib.AppendZerosOnto
import Derived.Lib.AppendZeros
import Derived.Laws.Externs
import Derived.Laws.CopyOwn
import Derived.Deep.RegionLaw
import Derived.Lib.TrimUEq
import Derived.Lib.ValidU
import Derived.Lib.FieldsP
import Derived.Lib.Join
import Derived.Shelf.Strings.OnBuilder
import Derived.Shelf.Strings.FieldsFuncAny
import Derived.Shelf.Unicode.ValidAny
import Derived.Ground.NamesProg
import Derived.Ground.Names2Prog
import Derived.WalkMore
import Derived.Below
import Derived.Laws.RangeString
import Derived.Laws.Runes
import Derived.LoopTactic
import Derived.Deep.LoopGhost
import Derived.Shelf.Sort.Plain
import Derived.Shelf.Slices.CompactI
import Derived.Shelf.Slices.In.SortNone
import Derived.Lib.RowBridge
import Derived.Test.YtdahfgialanmpabGreatDoorTie
set_option linter.all false
namespace Go.Proofs.YtdahfgialanmpabGreatDoor
set_option maxRecDepth 100000
open Ev
open Go (IntKind)
section
def b8u:((List Hold)×Int×Int×Int×Int×(List Int)×Unit)→Option (((List Hold)×Int×Int×Int×Int×(List Int)×Unit)⊕(((List Hold)×Int×Int×Int×(List Int)×Unit))):=fun (l,record,day,rank,i,l2,_)=>
 bif decide (i<(l.length:Int)) then match m7 l i with|some x =>let k6 (v:Bool):Option (((List Hold)×Int×Int×Int×Int×(List Int)×Unit)⊕(((List Hold)×Int×Int×Int×(List Int)×Unit))):=let k5 (v3:Bool):Option (((List Hold)×Int×Int×Int×Int×(List Int)×Unit)⊕(((List Hold)×Int×Int×Int×(List Int)×Unit))):=let k (v4:Bool):Option (((List Hold)×Int×Int×Int×Int×(List Int)×Unit)⊕(((List Hold)×Int×Int×Int×(List Int)×Unit))):=bif v4 then bif decide (l2.length+([x.ID]:List Int).length≤LIM) then some (.inl (l,record,day,rank,wr .i64 (i+1),l2++([x.ID]:List Int),())) else none else some (.inl (l,record,day,rank,wr .i64 (i+1),l2,()));bif v3 then k (x.Rank==rank) else k false;bif v then k5 (decide (x.Asleep≤day)) else k5 false;bif x.State==1 then k6 (x.Record==record) else k6 false|none =>none else some (.inr ((l,record,day,rank,l2,())))
def d2q:((List Hold)×Int×Int×Int×(List Int)×Unit)→Option (((List Hold)×Int×Int×Int×(List Int)×Unit)⊕(((List Int)×Unit))):=fun (l,record,day,rank,l1,_)=>
 bif decide (0≤rank) then match b8 b8u (l,record,day,rank,0,l1,()) with|some ((l7,record8,day9,rank10,l11,_)) =>some (.inl (l7,record8,day9,wr .i64 (rank10-1),l11,()))|none =>none else some (.inr ((l1,())))
def qgs (l:List Hold) (record:Int) (day:Int):Option (List Int):=
 match b8 d2q (l,record,day,9,([]:List Int),()) with|some ((l12,_)) =>some l12|none =>none
def c5l:((List Hold)×Int×Int×Hold×Unit)→Option (((List Hold)×Int×Int×Hold×Unit)⊕((Hold×Unit)⊕(Bool×Hold×Unit))):=fun (l,vid,i,v,_)=>
 bif decide (i<(l.length:Int)) then match m7 l i with|some x =>bif x.ID==vid then match m7 l i with|some x1 =>some (.inr (.inr (true,x1,())))|none =>none else some (.inl (l,vid,wr .i64 (i+1),v,()))|none =>none else some (.inr (.inl (v,())))
def qhp (l:List Hold) (vid:Int):Option (Hold×Bool):=
 match b8 c5l (l,vid,0,(⟨0,0,0,0,0,0,0,0,0,0,0⟩:Hold),()) with|some (.inl (v,_)) =>some ((⟨0,0,0,0,0,0,0,0,0,0,0⟩:Hold),false)|some (.inr (v2,v3,_)) =>some (v3,v2)|none =>none
def c5g:((List Hold)×Int×Bool×(List Int)×Int×Int×Item×Unit)→Option (((List Hold)×Int×Bool×(List Int)×Int×Int×Item×Unit)⊕((Int×Unit)⊕(Int×Unit))):=fun (l,branch,vlocal,q,first,i,x,_)=>
 bif decide (i<(q.length:Int)) then match m7 q i with|some x2 =>(match qhp l x2 with|some (r3,r4) =>let k8 (v:Bool):Option (((List Hold)×Int×Bool×(List Int)×Int×Int×Item×Unit)⊕((Int×Unit)⊕(Int×Unit))):=bif v then some (.inl (l,branch,vlocal,q,first,wr .i64 (i+1),x,())) else let k7 (v5:Bool):Option (((List Hold)×Int×Bool×(List Int)×Int×Int×Item×Unit)⊕((Int×Unit)⊕(Int×Unit))):=bif v5 then some (.inr (.inr (r3.ID,()))) else let k (first6:Int):Option (((List Hold)×Int×Bool×(List Int)×Int×Int×Item×Unit)⊕((Int×Unit)⊕(Int×Unit))):=some (.inl (l,branch,vlocal,q,first6,wr .i64 (i+1),x,()));bif first==0 then k r3.ID else k first;bif vlocal then k7 (r3.Pickup==branch) else k7 false;bif !(r3.Item==0) then k8 (!(r3.Item==x.ID)) else k8 false|none =>none)|none =>none else some (.inr (.inl (first,())))
def qhc (l:List Hold) (x:Item) (branch:Int) (day:Int) (vlocal:Bool):Option Int:=
 match qgs l x.Record day with|some r1 =>(match b8 c5g (l,branch,vlocal,r1,0,0,x,()) with|some (.inl (first,_)) =>some first|some (.inr (v,_)) =>some v|none =>none)|none =>none
def qg1 (c:Circ) (item:Int):Option Int:=
 match qs c item with|some r1 =>(match m7 c.Items r1 with|some x =>(match qhc c.Holds x x.Custody.Branch c.Today c.Local with|some r3 =>some r3|none =>none)|none =>none)|none =>none
def c5j:((List Charge)×Int×Int×Int×Unit)→Option (((List Charge)×Int×Int×Int×Unit)⊕((Int×Unit))):=fun (l,patron,n,i,_)=>
 bif decide (i<(l.length:Int)) then match m7 l i with|some x =>let k (n3:Int):Option (((List Charge)×Int×Int×Int×Unit)⊕((Int×Unit))):=some (.inl (l,patron,n3,wr .i64 (i+1),()));bif x.Patron==patron then match m7 l i with|some x1 =>(match m7 l i with|some x2 =>k (wr .i64 ((wr .i64 (n+x1.Amount))-x2.Paid))|none =>none)|none =>none else k n|none =>none else some (.inr ((n,())))
def qhg (l:List Charge) (patron:Int):Option Int:=
 match b8 c5j (l,patron,0,0,()) with|some ((n,_)) =>some n|none =>none
def c5i:((List Loan)×Int×Int×Int×Int×Unit)→Option (((List Loan)×Int×Int×Int×Int×Unit)⊕((Int×Unit))):=fun (l,patron,day,k,i,_)=>
 bif decide (i<(l.length:Int)) then match m7 l i with|some x =>let k4 (v:Bool):Option (((List Loan)×Int×Int×Int×Int×Unit)⊕((Int×Unit))):=let k3 (k2:Int):Option (((List Loan)×Int×Int×Int×Int×Unit)⊕((Int×Unit))):=some (.inl (l,patron,day,k2,wr .i64 (i+1),()));bif v then k3 (wr .i64 (k+1)) else k3 k;bif x.Patron==patron then match m7 l i with|some x1 =>k4 (decide (x1.Due<day))|none =>none else k4 false|none =>none else some (.inr ((k,())))
def qhe (l:List Loan) (patron:Int) (day:Int):Option Int:=
 match b8 c5i (l,patron,day,0,0,()) with|some ((k,_)) =>some k|none =>none
def qgd (p:Patron) (day:Int) (a8p:Int) (late:Int):Option (List Int):=
 bif p.Stopped then bif decide (([]:List Int).length+([1]:List Int).length≤LIM) then bif decide (p.Until<day) then bif decide ((([])++([1]:List Int)).length+([2]:List Int).length≤LIM) then bif decide (1000<a8p) then bif decide (((([])++([1]:List Int))++([2]:List Int)).length+([3]:List Int).length≤LIM) then bif decide (2<late) then bif decide ((((([])++([1]:List Int))++([2]:List Int))++([3]:List Int)).length+([4]:List Int).length≤LIM) then some ((((([])++([1]:List Int))++([2]:List Int))++([3]:List Int))++([4]:List Int)) else none else some (((([])++([1]:List Int))++([2]:List Int))++([3]:List Int)) else none else bif decide (2<late) then bif decide (((([])++([1]:List Int))++([2]:List Int)).length+([4]:List Int).length≤LIM) then some (((([])++([1]:List Int))++([2]:List Int))++([4]:List Int)) else none else some ((([])++([1]:List Int))++([2]:List Int)) else none else bif decide (1000<a8p) then bif decide ((([])++([1]:List Int)).length+([3]:List Int).length≤LIM) then bif decide (2<late) then bif decide (((([])++([1]:List Int))++([3]:List Int)).length+([4]:List Int).length≤LIM) then some (((([])++([1]:List Int))++([3]:List Int))++([4]:List Int)) else none else some ((([])++([1]:List Int))++([3]:List Int)) else none else bif decide (2<late) then bif decide ((([])++([1]:List Int)).length+([4]:List Int).length≤LIM) then some ((([])++([1]:List Int))++([4]:List Int)) else none else some (([])++([1]:List Int)) else none else bif decide (p.Until<day) then bif decide (([]:List Int).length+([2]:List Int).length≤LIM) then bif decide (1000<a8p) then bif decide ((([])++([2]:List Int)).length+([3]:List Int).length≤LIM) then bif decide (2<late) then bif decide (((([])++([2]:List Int))++([3]:List Int)).length+([4]:List Int).length≤LIM) then some (((([])++([2]:List Int))++([3]:List Int))++([4]:List Int)) else none else some ((([])++([2]:List Int))++([3]:List Int)) else none else bif decide (2<late) then bif decide ((([])++([2]:List Int)).length+([4]:List Int).length≤LIM) then some ((([])++([2]:List Int))++([4]:List Int)) else none else some (([])++([2]:List Int)) else none else bif decide (1000<a8p) then bif decide (([]:List Int).length+([3]:List Int).length≤LIM) then bif decide (2<late) then bif decide ((([])++([3]:List Int)).length+([4]:List Int).length≤LIM) then some ((([])++([3]:List Int))++([4]:List Int)) else none else some (([])++([3]:List Int)) else none else bif decide (2<late) then bif decide (([]:List Int).length+([4]:List Int).length≤LIM) then some (([])++([4]:List Int)) else none else some ([])
def qf8 (c:Circ) (patron:Int):Option Bool:=
 match qcf c.Patrons patron with|some (r1,r2) =>(match qhg c.Charges patron with|some r4 =>(match qhe c.Loans patron c.Today with|some r6 =>(match qgd r1 c.Today r4 r6 with|some r8 =>some (decide (0<(r8.length:Int)))|none =>none)|none =>none)|none =>none)|none =>none
def qhi (r:Rule) (patron:Int) (item:Int) (branch:Int):Option Bool:=
 let k6 (v:Bool):Option Bool:=let k5 (v2:Bool):Option Bool:=let k (v4:Bool):Option Bool:=some v4;bif v2 then bif r.Branch==0 then k true else k (r.Branch==branch) else k false;bif v then bif r.Item==0 then k5 true else k5 (r.Item==item) else k5 false;bif r.Patron==0 then k6 true else k6 (r.Patron==patron)
def qgl (r:Rule):Option Int:=
 let k4 (n:Int):Option Int:=let k3 (n1:Int):Option Int:=let k (n2:Int):Option Int:=some n2;bif !(r.Branch==0) then k (wr .i64 (n1+1)) else k n1;bif !(r.Item==0) then k3 (wr .i64 (n+2)) else k3 n;bif !(r.Patron==0) then k4 4 else k4 0
def b8v:((List Rule)×Int×Int×Int×Int×Int×Unit)→Option (((List Rule)×Int×Int×Int×Int×Int×Unit)⊕((Int×Unit))):=fun (l,patron,item,branch,best,i,_)=>
 bif decide (i<(l.length:Int)) then match m7 l i with|some x =>(match qhi x patron item branch with|some r1 =>let k10 (v8:Bool):Option (((List Rule)×Int×Int×Int×Int×Int×Unit)⊕((Int×Unit))):=let k (best9:Int):Option (((List Rule)×Int×Int×Int×Int×Int×Unit)⊕((Int×Unit))):=some (.inl (l,patron,item,branch,best9,wr .i64 (i+1),()));bif v8 then k i else k best;bif r1 then bif decide (best<0) then k10 true else match m7 l i with|some x2 =>(match qgl x2 with|some r4 =>(match m7 l best with|some x5 =>(match qgl x5 with|some r7 =>k10 (decide (r7<r4))|none =>none)|none =>none)|none =>none)|none =>none else k10 false|none =>none)|none =>none else some (.inr ((best,())))
def qgw (l:List Rule) (patron:Int) (item:Int) (branch:Int):Option Int:=
 match b8 b8v (l,patron,item,branch,(-1),0,()) with|some ((best,_)) =>some best|none =>none
def qhj (l:List Rule) (patron:Int) (item:Int) (branch:Int):Option (Rule×Bool):=
 match qgw l patron item branch with|some r1 =>(bif decide (r1<0) then some ((⟨0,0,0,0,0,0,0,0,0,0,0,0,0⟩:Rule),false) else match m7 l r1 with|some x =>some (x,true)|none =>none)|none =>none
def qg0 (c:Circ) (patron:Int) (x:Item):Option (Rule×Bool):=
 match qcf c.Patrons patron with|some (r1,r2) =>(bif !r2 then some ((⟨0,0,0,0,0,0,0,0,0,0,0,0,0⟩:Rule),false) else match qhj c.Rules r1.Kind x.Kind x.Branch with|some (r4,r5) =>some (r4,r5)|none =>none)|none =>none
def c5n:((List Loan)×Int×Int×(List Loan)×Unit)→Option (((List Loan)×Int×Int×(List Loan)×Unit)⊕(((List Loan)×Unit))):=fun (l,patron,i,l1,_)=>
 bif decide (i<(l.length:Int)) then match m7 l i with|some x =>bif x.Patron==patron then match m7 l i with|some x2 =>bif decide (l1.length+([x2]:List Loan).length≤LIM) then some (.inl (l,patron,wr .i64 (i+1),l1++([x2]:List Loan),())) else none|none =>none else some (.inl (l,patron,wr .i64 (i+1),l1,()))|none =>none else some (.inr ((l1,())))
def qhu (l:List Loan) (patron:Int):Option (List Loan):=
 match b8 c5n (l,patron,0,[],()) with|some ((l3,_)) =>some l3|none =>none
def qhm (c:Circ) (branch:Int):Option Calendar:=
 let k (v:Int) (v1:List Int):Option Calendar:=some (⟨v,v1⟩:Calendar);bif (wr .i64 (branch-1))==0 then k c.Cals.x0.Week c.Cals.x0.Closed else bif (wr .i64 (branch-1))==1 then k c.Cals.x1.Week c.Cals.x1.Closed else bif (wr .i64 (branch-1))==2 then k c.Cals.x2.Week c.Cals.x2.Closed else bif (wr .i64 (branch-1))==3 then k c.Cals.x3.Week c.Cals.x3.Closed else none
def qhv (day:Int):Option Bool:=
 let k (v:Bool):Option Bool:=some v;bif decide (0≤day) then k (decide (day≤109572)) else k false
def qge (day:Int):Option Int:=
 match qhv day with|some r1 =>bif !r1 then some (-1) else some (day.tmod 7)|none =>none
def c5k:(Int×Int×Int×Int×Calendar×Unit)→Option ((Int×Int×Int×Int×Calendar×Unit)⊕((Int×Int×Calendar×Unit))):=fun (day,bit,w,i,c,_)=>
 bif decide (i<w) then some (.inl (day,wr .i64 (bit.tdiv 2),w,wr .i64 (i+1),c,())) else some (.inr ((day,bit,c,())))
def b03:(Int×Int×Calendar×Unit)→Option ((Int×Int×Calendar×Unit)⊕((Unit)⊕(Bool×Unit))):=fun (day,i,c,_)=>
 bif decide (i<(c.Closed.length:Int)) then match m7 c.Closed i with|some x =>bif x==day then some (.inr (.inr (false,()))) else some (.inl (day,wr .i64 (i+1),c,()))|none =>none else some (.inr (.inl (())))
def qhk (c:Calendar) (day:Int):Option Bool:=
 let k (v:Bool):Option Bool:=bif v then some false else match qge day with|some r1 =>(match b8 c5k (day,c.Week,r1,0,c,()) with|some ((h7a,bit,c3,_)) =>(bif (bit.tmod 2)==1 then some false else match b8 b03 (h7a,0,c3,()) with|some (.inl (_)) =>some true|some (.inr (v4,_)) =>some v4|none =>none)|none =>none)|none =>none;bif decide (day<0) then k true else k (decide (109572<day))
def b1m:(Int×Calendar×Unit)→Option ((Int×Calendar×Unit)⊕((Unit)⊕(Int×Int×Unit))):=fun (d,c,_)=>
 bif decide (d≤109572) then match qhk c d with|some r1 =>bif r1 then some (.inr (.inr (d,0,()))) else some (.inl (wr .i64 (d+1),c,()))|none =>none else some (.inr (.inl (())))
def qhl (c:Calendar) (day:Int):Option (Int×Int):=
 match b8 b1m ((if day<0 then 0 else day),c,()) with|some (.inl (_)) =>some (0,2)|some (.inr (v,v2,_)) =>some (v,v2)|none =>none
def c5b:(Int×Calendar×Unit)→Option ((Int×Calendar×Unit)⊕((Unit)⊕(Int×Int×Unit))):=fun (d,c,_)=>
 bif decide (0≤d) then match qhk c d with|some r1 =>bif r1 then some (.inr (.inr (d,0,()))) else some (.inl (wr .i64 (d-1),c,()))|none =>none else some (.inr (.inl (())))
def qgm (c:Calendar) (day:Int):Option (Int×Int):=
 match b8 c5b ((if 109572<day then 109572 else day),c,()) with|some (.inl (_)) =>some (0,2)|some (.inr (v,v2,_)) =>some (v,v2)|none =>none
def qht (r:Rule) (c:Calendar) (day:Int) (vuntil:Int):Option (Int×Int):=
 match qbi day 0 109572 with|some r2 =>(let k16 (v:Bool):Option (Int×Int):=bif v then some (0,2) else bif r.Days==0 then some (0,15) else let k15 (last:Int):Option (Int×Int):=bif decide (last≤day) then some (0,15) else match qhl c (if last<wr .i64 (day+r.Days) then last else wr .i64 (day+r.Days)) with|some (r6,r7) =>let k14 (v8:Bool):Option (Int×Int):=let k13 (d:Int) (e:Int):Option (Int×Int):=let k (v12:Bool):Option (Int×Int):=bif v12 then some (0,15) else some (d,0);bif !(e==0) then k true else k (decide (d≤day));bif v8 then match qgm c last with|some (r10,r11) =>k13 r10 r11|none =>none else k13 r6 r7;bif !(r7==0) then k14 true else k14 (decide (last<r6))|none =>none;bif decide (0<r.Fixed) then k15 (if r.Fixed<vuntil then r.Fixed else vuntil) else k15 vuntil;bif !r2 then k16 true else match qbi vuntil 0 109572 with|some r4 =>k16 (!r4)|none =>none)|none =>none
def qf6 (c:Circ) (item:Int) (patron:Int) (branch:Int):Option (Int×Int):=
 match qs c item with|some r1 =>(match qcf c.Patrons patron with|some (r3,r4) =>let k30 (v:Bool):Option (Int×Int):=bif v then some (0,9) else match m7 c.Items r1 with|some x =>let k29 (v5:Bool):Option (Int×Int):=bif v5 then some (0,12) else bif !(x.Custody.Branch==branch) then some (0,1) else let k28 (v6:Bool):Option (Int×Int):=bif v6 then some (0,16) else match qg1 c item with|some r8 =>let k27 (v9:Bool):Option (Int×Int):=let k26 (_:Unit):Option (Int×Int):=match qf8 c patron with|some r14 =>(bif r14 then some (0,14) else match qg0 c patron x with|some (r16,r17) =>(let k (v20:Bool):Option (Int×Int):=bif v20 then some (0,15) else match qhm c branch with|some r22 =>(match qht r16 r22 c.Today r3.Until with|some (r24,r25) =>some (r24,r25)|none =>none)|none =>none;bif !r17 then k true else match qhu c.Loans patron with|some r19 =>k (decide (r16.Loans≤(r19.length:Int)))|none =>none)|none =>none)|none =>none;bif v9 then match qhp c.Holds r8 with|some (r11,r12) =>bif !(r11.Patron==patron) then some (0,16) else k26 ()|none =>none else k26 ();bif x.Custody.State==3 then k27 (!(r8==0)) else k27 false|none =>none;bif x.Custody.State==5 then k28 (!(x.Custody.Who==patron)) else k28 false;bif !(x.Custody.State==3) then k29 (!(x.Custody.State==5)) else k29 false|none =>none;bif decide (r1<0) then k30 true else k30 (!r4)|none =>none)|none =>none
def b02:(Int×Int×Circ×Circ×Move×Custody×(List Item)×Unit)→Option ((Int×Int×Circ×Circ×Move×Custody×(List Item)×Unit)⊕((Circ×Circ×Move×(List Item)×Unit))):=fun (i,k,c,v,m,u,l,_)=>
 bif decide (k<(c.Items.length:Int)) then match m7 c.Items k with|some x =>let k6 (x5:Item):Option ((Int×Int×Circ×Circ×Move×Custody×(List Item)×Unit)⊕((Circ×Circ×Move×(List Item)×Unit))):=bif decide (l.length+([x5]:List Item).length≤LIM) then some (.inl (i,wr .i64 (k+1),c,v,m,u,l++([x5]:List Item),())) else none;bif k==i then k6 (⟨x.ID,x.Record,x.Branch,x.Kind,x.Price,x.Call,u⟩:Item) else k6 x|none =>none else some (.inr ((c,v,m,l,())))
def qgo (c:Circ) (item:Int) (kind:Int) (branch:Int) (who:Int):Option (Circ×Int):=
 match qs c item with|some r1 =>(match m7 c.Items r1 with|some x =>(match qc0 x.Custody (⟨c.Today,item,kind,branch,who⟩:Move) with|some (r3,r4) =>(bif !(r4==0) then some (ZN,r4) else bif decide (2000≤(c.Moves.length:Int)) then some (ZN,13) else match b8 b02 (r1,0,c,ZN,(⟨c.Today,item,kind,branch,who⟩:Move),r3,([]:List Item),()) with|some ((c7,v,m,l,_)) =>bif decide (c7.Moves.length≤LIM) then bif decide (c7.Moves.length+([m]:List Move).length≤LIM) then some ({c7 with Items:=l,Moves:=c7.Moves++([m]:List Move)},0) else none else none|none =>none)|none =>none)|none =>none)|none =>none
def qgc (l:List Loan):Option ((List Loan)×Int):=
 match qaq l with|some r1 =>bif !(r1==0) then some ([],r1) else some (l,0)|none =>none
def b8z:((List Loan)×Int×Loan×Unit)→Option (((List Loan)×Int×Loan×Unit)⊕(((List Loan)×Int×Loan×Unit))):=fun (l,k,n,_)=>
 let k2 (v:Bool):Option (((List Loan)×Int×Loan×Unit)⊕(((List Loan)×Int×Loan×Unit))):=bif v then some (.inl (l,wr .i64 (k+1),n,())) else some (.inr ((l,k,n,())));bif decide (k<(l.length:Int)) then match m7 l k with|some x =>k2 (decide (x.Item<n.Item))|none =>none else k2 false
def qhq (l:List Loan) (n:Loan):Option ((List Loan)×Int):=
 match qal l n.Item with|some r1 =>(bif decide (0≤r1) then some ([],7) else match b8 b8z (l,0,n,()) with|some ((l3,k,n4,_)) =>bif decide (0≤(0:Int))&&(decide ((0:Int)≤k)&&decide (k≤(l3.length:Int))) then bif decide (([]:List Loan).length+((l3.take k.toNat).drop (0:Int).toNat).length≤LIM) then bif decide ((([])++((l3.take k.toNat).drop (0:Int).toNat)).length+([n4]:List Loan).length≤LIM) then bif decide (0≤(k:Int))&&(decide ((k:Int)≤(l3.length:Int))&&decide ((l3.length:Int)≤(l3.length:Int))) then bif decide (((([])++((l3.take k.toNat).drop (0:Int).toNat))++([n4]:List Loan)).length+((l3.take (l3.length:Int).toNat).drop (k:Int).toNat).length≤LIM) then match qgc (((([])++((l3.take k.toNat).drop (0:Int).toNat))++([n4]:List Loan))++((l3.take (l3.length:Int).toNat).drop (k:Int).toNat)) with|some (r6,r7) =>some (r6,r7)|none =>none else none else none else none else none else none|none =>none)|none =>none
def qg3 (h:Hold) (x:Item):Option Bool:=
 let k (v1:Bool):Option Bool:=some v1;bif h.Record==x.Record then bif h.Item==0 then k true else k (h.Item==x.ID) else k false
def c48:((List Hold)×Int×Int×Hold×Hold×(List Hold)×Unit)→Option (((List Hold)×Int×Int×Hold×Hold×(List Hold)×Unit)⊕((Hold×Hold×(List Hold)×Unit))):=fun (l,vid,i,v,h,l3,_)=>
 bif decide (i<(l.length:Int)) then match m7 l i with|some x =>bif !(x.ID==vid) then match m7 l i with|some x4 =>bif decide (l3.length+([x4]:List Hold).length≤LIM) then some (.inl (l,vid,wr .i64 (i+1),v,h,l3++([x4]:List Hold),())) else none|none =>none else some (.inl (l,vid,wr .i64 (i+1),v,h,l3,()))|none =>none else some (.inr ((v,h,l3,())))
def qgi (l:List Hold) (vid:Int):Option ((List Hold)×Hold×Int):=
 match qhp l vid with|some (r1,r2) =>(bif !r2 then some ([],(⟨0,0,0,0,0,0,0,0,0,0,0⟩:Hold),9) else match b8 c48 (l,vid,0,(⟨0,0,0,0,0,0,0,0,0,0,0⟩:Hold),r1,([]:List Hold),()) with|some ((v,h,l5,_)) =>some (l5,h,0)|none =>none)|none =>none
def a2d:(Int×Int×Bool×Int×Circ×Circ×Item×Hold×Unit)→Option ((Int×Int×Bool×Int×Circ×Circ×Item×Hold×Unit)⊕((Int×Bool×Circ×Circ×Hold×Unit))):=fun (patron,due,has,i,c,v,x,h,_)=>
 let k20 (v14:Bool):Option ((Int×Int×Bool×Int×Circ×Circ×Item×Hold×Unit)⊕((Int×Bool×Circ×Circ×Hold×Unit))):=bif v14 then match m7 c.Holds i with|some x15 =>let k19 (v16:Bool):Option ((Int×Int×Bool×Int×Circ×Circ×Item×Hold×Unit)⊕((Int×Bool×Circ×Circ×Hold×Unit))):=let k (v18:Bool):Option ((Int×Int×Bool×Int×Circ×Circ×Item×Hold×Unit)⊕((Int×Bool×Circ×Circ×Hold×Unit))):=some (.inl (patron,due,v18,wr .i64 (i+1),c,v,x,x15,()));bif v16 then match qg3 x15 x with|some r17 =>k r17|none =>none else k false;bif x15.Patron==patron then k19 (x15.State==1) else k19 false|none =>none else some (.inr ((due,has,c,v,h,())));bif decide (i<(c.Holds.length:Int)) then k20 (!has) else k20 false
def qg8 (c:Circ) (item:Int) (patron:Int) (branch:Int):Option (Circ×Int×Int):=
 match qf6 c item patron branch with|some (r1,r2) =>(bif !(r2==0) then some (ZN,0,r2) else match qs c item with|some r4 =>(match m7 c.Items r4 with|some x =>(match qgo c item 3 branch patron with|some (r6,r7) =>(bif !(r7==0) then some (ZN,0,r7) else match qhq r6.Loans (⟨item,patron,r6.Today,r1,0,false⟩:Loan) with|some (r9,r10) =>(bif !(r10==0) then some (ZN,0,r10) else match qav {r6 with Loans:=r9} item with|some (r12,r13) =>(match b8 a2d (patron,r1,r13,0,{r6 with Loans:=r9},ZN,x,r12,()) with|some ((due,has,c21,v,h,_)) =>let k (c26:List Hold):Option (Circ×Int×Int):=some ({c21 with Holds:=c26},due,0);bif has then match qgi c21.Holds h.ID with|some (r23,r24,r25) =>bif !(r25==0) then some (ZN,0,r25) else k r23|none =>none else k c21.Holds|none =>none)|none =>none)|none =>none)|none =>none)|none =>none)|none =>none)|none =>none
def qhf (l:List Loan) (item:Int):Option ((List Loan)×Loan×Int):=
 match qal l item with|some r1 =>bif decide (r1<0) then some ([],(⟨0,0,0,0,0,false⟩:Loan),9) else bif decide (0≤(0:Int))&&(decide ((0:Int)≤r1)&&decide (r1≤(l.length:Int))) then bif decide (([]:List Loan).length+((l.take r1.toNat).drop (0:Int).toNat).length≤LIM) then bif decide (0≤(wr .i64 (r1+1):Int))&&(decide ((wr .i64 (r1+1):Int)≤(l.length:Int))&&decide ((l.length:Int)≤(l.length:Int))) then bif decide ((([])++((l.take r1.toNat).drop (0:Int).toNat)).length+((l.take (l.length:Int).toNat).drop (wr .i64 (r1+1):Int).toNat).length≤LIM) then match m7 l r1 with|some x =>some ((([])++((l.take r1.toNat).drop (0:Int).toNat))++((l.take (l.length:Int).toNat).drop (wr .i64 (r1+1):Int).toNat),x,0)|none =>none else none else none else none else none|none =>none
def b8x:(Int×Int×Int×Calendar×Unit)→Option ((Int×Int×Int×Calendar×Unit)⊕((Int×Unit))):=fun (vto,n,d,c,_)=>
 bif decide (d≤(if 109572<vto then 109572 else vto)) then match qhk c d with|some r1 =>let k (n2:Int):Option ((Int×Int×Int×Calendar×Unit)⊕((Int×Unit))):=some (.inl (vto,n2,wr .i64 (d+1),c,()));bif r1 then k (wr .i64 (n+1)) else k n|none =>none else some (.inr ((n,())))
def qgz (c:Calendar) (vfrom:Int) (vto:Int):Option Int:=
 match b8 b8x (vto,0,(if vfrom<0 then 0 else vfrom),c,()) with|some ((n,_)) =>some n|none =>none
def qhh (r:Rule) (c:Calendar) (due:Int) (back:Int):Option Int:=
 match qw c with|some r2 =>(let k10 (v:Bool):Option Int:=let k (v7:Bool):Option Int:=bif v7 then some 0 else match qgz c (wr .i64 (due+1)) back with|some r9 =>bif decide (r9≤r.Grace) then some 0 else some (if r.MaxFine<wr .i64 (r9*r.Fine) then r.MaxFine else wr .i64 (r9*r.Fine))|none =>none;bif v then k true else match qfd back with|some r6 =>k (!r6)|none =>none;bif !(r2==0) then k10 true else match qfd due with|some r4 =>k10 (!r4)|none =>none)|none =>none
def c5m:((List Charge)×Int×Charge×(List Charge)×Unit)→Option (((List Charge)×Int×Charge×(List Charge)×Unit)⊕((Charge×(List Charge)×Unit))):=fun (l,i,c,l1,_)=>
 bif decide (i<(l.length:Int)) then match m7 l i with|some x =>bif decide (l1.length+([x]:List Charge).length≤LIM) then some (.inl (l,wr .i64 (i+1),c,l1++([x]:List Charge),())) else none|none =>none else some (.inr ((c,l1,())))
def qhs (l:List Charge) (c:Charge):Option ((List Charge)×Int):=
 match b8 c5m (l,0,c,([]:List Charge),()) with|some ((c2,l3,_)) =>bif decide (l3.length+([c2]:List Charge).length≤LIM) then match qa3 (l3++([c2]:List Charge)) with|some r4 =>bif !(r4==0) then some ([],r4) else some (l3++([c2]:List Charge),0)|none =>none else none|none =>none
def qf7 (c:Circ) (patron:Int) (item:Int) (kind:Int) (amount:Int):Option (Circ×Int):=
 bif decide (99999<c.NextCharge) then some (ZN,13) else match qhs c.Charges (⟨c.NextCharge,patron,item,c.Today,kind,amount,0⟩:Charge) with|some (r1,r2) =>bif !(r2==0) then some (ZN,r2) else some ({c with Charges:=r1,NextCharge:=wr .i64 (c.NextCharge+1)},0)|none =>none
def c5a:((List Charge)×Int×Int×Int×Int×Int×(List Charge)×Unit)→Option (((List Charge)×Int×Int×Int×Int×Int×(List Charge)×Unit)⊕((Int×(List Charge)×Unit))):=fun (l,patron,item,kind,paid,i,l1,_)=>
 bif decide (i<(l.length:Int)) then match m7 l i with|some x =>let k4 (v:Bool):Option (((List Charge)×Int×Int×Int×Int×Int×(List Charge)×Unit)⊕((Int×(List Charge)×Unit))):=let k (v3:Bool):Option (((List Charge)×Int×Int×Int×Int×Int×(List Charge)×Unit)⊕((Int×(List Charge)×Unit))):=bif v3 then some (.inl (l,patron,item,kind,wr .i64 (paid+x.Paid),wr .i64 (i+1),l1,())) else bif decide (l1.length+([x]:List Charge).length≤LIM) then some (.inl (l,patron,item,kind,paid,wr .i64 (i+1),l1++([x]:List Charge),())) else none;bif v then bif kind==0 then k true else k (x.Kind==kind) else k false;bif x.Patron==patron then k4 (x.Item==item) else k4 false|none =>none else some (.inr ((paid,l1,())))
def qgk (l:List Charge) (patron:Int) (item:Int) (kind:Int):Option ((List Charge)×Int):=
 match b8 c5a (l,patron,item,kind,0,0,([]:List Charge),()) with|some ((paid,l5,_)) =>some (l5,paid)|none =>none
def qf3 (c:Circ) (item:Int) (branch:Int):Option (Circ×Int):=
 match qgo c item 4 branch 0 with|some (r1,r2) =>(bif !(r2==0) then some (ZN,r2) else match qhf r1.Loans item with|some (r4,r5,r6) =>(bif !(r6==0) then some (ZN,r6) else match qs {r1 with Loans:=r4} item with|some r8 =>(match m7 r1.Items r8 with|some x =>(match qg0 {r1 with Loans:=r4} r5.Patron x with|some (r10,r11) =>let k23 (fine:Int):Option (Circ×Int):=let k (c19:Circ):Option (Circ×Int):=match qgk c19.Charges r5.Patron item 2 with|some (r21,r22) =>some ({c19 with Charges:=r21},0)|none =>none;bif decide (0<fine) then match qf7 {r1 with Loans:=r4} r5.Patron item 1 fine with|some (r17,r18) =>bif !(r18==0) then some (ZN,r18) else k r17|none =>none else k {r1 with Loans:=r4};bif r11 then match qhm {r1 with Loans:=r4} branch with|some r13 =>(match qhh r10 r13 r5.Due r1.Today with|some r15 =>k23 r15|none =>none)|none =>none else k23 0|none =>none)|none =>none)|none =>none)|none =>none)|none =>none
def b8w:(Int×Int×Int×Calendar×Unit)→Option ((Int×Int×Int×Calendar×Unit)⊕((Int×Unit)⊕(Int×Int×Unit))):=fun (n,d,i,c,_)=>
 bif decide (i<n) then match qhl c (wr .i64 (d+1)) with|some (r4,r5) =>bif !(r5==0) then some (.inr (.inr (0,r5,()))) else some (.inl (n,r4,wr .i64 (i+1),c,()))|none =>none else some (.inr (.inl (d,())))
def qgy (c:Calendar) (day:Int) (n:Int):Option (Int×Int):=
 let k8 (v:Bool):Option (Int×Int):=bif v then some (0,1) else let k (v1:Bool):Option (Int×Int):=bif v1 then some (0,2) else bif n==0 then match qhl c day with|some (r2,r3) =>some (r2,r3)|none =>none else match b8 b8w (n,day,0,c,()) with|some (.inl (d,_)) =>some (d,0)|some (.inr (v6,v7,_)) =>some (v6,v7)|none =>none;bif decide (day<0) then k true else k (decide (109572<day));bif decide (n<0) then k8 true else k8 (decide (1000<n))
def c5f:((List Hold)×Int×Hold×(List Hold)×Unit)→Option (((List Hold)×Int×Hold×(List Hold)×Unit)⊕(((List Hold)×Unit))):=fun (l,i,h,l1,_)=>
 bif decide (i<(l.length:Int)) then match m7 l i with|some x =>(let k (l3:List Hold):Option (((List Hold)×Int×Hold×(List Hold)×Unit)⊕(((List Hold)×Unit))):=some (.inl (l,wr .i64 (i+1),h,l3,()));bif x.ID==h.ID then bif decide (l1.length+([h]:List Hold).length≤LIM) then k (l1++([h]:List Hold)) else none else match m7 l i with|some x2 =>bif decide (l1.length+([x2]:List Hold).length≤LIM) then k (l1++([x2]:List Hold)) else none|none =>none)|none =>none else some (.inr ((l1,())))
def qhb (l:List Hold) (h:Hold):Option (List Hold):=
 match b8 c5f (l,0,h,([]:List Hold),()) with|some ((l4,_)) =>some l4|none =>none
def c5e:((List Hold)×Int×Int×Int×Int×Int×Hold×Unit)→Option (((List Hold)×Int×Int×Int×Int×Int×Hold×Unit)⊕(((List Hold)×Int×Int×Int×Hold×Unit)⊕((List Hold)×Int×Unit))):=fun (l,number,item,state,vuntil,i,h,_)=>
 bif decide (i<(l.length:Int)) then match m7 l i with|some x =>let k (v:Bool):Option (((List Hold)×Int×Int×Int×Int×Int×Hold×Unit)⊕(((List Hold)×Int×Int×Int×Hold×Unit)⊕((List Hold)×Int×Unit))):=bif v then some (.inr (.inr ([],7,()))) else some (.inl (l,number,item,state,vuntil,wr .i64 (i+1),h,()));bif !(x.ID==number) then match m7 l i with|some x16 =>k (x16.Got==item)|none =>none else k false|none =>none else some (.inr (.inl (l,item,state,vuntil,h,())))
def qgu (l:List Hold) (number:Int) (item:Int) (state:Int) (vuntil:Int):Option ((List Hold)×Int):=
 match qhp l number with|some (r1,r2) =>(bif !r2 then some ([],9) else match qen item with|some r4 =>let k28 (v5:Bool):Option ((List Hold)×Int):=let k27 (v10:Bool):Option ((List Hold)×Int):=let k26 (v12:Bool):Option ((List Hold)×Int):=bif v12 then some ([],1) else let k25 (v15:Bool):Option ((List Hold)×Int):=bif v15 then some ([],12) else match b8 c5e (l,number,item,state,vuntil,0,r1,()) with|some (.inl (l17,item18,state19,vuntil20,h,_)) =>(match qhb l17 (⟨h.ID,h.Patron,h.Record,h.Item,h.Pickup,h.Placed,state19,item18,vuntil20,h.Asleep,h.Rank⟩:Hold) with|some r22 =>some (r22,0)|none =>none)|some (.inr (v23,v24,_)) =>some (v23,v24)|none =>none;bif !(r1.State==1) then let k (v13:Bool):Option ((List Hold)×Int):=bif v13 then k25 true else k25 (!(state==3));bif !(r1.State==2) then k true else k (!(r1.Got==item)) else k25 false;bif v10 then k26 true else bif state==2 then k26 (!(vuntil==0)) else k26 false;bif v5 then k27 true else bif state==3 then bif decide (vuntil<1) then k27 true else match qe3 vuntil with|some r7 =>k27 (!r7)|none =>none else k27 false;bif !r4 then k28 true else bif !(state==2) then k28 (!(state==3)) else k28 false|none =>none)|none =>none
def qgn (c:Circ) (item:Int) (h:Hold):Option (Circ×Int):=
 match qs c item with|some r1 =>(match m7 c.Items r1 with|some x =>(match qg0 c h.Patron x with|some (r3,r4) =>let k (days:Int):Option (Circ×Int):=match qgo c item 5 x.Custody.Branch h.Patron with|some (r6,r7) =>(bif !(r7==0) then some (ZN,r7) else match qhm r6 x.Custody.Branch with|some r9 =>(match qgy r9 r6.Today days with|some (r11,r12) =>(bif !(r12==0) then some (ZN,r12) else match qgu r6.Holds h.ID item 3 r11 with|some (r14,r15) =>bif !(r15==0) then some (ZN,r15) else some ({r6 with Holds:=r14},0)|none =>none)|none =>none)|none =>none)|none =>none;bif r4 then k r3.Shelf else k 7|none =>none)|none =>none)|none =>none
def qg4 (c:Circ) (item:Int):Option (Circ×Int):=
 match qs c item with|some r1 =>(match m7 c.Items r1 with|some x =>(match qg1 c item with|some r3 =>(let k (v:Int) (v10:Circ):Option (Circ×Int):=some (v10,v);bif r3==0 then bif !(x.Branch==x.Custody.Branch) then match qgo c item 6 x.Branch 0 with|some (r5,r6) =>k r6 r5|none =>none else bif x.Custody.State==3 then k 0 c else match qgo c item 2 x.Custody.Branch 0 with|some (r8,r9) =>k r9 r8|none =>none else match qhp c.Holds r3 with|some (r12,r13) =>(bif r12.Pickup==x.Custody.Branch then match qgn c item r12 with|some (r15,r16) =>some (r15,r16)|none =>none else match qgo c item 6 r12.Pickup r12.Patron with|some (r18,r19) =>(bif !(r19==0) then some (ZN,r19) else match qgu r18.Holds r3 item 2 0 with|some (r21,r22) =>bif !(r22==0) then some (ZN,r22) else some ({r18 with Holds:=r21},0)|none =>none)|none =>none)|none =>none)|none =>none)|none =>none)|none =>none
def qha (c:Circ) (item:Int) (branch:Int):Option (Circ×Int×Int):=
 match qs c item with|some r1 =>(bif decide (r1<0) then some (ZN,0,9) else match m7 c.Items r1 with|some x =>(match qer x.Custody with|some r3 =>let k38 (e21:Int) (c22:Circ):Option (Circ×Int×Int):=bif !(e21==0) then some (ZN,0,e21) else match qav c22 item with|some (r24,r25) =>(let k37 (e32:Int) (c33:Circ):Option (Circ×Int×Int):=bif !(e32==0) then some (ZN,0,e32) else match qav c33 item with|some (r35,r36) =>some (c33,r35.ID,0)|none =>none;bif r25 then match qgn c22 item r24 with|some (r27,r28) =>k37 r28 r27|none =>none else match qg4 c22 item with|some (r30,r31) =>k37 r31 r30|none =>none)|none =>none;bif r3 then let k (v:Bool):Option (Circ×Int×Int):=bif v then some (ZN,0,1) else match qf3 c item branch with|some (r5,r6) =>k38 r6 r5|none =>none;bif decide (branch<1) then k true else k (decide (4<branch)) else bif x.Custody.State==8 then match qgo c item 4 branch 0 with|some (r8,r9) =>k38 r9 r8|none =>none else bif x.Custody.State==11 then match qgo c item 14 branch 0 with|some (r11,r12) =>k38 r12 r11|none =>none else bif x.Custody.State==6 then match qgo c item 7 branch 0 with|some (r14,r15) =>k38 r15 r14|none =>none else k38 12 c|none =>none)|none =>none)|none =>none
def qgx (r:Rule) (c:Calendar) (n:Loan) (day:Int) (vuntil:Int):Option (Int×Int):=
 let k (v:Bool):Option (Int×Int):=bif v then some (0,15) else match qht r c day vuntil with|some (r2,r3) =>bif !(r3==0) then some (0,r3) else bif decide (r2≤n.Due) then some (0,15) else some (r2,0)|none =>none;bif decide (r.Renewals≤n.Renewals) then k true else k n.Recalled
def qgv (l:List Loan) (item:Int) (due:Int):Option ((List Loan)×Int):=
 match qal l item with|some r1 =>(bif decide (r1<0) then some ([],9) else match m7 l r1 with|some x =>bif x.Recalled then some ([],12) else bif decide (([]:List Loan).length+l.length≤LIM) then match m7 (([])++l) r1 with|some _ =>(match (([])++l)[r1.toNat]? with|some x2 =>(match m7 l r1 with|some x3 =>(match m7 ((([])++l).set r1.toNat (⟨x2.Item,x2.Patron,x2.Out,due,x2.Renewals,x2.Recalled⟩:Loan)) r1 with|some _ =>(match ((([])++l).set r1.toNat (⟨x2.Item,x2.Patron,x2.Out,due,x2.Renewals,x2.Recalled⟩:Loan))[r1.toNat]? with|some x4 =>(match qgc (((([])++l).set r1.toNat (⟨x2.Item,x2.Patron,x2.Out,due,x2.Renewals,x2.Recalled⟩:Loan)).set r1.toNat (⟨x4.Item,x4.Patron,x4.Out,x4.Due,wr .i64 (x3.Renewals+1),x4.Recalled⟩:Loan)) with|some (r6,r7) =>some (r6,r7)|none =>none)|none =>none)|none =>none)|none =>none)|none =>none)|none =>none else none|none =>none)|none =>none
def a7w:(Int×Int×Circ×Circ×Loan×Item×Unit)→Option ((Int×Int×Circ×Circ×Loan×Item×Unit)⊕((Int×Circ×Circ×Loan×Item×Unit)⊕(Int×Int×Circ×Unit))):=fun (item,i,c,v,n,x,_)=>
 bif decide (i<(c.Holds.length:Int)) then match m7 c.Holds i with|some x7 =>let k11 (v8:Bool):Option ((Int×Int×Circ×Circ×Loan×Item×Unit)⊕((Int×Circ×Circ×Loan×Item×Unit)⊕(Int×Int×Circ×Unit))):=let k (v10:Bool):Option ((Int×Int×Circ×Circ×Loan×Item×Unit)⊕((Int×Circ×Circ×Loan×Item×Unit)⊕(Int×Int×Circ×Unit))):=bif v10 then some (.inr (.inr (0,16,ZN,()))) else some (.inl (item,wr .i64 (i+1),c,v,n,x,()));bif v8 then match qg3 x7 x with|some r9 =>k r9|none =>none else k false;bif x7.State==1 then k11 (decide (x7.Asleep≤c.Today)) else k11 false|none =>none else some (.inr (.inl (item,c,v,n,x,())))
def qgq (c:Circ) (item:Int):Option (Circ×Int×Int):=
 match qdz c.Loans item with|some (r1,r2) =>(bif !r2 then some (ZN,0,9) else match qs c item with|some r4 =>(match m7 c.Items r4 with|some x =>(bif !(x.Custody.State==4) then some (ZN,0,12) else match qf8 c r1.Patron with|some r6 =>(bif r6 then some (ZN,0,14) else match b8 a7w (item,0,c,ZN,r1,x,()) with|some (.inl (item12,c13,v,n,x14,_)) =>(match qg0 c13 n.Patron x14 with|some (r16,r17) =>(bif !r17 then some (ZN,0,15) else match qcf c13.Patrons n.Patron with|some (r19,r20) =>(match qhm c13 x14.Custody.Branch with|some r22 =>(match qgx r16 r22 n c13.Today r19.Until with|some (r24,r25) =>(bif !(r25==0) then some (ZN,0,r25) else match qgv c13.Loans item12 r24 with|some (r27,r28) =>bif !(r28==0) then some (ZN,0,r28) else some ({c13 with Loans:=r27},r24,0)|none =>none)|none =>none)|none =>none)|none =>none)|none =>none)|some (.inr (v29,v30,v31,_)) =>some (v31,v29,v30)|none =>none)|none =>none)|none =>none)|none =>none)|none =>none
def qgj (l:List Loan) (item:Int) (due:Int):Option ((List Loan)×Int):=
 match qal l item with|some r1 =>(bif decide (r1<0) then some ([],9) else match m7 l r1 with|some x =>bif x.Recalled then some ([],12) else let k12 (v:Bool):Option ((List Loan)×Int):=bif v then some ([],2) else bif decide (([]:List Loan).length+l.length≤LIM) then match m7 (([])++l) r1 with|some _ =>(match (([])++l)[r1.toNat]? with|some x2 =>(match m7 l r1 with|some x3 =>let k11 (l5:List Loan):Option ((List Loan)×Int):=match m7 l5 r1 with|some _ =>(match l5[r1.toNat]? with|some x6 =>(match m7 l r1 with|some x7 =>let k (l10:List Loan):Option ((List Loan)×Int):=some (l10,0);bif decide (x6.Due<x7.Out) then match m7 l r1 with|some x8 =>(match m7 l5 r1 with|some _ =>(match l5[r1.toNat]? with|some x9 =>k (l5.set r1.toNat (⟨x9.Item,x9.Patron,x9.Out,x8.Out,x9.Renewals,x9.Recalled⟩:Loan))|none =>none)|none =>none)|none =>none else k l5|none =>none)|none =>none)|none =>none;bif decide (due<x3.Due) then match m7 ((([])++l).set r1.toNat (⟨x2.Item,x2.Patron,x2.Out,x2.Due,x2.Renewals,true⟩:Loan)) r1 with|some _ =>(match ((([])++l).set r1.toNat (⟨x2.Item,x2.Patron,x2.Out,x2.Due,x2.Renewals,true⟩:Loan))[r1.toNat]? with|some x4 =>k11 (((([])++l).set r1.toNat (⟨x2.Item,x2.Patron,x2.Out,x2.Due,x2.Renewals,true⟩:Loan)).set r1.toNat (⟨x4.Item,x4.Patron,x4.Out,due,x4.Renewals,x4.Recalled⟩:Loan))|none =>none)|none =>none else k11 ((([])++l).set r1.toNat (⟨x2.Item,x2.Patron,x2.Out,x2.Due,x2.Renewals,true⟩:Loan))|none =>none)|none =>none)|none =>none else none;bif decide (due<0) then k12 true else k12 (decide (109572<due))|none =>none)|none =>none
def b5h:(Int×Circ×Circ×Hold×Loan×Unit)→Option ((Int×Circ×Circ×Hold×Loan×Unit)⊕((Circ×Circ×Loan×Unit))):=fun (i,c,v,h,best,_)=>
 bif decide (i<(c.Items.length:Int)) then match m7 c.Items i with|some x =>(match qdz c.Loans x.ID with|some (r3,r4) =>let k16 (v5:Bool):Option ((Int×Circ×Circ×Hold×Loan×Unit)⊕((Circ×Circ×Loan×Unit))):=let k15 (v8:Bool):Option ((Int×Circ×Circ×Hold×Loan×Unit)⊕((Circ×Circ×Loan×Unit))):=let k14 (v9:Bool):Option ((Int×Circ×Circ×Hold×Loan×Unit)⊕((Circ×Circ×Loan×Unit))):=let k13 (v11:Bool):Option ((Int×Circ×Circ×Hold×Loan×Unit)⊕((Circ×Circ×Loan×Unit))):=let k (best12:Loan):Option ((Int×Circ×Circ×Hold×Loan×Unit)⊕((Circ×Circ×Loan×Unit))):=some (.inl (wr .i64 (i+1),c,v,h,best12,()));bif v11 then k r3 else k best;bif v9 then bif best.Item==0 then k13 true else k13 (decide (r3.Due<best.Due)) else k13 false;bif v8 then k14 (!r3.Recalled) else k14 false;bif v5 then match qg3 h x with|some r7 =>k15 r7|none =>none else k15 false;bif r4 then k16 (x.Custody.State==4) else k16 false|none =>none)|none =>none else some (.inr ((c,v,best,())))
def qgg (c:Circ) (vid:Int):Option (Circ×Int×Int):=
 match qhp c.Holds vid with|some (r1,r2) =>(bif !r2 then some (ZN,0,9) else bif !(r1.State==1) then some (ZN,0,12) else match b8 b5h (0,c,ZN,r1,(⟨0,0,0,0,0,false⟩:Loan),()) with|some ((c17,v,best,_)) =>(bif best.Item==0 then some (ZN,0,9) else match qs c17 best.Item with|some r19 =>(match m7 c17.Items r19 with|some x =>(match qg0 c17 best.Patron x with|some (r21,r22) =>(bif !r22 then some (ZN,0,15) else match qhm c17 x.Custody.Branch with|some r24 =>(match qgy r24 c17.Today r21.Recall with|some (r26,r27) =>(bif !(r27==0) then some (ZN,0,r27) else match qgj c17.Loans best.Item r26 with|some (r29,r30) =>bif !(r30==0) then some (ZN,0,r30) else some ({c17 with Loans:=r29},best.Item,0)|none =>none)|none =>none)|none =>none)|none =>none)|none =>none)|none =>none)|none =>none)|none =>none
def qf9 (c:Circ) (item:Int) (branch:Int):Option (Circ×Int):=
 match qs c item with|some r1 =>(bif decide (r1<0) then some (ZN,9) else match qgo c item 1 branch 0 with|some (r3,r4) =>(bif !(r4==0) then some (ZN,r4) else match qg4 r3 item with|some (r6,r7) =>some (r6,r7)|none =>none)|none =>none)|none =>none
def qga (c:Circ) (item:Int) (vout:Bool):Option (Circ×Int):=
 match qs c item with|some r1 =>(bif decide (r1<0) then some (ZN,9) else bif vout then match m7 c.Items r1 with|some x =>(match qgo c item 8 x.Custody.Branch 0 with|some (r3,r4) =>some (r3,r4)|none =>none)|none =>none else match m7 c.Items r1 with|some x5 =>(match qgo c item 9 x5.Branch 0 with|some (r7,r8) =>(bif !(r8==0) then some (ZN,r8) else match qg4 r7 item with|some (r10,r11) =>some (r10,r11)|none =>none)|none =>none)|none =>none)|none =>none
def c47:(Int×Int×Int×Circ×Item×Unit)→Option ((Int×Int×Int×Circ×Item×Unit)⊕((Item×Unit)⊕(Bool×Item×Unit))):=fun (record,item,i,c,v,_)=>
 bif decide (i<(c.Items.length:Int)) then match m7 c.Items i with|some x =>let k4 (v1:Bool):Option ((Int×Int×Int×Circ×Item×Unit)⊕((Item×Unit)⊕(Bool×Item×Unit))):=let k (v3:Bool):Option ((Int×Int×Int×Circ×Item×Unit)⊕((Item×Unit)⊕(Bool×Item×Unit))):=bif v3 then some (.inr (.inr (true,x,()))) else some (.inl (record,item,wr .i64 (i+1),c,v,()));bif v1 then bif item==0 then k true else k (x.ID==item) else k false;bif x.Record==record then k4 (!(x.Custody.State==12)) else k4 false|none =>none else some (.inr (.inl (v,())))
def qgf (c:Circ) (record:Int) (item:Int):Option (Item×Bool):=
 match b8 c47 (record,item,0,c,(⟨0,0,0,0,0,[],⟨0,0,0,0⟩⟩:Item),()) with|some (.inl (v,_)) =>some ((⟨0,0,0,0,0,[],⟨0,0,0,0⟩⟩:Item),false)|some (.inr (v5,v6,_)) =>some (v6,v5)|none =>none
def c5d:((List Hold)×Int×Hold×(List Hold)×Unit)→Option (((List Hold)×Int×Hold×(List Hold)×Unit)⊕((Hold×(List Hold)×Unit))):=fun (l,i,h,l2,_)=>
 bif decide (i<(l.length:Int)) then match m7 l i with|some x =>bif decide (l2.length+([x]:List Hold).length≤LIM) then some (.inl (l,wr .i64 (i+1),h,l2++([x]:List Hold),())) else none|none =>none else some (.inr ((h,l2,())))
def qgt (l:List Hold) (h:Hold):Option ((List Hold)×Int):=
 let k6 (v:Bool):Option ((List Hold)×Int):=let k (v1:Bool):Option ((List Hold)×Int):=bif v1 then some ([],12) else match b8 c5d (l,0,h,([]:List Hold),()) with|some ((h3,l4,_)) =>bif decide (l4.length+([h3]:List Hold).length≤LIM) then match qk (l4++([h3]:List Hold)) with|some r5 =>bif !(r5==0) then some ([],r5) else some (l4++([h3]:List Hold),0)|none =>none else none|none =>none;bif v then k true else k (!(h.Until==0));bif !(h.State==1) then k6 true else k6 (!(h.Got==0))
def a43:(Int×Int×Circ×Circ×Unit)→Option ((Int×Int×Circ×Circ×Unit)⊕((Circ×Circ×Unit)⊕(Int×Circ×Unit))):=fun (record,i,c,v,_)=>
 bif decide (i<(c.Items.length:Int)) then match m7 c.Items i with|some x =>let k7 (v1:Bool):Option ((Int×Int×Circ×Circ×Unit)⊕((Circ×Circ×Unit)⊕(Int×Circ×Unit))):=let k (v3:Bool):Option ((Int×Int×Circ×Circ×Unit)⊕((Circ×Circ×Unit)⊕(Int×Circ×Unit))):=bif v3 then some (.inl (record,wr .i64 (i+1),c,v,())) else match qg4 c x.ID with|some (r5,r6) =>bif !(r6==0) then some (.inr (.inr (r6,ZN,()))) else some (.inl (record,wr .i64 (i+1),r5,v,()))|none =>none;bif v1 then k true else match qg1 c x.ID with|some r2 =>k (r2==0)|none =>none;bif !(x.Record==record) then k7 true else k7 (!(x.Custody.State==3))|none =>none else some (.inr (.inl (c,v,())))
def qg2 (c:Circ) (record:Int):Option (Circ×Int):=
 match b8 a43 (record,0,c,ZN,()) with|some (.inl (c8,v,_)) =>some (c8,0)|some (.inr (v9,v10,_)) =>some (v10,v9)|none =>none
def a9b:(Int×Int×Int×Int×(List Loan)×Int×Circ×Circ×Item×Unit)→Option ((Int×Int×Int×Int×(List Loan)×Int×Circ×Circ×Item×Unit)⊕((Int×Int×Int×Int×Circ×Circ×Item×Unit)⊕(Int×Int×Circ×Unit))):=fun (patron,record,item,pickup,loans,i,c,v,x,_)=>
 bif decide (i<(loans.length:Int)) then match m7 loans i with|some x11 =>(match qs c x11.Item with|some r12 =>(match m7 c.Items r12 with|some x13 =>bif x13.Record==record then some (.inr (.inr (0,12,ZN,()))) else some (.inl (patron,record,item,pickup,loans,wr .i64 (i+1),c,v,x,()))|none =>none)|none =>none)|none =>none else some (.inr (.inl (patron,record,item,pickup,c,v,x,())))
def qg9 (c:Circ) (patron:Int) (record:Int) (item:Int) (pickup:Int):Option (Circ×Int×Int):=
 match qcf c.Patrons patron with|some (r1,r2) =>(match qgf c record item with|some (r4,r5) =>let k32 (v:Bool):Option (Circ×Int×Int):=bif v then some (ZN,0,9) else let k (v6:Bool):Option (Circ×Int×Int):=bif v6 then some (ZN,0,2) else match qf8 c patron with|some r8 =>(bif r8 then some (ZN,0,14) else match qhu c.Loans patron with|some r10 =>(match b8 a9b (patron,record,item,pickup,r10,0,c,ZN,r4,()) with|some (.inl (patron14,record15,item16,pickup17,c18,v19,x,_)) =>(bif decide (99999<c18.NextHold) then some (ZN,0,13) else match qg0 c18 patron14 x with|some (r21,r22) =>(match qgt c18.Holds (⟨c18.NextHold,patron14,record15,item16,pickup17,c18.Today,1,0,0,0,r21.Rank⟩:Hold) with|some (r24,r25) =>(bif !(r25==0) then some (ZN,0,r25) else match qg2 {c18 with Holds:=r24,NextHold:=wr .i64 (c18.NextHold+1)} record15 with|some (r27,r28) =>bif !(r28==0) then some (ZN,0,r28) else some (r27,c18.NextHold,0)|none =>none)|none =>none)|none =>none)|some (.inr (v29,v30,v31,_)) =>some (v31,v29,v30)|none =>none)|none =>none)|none =>none;bif decide (pickup<1) then k true else k (decide (4<pickup));bif !r2 then k32 true else k32 (!r5)|none =>none)|none =>none
def qgp (c:Circ) (vid:Int):Option (Circ×Int):=
 match qgi c.Holds vid with|some (r1,r2,r3) =>(bif !(r3==0) then some (ZN,r3) else bif !(r2.State==3) then some ({c with Holds:=r1},0) else match qgo {c with Holds:=r1} r2.Got 2 r2.Pickup 0 with|some (r5,r6) =>(bif !(r6==0) then some (ZN,r6) else match qg4 r5 r2.Got with|some (r8,r9) =>some (r8,r9)|none =>none)|none =>none)|none =>none
def qgh (c:Circ) (vid:Int):Option (Circ×Int):=
 match qgp c vid with|some (r1,r2) =>some (r1,r2)|none =>none
def qgr (c:Circ) (item:Int):Option (Circ×Int):=
 match qs c item with|some r1 =>(bif decide (r1<0) then some (ZN,9) else match m7 c.Items r1 with|some x =>(match qgo c item 11 x.Custody.Branch 0 with|some (r3,r4) =>some (r3,r4)|none =>none)|none =>none)|none =>none
def c5h:((List Hold)×Int×Int×Unit)→Option (((List Hold)×Int×Int×Unit)⊕((Unit)⊕((List Hold)×Int×Unit))):=fun (l,item,i,_)=>
 bif decide (i<(l.length:Int)) then let k (v:Bool):Option (((List Hold)×Int×Int×Unit)⊕((Unit)⊕((List Hold)×Int×Unit))):=bif v then match m7 l i with|some x1 =>(match qhb l (⟨x1.ID,x1.Patron,x1.Record,x1.Item,x1.Pickup,x1.Placed,1,0,0,x1.Asleep,x1.Rank⟩:Hold) with|some r2 =>some (.inr (.inr (r2,0,())))|none =>none)|none =>none else some (.inl (l,item,wr .i64 (i+1),()));bif !(item==0) then match m7 l i with|some x =>k (x.Got==item)|none =>none else k false else some (.inr (.inl (())))
def qhd (l:List Hold) (item:Int):Option ((List Hold)×Int):=
 match b8 c5h (l,item,0,()) with|some (.inl (_)) =>some ([],9)|some (.inr (v,v3,_)) =>some (v,v3)|none =>none
def qg6 (c:Circ) (item:Int):Option (Circ×Int):=
 match qs c item with|some r1 =>(bif decide (r1<0) then some (ZN,9) else match m7 c.Items r1 with|some x =>let k22 (v:Bool):Option (Circ×Int):=let k (v8:Int) (v9:Circ):Option (Circ×Int):=some (v9,v8);bif v then match qgo c item 12 x.Custody.Branch 0 with|some (r3,r4) =>(bif !(r4==0) then some (ZN,r4) else bif x.Price==0 then k 0 r3 else match qf7 r3 x.Custody.Who item 2 x.Price with|some (r6,r7) =>k r7 r6|none =>none)|none =>none else match qgo c item 13 x.Custody.Branch 0 with|some (r11,r12) =>(bif !(r12==0) then some (ZN,r12) else match qav r11 item with|some (r14,r15) =>(bif !r15 then some (r11,0) else match qhd r11.Holds item with|some (r17,r18) =>(bif !(r18==0) then some (ZN,r18) else match qg2 {r11 with Holds:=r17} x.Record with|some (r20,r21) =>some (r20,r21)|none =>none)|none =>none)|none =>none)|none =>none;bif x.Custody.State==4 then k22 true else k22 (x.Custody.State==9)|none =>none)|none =>none
def b5d:(Int×Int×Bool×Int×Circ×Circ×Item×Unit)→Option ((Int×Int×Bool×Int×Circ×Circ×Item×Unit)⊕((Int×Bool×Circ×Circ×Item×Unit))):=fun (item,i,others,k,c,v,x,_)=>
 bif decide (k<(c.Items.length:Int)) then let k8 (v7:Bool):Option ((Int×Int×Bool×Int×Circ×Circ×Item×Unit)⊕((Int×Bool×Circ×Circ×Item×Unit))):=some (.inl (item,i,v7,wr .i64 (k+1),c,v,x,()));bif others then k8 true else let k6 (v3:Bool):Option ((Int×Int×Bool×Int×Circ×Circ×Item×Unit)⊕((Int×Bool×Circ×Circ×Item×Unit))):=bif v3 then match m7 c.Items k with|some x4 =>k8 (!(x4.Custody.State==12))|none =>none else k8 false;bif !(k==i) then match m7 c.Items k with|some x2 =>k6 (x2.Record==x.Record)|none =>none else k6 false else some (.inr ((item,others,c,v,x,())))
def b5b:(Int×Bool×Int×Circ×Circ×Item×Unit)→Option ((Int×Bool×Int×Circ×Circ×Item×Unit)⊕((Int×Circ×Circ×Item×Unit)⊕(Int×Circ×Unit))):=fun (item,others,k,c,v,x,_)=>
 bif decide (k<(c.Holds.length:Int)) then match m7 c.Holds k with|some x12 =>(let k18 (v17:Bool):Option ((Int×Bool×Int×Circ×Circ×Item×Unit)⊕((Int×Circ×Circ×Item×Unit)⊕(Int×Circ×Unit))):=bif v17 then some (.inr (.inr (10,ZN,()))) else some (.inl (item,others,wr .i64 (k+1),c,v,x,()));bif x12.Item==item then k18 true else match m7 c.Holds k with|some x13 =>let k16 (v14:Bool):Option ((Int×Bool×Int×Circ×Circ×Item×Unit)⊕((Int×Circ×Circ×Item×Unit)⊕(Int×Circ×Unit))):=bif v14 then k18 (!(x.Custody.State==12)) else k18 false;bif x13.Record==x.Record then k16 (!others) else k16 false|none =>none)|none =>none else some (.inr (.inl (item,c,v,x,())))
def qf5 (c:Circ) (item:Int):Option (Circ×Int):=
 match qs c item with|some r1 =>(bif decide (r1<0) then some (ZN,9) else match m7 c.Items r1 with|some x =>(match b8 b5d (item,r1,false,0,c,ZN,x,()) with|some ((item9,others,c10,v,x11,_)) =>(match b8 b5b (item9,others,0,c10,v,x11,()) with|some (.inl (item19,c20,v21,x22,_)) =>(match qgo c20 item19 15 x22.Custody.Branch 0 with|some (r24,r25) =>(bif !(r25==0) then some (ZN,r25) else match qhf r24.Loans item19 with|some (r27,r28,r29) =>let k (c30:List Loan):Option (Circ×Int):=some ({r24 with Loans:=c30},0);bif r29==0 then k r27 else k r24.Loans|none =>none)|none =>none)|some (.inr (v31,v32,_)) =>some (v32,v31)|none =>none)|none =>none)|none =>none)|none =>none
def qg7 (c:Circ) (item:Int) (partner:Int):Option (Circ×Int):=
 match qs c item with|some r1 =>(bif decide (r1<0) then some (ZN,9) else match m7 c.Items r1 with|some x =>let k (v:Bool):Option (Circ×Int):=bif v then some (ZN,16) else match m7 c.Items r1 with|some x4 =>(match qgo c item 10 x4.Custody.Branch partner with|some (r6,r7) =>some (r6,r7)|none =>none)|none =>none;bif x.Custody.State==3 then match qg1 c item with|some r3 =>k (!(r3==0))|none =>none else k false|none =>none)|none =>none
def e3w:((List Charge)×Int×Int×Int×(List Charge)×Unit)→Option (((List Charge)×Int×Int×Int×(List Charge)×Unit)⊕((Int×(List Charge)×Unit))):=fun (l,patron,amount,i,l1,_)=>
 bif decide (i<(l.length:Int)) then match m7 l i with|some x =>let k (amount2:Int) (c:Int):Option (((List Charge)×Int×Int×Int×(List Charge)×Unit)⊕((Int×(List Charge)×Unit))):=bif decide (c<x.Amount) then bif decide (l1.length+([(⟨x.ID,x.Patron,x.Item,x.Day,x.Kind,x.Amount,c⟩:Charge)]:List Charge).length≤LIM) then some (.inl (l,patron,amount2,wr .i64 (i+1),l1++([(⟨x.ID,x.Patron,x.Item,x.Day,x.Kind,x.Amount,c⟩:Charge)]:List Charge),())) else none else some (.inl (l,patron,amount2,wr .i64 (i+1),l1,()));bif x.Patron==patron then k (wr .i64 (amount-(if wr .i64 (x.Amount-x.Paid)<amount then wr .i64 (x.Amount-x.Paid) else amount))) (wr .i64 (x.Paid+(if wr .i64 (x.Amount-x.Paid)<amount then wr .i64 (x.Amount-x.Paid) else amount))) else k amount x.Paid|none =>none else some (.inr ((amount,l1,())))
def qhr (l:List Charge) (patron:Int) (amount:Int):Option ((List Charge)×Int×Int):=
 let k (v:Bool):Option ((List Charge)×Int×Int):=bif v then some ([],0,1) else match b8 e3w (l,patron,amount,0,([]:List Charge),()) with|some ((amount3,l4,_)) =>some (l4,amount3,0)|none =>none;bif decide (amount<1) then k true else k (decide (100000000<amount))
def qhn (c:Circ) (patron:Int) (amount:Int):Option (Circ×Int×Int):=
 match qcf c.Patrons patron with|some (r1,r2) =>(bif !r2 then some (ZN,0,9) else match qhr c.Charges patron amount with|some (r4,r5,r6) =>bif !(r6==0) then some (ZN,0,r6) else some ({c with Charges:=r4},r5,0)|none =>none)|none =>none
def e3s:((List Hold)×Int×Int×(List Int)×Unit)→Option (((List Hold)×Int×Int×(List Int)×Unit)⊕(((List Int)×Unit))):=fun (l,day,i,l1,_)=>
 bif decide (i<(l.length:Int)) then match m7 l i with|some x =>let k (v:Bool):Option (((List Hold)×Int×Int×(List Int)×Unit)⊕(((List Int)×Unit))):=bif v then match m7 l i with|some x3 =>bif decide (l1.length+([x3.ID]:List Int).length≤LIM) then some (.inl (l,day,wr .i64 (i+1),l1++([x3.ID]:List Int),())) else none|none =>none else some (.inl (l,day,wr .i64 (i+1),l1,()));bif x.State==3 then match m7 l i with|some x2 =>k (decide (x2.Until<day))|none =>none else k false|none =>none else some (.inr ((l1,())))
def qgb (l:List Hold) (day:Int):Option (List Int):=
 match b8 e3s (l,day,0,([]:List Int),()) with|some ((l4,_)) =>some l4|none =>none
def a44:((List Int)×Int×Circ×Circ×Unit)→Option (((List Int)×Int×Circ×Circ×Unit)⊕((Circ×Circ×Unit)⊕(Int×Circ×Unit))):=fun (l,i,c,v,_)=>
 bif decide (i<(l.length:Int)) then match m7 l i with|some x =>(match qgp c x with|some (r2,r3) =>bif !(r3==0) then some (.inr (.inr (r3,ZN,()))) else some (.inl (l,wr .i64 (i+1),r2,v,()))|none =>none)|none =>none else some (.inr (.inl (c,v,())))
def b5k:(Int×Int×Int×Circ×Circ×Unit)→Option ((Int×Int×Int×Circ×Circ×Unit)⊕((Int×Circ×Circ×Unit))):=fun (last,record,i,c,v,_)=>
 bif decide (i<(c.Items.length:Int)) then match m7 c.Items i with|some x =>let k10 (v5:Bool):Option ((Int×Int×Int×Circ×Circ×Unit)⊕((Int×Circ×Circ×Unit))):=let k9 (v7:Bool):Option ((Int×Int×Int×Circ×Circ×Unit)⊕((Int×Circ×Circ×Unit))):=let k (record8:Int):Option ((Int×Int×Int×Circ×Circ×Unit)⊕((Int×Circ×Circ×Unit))):=some (.inl (last,record8,wr .i64 (i+1),c,v,()));bif v7 then k x.Record else k record;bif v5 then bif record==0 then k9 true else k9 (decide (x.Record<record)) else k9 false;bif x.Custody.State==3 then k10 (decide (last<x.Record)) else k10 false|none =>none else some (.inr ((record,c,v,())))
def a2p:(Int×Circ×Circ×Unit)→Option ((Int×Circ×Circ×Unit)⊕((Int×Circ×Unit))):=fun (last,c,v,_)=>
 match b8 b5k (last,0,0,c,v,()) with|some ((record,c11,v12,_)) =>(bif record==0 then some (.inr ((0,c11,()))) else match qg2 c11 record with|some (r13,r14) =>bif !(r14==0) then some (.inr ((r14,ZN,()))) else some (.inl (record,r13,v12,()))|none =>none)|none =>none
def qho (c:Circ):Option (Circ×Int):=
 bif decide (109572≤c.Today) then some (ZN,2) else match qgb c.Holds (wr .i64 (c.Today+1)) with|some r1 =>(match b8 a44 (r1,0,{c with Today:=wr .i64 (c.Today+1)},ZN,()) with|some (.inl (c4,v,_)) =>(match b8 a2p (0,c4,v,()) with|some ((v15,v16,_)) =>some (v16,v15)|none =>none)|some (.inr (v17,v18,_)) =>some (v18,v17)|none =>none)|none =>none
end
section
open Go
theorem c2e:m6 w8:=m6.iso (m6.cons (i5.int _) (m6.cons (i5.int _) (m6.cons (i5.int _) (m6.cons (i5.int _) m6.nil)))) (fun _=>rfl)
theorem c2g:m6 u4:=m6.iso (m6.cons (i5.int _) (m6.cons (i5.int _) (m6.cons (i5.int _) (m6.cons (i5.int _) (m6.cons (i5.int _) (m6.cons i5.str (m6.cons (i5.int _) (m6.cons (i5.int _) (m6.cons (i5.int _) (m6.cons (i5.int _) m6.nil)))))))))) (fun _=>rfl)
theorem b26:m6 a0c:=m6.iso (m6.cons (i5.int _) (m6.cons (i5.int _) (m6.cons (i5.int _) (m6.cons (i5.int _) (m6.cons i5.bool (m6.cons i5.str m6.nil)))))) (fun _=>rfl)
theorem c2h:m6 a1u:=m6.iso (m6.cons (i5.int _) (m6.cons (i5.int _) (m6.cons (i5.int _) (m6.cons (i5.int _) (m6.cons (i5.int _) (m6.cons i5.bool m6.nil)))))) (fun _=>rfl)
theorem c2f:m6 y3:=m6.iso (m6.cons (i5.int _) (m6.cons (i5.int _) (m6.cons (i5.int _) (m6.cons (i5.int _) (m6.cons (i5.int _) (m6.cons (i5.int _) (m6.cons (i5.int _) (m6.cons (i5.int _) (m6.cons (i5.int _) (m6.cons (i5.int _) (m6.cons (i5.int _) m6.nil))))))))))) (fun _=>rfl)
theorem b25:m6 a4r:=m6.iso (m6.cons (i5.int _) (m6.cons (i5.int _) (m6.cons (i5.int _) (m6.cons (i5.int _) (m6.cons (i5.int _) (m6.cons (i5.int _) (m6.cons (i5.int _) m6.nil))))))) (fun _=>rfl)
theorem c2j:m6 a3h:=m6.iso (m6.cons (i5.int _) (m6.cons (i5.int _) (m6.cons (i5.int _) (m6.cons (i5.int _) (m6.cons (i5.int _) (m6.cons (i5.int _) (m6.cons (i5.int _) (m6.cons (i5.int _) (m6.cons (i5.int _) (m6.cons (i5.int _) (m6.cons (i5.int _) (m6.cons (i5.int _) (m6.cons (i5.int _) m6.nil))))))))))))) (fun _=>rfl)
theorem b9p:m6 u0:=m6.iso (m6.cons (i5.int _) (m6.cons (i5.lst _) m6.nil)) (fun _=>rfl)
theorem c2i:m6 b0n:=m6.iso (m6.cons (i5.int _) (m6.cons (i5.int _) (m6.cons (i5.int _) (m6.cons (i5.int _) (m6.cons (i5.int _) m6.nil))))) (fun _=>rfl)
theorem d8i:m6 j5:=m6.iso (m6.cons (i5.int _) (m6.cons (i5.lst _) (m6.cons (i5.lst _) (m6.cons (i5.lst _) (m6.cons (i5.lst _) (m6.cons (i5.lst _) (m6.cons (i5.lst _) (m6.cons (i5.int _) (m6.cons (i5.lst _) (m6.cons (i5.int _) (m6.cons (i5.lst _) (m6.cons (i5.int _) (m6.cons (i5.lst _) (m6.cons (i5.int _) (m6.cons (i5.lst _) (m6.cons (i5.lst _) (m6.cons (i5.int _) (m6.cons (i5.int _) (m6.cons i5.bool m6.nil))))))))))))))))))) (fun _=>rfl)
theorem a3a:m6 a0b:=m6.iso (m6.cons (i5.int _) (m6.cons (i5.int _) (m6.cons (i5.int _) (m6.cons (i5.int _) (m6.cons (i5.int _) m6.nil))))) (fun _=>rfl)
theorem b6l:m6 m9:=m6.iso (m6.cons (i5.int _) (m6.cons (i5.lst _) (m6.cons (i5.lst _) (m6.cons (i5.lst _) (m6.cons (i5.lst _) (m6.cons (i5.lst _) (m6.cons (i5.lst _) (m6.cons (i5.int _) (m6.cons (i5.lst _) (m6.cons (i5.int _) (m6.cons (i5.lst _) (m6.cons (i5.int _) (m6.cons (i5.lst _) (m6.cons (i5.int _) (m6.cons (i5.lst _) (m6.cons (i5.lst _) (m6.cons (i5.int _) (m6.cons (i5.int _) (m6.cons i5.bool (m6.cons (i5.int _) m6.nil)))))))))))))))))))) (fun _=>rfl)
theorem a3x:m6 a2l:=m6.iso (m6.cons (i5.int _) (m6.cons (i5.int _) m6.nil)) (fun _=>rfl)
theorem b1w:m6 a5p:=m6.iso (m6.cons (i5.int _) (m6.cons (i5.lst _) (m6.cons (i5.int _) (m6.cons (i5.lst _) (m6.cons (i5.int _) (m6.cons (i5.lst _) (m6.cons (i5.int _) (m6.cons (i5.lst _) m6.nil)))))))) (fun _=>rfl)
theorem c2k:m6 a02:=m6.iso (m6.cons i5.bool (m6.cons i5.bool (m6.cons i5.bool (m6.cons i5.bool (m6.cons i5.bool (m6.cons i5.bool (m6.cons i5.bool m6.nil))))))) (fun _=>rfl)
instance:CCC w8:=⟨c2e⟩
instance:CCC u4:=⟨c2g⟩
instance:CCC a0c:=⟨b26⟩
instance:CCC a1u:=⟨c2h⟩
instance:CCC y3:=⟨c2f⟩
instance:CCC a4r:=⟨b25⟩
instance:CCC a3h:=⟨c2j⟩
instance:CCC u0:=⟨b9p⟩
instance:CCC b0n:=⟨c2i⟩
instance:CCC j5:=⟨d8i⟩
instance:CCC a0b:=⟨a3a⟩
instance:CCC m9:=⟨b6l⟩
instance:CCC a2l:=⟨a3x⟩
instance:CCC a5p:=⟨b1w⟩
instance:CCC a02:=⟨c2k⟩
end
section
abbrev x0a:=OC.xs 0 [] [] [] Zz (.r [4] [] [] (Zs 4 Zi Zz))
abbrev x0b:=Cod.cptr (CC.one Zi)
abbrev x0c:=OC.r [2] [] [] (Zs 2 Zb Zz)
abbrev x0d:=Zl .kHold
abbrev x0e:=OC.r [2] [] [] (Zs 2 Zi Zz)
abbrev x0f:=Zx 1 j5 Zz
abbrev x0g:=Zs 7 Zi (Zs 8 Zi Zz)
abbrev x0h:=Zc Zi Zn
abbrev x0i:=OC.xs 0 [1] [1] [] (Zp 1 1 x0f) x0c
abbrev x0j:=Cod.fnc 105 (Zn) (Zn)
abbrev x0k:=Zc (Cod.cptr u4) Zn
abbrev x0l:=Zl .kLoan
abbrev x0m:=Zc x0b Zn
abbrev x0n:=Zc Zi x0h
abbrev x0o:=Zl .kCharge
abbrev x0p:=Cod.agg j5
abbrev x0q:=Cod.agg y3
abbrev x0r:=OC.xs 0 [] [] [] Zz x0e
abbrev x0s:=Zl .kItem
abbrev x0t:=OC.xs 0 [] [] [] Zz (.r [4] [] [] (Zs 4 Zb Zz))
abbrev x0u:=Zl .kPatron
abbrev x0v:=OC.xs 0 [6,9] [6,9] [] (Zp 6 6 (Zp 9 9 (Zx 6 w8 (Zx 9 w8 Zz)))) (.r [7,8] [6] [6] (Zp 6 6 (Zs 7 Zi (Zs 8 Zi (Zx 6 w8 Zz)))))
abbrev x0w:=Zs 8 Zi (FC.own 99999 Kd.kHold false Zz)
abbrev x0x:=Cod.agg u4
abbrev x0y:=OC.xs 2 [1] [1] [] (Zp 1 1 x0f) x0c
abbrev x0z:=Zp 1 1 (Zs 3 Zi x0f)
abbrev x00:=Zc (Cod.cptr u4) (Zc (Cod.cptr (CC.one Zb)) Zn)
abbrev x01:=Zl .ki64
abbrev x02:=Zl .kRule
abbrev x03:=Cod.agg a0c
abbrev x04:=Cod.agg a1u
abbrev x05:=Zs 1 Zi (Zs 2 x0j (Zs 6 Zi (Zs 7 Zi (FC.own 99999 Kd.kHold false Zz))))
abbrev x06:=Zs 3 Zi Zz
abbrev x07:=Zs 5 Zi Zz
abbrev x08:=Zs 0 x0d (Zs 1 (Cod.fnc 193 (Zn) (Zn)) (Zs 8 Zi (Zs 9 Zi Zz)))
abbrev x09:=Zs 0 x0d (Zs 1 (Cod.fnc 194 (Zn) (Zn)) (Zs 8 Zi (Zs 9 Zi Zz)))
abbrev x1a:=OC.xs 4 [] [] [] Zz x0c
abbrev x1b:=OC.xs 2 [] [] [] Zz x0c
abbrev x1c:=Zx 2 j5 (Zx 16 m9 Zz)
abbrev x1d:=Zc Zb Zn
abbrev x1e:=Zc Zi x0n
abbrev x1f:=Zs 5 Zi (Zs 8 Zi (Zs 9 Zi (Zs 12 Zi (Zs 13 Zi Zz))))
abbrev x1g:=Cod.agg a3h
abbrev x1h:=Zc x0q Zn
abbrev x1i:=OC.xs 0 [] [] [] Zz (.r [4,5] [] [] (Zs 4 Zi x07))
abbrev x1j:=Cod.agg u0
abbrev x1k:=Cod.agg w8
abbrev x1l:=Zc x0b x0m
abbrev x1m:=Zs 10 Zi (Zs 11 Zi Zz)
abbrev x1n:=Zs 1 Zi (Zs 2 x0j (Zs 6 Zi (Zs 7 Zi x0w)))
abbrev x1o:=OC.xs 0 [] [] [] Zz x0c
abbrev x1p:=Zl .kMove
abbrev a8m:ZC (Circ×Unit):=Zc x0p Zn
abbrev t8:ZD (Bool):=Zb
abbrev h59 {R:Type}:Sm R:=n5 a8m t8 (fun a=>qb a.1)
def f9s {R:Type}:Nat→Sm R:=c0
abbrev e1k:=a0f [] [] [1,3] [1] [] x0z d5v x0i
abbrev e1l:=a0f [] [] [1,4] [1] [] (Zp 1 1 (Zs 4 Zi x0f)) d5w x0y
abbrev d1j:=a0f [] [] [1,5] [1] [] (Zp 1 1 (Zs 5 Zi x0f)) b1j x1a
def b2h {R:Type}:Lp Kd El R:=lp 14 d1j.sem (lp 9 e1l.sem (lp 4 e1k.sem l0))
abbrev f34:ZC ((List UInt8)×Int×Unit):=Zc Cod.str x0h
abbrev b5p:ZD (Int×Int):=(Cod.tup2 x0n)
abbrev c83 {R:Type}:Sm R:=n5 f34 b5p (fun a=>qbq a.1 a.2.1)
abbrev c9k:ZC ((List UInt8)×Unit):=Zc Cod.str Zn
abbrev c81 {R:Type}:Sm R:=n5 c9k t8 (fun a=>qai a.1)
def e89 {R:Type}:Nat→Sm R:=cl 157 c83 c0
abbrev d05:=a0f [] [] [0,3] [] [] (Zs 0 Cod.str x06) b8e x1o
def c35 {R:Type}:Lp Kd El R:=lp 2 d05.sem l0
abbrev z6:ZD (Int):=Zi
abbrev f83 {R:Type}:Sm R:=n5 f34 z6 (fun a=>qe a.1 a.2.1)
abbrev a2a:ZC (Int×Unit):=Zc Zi Zn
abbrev e44 {R:Type}:Sm R:=n5 a2a t8 (fun a=>qaj a.1)
abbrev f8a:ZD ((List UInt8)):=Cod.str
abbrev e4u {R:Type}:Sm R:=n5 c9k f8a (fun a=>qa4 a.1)
def e8y {R:Type}:Nat→Sm R:=cl 157 c83 (cl 158 f83 (cl 159 e44 c0))
abbrev d0u:=a0f [] [] [0,3,4,5] [] [] (Zs 0 Cod.str (Zs 3 Cod.str (Zs 4 Zb x07))) b8a (.x 0 [3] [] [] (Zs 3 Cod.str Zz))
def c3y {R:Type}:Lp Kd El R:=lp 4 d0u.sem l0
abbrev c9m:ZC ((List Patron)×Unit):=Zc x0u Zn
abbrev e48 {R:Type}:Sm R:=n5 c9m z6 (fun a=>qar a.1)
def e9e {R:Type}:Nat→Sm R:=cl 93 c81 (cl 94 e4u c0)
abbrev d1a:=a0f [] [] [0,3] [] [] (Zs 0 x0u x06) b45 x0r
def c4a {R:Type}:Lp Kd El R:=lp 4 d1a.sem l0
abbrev c9l:ZC ((List Loan)×Unit):=Zc x0l Zn
abbrev e47 {R:Type}:Sm R:=n5 c9l z6 (fun a=>qaq a.1)
def e9d {R:Type}:Nat→Sm R:=c0
abbrev d09:=a0f [] [] [0,3] [] [] (Zs 0 x0l x06) b44 x0r
def c39 {R:Type}:Lp Kd El R:=lp 4 d09.sem l0
abbrev g88 {R:Type}:Sm R:=n5 a2a t8 (fun a=>qen a.1)
abbrev g8z {R:Type}:Sm R:=n5 a2a t8 (fun a=>qe3 a.1)
abbrev f4d:ZC (Hold×Unit):=Zc x0q Zn
abbrev e6o {R:Type}:Sm R:=n5 f4d z6 (fun a=>qdu a.1)
abbrev f9h:ZC ((List Hold)×Unit):=Zc x0d Zn
abbrev f87 {R:Type}:Sm R:=n5 f9h z6 (fun a=>qk a.1)
def f9z {R:Type}:Nat→Sm R:=cl 95 e6o c0
abbrev e1v:=a0f [] [] [0,3] [] [] (Zs 0 x0d x06) c8k (.xs 0 [0] [] [] (Zs 0 x0d Zz) x0e)
abbrev d1z:=a0f [] [] [0,5,6] [] [] (Zs 0 x0d (Zs 5 Zi (Zs 6 Zi Zz))) b5l (.xs 4 [0,5] [] [] (Zs 0 x0d x07) x0e)
abbrev d1y:=a0f [] [] [0,5] [] [] (Zs 0 x0d x07) b80 (.xs 2 [] [] [] Zz x0e)
def b2j {R:Type}:Lp Kd El R:=lp 12 d1y.sem (lp 15 d1z.sem (lp 4 e1v.sem l0))
abbrev e68 {R:Type}:Sm R:=n5 a2a t8 (fun a=>qfd a.1)
abbrev f3t:ZC ((List Charge)×Unit):=Zc x0o Zn
abbrev e4t {R:Type}:Sm R:=n5 f3t z6 (fun a=>qa3 a.1)
def e8x {R:Type}:Nat→Sm R:=cl 96 e68 c0
abbrev d0t:=a0f [] [] [0,3] [] [] (Zs 0 x0o x06) b4z x0r
def c3x {R:Type}:Lp Kd El R:=lp 4 d0t.sem l0
abbrev c1p:ZC (Int×Int×Int×Unit):=Zc Zi x0n
abbrev g7s {R:Type}:Sm R:=n5 c1p t8 (fun a=>qbi a.1 a.2.1 a.2.2.1)
abbrev d69:ZC (Rule×Unit):=Zc x1g Zn
abbrev e5x {R:Type}:Sm R:=n5 d69 t8 (fun a=>qc8 a.1)
abbrev h1w:ZC ((List Rule)×Unit):=Zc x02 Zn
abbrev f86 {R:Type}:Sm R:=n5 h1w z6 (fun a=>qj a.1)
def f9y {R:Type}:Nat→Sm R:=cl 97 e5x c0
abbrev e1u:=a0f [] [] [0,3,4] [] [] (Zs 0 x02 (Zs 3 Zi (Zs 4 Zi Zz))) c8j (.xs 2 [0,3] [] [] (Zs 0 x02 x06) x0e)
abbrev e1t:=a0f [] [] [0,3] [] [] (Zs 0 x02 x06) d53 x0r
def c0w {R:Type}:Lp Kd El R:=lp 4 e1t.sem (lp 9 e1u.sem l0)
abbrev f9i:ZC (Calendar×Unit):=Zc x1j Zn
abbrev f9c {R:Type}:Sm R:=n5 f9i z6 (fun a=>qw a.1)
def g0h {R:Type}:Nat→Sm R:=c0
abbrev e19:=a0f [] [] [1,3] [1] [] (Zp 1 1 (Zs 3 Zi (Zx 1 u0 Zz))) c8p (.xs 0 [1] [1] [] (Zp 1 1 (Zx 1 u0 Zz)) x0e)
abbrev d16:=a0f [] [] [1,4] [1] [] (Zp 1 1 (Zs 4 Zi (Zx 1 u0 Zz))) b5n (.xs 2 [] [] [] Zz x0e)
def c0y {R:Type}:Lp Kd El R:=lp 11 d16.sem (lp 6 e19.sem l0)
abbrev c9o:ZC ((List Patron)×Int×Unit):=Zc x0u x0h
abbrev g7h {R:Type}:Sm R:=n5 c9o z6 (fun a=>qay a.1 a.2.1)
def e9l {R:Type}:Nat→Sm R:=c0
abbrev d1h:=a0f [] [] [0,1,5] [] [] (Zs 0 x0u (Zs 1 Zi x07)) b8m x0a
def c4h {R:Type}:Lp Kd El R:=lp 2 d1h.sem l0
abbrev f8g:ZD (Patron×Bool):=(Cod.tup2 (Zc x03 x1d))
abbrev c1c {R:Type}:Sm R:=n5 c9o f8g (fun a=>qcf a.1 a.2.1)
abbrev f8s:ZD (Custody):=x1k
abbrev e6p {R:Type}:Sm R:=n5 a2a f8s (fun a=>qdv a.1)
abbrev g9n {R:Type}:Sm R:=n5 a2a t8 (fun a=>qfk a.1)
abbrev d7j:ZC (Custody×Unit):=Zc x1k Zn
abbrev g8t {R:Type}:Sm R:=n5 d7j t8 (fun a=>qdw a.1)
abbrev h1u:ZC (Move×Unit):=Zc (Cod.agg b0n) Zn
abbrev g9g {R:Type}:Sm R:=n5 h1u t8 (fun a=>qez a.1)
abbrev c5o:ZD ((List Int)):=x01
abbrev e6a {R:Type}:Sm R:=n5 a2a c5o (fun a=>qcu a.1)
abbrev c1o:ZC (Int×Int×Unit):=Zc Zi x0h
abbrev g7d {R:Type}:Sm R:=n5 c1o t8 (fun a=>qan a.1 a.2.1)
def e9c {R:Type}:Nat→Sm R:=cl 248 e6a c0
abbrev d08:=a0f [] [] [0,5,6] [] [] (Zs 0 Zi (Zs 5 x01 (Zs 6 Zi Zz))) b8h x0t
def c38 {R:Type}:Lp Kd El R:=lp 3 d08.sem l0
abbrev c9t:ZC (Custody×Move×Unit):=Zc x1k (Zc (Cod.agg b0n) Zn)
abbrev g8j {R:Type}:Sm R:=n5 c9t t8 (fun a=>qdi a.1 a.2.1)
abbrev g9u {R:Type}:Sm R:=n5 a2a z6 (fun a=>qfr a.1)
abbrev d2u:ZD (Custody×Int):=(Cod.tup2 (Zc x1k x0h))
abbrev e5r {R:Type}:Sm R:=n5 c9t d2u (fun a=>qc0 a.1 a.2.1)
abbrev f3x:ZC (Int×(List Move)×Int×Unit):=Zc Zi (Zc x1p x0h)
abbrev f8b:ZD (Custody×Int×Int):=(Cod.tup3 (Zc x1k x0n))
abbrev e45 {R:Type}:Sm R:=n5 f3x f8b (fun a=>qak a.1 a.2.1 a.2.2.1)
def e9a {R:Type}:Nat→Sm R:=cl 163 e6p (cl 164 e5r c0)
abbrev d06:=a0f [] [] [1,2,6,9,10] [6,9] [] (Zs 1 x1p (Zs 2 Zi (Zp 6 6 (Zp 9 9 (Zs 10 Zi (Zx 6 w8 (Zx 9 w8 Zz))))))) b8f x0v
def c36 {R:Type}:Lp Kd El R:=lp 5 d06.sem l0
abbrev b2s:ZC (Circ×Int×Unit):=Zc x0p x0h
abbrev d2z {R:Type}:Sm R:=n5 b2s z6 (fun a=>qs a.1 a.2.1)
def g0d {R:Type}:Nat→Sm R:=c0
abbrev e15:=a0f [] [] [1,2,5] [2] [] (Zs 1 Zi (Zp 2 2 (Zs 5 Zi (Zx 2 j5 Zz)))) d58 x0a
def d2g {R:Type}:Lp Kd El R:=lp 2 e15.sem l0
abbrev e41 {R:Type}:Sm R:=n5 a8m t8 (fun a=>qaa a.1)
def e83 {R:Type}:Nat→Sm R:=cl 93 c81 (cl 99 e45 (cl 100 d2z c0))
abbrev d0z:=a0f [] [] [1,3] [1] [] x0z b41 x0i
abbrev c3i:=a0f [] [] [1,8] [1] [] (Zp 1 1 (Zs 8 Zi x0f)) a89 x1b
def b4d {R:Type}:Lp Kd El R:=lp 15 c3i.sem (lp 4 d0z.sem l0)
abbrev e62 {R:Type}:Sm R:=n5 d7j t8 (fun a=>qer a.1)
abbrev b69:ZC ((List Loan)×Int×Unit):=Zc x0l x0h
abbrev g7b {R:Type}:Sm R:=n5 b69 z6 (fun a=>qal a.1 a.2.1)
def e9b {R:Type}:Nat→Sm R:=c0
abbrev d07:=a0f [] [] [0,1,5] [] [] (Zs 0 x0l (Zs 1 Zi x07)) b8g x0a
def c37 {R:Type}:Lp Kd El R:=lp 2 d07.sem l0
abbrev f8t:ZD (Loan×Bool):=(Cod.tup2 (Zc x04 x1d))
abbrev e6q {R:Type}:Sm R:=n5 b69 f8t (fun a=>qdz a.1 a.2.1)
abbrev f8y {R:Type}:Sm R:=n5 a8m t8 (fun a=>q9 a.1)
def f9q {R:Type}:Nat→Sm R:=cl 34 c1c (cl 100 d2z (cl 101 e62 (cl 102 e6q c0)))
abbrev e1i:=a0f [] [] [1,3] [1] [] x0z c77 x0i
abbrev d0p:=a0f [] [] [1,8] [1] [] (Zp 1 1 (Zs 8 Zi x0f)) b79 x1b
def c0u {R:Type}:Lp Kd El R:=lp 10 d0p.sem (lp 2 e1i.sem l0)
abbrev e4a:ZD (Hold×Bool):=(Cod.tup2 (Zc x0q x1d))
abbrev e5b {R:Type}:Sm R:=n5 b2s e4a (fun a=>qav a.1 a.2.1)
def e9i {R:Type}:Nat→Sm R:=c0
abbrev d1e:=a0f [] [] [1,2,4,6] [2,4] [] (Zs 1 Zi (Zp 2 2 (Zp 4 4 (Zs 6 Zi (Zx 2 j5 (Zx 4 y3 Zz)))))) b8j (.xs 0 [4] [4] [] (Zp 4 4 (Zx 4 y3 Zz)) (.r [5] [4] [4] (Zp 4 4 (Zs 5 Zb (Zx 4 y3 Zz)))))
def c4e {R:Type}:Lp Kd El R:=lp 2 d1e.sem l0
abbrev e42 {R:Type}:Sm R:=n5 a8m t8 (fun a=>qab a.1)
def e84 {R:Type}:Nat→Sm R:=cl 34 c1c (cl 100 d2z (cl 103 e5b c0))
abbrev d00:=a0f [] [] [1,3] [1] [] x0z b42 x0i
abbrev c3j:=a0f [] [] [1,9] [1] [] (Zp 1 1 (Zs 9 Zi x0f)) b0z x1b
def b4e {R:Type}:Lp Kd El R:=lp 18 c3j.sem (lp 2 d00.sem l0)
abbrev g69 {R:Type}:Sm R:=n5 a8m t8 (fun a=>qag a.1)
def e87 {R:Type}:Nat→Sm R:=cl 28 e48 (cl 29 e47 (cl 30 f87 (cl 31 e4t (cl 32 f86 (cl 33 f9c (cl 34 c1c (cl 35 e41 (cl 36 f8y (cl 37 e42 c0)))))))))
abbrev d03:=a0f [] [] [1,3] [1] [] x0z b1i x0i
abbrev c3m:=a0f [] [] [1,4] [1] [] (Zp 1 1 (Zs 4 Zi x0f)) a9a x0y
def b4h {R:Type}:Lp Kd El R:=lp 11 c3m.sem (lp 6 d03.sem l0)
abbrev e67 {R:Type}:Sm R:=n5 a8m t8 (fun a=>qfc a.1)
abbrev d67:ZC (Hold×Hold×Unit):=Zc x0q x1h
abbrev c82 {R:Type}:Sm R:=n5 d67 z6 (fun a=>qbn a.1 a.2.1)
abbrev h67:ZC ((List Hold)×Int×Int×((Unit)×(Unit))×Unit):=Zc x0d (Zc Zi (Zc Zi (Zc x0j Zn)))
abbrev f25:ZD (List Hold):=x0d
abbrev f89 {R:Type}:Sm R:=n5 h67 f25 (fun a=>qp (fun g x0 x1=>qbn x0 x1) a.1 a.2.1 a.2.2.1 a.2.2.2.1)
def g0a {R:Type}:Nat→Sm R:=cl 105 c82 c0
abbrev e12:=a0f [] [] [0,1,2,3,8,9] [] [99999] (FC.arr 0 99999 (Zs 1 Zi (Zs 2 Zi (Zs 3 x0j (Zs 8 Zi (Zs 9 Zi (FC.own 99999 Kd.kHold false Zz))))))) (d57 (fun g x0 x1=>qbn x0 x1)) (.x 2 [0,1,2,3,8] [] [99999] (FC.arr 0 99999 (Zs 1 Zi (Zs 2 Zi (Zs 3 x0j x0w)))))
abbrev e11:=a0f [] [] [0,1,2,3,8] [] [99999] (FC.arr 0 99999 (Zs 1 Zi (Zs 2 Zi (Zs 3 x0j x0w)))) (d56 (fun g x0 x1=>qbn x0 x1)) (.x 0 [] [] [99999] (FC.own 99999 Kd.kHold false Zz))
def c0x {R:Type}:Lp Kd El R:=lp 1 e11.sem (lp 4 e12.sem l0)
abbrev f39:ZC ((List Hold)×Int×Int×Int×((Unit)×(Unit))×Unit):=Zc x0d (Zc Zi (Zc Zi (Zc Zi (Zc x0j Zn))))
abbrev f8e:ZD (List Hold):=f25
def f6j (a:(List Hold)×Int×Int×Int×((Unit)×(Unit))×Unit):Option (List Hold):=qc1 (fun g x0 x1=>qbn x0 x1) a.1 a.2.1 a.2.2.1 a.2.2.2.1 a.2.2.2.2.1
abbrev g73 {R:Type}:Sm R:=n5 f39 f8e f6j
abbrev h66:ZC ((List Hold)×Int×((Unit)×(Unit))×Unit):=Zc x0d (Zc Zi (Zc x0j Zn))
abbrev h6e {R:Type}:Sm R:=n5 h66 f25 (fun a=>qn (fun g x0 x1=>qbn x0 x1) a.1 a.2.1 a.2.2.1)
def f97 {R:Type}:Nat→Sm R:=cl 105 c82 (cl 218 f89 (cl 219 g73 c0))
abbrev e1y:=a0f [] [] [0,1,2,6,7,8] [] [99999] (FC.arr 0 99999 x1n) (f21 (fun g x0 x1=>qbn x0 x1)) (.x 0 [0,1,2,6,7] [] [99999] (FC.arr 0 99999 x05))
abbrev e10:=a0f [] [] [0,1,2,6,7,8] [] [99999] (FC.arr 0 99999 x1n) (h5q (fun g x0 x1=>qbn x0 x1)) (.x 4 [0,1,2,6,7] [] [99999] (FC.arr 0 99999 x05))
abbrev e1z:=a0f [] [] [0,1,2,6] [] [99999] (FC.arr 0 99999 (Zs 1 Zi (Zs 2 x0j (Zs 6 Zi (FC.own 99999 Kd.kHold false Zz))))) (f22 (fun g x0 x1=>qbn x0 x1)) (.x 2 [] [] [99999] (FC.own 99999 Kd.kHold false Zz))
def b2k {R:Type}:Lp Kd El R:=lp 7 e1z.sem (lp 9 e10.sem (lp 2 e1y.sem l0))
abbrev h1f:ZC ((List Hold)×((Unit)×(Unit))×Unit):=Zc x0d (Zc x0j Zn)
abbrev e6f {R:Type}:Sm R:=n5 h1f f25 (fun a=>qd2 (fun g x0 x1=>qbn x0 x1) a.1 a.2.1)
abbrev h1v:ZC ((List Hold)×Int×Int×Unit):=Zc x0d x0n
abbrev f24:ZD ((List Hold)):=x0d
abbrev f84 {R:Type}:Sm R:=n5 h1v f24 (fun a=>qf a.1 a.2.1 a.2.2.1)
def f9v {R:Type}:Nat→Sm R:=cl 104 e6f c0
abbrev e1p:=a0f [(7,7,Kd.kHold)] [] [1,2,7,10,11,12] [] [7] (Zs 1 Zi (Zs 2 Zi (FC.arr 7 7 (Zs 10 x0d (Zs 11 Zi (Zs 12 Zi (FC.own 7 Kd.kHold false Zz))))))) d5z (.x 0 [7] [] [7] (FC.arr 7 7 (FC.own 7 Kd.kHold false Zz)))
def d2c {R:Type}:Lp Kd El R:=lp 3 e1p.sem l0
abbrev h0k:ZC ((List Hold)×Item×Int×Int×Bool×Unit):=Zc x0d (Zc x0x (Zc Zi (Zc Zi x1d)))
abbrev e5c {R:Type}:Sm R:=n5 h0k z6 (fun a=>qax a.1 a.2.1 a.2.2.1 a.2.2.2.1 a.2.2.2.2.1)
def e9k {R:Type}:Nat→Sm R:=cl 38 f84 c0
abbrev d1g:=a0f [] [] [2,4,6,11,18,19,20] [6] [] (Zs 2 Zi (Zs 4 Zb (Zp 6 6 (Zs 11 Zi (Zs 18 x0d (Zs 19 Zi (Zs 20 Zi (Zx 6 u4 Zz)))))))) b8l (.xs 0 [11] [] [] (Zs 11 Zi Zz) (.r [10] [] [] (Zs 10 Zi Zz)))
def c4g {R:Type}:Lp Kd El R:=lp 3 d1g.sem l0
abbrev e5m {R:Type}:Sm R:=n5 a8m t8 (fun a=>qbj a.1)
def e9t {R:Type}:Nat→Sm R:=cl 10 e5c c0
abbrev d1q:=a0f [] [] [1,3] [1] [] x0z b8o x1o
def c4p {R:Type}:Lp Kd El R:=lp 2 d1q.sem l0
abbrev f8w:ZD (Circ):=x0p
abbrev g87 {R:Type}:Sm R:=n5 a2a f8w (fun a=>qem a.1)
abbrev h1h:ZC (Item×Int×Unit):=Zc x0x x0m
abbrev e6k {R:Type}:Sm R:=n5 h1h t8 (fun a=>qde a.1 a.2.1)
abbrev h62:ZC ((List Item)×((Unit)×(Int×Unit))×Unit):=Zc x0s (Zc (Cod.fnc 131 (Zn) x0m) Zn)
abbrev h6a {R:Type}:Sm R:=n5 h62 z6 (fun a=>qc (fun g x0=>qde x0 g.2.1) a.1 a.2.1)
def f9t {R:Type}:Nat→Sm R:=cl 131 e6k c0
abbrev e1m:=a0f [] [] [0,1,7,8] [] [] (Zs 0 x0s (Zs 1 (Cod.fnc 131 (Zn) x0m) x0g)) (c06 (fun g x0=>qde x0 g.2.1)) x0a
def d2b {R:Type}:Lp Kd El R:=lp 2 e1m.sem l0
abbrev c54 {R:Type}:Sm R:=n5 b2s z6 (fun a=>qz a.1 a.2.1)
abbrev e6x {R:Type}:Sm R:=n5 a2a f8s (fun a=>qec a.1)
abbrev f4a:ZC (Item×Item×Unit):=Zc x0x x0k
abbrev e6d {R:Type}:Sm R:=n5 f4a t8 (fun a=>qcy a.1 a.2.1)
abbrev e8c:ZC ((List Item)×((Unit)×(Item×Unit))×Unit):=Zc x0s (Zc (Cod.fnc 112 (Zn) x0k) Zn)
abbrev e5z {R:Type}:Sm R:=n5 e8c z6 (fun a=>qc (fun g x0=>qcy x0 g.2.1) a.1 a.2.1)
def d3r {R:Type}:Nat→Sm R:=cl 112 e6d c0
abbrev b7w:=a0f [] [] [0,1,7,8] [] [] (Zs 0 x0s (Zs 1 (Cod.fnc 112 (Zn) x0k) x0g)) (c06 (fun g x0=>qcy x0 g.2.1)) x0a
def b4j {R:Type}:Lp Kd El R:=lp 2 b7w.sem l0
abbrev h05:ZC ((List Item)×Unit):=Zc x0s Zn
abbrev f8h:ZD ((List Item)):=x0s
abbrev g8a {R:Type}:Sm R:=n5 h05 f8h (fun a=>qcm a.1)
abbrev d7e:ZC ((List Item)×Int×(List Item)×Unit):=Zc x0s (Zc Zi (Zc x0s Zn))
abbrev f8l:ZD ((List Item)):=f8h
def f6n (a:(List Item)×Int×(List Item)×Unit):Option ((List Item)):=qd6 a.1 a.2.1 a.2.2.1
abbrev e5f {R:Type}:Sm R:=n5 c1p t8 (fun a=>qb6 a.1 a.2.1 a.2.2.1)
abbrev d7h:ZC ((List UInt8)×Unit):=c9k
abbrev f8p:ZD (Bool):=t8
def f6q (a:(List UInt8)×Unit):Option (Bool):=qdg a.1
abbrev h1p:ZC (Item×Unit):=Zc x0x Zn
abbrev e6v {R:Type}:Sm R:=n5 h1p t8 (fun a=>qea a.1)
abbrev e5q {R:Type}:Sm R:=n5 c1p t8 (fun a=>qbt a.1 a.2.1 a.2.2.1)
abbrev g9l {R:Type}:Sm R:=n5 d7j t8 (fun a=>qfi a.1)
abbrev g9k {R:Type}:Sm R:=n5 c1o t8 (fun a=>qfh a.1 a.2.1)
abbrev h1b:ZC (Custody×Bool×Unit):=Zc x1k x1d
abbrev g8d {R:Type}:Sm R:=n5 h1b d2u (fun a=>qcx a.1 a.2.1)
abbrev g9o {R:Type}:Sm R:=n5 c9t d2u (fun a=>qfl a.1 a.2.1)
abbrev e6y {R:Type}:Sm R:=n5 c9t d2u (fun a=>qed a.1 a.2.1)
abbrev e5n {R:Type}:Sm R:=n5 f3x f8b (fun a=>qbm a.1 a.2.1 a.2.2.1)
def e9v {R:Type}:Nat→Sm R:=cl 106 e6y (cl 110 e6x (cl 168 e5q c0))
abbrev d1s:=a0f [] [] [2,6,9,20,21,22] [6,9] [] (Zs 2 Zi (Zp 6 6 (Zp 9 9 (Zs 20 x1p (Zs 21 Zi (Zs 22 Zi (Zx 6 w8 (Zx 9 w8 Zz)))))))) f7b x0v
def c4r {R:Type}:Lp Kd El R:=lp 5 d1s.sem l0
abbrev h6h {R:Type}:Sm R:=n5 a8m t8 (fun a=>qr a.1)
def g0c {R:Type}:Nat→Sm R:=cl 64 c54 (cl 140 e6v (cl 141 e5n c0))
abbrev e14:=a0f [] [] [1,23,24,25] [1] [] (Zp 1 1 (Zs 23 x0s (Zs 24 Zi (Zs 25 Zi x0f)))) h5s x0i
abbrev d14:=a0f [] [] [1,51,52,53] [1] [] (Zp 1 1 (Zs 51 x1p (Zs 52 Zi (Zs 53 Zi x0f)))) f76 x0y
abbrev d15:=a0f [] [] [1,64,65,66] [1] [] (Zp 1 1 (Zs 64 x0s (Zs 65 Zi (Zs 66 Zi x0f)))) f77 x1a
def b2m {R:Type}:Lp Kd El R:=lp 16 d15.sem (lp 10 d14.sem (lp 4 e14.sem l0))
abbrev d7k:ZC ((List UInt8)×Unit):=c9k
abbrev f8v:ZD ((List UInt8)):=f8a
def f6s (a:(List UInt8)×Unit):Option ((List UInt8)):=qej a.1
abbrev h0o:ZC (Patron×Unit):=Zc x03 Zn
abbrev e5d {R:Type}:Sm R:=n5 h0o z6 (fun a=>qb2 a.1)
abbrev e5i {R:Type}:Sm R:=n5 c9m z6 (fun a=>qba a.1)
def e9n {R:Type}:Nat→Sm R:=cl 202 e5d c0
abbrev d1k:=a0f [] [] [3,10,11,12] [] [] (Zs 3 Zi (Zs 10 x0u (Zs 11 Zi (Zs 12 Zi Zz)))) f69 x0r
def c4j {R:Type}:Lp Kd El R:=lp 5 d1k.sem l0
abbrev e6r {R:Type}:Sm R:=n5 a2a t8 (fun a=>qe4 a.1)
abbrev e6e {R:Type}:Sm R:=n5 a2a t8 (fun a=>qd0 a.1)
abbrev e5j {R:Type}:Sm R:=n5 c9l z6 (fun a=>qbc a.1)
def e9p {R:Type}:Nat→Sm R:=cl 137 e6e (cl 203 e6r c0)
abbrev d1m:=a0f [] [] [0,8,9,10] [] [] (Zs 0 x0l (Zs 8 x0l (Zs 9 Zi (Zs 10 Zi Zz)))) b47 x0r
def c4l {R:Type}:Lp Kd El R:=lp 4 d1m.sem l0
abbrev g7m {R:Type}:Sm R:=n5 c1p t8 (fun a=>qb5 a.1 a.2.1 a.2.2.1)
abbrev g8w {R:Type}:Sm R:=n5 a2a t8 (fun a=>qe0 a.1)
abbrev e66 {R:Type}:Sm R:=n5 f4d z6 (fun a=>qfb a.1)
abbrev e6n {R:Type}:Sm R:=n5 d67 t8 (fun a=>qdt a.1 a.2.1)
abbrev h1d:ZC ((List Hold)×((Unit)×(Unit))×Unit):=Zc x0d (Zc (Cod.fnc 193 (Zn) (Zn)) Zn)
abbrev f8z {R:Type}:Sm R:=n5 h1d t8 (fun a=>qd (fun g x0 x1=>qdt x0 x1) a.1 a.2.1)
def f9u {R:Type}:Nat→Sm R:=cl 193 e6n c0
abbrev e1o:=a0f [] [] [0,1,5,8,9,12,13] [] [] (Zs 0 x0d (Zs 1 (Cod.fnc 193 (Zn) (Zn)) x1f)) (c45 (fun g x0 x1=>qdt x0 x1)) (.xs 2 [0,1,8,9] [] [] x08 (.r [4] [] [] (Zs 4 Zb Zz)))
abbrev e1n:=a0f [] [] [0,1,8,9] [] [] x08 (c8e (fun g x0 x1=>qdt x0 x1)) x0t
def c0v {R:Type}:Lp Kd El R:=lp 2 e1n.sem (lp 5 e1o.sem l0)
abbrev e6m {R:Type}:Sm R:=n5 d67 t8 (fun a=>qds a.1 a.2.1)
abbrev c9s:ZC ((List Hold)×((Unit)×(Unit))×Unit):=Zc x0d (Zc (Cod.fnc 194 (Zn) (Zn)) Zn)
abbrev c53 {R:Type}:Sm R:=n5 c9s t8 (fun a=>qd (fun g x0 x1=>qds x0 x1) a.1 a.2.1)
def d3u {R:Type}:Nat→Sm R:=cl 194 e6m c0
abbrev b70:=a0f [] [] [0,1,5,8,9,12,13] [] [] (Zs 0 x0d (Zs 1 (Cod.fnc 194 (Zn) (Zn)) x1f)) (c45 (fun g x0 x1=>qds x0 x1)) (.xs 2 [0,1,8,9] [] [] x09 (.r [4] [] [] (Zs 4 Zb Zz)))
abbrev b7z:=a0f [] [] [0,1,8,9] [] [] x09 (c8e (fun g x0 x1=>qds x0 x1)) x0t
def a85 {R:Type}:Lp Kd El R:=lp 2 b7z.sem (lp 5 b70.sem l0)
abbrev f88 {R:Type}:Sm R:=n5 f9h z6 (fun a=>ql a.1)
def f95 {R:Type}:Nat→Sm R:=cl 191 e66 (cl 192 (si h1d f8z (si c9s c53 s0)) c0)
abbrev e1w:=a0f [] [] [0,9,10,11] [] [] (Zs 0 x0d (Zs 9 x0d x1m)) c8l (.xs 0 [0] [] [] (Zs 0 x0d Zz) x0e)
def d2e {R:Type}:Lp Kd El R:=lp 4 e1w.sem l0
abbrev g81 {R:Type}:Sm R:=n5 a2a t8 (fun a=>qe9 a.1)
abbrev g85 {R:Type}:Sm R:=n5 a2a t8 (fun a=>qek a.1)
abbrev h0r:ZC (Charge×Unit):=Zc (Cod.agg a4r) Zn
abbrev e5g {R:Type}:Sm R:=n5 h0r z6 (fun a=>qb8 a.1)
abbrev e5k {R:Type}:Sm R:=n5 f3t z6 (fun a=>qbd a.1)
def e9q {R:Type}:Nat→Sm R:=cl 204 e5g c0
abbrev d1n:=a0f [] [] [0,9,10,11] [] [] (Zs 0 x0o (Zs 9 x0o x1m)) b48 x0r
def c4m {R:Type}:Lp Kd El R:=lp 4 d1n.sem l0
abbrev g71 {R:Type}:Sm R:=n5 c1p t8 (fun a=>qby a.1 a.2.1 a.2.2.1)
abbrev e6u {R:Type}:Sm R:=n5 d69 t8 (fun a=>qe7 a.1)
abbrev h06:ZC (Rule×Rule×Unit):=Zc x1g (Zc (Cod.cptr a3h) Zn)
abbrev e55 {R:Type}:Sm R:=n5 h06 t8 (fun a=>qcn a.1 a.2.1)
abbrev f3u:ZC ((List Rule)×((Unit)×(Rule×Unit))×Unit):=Zc x02 (Zc (Cod.fnc 206 (Zn) (Zc (Cod.cptr a3h) Zn)) Zn)
abbrev g63 {R:Type}:Sm R:=n5 f3u z6 (fun a=>qa7 (fun g x0=>qcn x0 g.2.1) a.1 a.2.1)
def e80 {R:Type}:Nat→Sm R:=cl 206 e55 c0
abbrev d0w:=a0f [] [] [0,1,7,8] [] [] (Zs 0 x02 (Zs 1 (Cod.fnc 206 (Zn) (Zc (Cod.cptr a3h) Zn)) x0g)) (f6z (fun g x0=>qcn x0 g.2.1)) x0a
def c31 {R:Type}:Lp Kd El R:=lp 2 d0w.sem l0
abbrev e6s {R:Type}:Sm R:=n5 f3u t8 (fun a=>qe5 (fun g x0=>qcn x0 g.2.1) a.1 a.2.1)
abbrev f9b {R:Type}:Sm R:=n5 h1w z6 (fun a=>qv a.1)
def g0g {R:Type}:Nat→Sm R:=cl 205 e6u (cl 207 e6s c0)
abbrev e18:=a0f [] [] [0,9,10,11] [] [] (Zs 0 x02 (Zs 9 x02 x1m)) h5t x0r
def d2j {R:Type}:Lp Kd El R:=lp 4 e18.sem l0
abbrev e5w {R:Type}:Sm R:=n5 a2a t8 (fun a=>qc7 a.1)
abbrev e5s {R:Type}:Sm R:=n5 a2a t8 (fun a=>qc2 a.1)
abbrev f3v:ZC ((List Int)×((Unit)×(Unit))×Unit):=Zc x01 (Zc (Cod.fnc 209 (Zn) (Zn)) Zn)
abbrev g64 {R:Type}:Sm R:=n5 f3v z6 (fun a=>qa8 (fun g x0=>qc2 x0) a.1 a.2.1)
def e81 {R:Type}:Nat→Sm R:=cl 209 e5s c0
abbrev d0x:=a0f [] [] [0,1,7,8] [] [] (Zs 0 x01 (Zs 1 (Cod.fnc 209 (Zn) (Zn)) x0g)) (b8c (fun g x0=>qc2 x0)) x0a
def c32 {R:Type}:Lp Kd El R:=lp 2 d0x.sem l0
abbrev e6t {R:Type}:Sm R:=n5 f3v t8 (fun a=>qe6 (fun g x0=>qc2 x0) a.1 a.2.1)
abbrev f9a {R:Type}:Sm R:=n5 f9i z6 (fun a=>qu a.1)
def g0f {R:Type}:Nat→Sm R:=cl 208 e6t c0
abbrev e17:=a0f [] [] [1,24,25,26] [1] [] (Zp 1 1 (Zs 24 x01 (Zs 25 Zi (Zs 26 Zi (Zx 1 u0 Zz))))) c8o (.xs 1 [] [] [] Zz x0e)
def d2i {R:Type}:Lp Kd El R:=lp 8 e17.sem l0
abbrev h6g {R:Type}:Sm R:=n5 a8m t8 (fun a=>qq a.1)
def g0b {R:Type}:Nat→Sm R:=cl 77 e5f (cl 130 f88 (cl 142 e5i (cl 143 e5j (cl 144 e5k (cl 145 f9b (cl 146 f9a c0))))))
abbrev e13:=a0f [] [] [1,38,39] [1] [] (Zp 1 1 (Zs 38 (Cod.agg a5p) (Zs 39 Zi x0f))) h5r x0i
abbrev d12:=a0f [] [] [1,57,58,59] [1] [] (Zp 1 1 (Zs 57 x0d (Zs 58 Zi (Zs 59 Zi x0f)))) f74 x0y
abbrev d13:=a0f [] [] [1,70,71,72] [1] [] (Zp 1 1 (Zs 70 x0o (Zs 71 Zi (Zs 72 Zi x0f)))) f75 x1a
def b2l {R:Type}:Lp Kd El R:=lp 18 d13.sem (lp 12 d12.sem (lp 4 e13.sem l0))
abbrev h0x:ZC (Patron×Int×Unit):=Zc x03 x0m
abbrev e5t {R:Type}:Sm R:=n5 h0x t8 (fun a=>qc4 a.1 a.2.1)
abbrev h65:ZC ((List Patron)×((Unit)×(Int×Unit))×Unit):=Zc x0u (Zc (Cod.fnc 181 (Zn) x0m) Zn)
abbrev h6d {R:Type}:Sm R:=n5 h65 z6 (fun a=>qm (fun g x0=>qc4 x0 g.2.1) a.1 a.2.1)
def f96 {R:Type}:Nat→Sm R:=cl 181 e5t c0
abbrev e1x:=a0f [] [] [0,1,7,8] [] [] (Zs 0 x0u (Zs 1 (Cod.fnc 181 (Zn) x0m) x0g)) (c8m (fun g x0=>qc4 x0 g.2.1)) x0a
def d2f {R:Type}:Lp Kd El R:=lp 2 e1x.sem l0
abbrev g72 {R:Type}:Sm R:=n5 c9o z6 (fun a=>qbz a.1 a.2.1)
abbrev g77 {R:Type}:Sm R:=n5 c9o f8g (fun a=>qcd a.1 a.2.1)
abbrev h03:ZC (Int×Circ×Unit):=Zc Zi (Zc (Cod.cptr j5) Zn)
abbrev e51 {R:Type}:Sm R:=n5 h03 t8 (fun a=>qcc a.1 a.2.1)
abbrev h6b {R:Type}:Sm R:=n5 a8m t8 (fun a=>qg a.1)
def f9w {R:Type}:Nat→Sm R:=cl 64 c54 (cl 147 e51 c0)
abbrev e1q:=a0f [] [] [1,3,12,13,14] [1] [] (Zp 1 1 (FC.clo 3 147 [] [1] (Zs 12 x0l (Zs 13 Zi (Zs 14 Zi x0f))))) h5g (.xs 0 [1,3] [1] [] (Zp 1 1 (FC.clo 3 147 [] [1] x0f)) x0c)
abbrev e1r:=a0f [] [] [1,3,32,33,34] [1] [] (Zp 1 1 (FC.clo 3 147 [] [1] (Zs 32 x0d (Zs 33 Zi (Zs 34 Zi x0f))))) h5h (.xs 2 [1,3] [1] [] (Zp 1 1 (FC.clo 3 147 [] [1] x0f)) x0c)
abbrev d1x:=a0f [] [] [3,45,46,47] [1] [] (FC.clo 3 147 [] [1] (Zs 45 x0o (Zs 46 Zi (Zs 47 Zi x0f)))) f7s x1a
def b2i {R:Type}:Lp Kd El R:=lp 15 d1x.sem (lp 9 e1r.sem (lp 3 e1q.sem l0))
abbrev h7p:ZD ((Int×Unit)):=(Cod.clo 186 x0m)
abbrev h57 {R:Type}:Sm R:=n5 a2a h7p (fun a=>q8 a.1)
abbrev h0s:ZC (Loan×Int×Unit):=Zc x04 x0m
abbrev e5h {R:Type}:Sm R:=n5 h0s t8 (fun a=>qb9 a.1 a.2.1)
abbrev f9g:ZC ((List Loan)×((Unit)×(Int×Unit))×Unit):=Zc x0l (Zc (Cod.fnc 186 (Zn) x0m) Zn)
abbrev h6c {R:Type}:Sm R:=n5 f9g z6 (fun a=>qi (fun g x0=>qb9 x0 g.2.1) a.1 a.2.1)
def f9x {R:Type}:Nat→Sm R:=cl 186 e5h c0
abbrev e1s:=a0f [] [] [0,1,7,8] [] [] (Zs 0 x0l (Zs 1 (Cod.fnc 186 (Zn) x0m) x0g)) (c8i (fun g x0=>qb9 x0 g.2.1)) x0a
def d2d {R:Type}:Lp Kd El R:=lp 2 e1s.sem l0
abbrev f8d:ZD (Loan×Int):=(Cod.tup2 (Zc x04 x0h))
abbrev g7u {R:Type}:Sm R:=n5 f9g f8d (fun a=>qbl (fun g x0=>qb9 x0 g.2.1) a.1 a.2.1)
abbrev c85 {R:Type}:Sm R:=n5 b69 f8t (fun a=>qck a.1 a.2.1)
abbrev g7v {R:Type}:Sm R:=n5 a8m t8 (fun a=>qbr a.1)
def e9y {R:Type}:Nat→Sm R:=cl 63 c85 c0
abbrev d1v:=a0f [] [] [1,9,10,11] [1] [] (Zp 1 1 (Zs 9 x0s (Zs 10 Zi (Zs 11 Zi x0f)))) f7e x1o
def c4u {R:Type}:Lp Kd El R:=lp 2 d1v.sem l0
abbrev d7b:ZC (Hold×Int×Unit):=Zc x0q x0m
abbrev e56 {R:Type}:Sm R:=n5 d7b t8 (fun a=>qco a.1 a.2.1)
abbrev h61:ZC ((List Hold)×((Unit)×(Int×Unit))×Unit):=Zc x0d (Zc (Cod.fnc 124 (Zn) x0m) Zn)
abbrev h58 {R:Type}:Sm R:=n5 h61 z6 (fun a=>qa (fun g x0=>qco x0 g.2.1) a.1 a.2.1)
def f9r {R:Type}:Nat→Sm R:=cl 124 e56 c0
abbrev e1j:=a0f [] [] [0,1,7,8] [] [] (Zs 0 x0d (Zs 1 (Cod.fnc 124 (Zn) x0m) x0g)) (b17 (fun g x0=>qco x0 g.2.1)) x0a
def d2a {R:Type}:Lp Kd El R:=lp 2 e1j.sem l0
abbrev e46 {R:Type}:Sm R:=n5 b2s e4a (fun a=>qao a.1 a.2.1)
abbrev g66 {R:Type}:Sm R:=n5 a8m t8 (fun a=>qad a.1)
def e85 {R:Type}:Nat→Sm R:=cl 52 e46 (cl 64 c54 c0)
abbrev d01:=a0f [] [] [1,13,14,15] [1] [] (Zp 1 1 (Zs 13 x0d (Zs 14 Zi (Zs 15 Zi x0f)))) f60 x0i
abbrev c3k:=a0f [] [] [1,65,66,67] [1] [] (Zp 1 1 (Zs 65 x0s (Zs 66 Zi (Zs 67 Zi x0f)))) e29 x1b
def b4f {R:Type}:Lp Kd El R:=lp 16 c3k.sem (lp 2 d01.sem l0)
abbrev g8y {R:Type}:Sm R:=n5 a8m t8 (fun a=>qe2 a.1)
abbrev f9j:ZC (Circ×Item×Unit):=Zc x0p (Zc x0x Zn)
abbrev b2a:ZD (Circ×Int):=(Cod.tup2 (Zc x0p x0h))
abbrev h6j {R:Type}:Sm R:=n5 f9j b2a (fun a=>qx a.1 a.2.1)
abbrev h1g:ZC (Patron×Patron×Unit):=Zc x03 (Zc (Cod.cptr a0c) Zn)
abbrev e6g {R:Type}:Sm R:=n5 h1g t8 (fun a=>qda a.1 a.2.1)
abbrev e8e:ZC ((List Patron)×((Unit)×(Patron×Unit))×Unit):=Zc x0u (Zc (Cod.fnc 177 (Zn) (Zc (Cod.cptr a0c) Zn)) Zn)
abbrev e7a {R:Type}:Sm R:=n5 e8e z6 (fun a=>qm (fun g x0=>qda x0 g.2.1) a.1 a.2.1)
def d3w {R:Type}:Nat→Sm R:=cl 177 e6g c0
abbrev b72:=a0f [] [] [0,1,7,8] [] [] (Zs 0 x0u (Zs 1 (Cod.fnc 177 (Zn) (Zc (Cod.cptr a0c) Zn)) x0g)) (c8m (fun g x0=>qda x0 g.2.1)) x0a
def b4n {R:Type}:Lp Kd El R:=lp 2 b72.sem l0
abbrev f8j:ZD ((List Patron)):=x0u
abbrev g8g {R:Type}:Sm R:=n5 c9m f8j (fun a=>qd4 a.1)
abbrev d7c:ZC ((List Patron)×Int×(List Patron)×Unit):=Zc x0u (Zc Zi (Zc x0u Zn))
abbrev f8i:ZD ((List Patron)):=f8j
def f6l (a:(List Patron)×Int×(List Patron)×Unit):Option ((List Patron)):=qd3 a.1 a.2.1 a.2.2.1
abbrev f8o:ZD ((List Patron)×Int):=(Cod.tup2 (Zc x0u x0h))
abbrev g8h {R:Type}:Sm R:=n5 c9m f8o (fun a=>qd9 a.1)
abbrev h0n:ZC ((List Patron)×Patron×Unit):=Zc x0u (Zc x03 Zn)
abbrev g7k {R:Type}:Sm R:=n5 h0n f8o (fun a=>qb1 a.1 a.2.1)
abbrev f4c:ZC (Circ×Patron×Unit):=Zc x0p (Zc x03 Zn)
abbrev g8s {R:Type}:Sm R:=n5 f4c b2a (fun a=>qdr a.1 a.2.1)
abbrev f4e:ZC (Unit):=Zn
abbrev g82 {R:Type}:Sm R:=n5 f4e f8w (fun a=>qee)
abbrev h5w:ZC (Circ_desk):=m9
abbrev e43 {R:Type}:Sm R:=f8x a8m h5w (fun a=>qac a.1)
abbrev d26:ZC (Unit×Int×Unit):=Zc (Cod.ptrc 100000) x0h
abbrev b19:ZD (Unit):=Cod.unit
abbrev h6f {R:Type}:Sm R:=b5z d26 (BC.one m9) b19 (fun a b=>qo a.2.1 b)
abbrev g7x {R:Type}:Sm R:=b5z d26 (BC.one m9) z6 (fun a b=>qbu a.2.1 b)
abbrev h1k:ZC ((List Move)×Unit):=Zc x1p Zn
abbrev h50:ZD ((List Move)):=x1p
abbrev g8m {R:Type}:Sm R:=n5 h1k h50 (fun a=>qdl a.1)
abbrev f3y:ZC (Unit×Int×Int×Int×Int×Unit):=Zc (Cod.ptrc 100000) (Zc Zi x1e)
abbrev g7c {R:Type}:Sm R:=b5z f3y (BC.one m9) b19 (fun a b=>qam a.2.1 a.2.2.1 a.2.2.2.1 a.2.2.2.2.1 b)
abbrev e6c {R:Type}:Sm R:=n5 f9j z6 (fun a=>qcw a.1 a.2.1)
abbrev e6z {R:Type}:Sm R:=n5 d7b t8 (fun a=>qeh a.1 a.2.1)
abbrev e79:ZC ((List Hold)×((Unit)×(Int×Unit))×Unit):=Zc x0d (Zc (Cod.fnc 195 (Zn) x0m) Zn)
abbrev e4v {R:Type}:Sm R:=n5 e79 z6 (fun a=>qa (fun g x0=>qeh x0 g.2.1) a.1 a.2.1)
def d3l {R:Type}:Nat→Sm R:=cl 195 e6z c0
abbrev b7q:=a0f [] [] [0,1,7,8] [] [] (Zs 0 x0d (Zs 1 (Cod.fnc 195 (Zn) x0m) x0g)) (b17 (fun g x0=>qeh x0 g.2.1)) x0a
def b37 {R:Type}:Lp Kd El R:=lp 2 b7q.sem l0
abbrev c1n:ZC ((List Hold)×Int×Unit):=Zc x0d x0h
abbrev g61 {R:Type}:Sm R:=n5 c1n z6 (fun a=>qa5 a.1 a.2.1)
abbrev e54 {R:Type}:Sm R:=n5 c1n e4a (fun a=>qci a.1 a.2.1)
abbrev d68:ZC (Unit×Int×Int×Unit):=Zc (Cod.ptrc 100000) x0n
abbrev g70 {R:Type}:Sm R:=b5z d68 (BC.one m9) b19 (fun a b=>qbx a.2.1 a.2.2.1 b)
abbrev g9b {R:Type}:Sm R:=n5 c1o t8 (fun a=>qes a.1 a.2.1)
abbrev h0p:ZC (Rule×Int×Int×Int×Unit):=Zc x1g x1e
abbrev e5e {R:Type}:Sm R:=n5 h0p t8 (fun a=>qb4 a.1 a.2.1 a.2.2.1 a.2.2.2.1)
abbrev e5l {R:Type}:Sm R:=n5 d69 z6 (fun a=>qbh a.1)
def e9s {R:Type}:Nat→Sm R:=c0
abbrev d1p:=a0f [] [] [3,12,13,14] [] [12] (Zs 3 Zi (FC.arr 12 12 (Zs 13 Zi (Zs 14 Zi (FC.own 12 Kd.ki64 false Zz))))) b1k (.x 0 [3] [] [] x06)
def c4o {R:Type}:Lp Kd El R:=lp 3 d1p.sem l0
abbrev f3z:ZC ((List Rule)×Int×Int×Int×Unit):=Zc x02 x1e
abbrev g7o {R:Type}:Sm R:=n5 f3z z6 (fun a=>qbb a.1 a.2.1 a.2.2.1 a.2.2.2.1)
def e9o {R:Type}:Nat→Sm R:=cl 225 e5e (cl 226 e5l c0)
abbrev d1l:=a0f [] [] [0,1,2,3,9,12,13,14] [] [] (Zs 0 x02 (Zs 1 Zi (Zs 2 Zi (Zs 3 Zi (Zs 9 Zi (Zs 12 x02 (Zs 13 Zi (Zs 14 Zi Zz)))))))) b46 (.x 0 [9] [] [] (Zs 9 Zi Zz))
def c4k {R:Type}:Lp Kd El R:=lp 3 d1l.sem l0
abbrev f8u:ZD (Rule×Bool):=(Cod.tup2 (Zc x1g x1d))
abbrev g84 {R:Type}:Sm R:=n5 f3z f8u (fun a=>qeg a.1 a.2.1 a.2.2.1 a.2.2.2.1)
abbrev h0q:ZC (Circ×Int×Item×Unit):=Zc x0p (Zc Zi (Zc x0x Zn))
abbrev g7n {R:Type}:Sm R:=n5 h0q f8u (fun a=>qb7 a.1 a.2.1 a.2.2.1)
abbrev h5z:ZD (Calendar):=x1j
abbrev g79 {R:Type}:Sm R:=n5 b2s h5z (fun a=>qcl a.1 a.2.1)
abbrev g80 {R:Type}:Sm R:=n5 a2a t8 (fun a=>qe8 a.1)
abbrev e65 {R:Type}:Sm R:=n5 c1o t8 (fun a=>qfa a.1 a.2.1)
abbrev e61 {R:Type}:Sm R:=n5 a2a t8 (fun a=>qeo a.1)
abbrev h0l:ZC ((List Int)×Int×Unit):=Zc x01 x0h
abbrev h5y:ZD (Int×Bool):=(Cod.tup2 (Zc Zi x1d))
abbrev g7i {R:Type}:Sm R:=n5 h0l h5y (fun a=>qaz a.1 a.2.1)
def e9m {R:Type}:Nat→Sm R:=cl 242 e65 (cl 268 e61 c0)
abbrev d1i:=a0f [] [] [0,1,6,7,8] [] [] (Zs 0 x01 (Zs 1 Zi (Zs 6 Zi x0g))) b8n (.x 0 [0,1,6,7] [] [] (Zs 0 x01 (Zs 1 Zi (Zs 6 Zi (Zs 7 Zi Zz)))))
def c4i {R:Type}:Lp Kd El R:=lp 3 d1i.sem l0
abbrev h5x:ZD ((V7 Bool)):=(Cod.agg a02)
abbrev e5a {R:Type}:Sm R:=n5 f9i h5x (fun a=>qat a.1)
def e9g {R:Type}:Nat→Sm R:=c0
abbrev d1c:=a0f [] [] [1,2,3,5] [1,2,3] [] (Zp 1 1 (Zp 2 2 (Zp 3 3 (Zs 5 Zi (Zx 1 u0 (Zx 2 a02 (Zx 3 a02 Zz))))))) e3a (.x 0 [2,3] [2,3] [] (Zp 2 2 (Zp 3 3 (Zx 2 a02 (Zx 3 a02 Zz)))))
def c4c {R:Type}:Lp Kd El R:=lp 3 d1c.sem l0
abbrev g9s {R:Type}:Sm R:=n5 a2a t8 (fun a=>qfp a.1)
abbrev e6h {R:Type}:Sm R:=n5 a2a z6 (fun a=>qdb a.1)
abbrev d7a:ZC (Calendar×Int×Unit):=Zc x1j x0h
abbrev c84 {R:Type}:Sm R:=n5 d7a t8 (fun a=>qcj a.1 a.2.1)
abbrev e4s {R:Type}:Sm R:=n5 d7a b5p (fun a=>qa2 a.1 a.2.1)
def e8w {R:Type}:Nat→Sm R:=cl 223 c84 c0
abbrev d0s:=a0f [] [] [2,6] [2] [] (Zp 2 2 (Zs 6 Zi (Zx 2 u0 Zz))) c40 x1i
def c3w {R:Type}:Lp Kd El R:=lp 2 d0s.sem l0
abbrev f3w:ZC (Calendar×Int×Int×Unit):=Zc x1j x0n
abbrev g65 {R:Type}:Sm R:=n5 f3w b5p (fun a=>qa9 a.1 a.2.1 a.2.2.1)
def e82 {R:Type}:Nat→Sm R:=cl 183 e4s (cl 196 e5w c0)
abbrev d0y:=a0f [] [] [3,8,28,29] [3] [] (Zp 3 3 (Zs 8 Zi (Zs 28 Zi (Zs 29 Zi (Zx 3 u0 Zz))))) b8d (.xs 0 [8] [] [] (Zs 8 Zi Zz) (.r [6,7] [] [] (Zs 6 Zi (Zs 7 Zi Zz))))
def c34 {R:Type}:Lp Kd El R:=lp 9 d0y.sem l0
abbrev g9a {R:Type}:Sm R:=b5z d68 (BC.one m9) z6 (fun a b=>qeq a.2.1 a.2.2.1 b)
abbrev h07:ZC (Hold×Int×Int×Unit):=Zc x0q x1l
abbrev e57 {R:Type}:Sm R:=n5 h07 t8 (fun a=>qcq a.1 a.2.1 a.2.2.1)
abbrev c9h:ZC ((List Hold)×((Unit)×(Int×Int×Unit))×Unit):=Zc x0d (Zc (Cod.fnc 173 (Zn) x1l) Zn)
abbrev e4w {R:Type}:Sm R:=n5 c9h z6 (fun a=>qa (fun g x0=>qcq x0 g.2.1 g.2.2.1) a.1 a.2.1)
def d3m {R:Type}:Nat→Sm R:=cl 173 e57 c0
abbrev b7r:=a0f [] [] [0,1,7,8] [] [] (Zs 0 x0d (Zs 1 (Cod.fnc 173 (Zn) x1l) x0g)) (b17 (fun g x0=>qcq x0 g.2.1 g.2.2.1)) x0a
def b38 {R:Type}:Lp Kd El R:=lp 2 b7r.sem l0
abbrev g7l {R:Type}:Sm R:=n5 c9h t8 (fun a=>qb3 (fun g x0=>qcq x0 g.2.1 g.2.2.1) a.1 a.2.1)
abbrev g8o {R:Type}:Sm R:=n5 f9h f24 (fun a=>qdn a.1)
abbrev h1e:ZC ((List Hold)×Int×Hold×Unit):=Zc x0d (Zc Zi x1h)
abbrev g8f {R:Type}:Sm R:=n5 h1e f24 (fun a=>qd1 a.1 a.2.1 a.2.2.1)
abbrev h0i:ZC ((List Hold)×Int×Int×Int×Int×Unit):=Zc x0d (Zc Zi x1e)
abbrev e39:ZD ((List Hold)×Int):=(Cod.tup2 (Zc x0d x0h))
abbrev g7e {R:Type}:Sm R:=n5 h0i e39 (fun a=>qap a.1 a.2.1 a.2.2.1 a.2.2.2.1 a.2.2.2.2.1)
abbrev h02:ZC (Unit×(List Hold)×Int×Unit):=Zc (Cod.ptrc 100000) (Zc x0d x0h)
abbrev g76 {R:Type}:Sm R:=b5z h02 (BC.one m9) b19 (fun a b=>qcb a.2.1 a.2.2.1 b)
abbrev h1l:ZC (Unit×Int×Hold×Unit):=Zc (Cod.ptrc 100000) (Zc Zi x1h)
abbrev g8p {R:Type}:Sm R:=b5z h1l (BC.one m9) b19 (fun a b=>qdo a.2.1 a.2.2.1 b)
abbrev e52 {R:Type}:Sm R:=b5z d26 (BC.one m9) b19 (fun a b=>qcg a.2.1 b)
abbrev h64:ZC (Unit×Unit):=Zc (Cod.ptrc 100000) Zn
abbrev f85 {R:Type}:Sm R:=b5z h64 (BC.one m9) b2a (fun a b=>qh b)
abbrev c9r:ZC (Circ×Int×Int×Unit):=Zc x0p x0n
abbrev g8c {R:Type}:Sm R:=n5 c9r b2a (fun a=>qct a.1 a.2.1 a.2.2.1)
abbrev h0h:ZC ((List Charge)×Int×Unit):=Zc x0o x0h
abbrev g62 {R:Type}:Sm R:=n5 h0h z6 (fun a=>qa6 a.1 a.2.1)
def e8z {R:Type}:Nat→Sm R:=c0
abbrev d0v:=a0f [] [] [1,5,8,9,10] [] [] (Zs 1 Zi (Zs 5 Zi (Zs 8 x0o (Zs 9 Zi (Zs 10 Zi Zz))))) b8b (.x 0 [5] [] [] x07)
def c3z {R:Type}:Lp Kd El R:=lp 3 d0v.sem l0
abbrev d6d:ZD ((List Loan)):=x0l
abbrev e7b {R:Type}:Sm R:=n5 b69 d6d (fun a=>qy a.1 a.2.1)
def g0i {R:Type}:Nat→Sm R:=c0
abbrev e2a:=a0f [(5,5,Kd.kLoan)] [] [1,5,8,9,10] [] [5] (Zs 1 Zi (FC.arr 5 5 (Zs 8 x0l (Zs 9 Zi (Zs 10 Zi (FC.own 5 Kd.kLoan false Zz)))))) d6b (.x 0 [5] [] [5] (FC.arr 5 5 (FC.own 5 Kd.kLoan false Zz)))
def d2k {R:Type}:Lp Kd El R:=lp 3 e2a.sem l0
abbrev c9n:ZC ((List Loan)×Int×Int×Unit):=Zc x0l x0n
abbrev g7g {R:Type}:Sm R:=n5 c9n z6 (fun a=>qaw a.1 a.2.1 a.2.2.1)
def e9j {R:Type}:Nat→Sm R:=cl 116 e7b c0
abbrev d1f:=a0f [] [] [2,7,12,13,14] [] [] (Zs 2 Zi (Zs 7 Zi (Zs 12 x0l (Zs 13 Zi (Zs 14 Zi Zz))))) b8k (.x 0 [7] [] [] (Zs 7 Zi Zz))
def c4f {R:Type}:Lp Kd El R:=lp 3 d1f.sem l0
abbrev h0u:ZC (Patron×Int×Int×Int×Unit):=Zc x03 x1e
abbrev g7r {R:Type}:Sm R:=n5 h0u c5o (fun a=>qbg a.1 a.2.1 a.2.2.1 a.2.2.2.1)
def e9r {R:Type}:Nat→Sm R:=c0
abbrev d1o:=a0f [(9,9,Kd.ki64)] [] [9,22,23,24] [] [9,22] (FC.arr 9 9 (FC.arr 22 22 (Zs 23 Zi (Zs 24 Zi (FC.own 9 Kd.ki64 false (FC.own 22 Kd.kbool false Zz)))))) e3d (.x 0 [9] [] [9] (FC.arr 9 9 (FC.own 9 Kd.ki64 false Zz)))
def c4n {R:Type}:Lp Kd El R:=lp 3 d1o.sem l0
abbrev e6j {R:Type}:Sm R:=n5 f4c t8 (fun a=>qdd a.1 a.2.1)
abbrev g7w {R:Type}:Sm R:=n5 d7a b5p (fun a=>qbs a.1 a.2.1)
def e9z {R:Type}:Nat→Sm R:=cl 223 c84 c0
abbrev d1w:=a0f [] [] [2,6] [2] [] (Zp 2 2 (Zs 6 Zi (Zx 2 u0 Zz))) c42 x1i
def c4v {R:Type}:Lp Kd El R:=lp 2 d1w.sem l0
abbrev f4b:ZC (Rule×Calendar×Int×Int×Unit):=Zc x1g (Zc x1j x0n)
abbrev g8i {R:Type}:Sm R:=n5 f4b b5p (fun a=>qdh a.1 a.2.1 a.2.2.1 a.2.2.2.1)
abbrev h1t:ZC (Circ×Item×Patron×Int×Unit):=Zc x0p (Zc x0x (Zc x03 x0h))
abbrev g9d {R:Type}:Sm R:=n5 h1t b5p (fun a=>qev a.1 a.2.1 a.2.2.1 a.2.2.2.1)
abbrev h1a:ZC (Loan×Loan×Unit):=Zc x04 (Zc (Cod.cptr a1u) Zn)
abbrev e6b {R:Type}:Sm R:=n5 h1a t8 (fun a=>qcv a.1 a.2.1)
abbrev b9c:ZC ((List Loan)×((Unit)×(Loan×Unit))×Unit):=Zc x0l (Zc (Cod.fnc 120 (Zn) (Zc (Cod.cptr a1u) Zn)) Zn)
abbrev e69 {R:Type}:Sm R:=n5 b9c z6 (fun a=>qi (fun g x0=>qcv x0 g.2.1) a.1 a.2.1)
def d3v {R:Type}:Nat→Sm R:=cl 120 e6b c0
abbrev b71:=a0f [] [] [0,1,7,8] [] [] (Zs 0 x0l (Zs 1 (Cod.fnc 120 (Zn) (Zc (Cod.cptr a1u) Zn)) x0g)) (c8i (fun g x0=>qcv x0 g.2.1)) x0a
def b4m {R:Type}:Lp Kd El R:=lp 2 b71.sem l0
abbrev d6p {R:Type}:Sm R:=n5 b9c f8d (fun a=>qbl (fun g x0=>qcv x0 g.2.1) a.1 a.2.1)
abbrev g8n {R:Type}:Sm R:=n5 c9l d6d (fun a=>qdm a.1)
abbrev d7d:ZC ((List Loan)×Int×(List Loan)×Unit):=Zc x0l (Zc Zi (Zc x0l Zn))
abbrev f8k:ZD ((List Loan)):=d6d
def f6m (a:(List Loan)×Int×(List Loan)×Unit):Option ((List Loan)):=qd5 a.1 a.2.1 a.2.2.1
abbrev d2v:ZD ((List Loan)×Int):=(Cod.tup2 (Zc x0l x0h))
abbrev g8b {R:Type}:Sm R:=n5 c9l d2v (fun a=>qcp a.1)
abbrev h0w:ZC ((List Loan)×Loan×Unit):=Zc x0l (Zc x04 Zn)
abbrev g7z {R:Type}:Sm R:=n5 h0w d2v (fun a=>qbw a.1 a.2.1)
abbrev h01:ZC (Unit×(List Loan)×Int×Unit):=Zc (Cod.ptrc 100000) (Zc x0l x0h)
abbrev g75 {R:Type}:Sm R:=b5z h01 (BC.one m9) b19 (fun a b=>qca a.2.1 a.2.2.1 b)
abbrev d7g:ZC ((List Hold)×Int×Int×Unit):=h1v
abbrev f8n:ZD ((List Hold)):=f24
def f6p (a:(List Hold)×Int×Int×Unit):Option ((List Hold)):=qd8 a.1 a.2.1 a.2.2.1
abbrev h52:ZD ((List Hold)×Hold×Int):=(Cod.tup3 (Zc x0d (Zc x0q x0h)))
abbrev g9e {R:Type}:Sm R:=n5 c1n h52 (fun a=>qex a.1 a.2.1)
abbrev g8r {R:Type}:Sm R:=b5z d26 (BC.one m9) b19 (fun a b=>qdq a.2.1 b)
abbrev b5o:ZD (Circ×Int×Int):=(Cod.tup3 (Zc x0p x0n))
abbrev g7q {R:Type}:Sm R:=b5z d26 (BC.one m9) b5o (fun a b=>qbf a.2.1 b)
abbrev h04:ZC (Hold×Item×Unit):=Zc x0q (Zc x0x Zn)
abbrev e53 {R:Type}:Sm R:=n5 h04 t8 (fun a=>qch a.1 a.2.1)
abbrev h1i:ZC (Hold×Int×Item×Unit):=Zc x0q (Zc x0b x0k)
abbrev e6l {R:Type}:Sm R:=n5 h1i t8 (fun a=>qdf a.1 a.2.1 a.2.2.1)
abbrev e8a:ZC ((List Hold)×((Unit)×(Int×Item×Unit))×Unit):=Zc x0d (Zc (Cod.fnc 56 (Zn) (Zc x0b x0k)) Zn)
abbrev e4x {R:Type}:Sm R:=n5 e8a z6 (fun a=>qa (fun g x0=>qdf x0 g.2.1 g.2.2.1) a.1 a.2.1)
def d3n {R:Type}:Nat→Sm R:=cl 56 e6l c0
abbrev b7s:=a0f [] [] [0,1,7,8] [] [] (Zs 0 x0d (Zs 1 (Cod.fnc 56 (Zn) (Zc x0b x0k)) x0g)) (b17 (fun g x0=>qdf x0 g.2.1 g.2.2.1)) x0a
def b39 {R:Type}:Lp Kd El R:=lp 2 b7s.sem l0
abbrev h0t:ZC (Circ×Int×Int×Int×Unit):=Zc x0p x1e
abbrev g7p {R:Type}:Sm R:=n5 h0t b5o (fun a=>qbe a.1 a.2.1 a.2.2.1 a.2.2.2.1)
abbrev h1c:ZC (Item×Int×Unit):=Zc x0x x0h
abbrev g8e {R:Type}:Sm R:=n5 h1c t8 (fun a=>qcz a.1 a.2.1)
abbrev h0y:ZC (Item×Hold×Unit):=Zc x0x (Zc (Cod.cptr y3) Zn)
abbrev e5u {R:Type}:Sm R:=n5 h0y t8 (fun a=>qc5 a.1 a.2.1)
abbrev e8d:ZC ((List Item)×((Unit)×(Hold×Unit))×Unit):=Zc x0s (Zc (Cod.fnc 126 (Zn) (Zc (Cod.cptr y3) Zn)) Zn)
abbrev c52 {R:Type}:Sm R:=n5 e8d z6 (fun a=>qc (fun g x0=>qc5 x0 g.2.1) a.1 a.2.1)
def d3s {R:Type}:Nat→Sm R:=cl 126 e5u c0
abbrev b7x:=a0f [] [] [0,1,7,8] [] [] (Zs 0 x0s (Zs 1 (Cod.fnc 126 (Zn) (Zc (Cod.cptr y3) Zn)) x0g)) (c06 (fun g x0=>qc5 x0 g.2.1)) x0a
def b4k {R:Type}:Lp Kd El R:=lp 2 b7x.sem l0
abbrev h68:ZC (Circ×Patron×Hold×Unit):=Zc x0p (Zc x03 x1h)
abbrev h7q:ZD (Item×Int):=(Cod.tup2 (Zc x0x x0h))
abbrev h6i {R:Type}:Sm R:=n5 h68 h7q (fun a=>qt a.1 a.2.1 a.2.2.1)
def g0e {R:Type}:Nat→Sm R:=cl 64 c54 (cl 65 e6j (cl 111 c52 (cl 116 e7b c0)))
abbrev e16:=a0f [] [] [3,5,6,8,36,37,38] [3,5,6] [] (Zp 3 3 (Zp 5 5 (Zp 6 6 (Zs 8 Zi (Zs 36 x0l (Zs 37 Zi (Zs 38 Zi (Zx 3 j5 (Zx 5 y3 (Zx 6 u4 Zz)))))))))) c8n (.xs 0 [3,6,8] [3,6] [] (Zp 3 3 (Zp 6 6 (Zs 8 Zi (Zx 3 j5 (Zx 6 u4 Zz))))) (.r [7] [6] [6] (Zp 6 6 (Zs 7 Zi (Zx 6 u4 Zz)))))
def d2h {R:Type}:Lp Kd El R:=lp 9 e16.sem l0
abbrev h1o:ZC ((List Hold)×Hold×Unit):=Zc x0d x1h
abbrev g8x {R:Type}:Sm R:=n5 h1o e39 (fun a=>qe1 a.1 a.2.1)
abbrev e49 {R:Type}:Sm R:=b5z d26 (BC.one m9) b19 (fun a b=>qas a.2.1 b)
def e9f {R:Type}:Nat→Sm R:=cl 42 e52 (cl 89 e6c c0)
abbrev d1b:=a0f [] [] [0,1,11,12] [100000] [] (Zp 0 100000 (Zs 1 Zi (Zs 11 Zi (Zs 12 Zi (Zx 100000 m9 Zz))))) a4b (.xs 0 [] [100000] [] (Zx 100000 m9 Zz) (.r [] [] [100000] (Zx 100000 m9 Zz)))
def c4b {R:Type}:Lp Kd El R:=lp 1 d1b.sem l0
abbrev h1n:ZC (Circ×Int×Int×Int×Int×Unit):=Zc x0p (Zc Zi x1e)
abbrev g8v {R:Type}:Sm R:=n5 h1n b5o (fun a=>qdy a.1 a.2.1 a.2.2.1 a.2.2.2.1 a.2.2.2.2.1)
abbrev h09:ZC (Hold×Circ×Item×Unit):=Zc x0q (Zc (Cod.cptr j5) x0k)
abbrev e59 {R:Type}:Sm R:=n5 h09 t8 (fun a=>qcs a.1 a.2.1 a.2.2.1)
abbrev c9i:ZC ((List Hold)×((Unit)×(Circ×Item×Unit))×Unit):=Zc x0d (Zc (Cod.fnc 66 (Zn) (Zc (Cod.cptr j5) x0k)) Zn)
abbrev e4y {R:Type}:Sm R:=n5 c9i z6 (fun a=>qa (fun g x0=>qcs x0 g.2.1 g.2.2.1) a.1 a.2.1)
def d3o {R:Type}:Nat→Sm R:=cl 66 e59 c0
abbrev b7t:=a0f [] [] [0,1,7,8] [] [] (Zs 0 x0d (Zs 1 (Cod.fnc 66 (Zn) (Zc (Cod.cptr j5) x0k)) x0g)) (b17 (fun g x0=>qcs x0 g.2.1 g.2.2.1)) x0a
def b4a {R:Type}:Lp Kd El R:=lp 2 b7t.sem l0
abbrev d6n {R:Type}:Sm R:=n5 c9i t8 (fun a=>qb3 (fun g x0=>qcs x0 g.2.1 g.2.2.1) a.1 a.2.1)
abbrev h1s:ZC (Rule×Calendar×Loan×Int×Int×Unit):=Zc x1g (Zc x1j (Zc x04 x0n))
abbrev g9c {R:Type}:Sm R:=n5 h1s b5p (fun a=>qeu a.1 a.2.1 a.2.2.1 a.2.2.2.1 a.2.2.2.2.1)
abbrev h1m:ZC ((List Loan)×Int×Loan×Unit):=Zc x0l (Zc Zi (Zc x04 Zn))
abbrev g8q {R:Type}:Sm R:=n5 h1m d6d (fun a=>qdp a.1 a.2.1 a.2.2.1)
abbrev g9r {R:Type}:Sm R:=n5 c9n d2v (fun a=>qfo a.1 a.2.1 a.2.2.1)
abbrev g7y {R:Type}:Sm R:=n5 b2s b5o (fun a=>qbv a.1 a.2.1)
abbrev h0g:ZC (Circ×Hold×Unit):=Zc x0p x1h
abbrev h5v:ZD (Loan×Item×Bool):=(Cod.tup3 (Zc x04 (Zc x0x x1d)))
abbrev g60 {R:Type}:Sm R:=n5 h0g h5v (fun a=>qa1 a.1 a.2.1)
def e8v {R:Type}:Nat→Sm R:=cl 57 e53 (cl 63 c85 c0)
abbrev d0r:=a0f [] [] [2,3,4,5,6,12,13,14] [2,3,4,5] [] (Zp 2 2 (Zp 3 3 (Zp 4 4 (Zp 5 5 (Zs 6 Zb (Zs 12 x0s (Zs 13 Zi (Zs 14 Zi (Zx 2 j5 (Zx 3 y3 (Zx 4 a1u (Zx 5 u4 Zz)))))))))))) b4y (.x 0 [4,5,6] [4,5] [] (Zp 4 4 (Zp 5 5 (Zs 6 Zb (Zx 4 a1u (Zx 5 u4 Zz))))))
def c3v {R:Type}:Lp Kd El R:=lp 2 d0r.sem l0
abbrev g9p {R:Type}:Sm R:=n5 c9n d2v (fun a=>qfm a.1 a.2.1 a.2.2.1)
abbrev g9f {R:Type}:Sm R:=n5 b2s b5o (fun a=>qey a.1 a.2.1)
abbrev d7f:ZC ((List Loan)×Int×Int×Unit):=c9n
abbrev f8m:ZD ((List Loan)):=d6d
def f6o (a:(List Loan)×Int×Int×Unit):Option ((List Loan)):=qd7 a.1 a.2.1 a.2.2.1
abbrev g9j {R:Type}:Sm R:=n5 b69 d6d (fun a=>qfg a.1 a.2.1)
abbrev h51:ZD ((List Loan)×Loan×Int):=(Cod.tup3 (Zc x0l (Zc x04 x0h)))
abbrev g8u {R:Type}:Sm R:=n5 b69 h51 (fun a=>qdx a.1 a.2.1)
abbrev e63 {R:Type}:Sm R:=n5 c1o z6 (fun a=>qet a.1 a.2.1)
abbrev g67 {R:Type}:Sm R:=n5 f3w z6 (fun a=>qae a.1 a.2.1 a.2.2.1)
def e86 {R:Type}:Nat→Sm R:=cl 228 e5a (cl 229 e63 (cl 230 e6h c0))
abbrev d02:=a0f [] [] [1,2,3,7,8,22,23] [3,7] [] (Zs 1 Zi (Zs 2 Zi (Zp 3 3 (Zp 7 7 (Zs 8 Zi (Zs 22 (Cod.agg a02) (Zs 23 Zi (Zx 3 u0 (Zx 7 a02 Zz))))))))) b43 (.x 0 [1,2,3,7,8] [3,7] [] (Zs 1 Zi (Zs 2 Zi (Zp 3 3 (Zp 7 7 (Zs 8 Zi (Zx 3 u0 (Zx 7 a02 Zz))))))))
abbrev c3l:=a0f [] [] [1,2,7,8,40,41,42] [7] [] (Zs 1 Zi (Zs 2 Zi (Zp 7 7 (Zs 8 Zi (Zs 40 x01 (Zs 41 Zi (Zs 42 Zi (Zx 7 a02 Zz)))))))) b00 (.x 2 [8] [] [] (Zs 8 Zi Zz))
def b4g {R:Type}:Lp Kd El R:=lp 13 c3l.sem (lp 7 d02.sem l0)
abbrev g9v {R:Type}:Sm R:=n5 f4b z6 (fun a=>qfs a.1 a.2.1 a.2.2.1 a.2.2.2.1)
abbrev h1j:ZC ((List Charge)×Charge×Unit):=Zc x0o (Zc (Cod.agg a4r) Zn)
abbrev f8q:ZD ((List Charge)×Int):=(Cod.tup2 (Zc x0o x0h))
abbrev g8k {R:Type}:Sm R:=n5 h1j f8q (fun a=>qdj a.1 a.2.1)
abbrev g89 {R:Type}:Sm R:=b5z f3y (BC.one m9) b19 (fun a b=>qep a.2.1 a.2.2.1 a.2.2.2.1 a.2.2.2.2.1 b)
abbrev h00:ZC (Charge×Int×Int×Int×Unit):=Zc (Cod.agg a4r) (Zc x0b x1l)
abbrev e5y {R:Type}:Sm R:=n5 h00 t8 (fun a=>qc9 a.1 a.2.1 a.2.2.1 a.2.2.2.1)
abbrev h0j:ZC ((List Charge)×((Unit)×(Int×Int×Int×Unit))×Unit):=Zc x0o (Zc (Cod.fnc 200 (Zn) (Zc x0b x1l)) Zn)
abbrev f8c:ZD ((List Charge)×Int×Int):=(Cod.tup3 (Zc x0o x0n))
abbrev g7f {R:Type}:Sm R:=n5 h0j f8c (fun a=>qau (fun g x0=>qc9 x0 g.2.1 g.2.2.1 g.2.2.2.1) a.1 a.2.1)
def e9h {R:Type}:Nat→Sm R:=cl 200 e5y c0
abbrev d1d:=a0f [(4,4,Kd.kCharge)] [] [1,4,5,6,9,10,11] [] [4] (Zs 1 (Cod.fnc 200 (Zn) (Zc x0b x1l)) (FC.arr 4 4 (Zs 5 Zi (Zs 6 Zi (Zs 9 x0o (Zs 10 Zi (Zs 11 Zi (FC.own 4 Kd.kCharge false Zz)))))))) (b8i (fun g x0=>qc9 x0 g.2.1 g.2.2.1 g.2.2.2.1)) (.x 0 [4,5,6] [] [4] (FC.arr 4 4 (Zs 5 Zi (Zs 6 Zi (FC.own 4 Kd.kCharge false Zz)))))
def c4d {R:Type}:Lp Kd El R:=lp 2 d1d.sem l0
abbrev h0m:ZC ((List Charge)×Int×Int×Int×Unit):=Zc x0o x1e
abbrev g7j {R:Type}:Sm R:=n5 h0m f8q (fun a=>qb0 a.1 a.2.1 a.2.2.1 a.2.2.2.1)
abbrev g9i {R:Type}:Sm R:=b5z d68 (BC.one m9) b19 (fun a b=>qff a.2.1 a.2.2.1 b)
abbrev g86 {R:Type}:Sm R:=n5 c9r b5o (fun a=>qel a.1 a.2.1 a.2.2.1)
abbrev e64 {R:Type}:Sm R:=n5 f4e t8 (fun a=>qew)
abbrev h0z:ZC (Unit×Hold×Unit):=Zc (Cod.ptrc 100000) x1h
abbrev e5v {R:Type}:Sm R:=b5z h0z (BC.one m9) b19 (fun a b=>qc6 a.2.1 b)
abbrev g9q {R:Type}:Sm R:=n5 b2s b2a (fun a=>qfn a.1 a.2.1)
abbrev g9t {R:Type}:Sm R:=n5 b2s b2a (fun a=>qfq a.1 a.2.1)
abbrev e60 {R:Type}:Sm R:=n5 d7b t8 (fun a=>qei a.1 a.2.1)
abbrev e8b:ZC ((List Hold)×((Unit)×(Int×Unit))×Unit):=Zc x0d (Zc (Cod.fnc 149 (Zn) x0m) Zn)
abbrev e4z {R:Type}:Sm R:=n5 e8b z6 (fun a=>qa (fun g x0=>qei x0 g.2.1) a.1 a.2.1)
def d3p {R:Type}:Nat→Sm R:=cl 149 e60 c0
abbrev b7u:=a0f [] [] [0,1,7,8] [] [] (Zs 0 x0d (Zs 1 (Cod.fnc 149 (Zn) x0m) x0g)) (b17 (fun g x0=>qei x0 g.2.1)) x0a
def b4b {R:Type}:Lp Kd El R:=lp 2 b7u.sem l0
abbrev g78 {R:Type}:Sm R:=n5 c1n e39 (fun a=>qce a.1 a.2.1)
abbrev g9w {R:Type}:Sm R:=n5 b2s b2a (fun a=>qft a.1 a.2.1)
abbrev e6i {R:Type}:Sm R:=n5 f4a t8 (fun a=>qdc a.1 a.2.1)
abbrev c9q:ZC ((List Item)×((Unit)×(Item×Unit))×Unit):=Zc x0s (Zc (Cod.fnc 152 (Zn) x0k) Zn)
abbrev e50 {R:Type}:Sm R:=n5 c9q z6 (fun a=>qc (fun g x0=>qdc x0 g.2.1) a.1 a.2.1)
def d3t {R:Type}:Nat→Sm R:=cl 152 e6i c0
abbrev b7y:=a0f [] [] [0,1,7,8] [] [] (Zs 0 x0s (Zs 1 (Cod.fnc 152 (Zn) x0k) x0g)) (c06 (fun g x0=>qdc x0 g.2.1)) x0a
def b4l {R:Type}:Lp Kd El R:=lp 2 b7y.sem l0
abbrev g9h {R:Type}:Sm R:=n5 c9q t8 (fun a=>qfe (fun g x0=>qdc x0 g.2.1) a.1 a.2.1)
abbrev h08:ZC (Hold×Item×Bool×Unit):=Zc x0q x00
abbrev e58 {R:Type}:Sm R:=n5 h08 t8 (fun a=>qcr a.1 a.2.1 a.2.2.1)
abbrev c9j:ZC ((List Hold)×((Unit)×(Item×Bool×Unit))×Unit):=Zc x0d (Zc (Cod.fnc 153 (Zn) x00) Zn)
abbrev e40 {R:Type}:Sm R:=n5 c9j z6 (fun a=>qa (fun g x0=>qcr x0 g.2.1 g.2.2.1) a.1 a.2.1)
def d3q {R:Type}:Nat→Sm R:=cl 153 e58 c0
abbrev b7v:=a0f [] [] [0,1,7,8] [] [] (Zs 0 x0d (Zs 1 (Cod.fnc 153 (Zn) x00) x0g)) (b17 (fun g x0=>qcr x0 g.2.1 g.2.2.1)) x0a
def b4c {R:Type}:Lp Kd El R:=lp 2 b7v.sem l0
abbrev d6o {R:Type}:Sm R:=n5 c9j t8 (fun a=>qb3 (fun g x0=>qcr x0 g.2.1 g.2.2.1) a.1 a.2.1)
abbrev g68 {R:Type}:Sm R:=n5 f9j t8 (fun a=>qaf a.1 a.2.1)
abbrev g9m {R:Type}:Sm R:=n5 b2s b2a (fun a=>qfj a.1 a.2.1)
abbrev g9x {R:Type}:Sm R:=n5 c9r b2a (fun a=>qfu a.1 a.2.1 a.2.2.1)
abbrev h1r:ZC (Circ×Int×Bool×Unit):=Zc x0p (Zc Zi x1d)
abbrev g83 {R:Type}:Sm R:=n5 h1r b2a (fun a=>qef a.1 a.2.1 a.2.2.1)
abbrev h0v:ZC ((List Charge)×Int×Int×Unit):=Zc x0o x0n
abbrev g7t {R:Type}:Sm R:=n5 h0v f8c (fun a=>qbk a.1 a.2.1 a.2.2.1)
def e9u {R:Type}:Nat→Sm R:=c0
abbrev d1r:=a0f [(9,9,Kd.kCharge)] [] [1,9,10,21,22,23] [] [9] (Zs 1 Zi (FC.arr 9 9 (Zs 10 Zi (Zs 21 x0o (Zs 22 Zi (Zs 23 Zi (FC.own 9 Kd.kCharge false Zz))))))) b1l (.x 0 [9,10] [] [9] (FC.arr 9 9 (Zs 10 Zi (FC.own 9 Kd.kCharge false Zz))))
def c4q {R:Type}:Lp Kd El R:=lp 6 d1r.sem l0
abbrev g9y {R:Type}:Sm R:=n5 c9r b5o (fun a=>qfv a.1 a.2.1 a.2.2.1)
abbrev e5o {R:Type}:Sm R:=n5 c1n c5o (fun a=>qbo a.1 a.2.1)
def e9w {R:Type}:Nat→Sm R:=c0
abbrev d1t:=a0f [(5,5,Kd.ki64)] [] [1,5,8,9,10] [] [5] (Zs 1 Zi (FC.arr 5 5 (Zs 8 x0d (Zs 9 Zi (Zs 10 Zi (FC.own 5 Kd.ki64 false Zz)))))) b0c (.x 0 [5] [] [5] (FC.arr 5 5 (FC.own 5 Kd.ki64 false Zz)))
def c4s {R:Type}:Lp Kd El R:=lp 3 d1t.sem l0
abbrev c9p:ZC ((List Int)×Unit):=Zc x01 Zn
abbrev f8f:ZD (List Int):=x01
def f6k (a:(List Int)×Unit):Option (List Int):=qc3 a.1
abbrev g74 {R:Type}:Sm R:=n5 c9p f8f f6k
abbrev d7i:ZC ((List Int)×Unit):=c9p
abbrev f8r:ZD ((List Int)):=c5o
def f6r (a:(List Int)×Unit):Option ((List Int)):=qdk a.1
abbrev g8l {R:Type}:Sm R:=n5 d7i f8r f6r
abbrev e5p {R:Type}:Sm R:=n5 a8m c5o (fun a=>qbp a.1)
def e9x {R:Type}:Nat→Sm R:=cl 155 g74 (cl 156 g8l c0)
abbrev d1u:=a0f [(3,3,Kd.ki64)] [] [3,7,8,9] [] [3] (FC.arr 3 3 (Zs 7 x0s (Zs 8 Zi (Zs 9 Zi (FC.own 3 Kd.ki64 false Zz))))) b8p (.x 0 [3] [] [3] (FC.arr 3 3 (FC.own 3 Kd.ki64 false Zz)))
def c4t {R:Type}:Lp Kd El R:=lp 3 d1u.sem l0
abbrev g7a {R:Type}:Sm R:=n5 a8m b2a (fun a=>qah a.1)
def e88 {R:Type}:Nat→Sm R:=cl 39 e43 (cl 43 f85 (cl 62 e49 (cl 71 e54 (cl 83 e5v (cl 91 e5o (cl 92 e5p c0))))))
abbrev d04:=a0f [] [] [2,4,36,37,38] [2,16] [] (Zp 2 2 (Zp 4 16 (Zs 36 x01 (Zs 37 Zi (Zs 38 Zi x1c))))) a42 (.x 0 [2,4] [2,16] [] (Zp 2 2 (Zp 4 16 x1c)))
abbrev c3n:=a0f [] [] [2,4,61,62,63] [2,16] [] (Zp 2 2 (Zp 4 16 (Zs 61 x01 (Zs 62 Zi (Zs 63 Zi x1c))))) a2c (.x 2 [2,4] [2,16] [] (Zp 2 2 (Zp 4 16 x1c)))
def b4i {R:Type}:Lp Kd El R:=lp 13 c3n.sem (lp 6 d04.sem l0)
abbrev h1q:ZC (Librarylaw33_Deed×Circ×Unit):=Zc (Cod.agg a0b) (Zc x0p Zn)
abbrev e6w {R:Type}:Sm R:=n5 h1q b2a (fun a=>qeb a.1 a.2.1)
abbrev f3s:ZC (Circ×(List Librarylaw33_Deed)×Unit):=Zc x0p (Zc (Zl .kLibrarylaw33_Deed) Zn)
abbrev h5u:ZD (Bool):=t8
def f6i (a:Circ×(List Librarylaw33_Deed)×Unit):Option (Bool):=qa0 a.1 a.2.1
abbrev g6z {R:Type}:Sm R:=n5 f3s h5u f6i
def e8u {R:Type}:Nat→Sm R:=cl 4 e67 (cl 5 e5m (cl 6 e64 (cl 7 e6w c0)))
abbrev d0q:=a0f [] [] [1,2,5] [2] [] (Zs 1 (Zl .kLibrarylaw33_Deed) (Zp 2 2 (Zs 5 Zi (Zx 2 j5 Zz)))) b4x x0t
def c3u {R:Type}:Lp Kd El R:=lp 4 d0q.sem l0
end
section
open Go
theorem h2e:∀k,m6 (ccK k)
 |.kItem=>c2g
 |.kPatron=>b26
 |.kLoan=>c2h
 |.kHold=>c2f
 |.kCharge=>b25
 |.kRule=>c2j
 |.ki64=>m6.one (i5.int _)
 |.kMove=>c2i
 |.kLibrarylaw33_Deed=>a3a
 |.kbool=>m6.one i5.bool
 |.ku16=>m6.one (i5.int _)
 |.ku8=>m6.one (i5.int _)
 |.kUtf8_acceptRange=>a3x
theorem h8j:SgOk sg:=g9z (cc:=ccK) (fun _=>rfl) (fun _=>rfl) h2e (by intro k x;cases k<;>rfl) (by intro k x;cases k<;>rfl) (by intro k;cases k<;>decide)
theorem eok:∀t,h24 t=true→EqOk Tryz.prog t:=f0m kr (g4i)
theorem good:GoodP Tryz.prog sg:=⟨h8h kr kr,h8j,eok⟩
end
end Go.Proofs.YtdahfgialanmpabGreatDoor
namespace Go.Proofs.YtdahfgialanmpabGreatDoor.Ev
open Go
section
section
variable {P:Program} {w:World}
theorem a0r {dT sT ty elem:TypeId} {i0:TypeInfo} {g o dLen dCap sLen sCap z:Nat} {a:Addr} {L cs:List Value} {t:TypeId} (hu:P.underlying dT=some (.slice elem)) (hi:P.info? elem=some i0) (hz:i0.size=z)
 (hg:w.heap[g]?=some (.cells L.toArray t (0,0))) (hn:cs.length=Nat.min sLen dLen*z) (hsrc:∀j v,cs[j]?=some v→w.cell? (a.add j)=some v) (hfit:o+cs.length≤L.length) (h1:∀v∈cs,v.oneCell'=true) :
 (Builtin.copy_ #[dT,sT] ty #[.slice (some ⟨g,o,none⟩) dLen dCap,.slice (some a) sLen sCap]).run P w=.ok (goInt (Nat.min sLen dLen)) (w.setRow g (Go.splice L o cs).toArray):=by
 have hl:=run_firstCells_some (P:=P) w z (Nat.min sLen dLen) a sLen sCap cs hn hsrc;have hst:=run_storeCells_at P g o t cs 0 L.toArray w hg (by simpa using hfit) h1;simp only[ybj]at hst;subst hz;simp[Builtin.copy_,run_underlying hu,Builtin.lenOf,sizeOf,typeInfo,hi,hl,hst,Go.splice]
theorem b6e {ops:Array Oper} {rest:List Oper} {o:Oper} {a:Act} {Q:Exit→Act→World→Prop} (hgd:o.guard=none) (d s:Operand) (t t':TypeId)
 (ho:o.op=.call {callee:=.builtin .copy,args:=#[d,s],argTypes:=#[t,t']}) (v u:Value) (hd:a.eval d=v) (hs:a.eval s=u) {v':Value} {w':World}
 (hr:(Builtin.copy_ #[t,t'] o.type #[v,u]).run P w=.ok v' w') (h:wpList P ops Q rest (a.put o.dst v') w'):wpList P ops Q (o::rest) a w:=
 wpList_plain hgd fun _ hK=>by
  unfold Oper.wp execOp;simp only[ho,resolve,invoke,builtin,Sem.run_bind,Sem.run_pure,Result.andThen_ok,List.map_toArray,ybe,List.map_nil,hd,hs,hr];exact hK _ _ h
theorem a3n {ops:Array Oper} {o:Oper} {a:Act} {K:Act→World→Prop} {Q:Exit→Act→World→Prop} {E:Prop}
 (hg:o.guard=none) (d x:Operand) (dT sT:TypeId) (hop:o.op=Op.call {callee:=Callee.builtin Builtin.copy,args:=#[d,x],argTypes:=#[dT,sT]})
 (v u:Value) (hd:a.eval d=v) (hx:a.eval x=u) {v':Value} {w':World} (hr:(Builtin.copy_ #[dT,sT] o.type #[v,u]).run P w=.ok v' w') (hK:K (a.put o.dst v') w') :
 if Region.wanted o (yielded ops a.tmps)=true then Oper.wp P o a w K Q else E:=by
 have hw:Region.wanted o (yielded ops a.tmps)=true:=by simp[Region.wanted,hg]
 rw[yaP hw];unfold Oper.wp;simp[execOp,hop,resolve,invoke,builtin,hd,hx,hr,Result.andThen];exact hK
theorem b85 {ops:Array Oper} {o:Oper} {a:Act} {K:Act→World→Prop} {Q:Exit→Act→World→Prop} {E:Prop}
 (hg:o.guard=none) (d x:Operand) (dT sT:TypeId) (hop:o.op=Op.call {callee:=Callee.builtin Builtin.append,args:=#[d,x],argTypes:=#[dT,sT]})
 (v u:Value) (hd:a.eval d=v) (hx:a.eval x=u) {v':Value} {w':World} (hr:(Builtin.append_ #[dT,sT] o.type #[v,u]).run P w=.ok v' w') (hK:K (a.put o.dst v') w') :
 if Region.wanted o (yielded ops a.tmps)=true then Oper.wp P o a w K Q else E:=by
 have hw:Region.wanted o (yielded ops a.tmps)=true:=by simp[Region.wanted,hg]
 rw[yaP hw];unfold Oper.wp;simp[execOp,hop,resolve,invoke,builtin,hd,hx,hr,Result.andThen];exact hK
theorem a0s {ops:Array Oper} {rest:List Oper} {o:Oper} {a:Act} {Q:Exit→Act→World→Prop} (hgd:o.guard=none) (s x:Operand) (t tn:TypeId)
 (ho:o.op=.call {callee:=.builtin .append,args:=#[s,x],argTypes:=#[t,tn]}) (vs vx:Value) (hs:a.eval s=vs) (hx:a.eval x=vx)
 {v':Value} {w':World} (hr:(Builtin.append_ #[t,tn] o.type #[vs,vx]).run P w=.ok v' w') (h:wpList P ops Q rest (a.put o.dst v') w'):wpList P ops Q (o::rest) a w:=
 Lib.wpList_append_run w hgd s x t tn ho vs vx hs hx v' w' hr h
theorem b5w {t e ty:TypeId} {i0:TypeInfo} {z0:Value} {b o n c:Nat} {L:List Value} {tt:TypeId} (ht:P.underlying t=some (.slice e)) (hi:P.info? e=some i0) (hz:i0.zero=some z0)
 (hn:0<n) (hb:w.heap[b]?=some (.cells L.toArray tt (0,0))) (hfit:o+n*z0.cells.size≤L.length) (h1:∀v∈z0.cells,v.oneCell'=true) :
 (Builtin.clear_ #[t] ty #[.slice (some ⟨b,o,none⟩) n c]).run P w=.ok (.tuple #[]) (w.setRow b (Go.splice L o (Builtin.zeroCells z0.cells n).toList).toArray):=by
 have hl:(Builtin.zeroCells z0.cells n).toList.length=n*z0.cells.size:=by rw[yaY,Go.size_zeroCells]
 have hst:=run_storeCells_at P b o tt (Builtin.zeroCells z0.cells n).toList 0 L.toArray w hb (by rw[hl];simpa using hfit) (fun v hv=>by
  simp only[Builtin.zeroCells,Array.toList_map,ya8,Array.toList_range,yb2]at hv;obtain ⟨q,hq,rfl⟩:=hv;have hp:0<z0.cells.size:=Nat.pos_of_ne_zero (fun h=>by rw[h]at hq;omega);rw[getElem!_pos z0.cells _ (Nat.mod_lt _ hp)];exact h1 _ (Array.getElem_mem _))
 simp only[ybj]at hst;obtain ⟨m,rfl⟩:∃m,n=m+1:=⟨n-1,by omega⟩
 simp only[ybw]at hst;simp[Builtin.clear_,run_underlying ht,sizeOf,typeInfo,zeroValue,hi,hz,hst,Go.splice]
theorem a35 {tS tR e:TypeId} {i0:TypeInfo} (ht:P.underlying tS=some (.slice e)) (hi:P.info? e=some i0) {a b:Addr} {la ca lb cb:Nat} (hne:a.block≠b.block)
 {va vb:Array Value} {ta tb:TypeId} {fa:Nat×Nat} (ha:w.heap[a.block]?=some (.cells va ta fa)) (ha0:0<va.size) (hb:w.heap[b.block]?=some (.cells vb tb (0,0))) (hb0:0<vb.size) :
 (Extern.SlicesOverlaps.overlaps #[tS,tS] #[tR] #[.slice (some a) la ca,.slice (some b) lb cb]).run P w=.ok (.bool false) w:=by
 have hnb:(a.block != b.block)=true:=by simpa using hne
 have hnb':(a.block==b.block)=false:=by simpa using hne
 have hsa:w.shape? a.block=some (ta,va.size):=by simp[World.shape?,ha]
 have hsb:w.shape? b.block=some (tb,vb.size):=by simp[World.shape?,hb]
 have hfb:w.frozen? b=false:=by simp[World.frozen?,hb]
 have hfb':w.frozen? {block:=b.block,off:=vb.size}=false:=by simp[World.frozen?,hb]
 change Sem.run P (α:=Value) (do
  let some t:=(#[tS,tS]:Array TypeId)[0]?|stuck "slices.overlaps: no parameter types"
  let .slice elem ←underlying t|stuck "slices.overlaps: slice type expected"
  let size ←sizeOf elem
  match (some a:Option Addr),(some b:Option Addr) with
  |some a,some b=>
   if la=0∨lb=0∨size=0 then pure (Value.bool false)
   else if a.block != b.block&&(←frozen a)&&(←frozen b) then unsupported .addressObserved
   else do
    if a.block != b.block then do
     noView a;noView b
     if ←mayBeOne a b then return Value.bool ((←choose (.extern "sameAddr.stringBytes" 2))==1)
    pure (Value.bool (a.block==b.block&&a.off<b.off+lb*size&&b.off<a.off+la*size))
  |_,_=>pure (Value.bool false)) w=_
 have hz:(Go.sizeOf e).run P w=.ok i0.size w:=by simp[sizeOf,typeInfo,hi]
 by_cases h0:la=0∨lb=0∨i0.size=0
 ·simp[run_underlying ht,hz,h0]
 ·obtain ⟨ka,hka⟩:∃k,va.size=k+1:=⟨va.size-1,by omega⟩
  obtain ⟨kb,hkb⟩:∃k,vb.size=k+1:=⟨vb.size-1,by omega⟩
  rw[hka]at hsa;rw[hkb]at hsb hfb';by_cases hfa:w.frozen? a=true
  ·simp[run_underlying ht,hz,h0,hnb,hnb',frozen,noView,viewAt,mayBeOne,stringish,shape,Sem.run,hsa,hsb,hfa,hfb,hfb']
  ·have hfa:w.frozen? a=false:=by simpa using hfa
   by_cases hfe:w.frozen? {block:=a.block,off:=ka+1}=true
   ·simp[run_underlying ht,hz,h0,hnb,hnb',frozen,noView,viewAt,mayBeOne,stringish,shape,Sem.run,hsa,hsb,hfa,hfb,hfb',hfe]
   ·have hfe:w.frozen? {block:=a.block,off:=ka+1}=false:=by simpa using hfe
    simp[run_underlying ht,hz,h0,hnb,hnb',frozen,noView,viewAt,mayBeOne,stringish,shape,Sem.run,hsa,hsb,hfa,hfb,hfb',hfe]
end
end
section
section
variable {κ:Type} {El:κ→Type} {S:Sg κ El} {P:Program}
theorem z8 {α:Type} {L new:List α} {off j:Nat} (h:off+new.length≤L.length):(Go.splice L off new)[j]?=if off≤j∧j<off+new.length then new[j-off]? else L[j]?:=by
 unfold Go.splice;rw[←ybw];exact c1b L new off j h
theorem a7j (sgk:SgOk S) {w w':World} {I J I':Nat→Nat→Prop} {v:Value} {d:D κ El} (h:DR S w I J v d) (hp:a7v d=true) (H:∀b o,I b o→w'.cell? ⟨b,o,none⟩=w.cell? ⟨b,o,none⟩∧I' b o):DR S w' I' I' v d:=
 (h.relendL sgk (J':=I) (a3k hp)).mono H H
theorem a32 (sgk:SgOk S) {k:κ} {x:El k} {j:Nat} {d:D κ El} (h:(S.enc k x)[j]?=some d):a7v d=true:=sgk.plain k x d (yaf h)
theorem e20 {w:World} {I J:Nat→Nat→Prop} {v:Value} {d:D κ El} (h:DR S w I J v d) (hp:a7v d=true):v.oneCell'=true:=
 (h.lone (by cases d<;>simp_all[a7v,solid])).one
structure InsOk (P:Program) (f z E:Nat):Prop where
 shift:∀{w:World} {b n c i vb vo vc:Nat} {L vs:List Value} {t:TypeId},i<n→n+1≤c→n+1≤1073741824→vb≠b→w.heap[b]?=some (.cells L.toArray t (0,0))→L.length=c*z→vs.length=z→
  (∀j v,vs[j]?=some v→w.cell? ⟨vb,vo+j,none⟩=some v)→(∀v∈(L.drop (i*z)).take ((n-i)*z),v.oneCell'=true)→(∀v∈vs,v.oneCell'=true)→
  Calls P f #[.slice (some ⟨b,0,none⟩) n c,.int .i64 i,.slice (some ⟨vb,vo,none⟩) 1 vc] w fun e w'=>
   e=.returned (.slice (some ⟨b,0,none⟩) (n+1) c)∧w'=(w.drew.setRow b (Go.splice L ((i+1)*z) ((L.drop (i*z)).take ((n-i)*z))).toArray).setRow b (Go.splice (Go.splice L ((i+1)*z) ((L.drop (i*z)).take ((n-i)*z))) (i*z) vs).toArray
 room:∀{w:World} {b n c vb vo vc:Nat} {L vs:List Value} {t:TypeId},n+1≤c→n+1≤1073741824→w.heap[b]?=some (.cells L.toArray t (0,0))→L.length=c*z→vs.length=z→
  (∀j v,vs[j]?=some v→w.cell? ⟨vb,vo+j,none⟩=some v)→(∀v∈vs,v.oneCell'=true)→
  Calls P f #[.slice (some ⟨b,0,none⟩) n c,.int .i64 n,.slice (some ⟨vb,vo,none⟩) 1 vc] w fun e w'=>
   e=.returned (.slice (some ⟨b,0,none⟩) (n+1) c)∧w'=w.setRow b (Go.splice L (n*z) vs).toArray
 new:∀{w:World} {base:Option Addr} {n c vb vo vc:Nat} {olds vs:List Value},n≤c→c<n+1→n+1≤1073741824→vs.length=z→(base=none→n=0)→olds.length=n*z→
  (∀a,base=some a→∀j v,olds[j]?=some v→w.cell? (a.add j)=some v)→(∀j v,vs[j]?=some v→w.cell? ⟨vb,vo+j,none⟩=some v)→
  Calls P f #[.slice base n c,.int .i64 n,.slice (some ⟨vb,vo,none⟩) 1 vc] w fun e w'=>
   ∃cap zs,e=.returned (.slice (some ⟨w.heap.size,0,none⟩) (n+1) cap)∧w'=w.drew.alloc (.cells (olds++(vs++zs)).toArray E)∧n+1≤cap∧zs.length=(cap-(n+1))*z
 grow:∀{w:World} {b n c i vb vo vc:Nat} {L vs:List Value} {t:TypeId},i<n→n≤c→c<n+1→n+1≤1073741824→vb≠b→w.heap[b]?=some (.cells L.toArray t (0,0))→L.length=c*z→vs.length=z→
  (∀j v,vs[j]?=some v→w.cell? ⟨vb,vo+j,none⟩=some v)→(∀v∈(L.drop (i*z)).take ((n-i)*z),v.oneCell'=true)→(∀v∈vs,v.oneCell'=true)→
  Calls P f #[.slice (some ⟨b,0,none⟩) n c,.int .i64 i,.slice (some ⟨vb,vo,none⟩) 1 vc] w fun e w'=>
   ∃cap row,e=.returned (.slice (some ⟨w.heap.size,0,none⟩) (n+1) cap)∧n+1≤cap∧row.length=cap*z∧row.take (i*z)=L.take (i*z)∧
    w'.heap=(w.heap.push (.cells (Go.splice (Go.splice row (i*z) vs) ((i+1)*z) ((L.drop (i*z)).take ((n-i)*z))).toArray E))∧w'.os=w.os∧w'.output=w.output∧w'.tape=w.tape
theorem b31 {k:κ} {xs:List (El k)} {y:El k} {i:Nat} {L vs M:List Value} {Q:Value→D κ El→Prop} (sgk:SgOk S) (hi:i≤xs.length)
 (h1:∀(i:Nat) (hi:i<xs.length) (j:Nat) (d:D κ El),(S.enc k xs[i])[j]?=some d→∃v,L[i*S.sz k+j]?=some v∧Q v d)
 (h2:∀(j:Nat) (d:D κ El),(S.enc k y)[j]?=some d→∃v,vs[j]?=some v∧Q v d)
 (m1:∀p:Nat,p<i*S.sz k→M[p]?=L[p]?) (m2:∀j:Nat,j<S.sz k→M[i*S.sz k+j]?=vs[j]?) (m3:∀p:Nat,i*S.sz k≤p→p<xs.length*S.sz k→M[p+S.sz k]?=L[p]?) :
 ∀(i':Nat) (hi':i'<(xs.take i++y::xs.drop i).length) (j:Nat) (d:D κ El),(S.enc k (xs.take i++y::xs.drop i)[i'])[j]?=some d→∃v,M[i'*S.sz k+j]?=some v∧Q v d:=by
 intro i' hi' j d hj;have hj':j<S.sz k:=by have:=(zL hj);rwa [sgk.sz]at this
 have hl:(xs.take i).length=i:=by simp;omega
 by_cases hlt:i'<i
 ·have e:(xs.take i++y::xs.drop i)[i']=xs[i']'(by omega):=by rw[ybN (by omega)];simp
  rw[e]at hj;obtain ⟨v,a,b⟩:=h1 i' (by omega) j d hj;exact ⟨v,by rw[m1 _ (a3p hj' hlt)];exact a,b⟩
 ·by_cases heq:i'=i
  ·subst heq;have e:(xs.take i'++y::xs.drop i')[i']=y:=by rw[ybJ (by omega)];simp[hl]
   rw[e]at hj;obtain ⟨v,a,b⟩:=h2 j d hj;exact ⟨v,by rw[m2 j hj'];exact a,b⟩
  ·obtain ⟨p,rfl⟩:∃p,i'=p+1:=⟨i'-1,by omega⟩
   have hp:p<xs.length:=by simp at hi';omega
   have e:(xs.take i++y::xs.drop i)[p+1]=xs[p]:=by
    rw[ybJ (by omega)];have e2:p+1-(xs.take i).length=(p-i)+1:=by omega
    simp only[e2,List.getElem_cons_succ,List.getElem_drop];congr 1;omega
   rw[e]at hj;obtain ⟨v,a,b⟩:=h1 p hp j d hj;refine ⟨v,?_,b⟩;have:=m3 (p*S.sz k+j) (by have:=yap (S.sz k) (show i≤p by omega);omega) (a3p hj' hp);rw[←a,←this];congr 1;rw[ya0];omega
theorem g0q (sgk:SgOk S) {f E:Nat} {fn:Func} {code:Code} (fok:FnOk P f fn code) (hmd:S.md f=.cons) {k:κ} (W:InsOk P f (S.sz k) E)
 {xs:List (El k)} {y:El k} {i:Nat} {ds:List (D κ El)} (hi:i≤xs.length) (hlim:xs.length+1≤1073741824) (hwl:WL ds [.lst k xs,.int .i64 (i:Int),.lst k [y]]) :
 Con P S f ds [] (.lst k (xs.take i++y::xs.drop i)) []:=by
 unfold Con;rw[hmd];intro _ k' xs' ds0 hds k2 xs2 hd w I J mb v0 vs hp ho ha;subst hds;cases hd
 have hw0:=hwl.2 0 _ _ rfl rfl;cases hw0 with
 |leaf _ _ hw0=>
 cases hw0
 have ha:=WL.args (cs':=[.int .i64 (i:Int),.lst k [y]]) ⟨by simpa using hwl.1,fun q d d' h1 h2=>hwl.2 (q+1) d d' (by simpa using h1) (by simpa using h2)⟩ ha;obtain ⟨base,c,rfl,hnc,hz⟩:=ho;obtain ⟨hvs,hav⟩:=ha;obtain ⟨u1,u2,rfl⟩:∃u1 u2,vs = #[u1,u2]:=by
  simp at hvs;exact ⟨vs[0],vs[1],by
   apply Array.ext
   ·simp[hvs]
   ·intro j h1 h2;simp at h2;rcases (show j=0∨j=1 by omega) with rfl|rfl<;>rfl⟩
 have hu1:u1=.int .i64 i:=(hav 0 u1 _ rfl rfl).int_inv;have hu2:=hav 1 u2 _ rfl rfl;subst hu1;obtain ⟨n,hn⟩:∃n,n=xs.length:=⟨_,rfl⟩
 have hpos:=sgk.pos k;cases hu2 with
 |lst vb vo vc _ _ cv hvcap hvc hvv=>
 obtain ⟨us,hus⟩:∃us,us=(List.range (S.sz k)).map (cv 0):=⟨_,rfl⟩
 have husl:us.length=S.sz k:=by rw[hus];simp
 have hug:∀j,j<S.sz k→us[j]?=some (cv 0 j):=fun j hj=>by rw[hus];simp[hj]
 have huc:∀j v,us[j]?=some v→w.cell? ⟨vb,vo+j,none⟩=some v:=fun j v hj=>by
  have hlt:=(zL hj)
  rw[husl]at hlt;rw[hug j hlt]at hj;cases hj
  have:=(hvc 0 j (by simp) hlt).1;simpa using this
 have huI:∀j,j<S.sz k→I vb (vo+j):=fun j hlt=>by have:=(hvc 0 j (by simp) hlt).2;simpa using this
 have hud:∀j d,(S.enc k y)[j]?=some d→∃v,us[j]?=some v∧DR S w I J v d:=fun j d hj=>by
  have hlt:=(zL hj)
  rw[sgk.sz]at hlt;exact ⟨_,hug j hlt,hvv 0 (by simp) j d hj⟩
 have hu1c:∀v∈us,v.oneCell'=true:=fun v hv=>by
  obtain ⟨j,hj⟩:=yau hv;have hlt:=(zL hj)
  have hlt':j<(S.enc k y).length:=by rw[sgk.sz,←husl];exact hlt
  obtain ⟨v',e1,e2⟩:=hud j _ (yac hlt');rw[hj]at e1;cases e1
  exact e20 e2 (sgk.plain k y _ (ybq hlt'))
 have hIw:∀b o,I b o→b<w.heap.size:=hp.ib;have hres:(xs.take i++y::xs.drop i).length=n+1:=by simp;omega
 unfold a2y;rw[MuLone.run_callFunc_enter fok.at_ fok.name fok.body _ w];simp only;show Calls P f #[.slice base xs.length c,.int .i64 (i:Int),.slice (some ⟨vb,vo,none⟩) 1 vc] w _
 rcases hz with ⟨rfl,rfl⟩|⟨b,vals,t,rfl,rfl,hb,hvsz,hel⟩
 ·have hx0:xs=[]:=yaJ (by omega);subst hx0;have hi0:i=0:=by simpa using hi
  subst hi0;have hnew:=W.new (w:=w) (base:=base) (n:=0) (c:=0) (vb:=vb) (vo:=vo) (vc:=vc) (olds:=[]) (vs:=us) (by omega) (by omega) (by omega) husl (fun _=>rfl) (by simp) (fun a _ j v hj=>by simp at hj) huc;refine hnew.mono (fun e w' he=>?_);obtain ⟨cap,zs,rfl,rfl,hcap,hzl⟩:=he;refine ⟨I,⟨by rw[World.size_alloc];show w.heap.size≤w.heap.size+1;omega,rfl,rfl,rfl,fun q hq _=>?_,fun _ _ h=>h,fun _ _ h=>.inl h,fun q o h=>by have:=hIw q o h;rw[World.size_alloc];show q<w.heap.size+1;omega⟩,
   some ⟨w.heap.size,0,none⟩,cap,by simp,by simp;omega,.inr ⟨w.heap.size,_,E,rfl,a4o w.drew _,?_,.inl (yaF _),fun o h=>absurd (hIw _ _ h) (by omega),?_⟩⟩
  ·simp only[World.alloc];rw[Array.getElem?_push,yat (by show ¬q=w.heap.size;omega)];rfl
  ·simp[husl,hzl];obtain ⟨q,rfl⟩:∃q,cap=q+1:=⟨cap-1,by omega⟩
   rw[Nat.add_sub_cancel,ya0];omega
  ·intro i' hi' j d hj;have:=b31 (L:=[]) (vs:=us) (M:=us++zs) (Q:=fun v d=>DR S (w.drew.alloc (.cells ([]++(us++zs)).toArray E)) I I v d) sgk (i:=0) (xs:=[]) (y:=y) (by simp) (fun i hi=>absurd hi (by simp))
    (fun j d hj=>by
     obtain ⟨v,a,b⟩:=hud j d hj;exact ⟨v,a,a7j sgk b (a32 sgk hj) (fun q o h=>⟨by
      have:=hIw q o h;simp only[World.cell?,World.alloc];rw[Array.getElem?_push,yat (by show ¬q=w.heap.size;omega)];rfl,h⟩)⟩)
    (fun p hp=>absurd hp (by omega)) (fun j hj=>by rw[Nat.zero_mul,yaE,yaD (by omega)]) (fun p _ hp=>by simp at hp) i' hi' j d hj
   simpa using this
 ·have hbw:b<w.heap.size:=(yak.1 hb).1;have hbI:∀o,¬I b o:=fun o h=>(hp.jb b o (hp.ij b o h)).2 (by simp)
  have hne:vb≠b:=fun e=>by subst e;exact hbI _ (huI 0 hpos)
  obtain ⟨L,hL⟩:∃L,L=vals.toList:=⟨_,rfl⟩
  have hLa:vals=L.toArray:=by rw[hL]
  have hLl:L.length=c*S.sz k:=by rw[hL];simpa using hvsz
  rw[hLa]at hb;have hel':∀i (hi:i<xs.length) j d,(S.enc k xs[i])[j]?=some d→∃v,L[i*S.sz k+j]?=some v∧DR S w I J v d:=fun i hi j d hj=>by
   obtain ⟨v,a,e⟩:=hel i hi j d hj;exact ⟨v,by rw[hL];simpa using a,e⟩
  have hnL:n*S.sz k≤L.length:=by rw[hLl];exact yap _ (by omega)
  have hone:∀v∈L.take (n*S.sz k),v.oneCell'=true:=fun v hv=>by
   obtain ⟨p,hp'⟩:=yau hv;have hlt:=(zL hp')
   simp only[yaS]at hlt;have h1:p / S.sz k<n:=(Nat.div_lt_iff_lt_mul hpos).2 (by omega);have h2:=Nat.mod_lt p hpos;have h3:p % S.sz k<(S.enc k (xs[p / S.sz k]'(by omega))).length:=by rw[sgk.sz];exact h2
   obtain ⟨v',a,e⟩:=hel' (p / S.sz k) (by omega) _ _ (yac h3);rw[Nat.div_add_mod']at a;rw[yaA,yaP (by omega),a]at hp';cases hp'
   exact e20 e (sgk.plain k _ _ (ybq h3))
  have hC1:(L.drop (i*S.sz k)).take ((n-i)*S.sz k)=(L.take (n*S.sz k)).drop (i*S.sz k):=by
   rw[List.drop_take];congr 1;rw[Nat.sub_mul]
  have hone1:∀v∈(L.drop (i*S.sz k)).take ((n-i)*S.sz k),v.oneCell'=true:=fun v hv=>hone v (by rw[hC1]at hv;exact List.mem_of_mem_drop hv)
  have hin:i*S.sz k≤n*S.sz k:=yap _ (by omega);have hi1:(i+1)*S.sz k=i*S.sz k+S.sz k:=by rw[ya0,yb8]
  have hn1:(n+1)*S.sz k=n*S.sz k+S.sz k:=by rw[ya0,yb8]
  obtain ⟨C1,hC⟩:∃C1,C1=(L.drop (i*S.sz k)).take ((n-i)*S.sz k):=⟨_,rfl⟩
  have hC1l:C1.length=n*S.sz k-i*S.sz k:=by rw[hC,hC1];simp;omega
  have hC1g:∀q,q<n*S.sz k-i*S.sz k→C1[q]?=L[i*S.sz k+q]?:=fun q hq=>by rw[hC,hC1,ybK,yaA,yaP (by omega)]
  have inpl:∀(M:List Value) (w':World),M.length=L.length→(w'=w.setRow b M.toArray∨∃M0:Array Value,w'=(w.drew.setRow b M0).setRow b M.toArray)→n+1≤c→
   (∀p:Nat,p<i*S.sz k→M[p]?=L[p]?)→(∀j:Nat,j<S.sz k→M[i*S.sz k+j]?=us[j]?)→(∀p:Nat,i*S.sz k≤p→p<xs.length*S.sz k→M[p+S.sz k]?=L[p]?)→
   ∃I',GrowM [b] w w' I I'∧h60 S w' I' w.heap.size [b] k (xs.take i++y::xs.drop i) (.slice (some ⟨b,0,none⟩) (n+1) c):=by
   intro M w' hMl hw' hroom m1 m2 m3;have hheap:w'.heap[b]?=some (.cells M.toArray t (0,0)):=by
    rcases hw' with rfl|⟨M0,rfl⟩
    ·exact setRow_heap _ _ _ _ _ _ hb
    ·exact setRow_heap _ _ _ _ _ _ (setRow_heap w.drew _ _ _ _ _ hb)
   have hoth:∀q,q≠b→w'.heap[q]?=w.heap[q]?:=fun q hq=>by
    rcases hw' with rfl|⟨M0,rfl⟩
    ·exact setRow_other _ _ _ _ hq
    ·rw[setRow_other _ _ _ _ hq,setRow_other _ _ _ _ hq];rfl
   have hsz:w'.heap.size=w.heap.size:=by
    rcases hw' with rfl|⟨M0,rfl⟩<;>simp only[setRow_size]<;>rfl
   refine ⟨I,⟨by omega,by rcases hw' with rfl|⟨M0,rfl⟩<;>rfl,by rcases hw' with rfl|⟨M0,rfl⟩<;>rfl,by rcases hw' with rfl|⟨M0,rfl⟩<;>rfl,fun q hq hm=>hoth q (by simpa using hm),fun _ _ h=>h,fun _ _ h=>.inl h,fun q o h=>by have:=hIw q o h;omega⟩,
    some ⟨b,0,none⟩,c,by rw[hres],by omega,.inr ⟨b,_,t,rfl,hheap,by simp[hMl,hLl],.inr (by simp),hbI,?_⟩⟩
   intro i' hi' j d hj;have:=b31 (L:=L) (vs:=us) (M:=M) (Q:=fun v d=>DR S w' I I v d) sgk (by omega)
    (fun i hi j d hj=>by
     obtain ⟨v,a,e⟩:=hel' i hi j d hj;exact ⟨v,a,a7j sgk e (a32 sgk hj) (fun q o h=>⟨by simp only[World.cell?];rw[hoth q (fun e=>by subst e;exact hbI o h)],h⟩)⟩)
    (fun j d hj=>by
     obtain ⟨v,a,e⟩:=hud j d hj;exact ⟨v,a,a7j sgk e (a32 sgk hj) (fun q o h=>⟨by simp only[World.cell?];rw[hoth q (fun e=>by subst e;exact hbI o h)],h⟩)⟩) m1 m2 m3 i' hi' j d hj
   simpa using this
  have newb:∀(M:List Value) (cap:Nat) (w':World),M.length=cap*S.sz k→w'.heap=w.heap.push (.cells M.toArray E)→w'.os=w.os→w'.output=w.output→w'.tape=w.tape→n+1≤cap→
   (∀p:Nat,p<i*S.sz k→M[p]?=L[p]?)→(∀j:Nat,j<S.sz k→M[i*S.sz k+j]?=us[j]?)→(∀p:Nat,i*S.sz k≤p→p<xs.length*S.sz k→M[p+S.sz k]?=L[p]?)→
   ∃I',GrowM [b] w w' I I'∧h60 S w' I' w.heap.size [b] k (xs.take i++y::xs.drop i) (.slice (some ⟨w.heap.size,0,none⟩) (n+1) cap):=by
   intro M cap w' hMl hheap h1 h2 h3 hcap m1 m2 m3;have hoth:∀q,q<w.heap.size→w'.heap[q]?=w.heap[q]?:=fun q hq=>by rw[hheap,Array.getElem?_push,yat (by omega)]
   refine ⟨I,⟨by rw[hheap];simp,h1,h2,h3,fun q hq _=>hoth q hq,fun _ _ h=>h,fun _ _ h=>.inl h,fun q o h=>by have:=hIw q o h;rw[hheap];simp;omega⟩,
    some ⟨w.heap.size,0,none⟩,cap,by rw[hres],by omega,.inr ⟨w.heap.size,_,E,rfl,by rw[hheap];exact Array.getElem?_push_size,by simp[hMl],.inl (yaF _),fun o h=>absurd (hIw _ _ h) (by omega),?_⟩⟩
   intro i' hi' j d hj;have:=b31 (L:=L) (vs:=us) (M:=M) (Q:=fun v d=>DR S w' I I v d) sgk (by omega)
    (fun i hi j d hj=>by
     obtain ⟨v,a,e⟩:=hel' i hi j d hj;exact ⟨v,a,a7j sgk e (a32 sgk hj) (fun q o h=>⟨by simp only[World.cell?];rw[hoth q (hIw q o h)],h⟩)⟩)
    (fun j d hj=>by
     obtain ⟨v,a,e⟩:=hud j d hj;exact ⟨v,a,a7j sgk e (a32 sgk hj) (fun q o h=>⟨by simp only[World.cell?];rw[hoth q (hIw q o h)],h⟩)⟩) m1 m2 m3 i' hi' j d hj
   simpa using this
  rw[←hn]at hi hlim hnc ⊢;by_cases hroom:n+1≤c
  ·have hn1c:(n+1)*S.sz k≤L.length:=by rw[hLl];exact yap _ hroom
   by_cases hlt:i<n
   ·refine (W.shift (vc:=vc) hlt hroom hlim hne hb hLl husl huc hone1 hu1c).mono (fun e w' he=>?_);obtain ⟨rfl,rfl⟩:=he;rw[←hC];have l1:(Go.splice L ((i+1)*S.sz k) C1).length=L.length:=length_splice _ _ _ (by omega);refine inpl _ _ ?_ (.inr ⟨_,rfl⟩) hroom ?_ ?_ ?_
    ·rw[length_splice _ _ _ (by omega),l1]
    ·intro p hp';rw[z8 (by omega),yat (by omega),z8 (by omega),yat (by omega)]
    ·intro j hj;rw[z8 (by omega),yaP (by omega)];congr 1;omega
    ·intro p h1 h2;rw[←hn]at h2;rw[z8 (by omega),yat (by omega),z8 (by omega),yaP (by omega),hC1g _ (by omega)];congr 1;omega
   ·have hie:i=n:=by omega
    subst hie;refine (W.room (vc:=vc) hroom hlim hb hLl husl huc hu1c).mono (fun e w' he=>?_);obtain ⟨rfl,rfl⟩:=he;refine inpl _ _ (length_splice _ _ _ (by omega)) (.inl rfl) hroom ?_ ?_ ?_
    ·intro p hp';rw[z8 (by omega),yat (by omega)]
    ·intro j hj;rw[z8 (by omega),yaP (by omega)];congr 1;omega
    ·intro p h1 h2;rw[←hn]at h2;omega
  ·by_cases hlt:i<n
   ·refine (W.grow (vc:=vc) hlt hnc (by omega) hlim hne hb hLl husl huc hone1 hu1c).mono (fun e w' he=>?_);obtain ⟨cap,row,rfl,hcap,hrl,hrt,hheap,q1,q2,q3⟩:=he;rw[←hC]at hheap;have hrl':(n+1)*S.sz k≤row.length:=by rw[hrl];exact yap _ hcap
    have l1:(Go.splice row (i*S.sz k) us).length=row.length:=length_splice _ _ _ (by omega);refine newb _ cap w' ?_ hheap q1 q2 q3 hcap ?_ ?_ ?_
    ·rw[length_splice _ _ _ (by omega),l1,hrl]
    ·intro p hp';rw[z8 (by omega),yat (by omega),z8 (by omega),yat (by omega)];have e1:(row.take (i*S.sz k))[p]?=row[p]?:=by rw[yaA,yaP hp']
     have e2:(L.take (i*S.sz k))[p]?=L[p]?:=by rw[yaA,yaP hp']
     rw[←e1,hrt,e2]
    ·intro j hj;rw[z8 (by omega),yat (by omega),z8 (by omega),yaP (by omega)];congr 1;omega
    ·intro p h1 h2;rw[←hn]at h2;rw[z8 (by omega),yaP (by omega),hC1g _ (by omega)];congr 1;omega
   ·have hie:i=n:=by omega
    subst hie;refine (W.new (base:=some ⟨b,0,none⟩) (vc:=vc) (olds:=L.take (i*S.sz k)) hnc (by omega) hlim husl (fun h=>by cases h) (by simp;omega) (fun a ha j v hj=>?_) huc).mono (fun e w' he=>?_)
    ·cases ha
     rw[yaA]at hj;split at hj
     ·rw[a0y,yaE];simp only[World.cell?,hb];simpa using hj
     ·cases hj
    ·obtain ⟨cap,zs,rfl,rfl,hcap,hzl⟩:=he;obtain ⟨q,rfl⟩:∃q,cap=q+(i+1):=⟨cap-(i+1),by omega⟩
     rw[Nat.add_sub_cancel]at hzl;have hTl:(L.take (i*S.sz k)).length=i*S.sz k:=by simp;omega
     refine newb _ (q+(i+1)) _ ?_ rfl rfl rfl rfl hcap ?_ ?_ ?_
     ·simp only[yaX,hTl,husl,hzl];rw[ya0,hi1];omega
     ·intro p hp';rw[yaD (by omega),yaA,yaP hp']
     ·intro j hj;rw[yaG (by omega),yaD (by omega)];congr 1;omega
     ·intro p h1 h2;rw[←hn]at h2;omega
theorem b9s (sgk:SgOk S) {f E:Nat} {fn:Func} {code:Code} (fok:FnOk P f fn code) (hmd:S.md f=.cons) {k:κ} (W:InsOk P f (S.sz k) E)
 {xs vs r:List (El k)} {i:Int} {ds:List (D κ El)} (hwl:WL ds [.lst k xs,.int .i64 i,.lst k vs]) (hr:a7o xs i vs=some r):Con P S f ds [] (.lst k r) []:=by
 unfold a7o at hr;split at hr
 ·rename_i y;rw[d9]at hr;split at hr
  ·rename_i h;simp only[yad,yae]at h;cases hr
   obtain ⟨n,rfl⟩:=Int.eq_ofNat_of_zero_le h.1.1;exact g0q sgk fok hmd W (i:=n) (by omega) h.2 hwl
  ·cases hr
 ·cases hr
end
end
section
section
variable {κ:Type} {El:κ→Type} {S:Sg κ El} {P:Program}
structure DelOk (P:Program) (f z:Nat):Prop where
 non:∀{w:World} {base:Option Addr} {n c i:Nat},n≤c→i≤n→Calls P f #[.slice base n c,.int .i64 i,.int .i64 i] w fun e w'=>e=.returned (.slice base n c)∧w'=w
 som:∀{w:World} {b n c i j:Nat} {L:List Value} {t:TypeId},i<j→j≤n→n≤c→w.heap[b]?=some (.cells L.toArray t (0,0))→L.length=c*z→(∀v∈(L.drop (j*z)).take ((n-j)*z),v.oneCell'=true)→
  Calls P f #[.slice (some ⟨b,0,none⟩) n c,.int .i64 i,.int .i64 j] w fun e w'=>
   e=.returned (.slice (some ⟨b,0,none⟩) (i+(n-j)) c)∧∃(M0:Array Value) (zs:List Value),zs.length=(j-i)*z∧w'=(w.drew.setRow b M0).setRow b (Go.splice (Go.splice L (i*z) ((L.drop (j*z)).take ((n-j)*z))) ((i+(n-j))*z) zs).toArray
theorem g0p (sgk:SgOk S) {f:Nat} {fn:Func} {code:Code} (fok:FnOk P f fn code) (hmd:S.md f=.cons) {k:κ} (W:DelOk P f (S.sz k))
 {xs:List (El k)} {i j:Nat} {ds:List (D κ El)} (hij:i≤j) (hj:j≤xs.length) (hwl:WL ds [.lst k xs,.int .i64 (i:Int),.int .i64 (j:Int)]) :
 Con P S f ds [] (.lst k (xs.take i++xs.drop j)) []:=by
 unfold Con;rw[hmd];intro _ k' xs' ds0 hds k2 xs2 hd w I J mb v0 vs hp ho ha;subst hds;cases hd
 have hw0:=hwl.2 0 _ _ rfl rfl;cases hw0 with
 |leaf _ _ hw0=>
 cases hw0
 have ha:=WL.args (cs':=[.int .i64 (i:Int),.int .i64 (j:Int)]) ⟨by simpa using hwl.1,fun q d d' h1 h2=>hwl.2 (q+1) d d' (by simpa using h1) (by simpa using h2)⟩ ha;obtain ⟨base,c,rfl,hnc,hz⟩:=ho;obtain ⟨hvs,hav⟩:=ha;obtain ⟨u1,u2,rfl⟩:∃u1 u2,vs = #[u1,u2]:=by
  simp at hvs;exact ⟨vs[0],vs[1],by
   apply Array.ext
   ·simp[hvs]
   ·intro j h1 h2;simp at h2;rcases (show j=0∨j=1 by omega) with rfl|rfl<;>rfl⟩
 have hu1:u1=.int .i64 i:=(hav 0 u1 _ rfl rfl).int_inv;have hu2:u2=.int .i64 j:=(hav 1 u2 _ rfl rfl).int_inv;subst hu1 hu2;obtain ⟨n,hn⟩:∃n,n=xs.length:=⟨_,rfl⟩
 have hpos:=sgk.pos k;have hIw:∀b o,I b o→b<w.heap.size:=hp.ib;have hres:(xs.take i++xs.drop j).length=i+(n-j):=by simp;omega
 unfold a2y;rw[MuLone.run_callFunc_enter fok.at_ fok.name fok.body _ w];simp only;show Calls P f #[.slice base xs.length c,.int .i64 (i:Int),.int .i64 (j:Int)] w _
 by_cases heq:i=j
 ·subst heq;refine (W.non hnc hj).mono (fun e w' he=>?_);obtain ⟨rfl,rfl⟩:=he;have e:xs.take i++xs.drop i=xs:=by simp
  rw[e];refine ⟨I,⟨yaF _,rfl,rfl,rfl,fun _ _ _=>rfl,fun _ _ h=>h,fun _ _ h=>.inl h,hIw⟩,base,c,rfl,hnc,?_⟩;rcases hz with ⟨h,_⟩|⟨b,vals,t,rfl,rfl,hb,hvsz,hel⟩
  ·exact .inl h
  ·have hbI:∀o,¬I b o:=fun o h=>(hp.jb b o (hp.ij b o h)).2 (by simp)
   refine .inr ⟨b,vals,t,rfl,hb,hvsz,.inr (by simp),hbI,fun q hq j d hj=>?_⟩;obtain ⟨v,a,e⟩:=hel q hq j d hj;exact ⟨v,a,a7j sgk e (a32 sgk hj) (fun _ _ h=>⟨rfl,h⟩)⟩
 ·have hlt:i<j:=by omega
  rcases hz with ⟨rfl,rfl⟩|⟨b,vals,t,rfl,rfl,hb,hvsz,hel⟩
  ·exfalso;omega
  ·have hbw:b<w.heap.size:=(yak.1 hb).1;have hbI:∀o,¬I b o:=fun o h=>(hp.jb b o (hp.ij b o h)).2 (by simp)
   obtain ⟨L,hL⟩:∃L,L=vals.toList:=⟨_,rfl⟩
   have hLa:vals=L.toArray:=by rw[hL]
   have hLl:L.length=c*S.sz k:=by rw[hL];simpa using hvsz
   rw[hLa]at hb;have hel':∀i (hi:i<xs.length) j d,(S.enc k xs[i])[j]?=some d→∃v,L[i*S.sz k+j]?=some v∧DR S w I J v d:=fun i hi j d hj=>by
    obtain ⟨v,a,e⟩:=hel i hi j d hj;exact ⟨v,by rw[hL];simpa using a,e⟩
   have hnL:n*S.sz k≤L.length:=by rw[hLl];exact yap _ (by omega)
   have hone:∀v∈L.take (n*S.sz k),v.oneCell'=true:=fun v hv=>by
    obtain ⟨p,hp'⟩:=yau hv;have hlt:=(zL hp')
    simp only[yaS]at hlt;have h1:p / S.sz k<n:=(Nat.div_lt_iff_lt_mul hpos).2 (by omega);have h2:=Nat.mod_lt p hpos;have h3:p % S.sz k<(S.enc k (xs[p / S.sz k]'(by omega))).length:=by rw[sgk.sz];exact h2
    obtain ⟨v',a,e⟩:=hel' (p / S.sz k) (by omega) _ _ (yac h3);rw[Nat.div_add_mod']at a;rw[yaA,yaP (by omega),a]at hp';cases hp'
    exact e20 e (sgk.plain k _ _ (ybq h3))
   have hjn:j*S.sz k≤n*S.sz k:=yap _ (by omega);have hC1:(L.drop (j*S.sz k)).take ((n-j)*S.sz k)=(L.take (n*S.sz k)).drop (j*S.sz k):=by
    rw[List.drop_take];congr 1;rw[Nat.sub_mul]
   have hone1:∀v∈(L.drop (j*S.sz k)).take ((n-j)*S.sz k),v.oneCell'=true:=fun v hv=>hone v (by rw[hC1]at hv;exact List.mem_of_mem_drop hv)
   obtain ⟨C1,hC⟩:∃C1,C1=(L.drop (j*S.sz k)).take ((n-j)*S.sz k):=⟨_,rfl⟩
   have hC1l:C1.length=n*S.sz k-j*S.sz k:=by rw[hC,hC1];simp;omega
   have hC1g:∀q,q<n*S.sz k-j*S.sz k→C1[q]?=L[j*S.sz k+q]?:=fun q hq=>by rw[hC,hC1,ybK,yaA,yaP (by omega)]
   have hij':i*S.sz k≤j*S.sz k:=yap _ (by omega);have hm:(i+(n-j))*S.sz k=i*S.sz k+(n*S.sz k-j*S.sz k):=by rw[ya0,Nat.sub_mul]
   have hz2:(j-i)*S.sz k=j*S.sz k-i*S.sz k:=by rw[Nat.sub_mul]
   refine (W.som hlt hj hnc hb hLl (by rw[←hn];exact hone1)).mono (fun e w' he=>?_);obtain ⟨rfl,M0,zs,hzl,rfl⟩:=he;rw[←hn,←hC];have l1:(Go.splice L (i*S.sz k) C1).length=L.length:=length_splice _ _ _ (by omega);have l2:(Go.splice (Go.splice L (i*S.sz k) C1) ((i+(n-j))*S.sz k) zs).length=L.length:=by rw[length_splice _ _ _ (by omega),l1]
   generalize hM:Go.splice (Go.splice L (i*S.sz k) C1) ((i+(n-j))*S.sz k) zs=M at l2 ⊢;have hMg:∀p,p<(i+(n-j))*S.sz k→M[p]?=if p<i*S.sz k then L[p]? else L[p+(j*S.sz k-i*S.sz k)]?:=fun p hp=>by
    rw[←hM,z8 (by omega),yat (by omega),z8 (by omega)];by_cases h:p<i*S.sz k
    ·rw[yat (by omega),yaP h]
    ·rw[yaP (by omega),yat h,hC1g _ (by omega)];congr 1;omega
   have hheap:((w.drew.setRow b M0).setRow b M.toArray).heap[b]?=some (.cells M.toArray t (0,0)):=setRow_heap _ _ _ _ _ _ (setRow_heap w.drew _ _ _ _ _ hb);have hoth:∀q,q≠b→((w.drew.setRow b M0).setRow b M.toArray).heap[q]?=w.heap[q]?:=fun q hq=>by rw[setRow_other _ _ _ _ hq,setRow_other _ _ _ _ hq];rfl
   have hsz:((w.drew.setRow b M0).setRow b M.toArray).heap.size=w.heap.size:=by simp only[setRow_size];rfl
   refine ⟨I,⟨by omega,rfl,rfl,rfl,fun q hq hm=>hoth q (by simpa using hm),fun _ _ h=>h,fun _ _ h=>.inl h,fun q o h=>by have:=hIw q o h;omega⟩,
    some ⟨b,0,none⟩,c,by rw[hres],by omega,.inr ⟨b,_,t,rfl,hheap,by simp[l2,hLl],.inr (by simp),hbI,?_⟩⟩
   intro q hq s d hs;have hs':s<S.sz k:=by have:=(zL hs);rwa [sgk.sz]at this
   rw[hres]at hq;have hlt2:=a3p hs' hq;by_cases hqi:q<i
   ·have e:(xs.take i++xs.drop j)[q]'(by omega)=xs[q]'(by omega):=by rw[ybN (by simp;omega)];simp
    rw[e]at hs;obtain ⟨v,a,e2⟩:=hel' q (by omega) s d hs;refine ⟨v,?_,a7j sgk e2 (a32 sgk hs) (fun q o h=>⟨by simp only[World.cell?];rw[hoth q (fun e=>by subst e;exact hbI o h)],h⟩)⟩;rw[←a,ybx,hMg _ hlt2,yaP (a3p hs' hqi)]
   ·have e:(xs.take i++xs.drop j)[q]'(by omega)=xs[q+(j-i)]'(by omega):=by
     have hl:(xs.take i).length=i:=by simp;omega
     rw[ybJ (by omega)];simp only[hl,List.getElem_drop];congr 1;omega
    rw[e]at hs;obtain ⟨v,a,e2⟩:=hel' (q+(j-i)) (by omega) s d hs;refine ⟨v,?_,a7j sgk e2 (a32 sgk hs) (fun q o h=>⟨by simp only[World.cell?];rw[hoth q (fun e=>by subst e;exact hbI o h)],h⟩)⟩;have hqz:i*S.sz k≤q*S.sz k:=yap _ (by omega);rw[←a,ybx,hMg _ hlt2,yat (by omega)];congr 1;rw[ya0,hz2];omega
theorem d0g (sgk:SgOk S) {f:Nat} {fn:Func} {code:Code} (fok:FnOk P f fn code) (hmd:S.md f=.cons) {k:κ} (W:DelOk P f (S.sz k))
 {xs r:List (El k)} {i j:Int} {ds:List (D κ El)} (hwl:WL ds [.lst k xs,.int .i64 i,.int .i64 j]) (hr:a7g xs i j=some r):Con P S f ds [] (.lst k r) []:=by
 unfold a7g at hr;rw[d9]at hr;split at hr
 ·rename_i h;simp only[yad,yae]at h;cases hr
  obtain ⟨n,rfl⟩:=Int.eq_ofNat_of_zero_le h.1.1.1;obtain ⟨m,rfl⟩:=Int.eq_ofNat_of_zero_le (Int.le_trans h.1.1.1 h.1.1.2);exact g0p sgk fok hmd W (i:=n) (j:=m) (by omega) (by omega) hwl
 ·cases hr
end
end
section
def d7x (c:Nat):Bool:=decide (c<32)||(decide (127≤c)&&decide (c≤159))||decide (65535<c)
theorem a78 {c:Nat}:d7x c=true↔c<32∨(127≤c∧c≤159)∨65535<c:=by
 unfold d7x;simp only[ybg,yad,yae];omega
set_option maxHeartbeats 2000000 in
theorem b7h {l:List UInt8} (hl:l≠[]):dcd l=if ((Lib.decodeL l).1=65533∧(Lib.decodeL l).2=1)∨d7x (Lib.decodeL l).1=true then (0,0) else Lib.decodeL l:=by
 cases l with
 |nil=>exact absurd rfl hl
 |cons a r=>
  rw[Lib.decodeL_N];have ha:=a.toNat_lt;simp only[a78];rcases r with _|⟨b,_|⟨c,_|⟨d,r⟩⟩⟩
  ·simp only[List.getD_cons_zero,List.getD_cons_succ,List.getD_nil,yaK,ybP];obtain ⟨X,hX⟩:∃X,Lib.decodeN (0+1) a.toNat (0:UInt8).toNat (0:UInt8).toNat (0:UInt8).toNat=X:=⟨_,rfl⟩
   rw[hX];unfold Lib.decodeN at hX;unfold dcd;dsimp only;split at hX
   ·subst hX
    repeat' split
    all_goals first|with_reducible rfl|(exfalso;omega)
   ·rw[yat (by omega),yat (by omega),yat (by omega)]at hX;subst hX
    repeat' split
    all_goals first|with_reducible rfl|(exfalso;omega)
  ·simp only[List.getD_cons_zero,List.getD_cons_succ,List.getD_nil,yaK,ybP];have hb:=b.toNat_lt;obtain ⟨X,hX⟩:∃X,Lib.decodeN (0+1+1) a.toNat b.toNat (0:UInt8).toNat (0:UInt8).toNat=X:=⟨_,rfl⟩
   rw[hX];unfold Lib.decodeN at hX;unfold dcd;dsimp only
   repeat' split at hX
   all_goals subst hX
   all_goals dsimp only
   all_goals repeat' split
   all_goals first|with_reducible rfl|(exfalso;omega)|(simp only[yaM,and_true];omega)
  ·simp only[List.getD_cons_zero,List.getD_cons_succ,List.getD_nil,yaK,ybP];have hb:=b.toNat_lt;have hc:=c.toNat_lt;obtain ⟨X,hX⟩:∃X,Lib.decodeN (0+1+1+1) a.toNat b.toNat c.toNat (0:UInt8).toNat=X:=⟨_,rfl⟩
   rw[hX];unfold Lib.decodeN at hX;unfold dcd;dsimp only
   repeat' split at hX
   all_goals subst hX
   all_goals dsimp only
   all_goals repeat' split
   all_goals first|with_reducible rfl|(exfalso;omega)|(simp only[yaM,and_true];omega)
  ·simp only[List.getD_cons_zero,List.getD_cons_succ,List.getD_nil,yaK,ybP];have hb:=b.toNat_lt;have hc:=c.toNat_lt;have hd:=d.toNat_lt;obtain ⟨X,hX⟩:∃X,Lib.decodeN (r.length+1+1+1+1) a.toNat b.toNat c.toNat d.toNat=X:=⟨_,rfl⟩
   rw[hX];unfold Lib.decodeN at hX;unfold dcd;dsimp only
   repeat' split at hX
   all_goals subst hX
   all_goals dsimp only
   all_goals repeat' split
   all_goals first|with_reducible rfl|(exfalso;omega)|(simp only[yaM,and_true];omega)
def okN:Nat→List UInt8→Bool
 |0,_=>true
 |n+1,l=>if l=[] then true else if d7x (Lib.decodeL l).1 then false else okN n (l.drop (Lib.decodeL l).2)
theorem a6u {l:List UInt8} (hl:l≠[]):1≤(Lib.decodeL l).2∧(Lib.decodeL l).2≤l.length:=by
 cases l with
 |nil=>exact absurd rfl hl
 |cons a r=>
  rw[Lib.decodeL_N];unfold Lib.decodeN;have:1≤(a::r).length:=by simp
  repeat' split
  all_goals simp only
  all_goals omega
theorem g94:∀(n:Nat) (l:List UInt8),d6y n l=(Lib.validGoD n l&&okN n l):=by
 intro n
 induction n with
 |zero=>intro l;rfl
 |succ n ih=>
  intro l;simp only[d6y,Lib.validGoD,okN];by_cases hl:l=[]
  ·simp[hl]
  ·simp only[hl,ya7];rw[b7h hl];by_cases h1:(Lib.decodeL l).1=65533∧(Lib.decodeL l).2=1
   ·simp[h1]
   ·by_cases h2:d7x (Lib.decodeL l).1=true
    ·simp[h2]
    ·have:=a6u hl;have hne:¬(((Lib.decodeL l).1=65533∧(Lib.decodeL l).2=1)∨d7x (Lib.decodeL l).1=true):=fun h=>h.elim h1 h2
     rw[yat hne,yat (show ¬(Lib.decodeL l).2=0 by omega),yat h1,yat h2];exact ih _
theorem f2t:∀(n m:Nat) (l:List UInt8),l.length≤n→l.length≤m→okN n l=okN m l:=by
 intro n
 induction n with
 |zero=>intro m l h1 h2;have:l=[]:=ybr.1 (by omega);subst this;cases m<;>simp[okN]
 |succ n ih=>
  intro m l h1 h2;by_cases hl:l=[]
  ·subst hl;cases m<;>simp[okN]
  ·have hp:=a6u hl;have:0<l.length:=List.length_pos_iff.2 hl;obtain ⟨m,rfl⟩:∃k,m=k+1:=⟨m-1,by omega⟩
   simp only[okN,hl,ya7];split
   ·rfl
   ·exact ih m _ (by rw[ya5];omega) (by rw[ya5];omega)
theorem e1e (xs:List (List UInt8)) (y sep:List UInt8):Lib.join (xs++[y]) sep=if xs=[] then y else Lib.join xs sep++(sep++y):=by
 cases xs with
 |nil=>simp[Lib.join_one]
 |cons x xs=>
  rw[yb0,Lib.join_cons,Lib.join_cons];simp[Lib.joinTail]
def pcs (l:List UInt8) (acc:List (Nat×Nat)):List (List UInt8):=acc.map fun x=>(l.take x.2).drop x.1
def J (l:List UInt8) (acc:List (Nat×Nat)):List UInt8:=Lib.join (pcs l acc) [32]
theorem h0e (l:List UInt8):J l []=[]:=rfl
theorem d64 (l:List UInt8) (acc:List (Nat×Nat)) (a b:Nat):J l (acc++[(a,b)])=if acc=[] then (l.take b).drop a else J l acc++([32]++(l.take b).drop a):=by
 unfold J pcs;rw[List.map_append,List.map_singleton,e1e];simp only[List.map_eq_nil_iff]
theorem h77 {l:List UInt8}:∀{acc:List (Nat×Nat)},(∀x∈acc,x.1<x.2∧x.2≤l.length)→acc≠[]→J l acc≠[]:=by
 intro acc h hne;obtain ⟨x,r,rfl⟩:=List.exists_cons_of_ne_nil hne;have hx:=h x (by simp);unfold J pcs;rw[ybe,Lib.join_cons];intro e;have:=congrArg List.length e;simp only[yaX,ya5,yaS,ybP]at this;omega
theorem d8n {s:ByteArray} {l:List UInt8} (hl:s.data.toList=l) (p:Nat→Bool) (hp:∀c,p c=blk c):∀(f pos:Nat) (st:Option Nat) (acc:List (Nat×Nat)) (gap:Bool),
 s.size≤pos+f→pos≤s.size→d6y f (l.drop pos)=true→(∀a,st=some a→a<pos∧gap=false)→(st=none→gap=true∨acc=[])→(∀x∈acc,x.1<x.2∧x.2≤l.length)→
 J l (Lib.closeSpans s (Lib.spansFromP p s f pos st acc))=c1j f (l.drop pos) (match st with|some a=>J l (acc++[(a,pos)])|none=>J l acc) gap:=by
 have hsz:s.size=l.length:=by rw[Lib.size_eq,hl]
 intro f
 induction f with
 |zero=>
  intro pos st acc gap h1 h2 hv hs hn hacc;have:pos=s.size:=by omega
  subst this;simp only[Lib.spansFromP,c1j];cases st with
  |none=>rfl
  |some a=>rfl
 |succ f ih=>
  intro pos st acc gap h1 h2 hv hs hn hacc;by_cases hlt:pos<s.size
  ·have hne:l.drop pos≠[]:=by simp;omega
   have hdec:Lib.decodeL (l.drop pos)=Utf8.decode s pos:=by rw[←hl];exact Lib.decodeL_drop s pos
   have hpos:=a6u hne;rw[ya5]at hpos;have hv2:=hv;simp only[d6y,hne,ya7]at hv2;have hd:=b7h hne;split at hd
   ·rw[hd]at hv2;simp at hv2
   ·rename_i hnb;have hz:¬(dcd (l.drop pos)).2=0:=by rw[hd];omega
    rw[yat hz,List.drop_drop,hd,hdec]at hv2;have hw:wid (l.drop pos)=(Utf8.decode s pos).2:=by unfold wid;rw[hd,hdec,yat (by rw[←hdec];omega)]
    rw[hdec]at hpos;obtain ⟨k,hk⟩:∃k,(Utf8.decode s pos).2=k:=⟨_,rfl⟩
    rw[c1j,yat hne,List.drop_drop,hw,hd,hdec];simp only[Lib.spansFromP,hlt,yby,hp];rw[hk]at hpos hv2 ⊢;have htk:∀a,a≤pos→(l.take pos).drop a++(l.drop pos).take k=(l.take (pos+k)).drop a:=by
     intro a ha;rw[List.take_add,List.drop_append_of_le_length (by simp;omega)]
    cases hb:blk (Utf8.decode s pos).1 with
    |true=>
     simp only[yby];cases st with
     |none=>exact ih (pos+k) none acc true (by omega) (by omega) hv2 (fun a h=>by cases h) (fun _=>.inl rfl) hacc
     |some a=>
      have:=(hs a rfl).1;exact ih (pos+k) none (acc++[(a,pos)]) true (by omega) (by omega) hv2 (fun a h=>by cases h) (fun _=>.inl rfl) (fun x hx=>by
       rcases yas.1 hx with h|h
       ·exact hacc x h
       ·simp only[ybC]at h;subst h;exact ⟨this,by simp only;omega⟩)
    |false=>
     simp only[yaB,ya7];cases st with
     |some a=>
      obtain ⟨ha,hg⟩:=hs a rfl;subst hg;rw[ih (pos+k) (some a) acc false (by omega) (by omega) hv2 (fun b h=>by cases h;exact ⟨by omega,rfl⟩) (fun h=>by cases h) hacc];simp only[ybA,yaB,ya7];congr 1;rw[d64,d64];split
      ·exact (htk a (by omega)).symm
      ·rw[←htk a (by omega)];simp
     |none=>
      rw[ih (pos+k) (some pos) acc false (by omega) (by omega) hv2 (fun b h=>by cases h;exact ⟨by omega,rfl⟩) (fun h=>by cases h) hacc];congr 1;dsimp only;rw[d64];have e:=htk pos (yaF _);rw[@List.drop_eq_nil_of_le _ (l.take pos) _ (by simp;omega),yaZ]at e;rcases hn rfl with hg|hacc0
      ·subst hg;by_cases h0:acc=[]
       ·subst h0;simp[h0e,e]
       ·have:=h77 hacc h0;have hb2:(J l acc==[])=false:=by simpa using this
        simp[h0,hb2,e]
      ·subst hacc0;simp[h0e,e]
  ·have:pos=s.size:=by omega
   subst this;have hnil:l.drop s.size=[]:=by rw[hsz];simp
   rw[Lib.spansFromP_end _ _ _ _ _ _ hlt,c1j,yaP hnil];cases st with
   |none=>rfl
   |some a=>rfl
theorem d30 {s:ByteArray} {p:Nat→Bool} (hp:∀c,p c=blk c) (hv:vld s.data.toList=true):Lib.join ((Lib.goFieldsP p s).map (·.data.toList)) [32]=cln s.data.toList:=by
 have h:=d8n (s:=s) rfl p hp s.size 0 none [] false (by omega) (by omega) (by rw[ybz,Lib.size_eq];exact hv) (fun a h=>by cases h) (fun _=>.inr rfl) (fun x h=>by cases h);rw[ybz]at h;have hc:cln s.data.toList=c1j s.size s.data.toList [] false:=by unfold cln;rw[Lib.size_eq]
 rw[hc];refine Eq.trans ?_ h;unfold J pcs Lib.goFieldsP Lib.spansOfP;rw[List.map_map];congr 1;refine List.map_congr_left (fun x _=>?_);show (s.extract x.1 x.2).data.toList=(s.data.toList.take x.2).drop x.1
 rw[Lib.extract_data,List.drop_take]
theorem e7i (p:Nat→Bool) (s:ByteArray):∀(f pos:Nat) (st:Option Nat) (acc:List (Nat×Nat)),(Lib.spansFromP p s f pos st acc).1.length≤acc.length+f:=by
 intro f
 induction f with
 |zero=>intro pos st acc;exact yaF _
 |succ f ih=>
  intro pos st acc;unfold Lib.spansFromP;split
  ·split
   ·cases st with
    |none=>exact ybl (ih _ _ _) (by omega)
    |some a=>exact ybl (ih _ _ _) (by simp;omega)
   ·cases st with
    |none=>exact ybl (ih _ _ _) (by omega)
    |some a=>exact ybl (ih _ _ _) (by omega)
  ·simp
theorem d4f (p:Nat→Bool) (s:ByteArray):(Lib.goFieldsP p s).length≤s.size+1:=by
 have:=e7i p s s.size 0 none [];unfold Lib.goFieldsP Lib.spansOfP Lib.closeSpans;rw[ybc];split
 ·rw[yaX];simp at this ⊢;omega
 ·simp at this;omega
theorem e96:∀(n:Nat) (l out:List UInt8) (gap:Bool),(c1j n l out gap).length≤out.length+2*l.length:=by
 intro n
 induction n with
 |zero=>intro l out gap;simp[c1j]
 |succ n ih=>
  intro l out gap;rw[c1j];split
  ·omega
  ·have hw:1≤wid l:=by unfold wid;split<;>omega
   have hl:0<l.length:=List.length_pos_iff.2 (by assumption);split
   ·have:=ih (l.drop (wid l)) out true;rw[ya5]at this;omega
   ·have:=ih (l.drop (wid l)) ((if gap&&!(out==[]) then out++[32] else out)++l.take (wid l)) false;rw[ya5]at this;have h2:(if gap&&!(out==[]) then out++[32] else out).length≤out.length+1:=by split<;>simp
    simp only[yaX,yaS]at this;omega
theorem g0o (s:ByteArray):(cln s.data.toList).length≤2*s.size:=by
 have:=e96 s.data.toList.length s.data.toList [] false;rw[Lib.size_eq];simpa[cln]using this
end
end Go.Proofs.YtdahfgialanmpabGreatDoor.Ev
namespace Go.Proofs
open Go.Shelf
def Tryz.laysValid_ren:Go.Shelf.Ren:=⟨fun|196=>231|259=>256|n=>n,fun|9=>9|4=>4|3=>3|5=>5|12=>12|119=>251|0=>0|46=>218|139=>254|138=>253|53=>245|n=>n,fun|3=>1|4=>2|n=>n⟩
theorem Tryz.laysValid:Go.Proofs.Lays.n196 Tryz.prog Tryz.laysValid_ren:={
 mixed:=by kernel_rfl
 f196:=Tryz.func231.trans (congrArg some (by kernel_rfl))
 f259:=Tryz.func256.trans (congrArg some (by kernel_rfl))
 t0:=Tryz.underlying0
 a0:=Tryz.isAgg0
 z0:=Tryz.sizeOf0
 v0:=Tryz.zeroValue0
 t3:=Tryz.underlying3
 a3:=Tryz.isAgg3
 z3:=Tryz.sizeOf3
 v3:=Tryz.zeroValue3
 t4:=Tryz.underlying4
 a4:=Tryz.isAgg4
 z4:=Tryz.sizeOf4
 v4:=Tryz.zeroValue4
 t5:=Tryz.underlying5
 a5:=Tryz.isAgg5
 z5:=Tryz.sizeOf5
 v5:=Tryz.zeroValue5
 t9:=Tryz.underlying9
 a9:=Tryz.isAgg9
 z9:=Tryz.sizeOf9
 v9:=Tryz.zeroValue9
 t12:=Tryz.underlying12
 a12:=Tryz.isAgg12
 z12:=Tryz.sizeOf12
 v12:=Tryz.zeroValue12
 t46:=Tryz.underlying218
 a46:=Tryz.isAgg218
 z46:=Tryz.sizeOf218
 v46:=Tryz.zeroValue218
 t53:=Tryz.underlying245
 a53:=Tryz.isAgg245
 z53:=Tryz.sizeOf245
 v53:=Tryz.zeroValue245
 t119:=Tryz.underlying251
 a119:=Tryz.isAgg251
 z119:=Tryz.sizeOf251
 t138:=Tryz.underlying253
 a138:=Tryz.isAgg253
 z138:=Tryz.sizeOf253
 v138:=Tryz.zeroValue253
 t139:=Tryz.underlying254
 a139:=Tryz.isAgg254
 z139:=Tryz.sizeOf254
 v139:=Tryz.zeroValue254
 g3:=by kernel_rfl
 g4:=by kernel_rfl}
def Tryz.lays156_ren:Go.Shelf.Ren:=⟨fun|156=>257|165=>269|166=>270|169=>271|240=>273|241=>274|276=>275|277=>276|n=>n,fun|31=>256|9=>9|3=>3|4=>4|0=>0|20=>20|72=>269|76=>272|70=>266|37=>267|75=>271|127=>280|164=>281|5=>5|80=>274|n=>n,fun|n=>n⟩
theorem Tryz.lays156:Go.Proofs.Lays.n156 Tryz.prog Tryz.lays156_ren:={
 mixed:=by kernel_rfl
 f156:=Tryz.func257.trans (congrArg some (by kernel_rfl))
 f165:=Tryz.func269.trans (congrArg some (by kernel_rfl))
 f166:=Tryz.func270.trans (congrArg some (by kernel_rfl))
 f169:=Tryz.func271.trans (congrArg some (by kernel_rfl))
 f240:=Tryz.func273.trans (congrArg some (by kernel_rfl))
 f241:=Tryz.func274.trans (congrArg some (by kernel_rfl))
 f276:=Tryz.func275.trans (congrArg some (by kernel_rfl))
 f277:=Tryz.func276.trans (congrArg some (by kernel_rfl))
 t0:=Tryz.underlying0
 a0:=Tryz.isAgg0
 z0:=Tryz.sizeOf0
 v0:=Tryz.zeroValue0
 t3:=Tryz.underlying3
 a3:=Tryz.isAgg3
 z3:=Tryz.sizeOf3
 v3:=Tryz.zeroValue3
 t4:=Tryz.underlying4
 a4:=Tryz.isAgg4
 z4:=Tryz.sizeOf4
 v4:=Tryz.zeroValue4
 t9:=Tryz.underlying9
 a9:=Tryz.isAgg9
 z9:=Tryz.sizeOf9
 v9:=Tryz.zeroValue9
 t20:=Tryz.underlying20
 a20:=Tryz.isAgg20
 z20:=Tryz.sizeOf20
 v20:=Tryz.zeroValue20
 t31:=Tryz.underlying256
 a31:=Tryz.isAgg256
 z31:=Tryz.sizeOf256
 v31:=Tryz.zeroValue256
 t37:=Tryz.underlying267
 a37:=Tryz.isAgg267
 z37:=Tryz.sizeOf267
 v37:=Tryz.zeroValue267
 t70:=Tryz.underlying266
 a70:=Tryz.isAgg266
 z70:=Tryz.sizeOf266
 v70:=Tryz.zeroValue266
 t72:=Tryz.underlying269
 a72:=Tryz.isAgg269
 z72:=Tryz.sizeOf269
 v72:=Tryz.zeroValue269
 t75:=Tryz.underlying271
 a75:=Tryz.isAgg271
 z75:=Tryz.sizeOf271
 v75:=Tryz.zeroValue271
 t76:=Tryz.underlying272
 a76:=Tryz.isAgg272
 z76:=Tryz.sizeOf272
 v76:=Tryz.zeroValue272
 t127:=Tryz.underlying280
 a127:=Tryz.isAgg280
 z127:=Tryz.sizeOf280
 v127:=Tryz.zeroValue280
 t164:=Tryz.underlying281
 a164:=Tryz.isAgg281
 z164:=Tryz.sizeOf281
 v164:=Tryz.zeroValue281}
theorem Tryz.Builder_Extra_156:Builder.Extra Tryz.prog Tryz.lays156_ren:={
 sizeBuilder:=by kernel_rfl
 liesBuilder:=by kernel_rfl
 t5:=Tryz.underlying5
 a5:=Tryz.isAgg5
 z5:=Tryz.sizeOf5
 v5:=Tryz.zeroValue5
 infoByte:=by kernel_rfl
 cellsByte:=by kernel_rfl
 sizeByte:=by kernel_rfl
 neB5:=by decide}
open Go.RowKit in
theorem Tryz.strings_Join (bk o c:Nat) (xs:List ByteArray) (sep:ByteArray) (w:World) (hcells:∀(j:Nat) x,xs[j]?=some x→w.cell? ⟨bk,o+j,none⟩=some (.string x)) (hbk:bk<w.heap.size) (hN:xs.length≤140737488355328) (hcap:xs.length≤c) (hlen:(Lib.join (xs.map (·.data.toList)) sep.data.toList).length≤140737488355328) :
 Calls Tryz.prog 257 #[.slice (some ⟨bk,o,none⟩) xs.length c,.string sep] w fun e w'=>e=.returned (.string ⟨(Lib.join (xs.map (·.data.toList)) sep.data.toList).toArray⟩)∧Below w.heap.size w w':=Any.strings_Join Tryz.lays156 Tryz.Builder_Extra_156 bk o c xs sep w hcells hbk hN hcap hlen
def Tryz.lays229_ren:Go.Shelf.Ren:=⟨fun|229=>258|n=>n,fun|9=>9|40=>258|31=>256|152=>275|3=>3|0=>0|4=>4|21=>21|154=>277|n=>n,fun|n=>n⟩
theorem Tryz.lays229:Go.Proofs.Lays.n229 Tryz.prog Tryz.lays229_ren:={
 mixed:=by kernel_rfl
 f229:=Tryz.func258.trans (congrArg some (by kernel_rfl))
 t0:=Tryz.underlying0
 a0:=Tryz.isAgg0
 z0:=Tryz.sizeOf0
 v0:=Tryz.zeroValue0
 t3:=Tryz.underlying3
 a3:=Tryz.isAgg3
 z3:=Tryz.sizeOf3
 v3:=Tryz.zeroValue3
 t4:=Tryz.underlying4
 a4:=Tryz.isAgg4
 z4:=Tryz.sizeOf4
 v4:=Tryz.zeroValue4
 t9:=Tryz.underlying9
 a9:=Tryz.isAgg9
 z9:=Tryz.sizeOf9
 v9:=Tryz.zeroValue9
 t21:=Tryz.underlying21
 a21:=Tryz.isAgg21
 z21:=Tryz.sizeOf21
 v21:=Tryz.zeroValue21
 t31:=Tryz.underlying256
 a31:=Tryz.isAgg256
 z31:=Tryz.sizeOf256
 v31:=Tryz.zeroValue256
 t40:=Tryz.underlying258
 a40:=Tryz.isAgg258
 z40:=Tryz.sizeOf258
 v40:=Tryz.zeroValue258
 t152:=Tryz.underlying275
 a152:=Tryz.isAgg275
 z152:=Tryz.sizeOf275
 v152:=Tryz.zeroValue275
 t154:=Tryz.underlying277
 a154:=Tryz.isAgg277
 z154:=Tryz.sizeOf277
 v154:=Tryz.zeroValue277}
open Go.RowKit Go.Lib in
theorem Tryz.strings_FieldsFunc_runes (g:Nat) (lb:Array Value) (eg:∀args w,(callFunc g args).run Tryz.prog w=.ok (.enter g args) w) (p:Nat→Bool) (s:ByteArray) (w:World) (hs:s.size≤4294967296) (hp:PredAtRunes Tryz.prog g lb p w) :
 Calls Tryz.prog 258 #[.string s,.func (.func g) #[] lb] w fun e w'=>∃A,e=.returned (.slice (some ⟨A,0,none⟩) (Lib.goFieldsP p s).length (Lib.goFieldsP p s).length)∧w.heap.size≤A∧
  w'.ownsRow w.heap.size 9 1 (.slice (some ⟨A,0,none⟩) (Lib.goFieldsP p s).length (Lib.goFieldsP p s).length) (Lib.goFieldsP p s).length ((Lib.goFieldsP p s).map Value.string)∧Below w.heap.size w w':=Any.strings_FieldsFunc_runes Tryz.lays229 g lb eg p s w hs hp (by kernel_rfl) (by kernel_rfl)
open Go.RowKit in
theorem Tryz.strings_Join_none (a:Option Addr) (c:Nat) (sep:ByteArray) (w:World) :
 Calls Tryz.prog 257 #[.slice a 0 c,.string sep] w fun e w'=>e=.returned (.string ⟨#[]⟩)∧w'=w:=Any.strings_Join_none Tryz.lays156 Tryz.Builder_Extra_156 a c sep w
end Go.Proofs
namespace Go.Proofs.YtdahfgialanmpabGreatDoor
open Go Ev
open Go.Lib Go.RowKit
theorem e4k {X:Ending} (b:Bool) {b':Bool} (h:X=.returned (.bool b)) (e:b=b'):X=.returned (.bool b'):=e▸h
set_option maxHeartbeats 4000000 in
set_option maxRecDepth 1000000 in
theorem d6x (s:ByteArray) (w:World) (hs:s.size≤1073741824) (hT:Lib.Utf8Tabs 1 2 w) :
 Calls Tryz.prog 201 #[.string s] w fun e w'=>e=.returned (.bool (vld s.data.toList))∧Below w.heap.size w w':=by
 have cV:Calls Tryz.prog 231 #[.string s] w _:=Any.utf8_ValidString Tryz.laysValid s w (by omega) hT;have hvl:vld s.data.toList=(Lib.validD s.data.toList&&okN s.size s.data.toList):=by rw[Lib.size_eq];exact g94 _ _
 rw[hvl];clear hvl;generalize Lib.validD s.data.toList=V at cV ⊢;cases V with
 |false=>
  rw[ybA]
  go_enter Tryz.func201,Tryz.ntmps201
  go_wp2_with (go_at_call 231;refine cV.mono ?_;rintro e w' ⟨rfl,hb⟩)
  go_ret
  exact ⟨rfl,hb⟩
 |true=>
  rw[ya1]
  go_enter Tryz.func201,Tryz.ntmps201
  go_wp2_with (go_at_call 231;refine cV.mono ?_;rintro e w' ⟨rfl,hb⟩)
  go_loopg [4] (s.size+1) (fun gk s4 wx=>∃pos:Nat,wx.heap[w'.heap.size]?=some (.stringIter s pos)∧Below w.heap.size w wx∧
   okN gk (s.data.toList.drop pos)=okN s.size s.data.toList∧s.size≤pos+gk∧pos≤s.size)
  case atStart=>
   refine ⟨0,World.iter_heap w' s 0,hb.alloc hb.size _,?_,by omega,by omega⟩;rw[ybz];exact f2t _ _ _ (by rw[←Lib.size_eq];omega) (by rw[←Lib.size_eq];omega)
  case round=>
   obtain ⟨pos,hit,hbw,hok,hfu,hps⟩:=hrel;have hdec:Lib.decodeL (s.data.toList.drop pos)=Utf8.decode s pos:=Lib.decodeL_drop s pos;by_cases hlt:pos<s.size
   ·obtain ⟨g',rfl⟩:∃g',gk=g'+1:=⟨gk-1,by omega⟩
    have hnx:∀ty,(Instr.next (.pointer (some ⟨w'.heap.size,0,none⟩)) true ty).run Tryz.prog wr=_:=fun ty=>Lib.run_next_any_at wr w'.heap.size s pos ty hit hlt
    have hne:s.data.toList.drop pos≠[]:=by rw[Ne,List.drop_eq_nil_iff,←Lib.size_eq];omega
    have hwd:=a6u hne;rw[hdec,ya5,←Lib.size_eq]at hwd;simp only[okN,hne,ya7,hdec,List.drop_drop]at hok;obtain ⟨R,hR⟩:∃R,(Utf8.decode s pos).1=R:=⟨_,rfl⟩
    obtain ⟨K,hK⟩:∃K,(Utf8.decode s pos).2=K:=⟨_,rfl⟩
    rw[hR,hK]at hnx hok;rw[hK]at hwd;have hit2:=Lib.iterAt_heap wr w'.heap.size s pos (pos+K) hit;have hbw2:=Lib.below_iterAt hbw (k:=w'.heap.size) hb.size s (pos+K);by_cases h1:R<32
    ·have hz:(R:Int)<32:=by omega
     have hb1:d7x R=true:=a78.2 (.inl h1);rw[yaP hb1]at hok
     go_wp2
     go_ret
     first|exact ⟨rfl,hbw2⟩|exact ⟨e4k false rfl hok,hbw2⟩
    ·have hz:¬(R:Int)<32:=by omega
     by_cases h2:127≤R
     ·have hz2:(127:Int)≤(R:Int):=by omega
      by_cases h3:R≤159
      ·have hz3:(R:Int)≤159:=by omega
       have hb1:d7x R=true:=a78.2 (.inr (.inl ⟨h2,h3⟩));rw[yaP hb1]at hok
       go_wp2
       go_ret
       first|exact ⟨rfl,hbw2⟩|exact ⟨e4k false rfl hok,hbw2⟩
      ·have hz3:¬(R:Int)≤159:=by omega
       by_cases h4:65535<R
       ·have hz4:(65535:Int)<(R:Int):=by omega
        have hb1:d7x R=true:=a78.2 (.inr (.inr h4));rw[yaP hb1]at hok
        go_wp2
        go_ret
        first|exact ⟨rfl,hbw2⟩|exact ⟨e4k false rfl hok,hbw2⟩
       ·have hz4:¬(65535:Int)<(R:Int):=by omega
        have hb1:¬d7x R=true:=fun h=>by rw[a78]at h;omega
        rw[yat hb1]at hok
        go_wp2
        go_roundg g'
        case measure=>omega
        case rel=>exact ⟨pos+K,hit2,hbw2,hok,by omega,by omega⟩
     ·have hz2:¬(127:Int)≤(R:Int):=by omega
      have hz4:¬(65535:Int)<(R:Int):=by omega
      have hb1:¬d7x R=true:=fun h=>by rw[a78]at h;omega
      rw[yat hb1]at hok
      go_wp2
      go_roundg g'
      case measure=>omega
      case rel=>exact ⟨pos+K,hit2,hbw2,hok,by omega,by omega⟩
   ·have:pos=s.size:=by omega
    subst this;have hnx:∀ty,(Instr.next (.pointer (some ⟨w'.heap.size,0,none⟩)) true ty).run Tryz.prog wr=_:=fun ty=>Lib.run_next_end_at wr w'.heap.size s s.size ty hit hlt
    have hnil:s.data.toList.drop s.size=[]:=by rw[Lib.size_eq];simp
    have hok2:okN s.size s.data.toList=true:=by rw[←hok,hnil];cases gk<;>simp[okN]
    go_wp2
    go_ret
    first|exact ⟨rfl,hbw⟩|exact ⟨e4k true rfl hok2.symm,hbw⟩
set_option maxRecDepth 1000000 in
theorem d3f (R:Nat) (hR:R≤1114111) (w:World):Calls Tryz.prog 259 #[.int .i32 (R:Int)] w fun e w'=>e=.returned (.bool (blk R))∧∃q,w'=w.drewN q:=by
 by_cases h1:R=32
 ·subst h1
  go_enter Tryz.func259,Tryz.ntmps259
  go_wp2
  go_ret
  exact ⟨rfl,0,rfl⟩
 ·have z1:¬(R:Int)=32:=by omega
  by_cases h2:R=160
  ·subst h2
   go_enter Tryz.func259,Tryz.ntmps259
   go_wp2
   go_ret
   exact ⟨rfl,0,rfl⟩
  ·have z2:¬(R:Int)=160:=by omega
   have hb:blk R=false:=by unfold blk;simp[h1,h2]
   go_enter Tryz.func259,Tryz.ntmps259
   go_wp2
   go_ret
   exact ⟨e4k ((R:Int)==32||(R:Int)==160) rfl (by rw[hb,yaj];exact ⟨by simp;omega,by simp;omega⟩),0,rfl⟩
set_option maxHeartbeats 4000000 in
set_option maxRecDepth 1000000 in
theorem d3z (s:ByteArray) (w:World) (hs:s.size≤1073741824) (hv:vld s.data.toList=true) :
 Calls Tryz.prog 232 #[.string s] w fun e w'=>e=.returned (.string ⟨(cln s.data.toList).toArray⟩)∧Below w.heap.size w w':=by
 have eg:∀args w,(callFunc 259 args).run Tryz.prog w=.ok (.enter 259 args) w:=enters_of Tryz.func259 kr rfl;have hp:PredAtRunes Tryz.prog 259 #[] blk w:=fun W x hx hb=>by
  exact d3f x hx W
 have cF:=Tryz.strings_FieldsFunc_runes 259 #[] eg blk s w (by omega) hp;have hj:=d30 (s:=s) (p:=blk) (fun _=>rfl) hv;have hlen:(cln s.data.toList).length≤2*s.size:=g0o s;obtain ⟨Fs,hFs⟩:∃Fs,Lib.goFieldsP blk s=Fs:=⟨_,rfl⟩
 have hfl:=d4f blk s;rw[hFs]at hj cF hfl;have cJ:∀A W,Below w.heap.size w W→W.ownsRow w.heap.size 9 1 (.slice (some ⟨A,0,none⟩) Fs.length Fs.length) Fs.length (Fs.map Value.string)→
  Calls Tryz.prog 257 #[.slice (some ⟨A,0,none⟩) Fs.length Fs.length,.string ⟨#[32]⟩] W fun e w'=>e=.returned (.string ⟨(cln s.data.toList).toArray⟩)∧Below w.heap.size w w':=by
  intro A W hb hrow;by_cases h0:Fs=[]
  ·subst h0;have:=Tryz.strings_Join_none (some ⟨A,0,none⟩) 0 ⟨#[32]⟩ W;refine this.mono ?_;rintro e w' ⟨rfl,rfl⟩;rw[←hj];exact ⟨rfl,hb⟩
  ·obtain ⟨-,h|⟨g,cap,cur,hv2,hbg,hh,hn,hmx,hcs,hct⟩⟩:=hrow
   ·exact absurd (ybr.1 h.2) h0
   ·injection hv2 with e1 e2 e3;injection e1 with e1;injection e1 with e1;subst e1;have hj2:(Lib.join (Fs.map (·.data.toList)) (⟨#[32]⟩:ByteArray).data.toList)=cln s.data.toList:=hj;have:=Tryz.strings_Join A 0 Fs.length Fs ⟨#[32]⟩ W (fun j x hx=>by
     rw[Nat.mul_one]at hct;have hj3:j<Fs.length:=(zL hx)
     have e4:cur.toList[j]?=some (Value.string x):=by
      rw[←ybM hj3,hct,yaH,hx];rfl
     rw[yav]at e4;rw[yaE];simp only[World.cell?,hh];exact e4) (yak.1 hh).1 (by omega) (yaF _) (by rw[hj2];omega)
    refine this.mono ?_;rintro e w' ⟨rfl,hb2⟩;rw[hj2];exact ⟨rfl,hb.trans (hb2.mono hb.size)⟩
 clear hj hlen hFs hfl
 go_enter Tryz.func232,Tryz.ntmps232
 go_wp2_with (first|(go_at_call 258;refine cF.mono ?_;rintro e w' ⟨A,rfl,hA,hrow,hb⟩)|(go_at_call 257;refine (cJ A _ hb hrow).mono ?_;rintro e w'' ⟨rfl,hb2⟩))
 go_ret
 exact ⟨rfl,hb2⟩
end Go.Proofs.YtdahfgialanmpabGreatDoor
namespace Go.Proofs
open Go.Shelf
def Tryz.lays189_ren:Go.Shelf.Ren:=⟨fun|189=>155|125=>212|257=>211|128=>245|129=>246|294=>236|295=>237|296=>238|297=>239|298=>240|299=>241|216=>242|300=>243|301=>244|328=>260|329=>261|330=>262|331=>263|332=>264|215=>265|343=>272|n=>n,fun|28=>28|3=>3|46=>218|0=>0|51=>243|53=>245|4=>4|183=>236|182=>235|131=>240|5=>5|9=>9|218=>259|222=>263|228=>278|229=>185|n=>n,fun|n=>n⟩
theorem Tryz.lays189:Go.Proofs.Lays.n189 Tryz.prog Tryz.lays189_ren:={
 mixed:=by kernel_rfl
 f125:=Tryz.func212.trans (congrArg some (by kernel_rfl))
 f128:=Tryz.func245.trans (congrArg some (by kernel_rfl))
 f129:=Tryz.func246.trans (congrArg some (by kernel_rfl))
 f189:=Tryz.func155.trans (congrArg some (by kernel_rfl))
 f215:=Tryz.func265.trans (congrArg some (by kernel_rfl))
 f216:=Tryz.func242.trans (congrArg some (by kernel_rfl))
 f257:=Tryz.func211.trans (congrArg some (by kernel_rfl))
 f294:=Tryz.func236.trans (congrArg some (by kernel_rfl))
 f295:=Tryz.func237.trans (congrArg some (by kernel_rfl))
 f296:=Tryz.func238.trans (congrArg some (by kernel_rfl))
 f297:=Tryz.func239.trans (congrArg some (by kernel_rfl))
 f298:=Tryz.func240.trans (congrArg some (by kernel_rfl))
 f299:=Tryz.func241.trans (congrArg some (by kernel_rfl))
 f300:=Tryz.func243.trans (congrArg some (by kernel_rfl))
 f301:=Tryz.func244.trans (congrArg some (by kernel_rfl))
 f328:=Tryz.func260.trans (congrArg some (by kernel_rfl))
 f329:=Tryz.func261.trans (congrArg some (by kernel_rfl))
 f330:=Tryz.func262.trans (congrArg some (by kernel_rfl))
 f331:=Tryz.func263.trans (congrArg some (by kernel_rfl))
 f332:=Tryz.func264.trans (congrArg some (by kernel_rfl))
 f343:=Tryz.func272.trans (congrArg some (by kernel_rfl))
 t0:=Tryz.underlying0
 a0:=Tryz.isAgg0
 z0:=Tryz.sizeOf0
 v0:=Tryz.zeroValue0
 t3:=Tryz.underlying3
 a3:=Tryz.isAgg3
 z3:=Tryz.sizeOf3
 v3:=Tryz.zeroValue3
 t4:=Tryz.underlying4
 a4:=Tryz.isAgg4
 z4:=Tryz.sizeOf4
 v4:=Tryz.zeroValue4
 t5:=Tryz.underlying5
 a5:=Tryz.isAgg5
 z5:=Tryz.sizeOf5
 v5:=Tryz.zeroValue5
 t9:=Tryz.underlying9
 a9:=Tryz.isAgg9
 z9:=Tryz.sizeOf9
 v9:=Tryz.zeroValue9
 t28:=Tryz.underlying28
 a28:=Tryz.isAgg28
 z28:=Tryz.sizeOf28
 v28:=Tryz.zeroValue28
 t46:=Tryz.underlying218
 a46:=Tryz.isAgg218
 z46:=Tryz.sizeOf218
 v46:=Tryz.zeroValue218
 t51:=Tryz.underlying243
 a51:=Tryz.isAgg243
 z51:=Tryz.sizeOf243
 v51:=Tryz.zeroValue243
 t53:=Tryz.underlying245
 a53:=Tryz.isAgg245
 z53:=Tryz.sizeOf245
 v53:=Tryz.zeroValue245
 t131:=Tryz.underlying240
 a131:=Tryz.isAgg240
 z131:=Tryz.sizeOf240
 v131:=Tryz.zeroValue240
 t182:=Tryz.underlying235
 a182:=Tryz.isAgg235
 z182:=Tryz.sizeOf235
 v182:=Tryz.zeroValue235
 t183:=Tryz.underlying236
 a183:=Tryz.isAgg236
 z183:=Tryz.sizeOf236
 v183:=Tryz.zeroValue236
 t218:=Tryz.underlying259
 a218:=Tryz.isAgg259
 z218:=Tryz.sizeOf259
 v218:=Tryz.zeroValue259
 t222:=Tryz.underlying263
 a222:=Tryz.isAgg263
 z222:=Tryz.sizeOf263
 v222:=Tryz.zeroValue263
 t228:=Tryz.underlying278
 a228:=Tryz.isAgg278
 z228:=Tryz.sizeOf278
 v228:=Tryz.zeroValue278
 t229:=Tryz.underlying185
 a229:=Tryz.isAgg185
 z229:=Tryz.sizeOf185
 v229:=Tryz.zeroValue185}
def Tryz.laysNm220_ren:Go.Shelf.Ren:=⟨fun|20=>156|n=>n,fun|22=>28|3=>3|4=>4|0=>0|n=>n,fun|n=>n⟩
theorem Tryz.laysNm220:Go.Proofs.Lays2.n20 Tryz.prog Tryz.laysNm220_ren:={
 mixed:=by kernel_rfl
 f20:=Tryz.func156.trans (congrArg some (by kernel_rfl))
 t0:=Tryz.underlying0
 a0:=Tryz.isAgg0
 z0:=Tryz.sizeOf0
 v0:=Tryz.zeroValue0
 t3:=Tryz.underlying3
 a3:=Tryz.isAgg3
 z3:=Tryz.sizeOf3
 v3:=Tryz.zeroValue3
 t4:=Tryz.underlying4
 a4:=Tryz.isAgg4
 z4:=Tryz.sizeOf4
 v4:=Tryz.zeroValue4
 t22:=Tryz.underlying28
 a22:=Tryz.isAgg28
 z22:=Tryz.sizeOf28
 v22:=Tryz.zeroValue28
 i3:=by kernel_rfl}
end Go.Proofs
namespace Go.Proofs.YtdahfgialanmpabGreatDoor
open Go Ev
section
open Go.Sort
set_option maxRecDepth 100000
theorem c5z {w:World} {I J:Nat→Nat→Prop} {xs:List Int} {blk:Nat} {vals:Array Value} {t:TypeId} (hb:w.heap[blk]?=some (.cells vals t (0,0)))
 (hc:∀i (hi:i<xs.length) j d,(sg.enc Kd.ki64 xs[i])[j]?=some d→∃v,vals[i*sg.sz Kd.ki64+j]?=some v∧DR sg w I J v d):∀i (hi:i<xs.length),vals[i]?=some (.int .i64 xs[i]):=by
 intro i hi;obtain ⟨v,h1,h2⟩:=hc i hi 0 (.int .i64 xs[i]) rfl;rw[h2.int_inv]at h1;have h1:vals[i*1+0]?=_:=h1;rw[Nat.mul_one,ybj]at h1;exact h1
theorem c5y {w:World} {xs:List Int} {blk:Nat} {vals:Array Value} {t:TypeId} (hb:w.heap[blk]?=some (.cells vals t (0,0))) (hc:∀i (hi:i<xs.length),vals[i]?=some (.int .i64 xs[i])) :
 Holds (Value.int .i64) w blk 0 xs.toArray:=by
 intro j hj;have hj:j<xs.length:=by simpa using hj
 refine ⟨?_,?_⟩
 ·simp only[World.cell?,hb,yaE,hc j hj];simp[hj]
 ·simp[World.frozen?,hb]
theorem e4m {w:World} {I J:Nat→Nat→Prop} {ys:List Int} {blk q:Nat} {vals:Array Value} {t:TypeId} {os:Array Obj} (hp:Pre sg w I J [blk]) (hb:w.heap[blk]?=some (.cells vals t (0,0))) (hy:ys.length≤vals.size) :
 GrowM [blk] w (grow (putRow (Value.int .i64) (Sort.ahead w q) blk 0 ys.toArray) os) I I∧
 ∃vals',(grow (putRow (Value.int .i64) (Sort.ahead w q) blk 0 ys.toArray) os).heap[blk]?=some (.cells vals' t (0,0))∧vals'.size=vals.size∧∀i (hi:i<ys.length),vals'[i]?=some (.int .i64 ys[i]):=by
 have hlt:blk<w.heap.size:=(yak.1 hb).1;have hh:(grow (putRow (Value.int .i64) (Sort.ahead w q) blk 0 ys.toArray) os).heap=w.heap.modify blk (onCells (putCells (Value.int .i64) 0 ys.toArray))++os:=rfl;have hsz:(w.heap.modify blk (onCells (putCells (Value.int .i64) 0 ys.toArray))).size=w.heap.size:=by simp
 have hget:∀b,b<w.heap.size→(grow (putRow (Value.int .i64) (Sort.ahead w q) blk 0 ys.toArray) os).heap[b]?=if blk=b then (w.heap[b]?).map (onCells (putCells (Value.int .i64) 0 ys.toArray)) else w.heap[b]?:=by
  intro b hb;rw[hh,ybG (by rw[hsz];exact hb),Array.getElem?_modify]
 refine ⟨⟨?_,rfl,rfl,rfl,fun b h1 h2=>?_,fun _ _ h=>h,fun _ _ h=>.inl h,fun b o h=>?_⟩,putCells (Value.int .i64) 0 ys.toArray vals,?_,?_,?_⟩
 ·rw[hh,Array.size_append,hsz];omega
 ·rw[hget b h1,yat (fun e=>h2 (by simp[e]))]
 ·have:=hp.ib b o h;rw[hh,Array.size_append,hsz];omega
 ·rw[hget blk hlt,yaP rfl,hb];rfl
 ·simp[putCells]
 ·intro i hi;unfold putCells;rw[Array.getElem?_mapIdx,yao (by omega)];simp[hi]
theorem c3a {mb:List Nat} {w:World} {I:Nat→Nat→Prop} (h:∀b o,I b o→b<w.heap.size):GrowM mb w w I I:=⟨yaF _,rfl,rfl,rfl,fun _ _ _=>rfl,fun _ _ h=>h,fun _ _ h=>.inl h,h⟩
theorem c9y {w:World} {I J:Nat→Nat→Prop} {vs:Array Value} (h:c1l sg w I J vs []):vs = #[]:=by
 have h1:vs.size=0:=h.1;exact Array.eq_empty_of_size_eq_zero h1
theorem h28:fnB Tryz.prog 155 Tryz.f155 []=true:=kr
theorem g11:∀ds a r,c9p.dec ds=some a→f6k a=some r→Con Tryz.prog sg 155 ds [] (f8f.enc r) []:=by
 intro ds a r hd hf;obtain ⟨code,fok,-,-⟩:=a0p Tryz.func155 h28;have hac:m6 c9p:=m6.cons (i5.lst _) m6.nil;have hds:=hac ds a hd;have hmd:sg.md 155=.inpl:=kr;unfold Con;rw[hmd];obtain ⟨zs,u⟩:=a;have hds:WL ds [.lst .ki64 zs]:=hds;have hf:(bif decide (zs.length≤LIM) then some (zs.mergeSort fun x y=>decide (x≤y)) else none)=some r:=hf;intro _ k xs ds0 he xs' hr w I J mb v0 vs hp ho hargs;subst he;have hr:(D.lst Kd.ki64 r:DD)=D.lst k xs':=hr;cases hr
 have hw0:=hds.2 0 _ _ rfl rfl;cases hw0 with
 |leaf _ _ hw0=>
 cases hw0
 have hargs:=WL.args (cs':=[]) ⟨by simpa using hds.1,fun q d d' h1 h2=>by simp at h2⟩ hargs;have:=c9y hargs;subst this;cases hlim:decide (zs.length≤LIM) with
 |false=>rw[hlim]at hf;cases hf
 |true=>
  rw[hlim]at hf;have hl:=yaQ hlim;unfold LIM at hl;have hf:some (zs.mergeSort fun x y=>decide (x≤y))=some r:=hf;cases hf
  have hlen:=List.length_mergeSort (le:=fun x y:Int=>decide (x≤y)) zs;unfold a2y;rw[show (#[v0]++(#[]:Array Value)) = #[v0] from rfl,MuLone.run_callFunc_enter fok.at_ fok.name fok.body _ w];simp only;obtain ⟨base,cap,rfl,hcap,ho⟩:=ho;rcases ho with ⟨rfl,rfl⟩|⟨blk,vals,t,rfl,rfl,hb,hv,hc⟩
  ·have hz:zs=[]:=ybr.1 (by omega);subst hz;have h:=Any.slices_Sort_int_none Tryz.lays189 base 0 w;refine h.mono (fun e w' he=>?_);obtain ⟨rfl,rfl⟩:=he;exact ⟨rfl,hlen,I,c3a hp.ib,base,0,by rw[List.mergeSort_nil],by simp,.inl ⟨rfl,rfl⟩⟩
  ·have hc2:=c5z hb hc;have hv:vals.size=cap*1:=hv;have h:=Any.slices_Sort_int Tryz.lays189 blk 0 cap zs w (c5y hb hc2) (yak.1 hb).1 (by omega);refine h.mono (fun e w' he=>?_);obtain ⟨rfl,n,os,rfl⟩:=he;obtain ⟨g,vals',h1,h2,h3⟩:=e4m (q:=n) (os:=os) (ys:=zs.mergeSort fun x y=>decide (x≤y)) hp hb (by omega);refine ⟨rfl,hlen,I,g,some ⟨blk,0,none⟩,cap,by rw[hlen],by omega,.inr ⟨blk,vals',t,rfl,rfl,h1,by rw[h2];exact hv,?_⟩⟩;intro i hi j d hd;cases j with
   |zero=>
    have hd:some (D.int .i64 (zs.mergeSort fun x y=>decide (x≤y))[i]:DD)=some d:=hd;cases hd
    refine ⟨.int .i64 (zs.mergeSort fun x y=>decide (x≤y))[i],?_,.int _ _⟩;show vals'[i*1+0]?=_
    rw[Nat.mul_one,ybj];exact h3 i hi
   |succ j=>
    have hd:(none:Option DD)=some d:=hd;cases hd
theorem h29:fnB Tryz.prog 156 Tryz.f156 [4,9]=true:=kr
theorem g2o:∀ds a r,d7i.dec ds=some a→f6r a=some r→Con Tryz.prog sg 156 ds [] (f8r.enc r) []:=by
 intro ds a r hd hf;obtain ⟨code,fok,-,-⟩:=a0p Tryz.func156 h29;have hac:m6 d7i:=m6.cons (i5.lst _) m6.nil;have hds:=hac ds a hd;have hmd:sg.md 156=.cons:=kr;unfold Con;rw[hmd];obtain ⟨zs,u⟩:=a;have hds:WL ds [.lst .ki64 zs]:=hds;have hf:(bif decide (zs.length≤LIM) then some (Go.Lib.compact zs) else none)=some r:=hf;intro _ k xs ds0 he k' xs' hr w I J mb v0 vs hp ho hargs;subst he;have hr:(D.lst Kd.ki64 r:DD)=D.lst k' xs':=hr;cases hr
 have hw0:=hds.2 0 _ _ rfl rfl;cases hw0 with
 |leaf _ _ hw0=>
 cases hw0
 have hargs:=WL.args (cs':=[]) ⟨by simpa using hds.1,fun q d d' h1 h2=>by simp at h2⟩ hargs;have:=c9y hargs;subst this;cases hlim:decide (zs.length≤LIM) with
 |false=>rw[hlim]at hf;cases hf
 |true=>
  rw[hlim]at hf;have hl:=yaQ hlim;unfold LIM at hl;have hf:some (Go.Lib.compact zs)=some r:=hf;cases hf
  have hlen:=Go.Lib.compact_length_le zs;unfold a2y;rw[show (#[v0]++(#[]:Array Value)) = #[v0] from rfl,MuLone.run_callFunc_enter fok.at_ fok.name fok.body _ w];simp only;obtain ⟨base,cap,rfl,hcap,ho⟩:=ho;rcases ho with ⟨rfl,rfl⟩|⟨blk,vals,t,rfl,rfl,hb,hv,hc⟩
  ·have hz:zs=[]:=ybr.1 (by omega);subst hz;have h:=Any.slices_Compact_int_empty Tryz.laysNm220 base 0 w;refine h.mono (fun e w' he=>?_);obtain ⟨rfl,rfl⟩:=he;exact ⟨I,c3a hp.ib,base,0,rfl,by simp[Go.Lib.compact,Go.Lib.compactUpTo],.inl rfl⟩
  ·have hc2:=c5z hb hc;have hv:vals.size=cap*1:=hv;have h:=Any.slices_Compact_int Tryz.laysNm220 blk 0 cap zs w (c5y hb hc2) (by omega) hcap;refine h.mono (fun e w' he=>?_);obtain ⟨rfl,n,rfl⟩:=he;have e0:∀W:World,W=grow W #[]:=fun W=>by unfold grow;simp
   rw[e0 (putRow _ _ _ _ _)];obtain ⟨g,vals',h1,h2,h3⟩:=e4m (q:=n) (os:=#[]) (ys:=Go.Lib.compact zs++List.replicate (zs.length-(Go.Lib.compact zs).length) 0) hp hb (by simp;omega);refine ⟨I,g,some ⟨blk,0,none⟩,cap,rfl,by omega,.inr ⟨blk,vals',t,rfl,h1,by rw[h2];exact hv,.inr (by simp),fun o hI=>?_,?_⟩⟩
   ·exact absurd (by simp) (hp.jb blk o (hp.ij blk o hI)).2
   ·intro i hi j d hd;cases j with
    |zero=>
     have hd:some (D.int .i64 (Go.Lib.compact zs)[i]:DD)=some d:=hd;cases hd
     refine ⟨.int .i64 (Go.Lib.compact zs)[i],?_,.int _ _⟩;show vals'[i*1+0]?=_
     rw[Nat.mul_one,ybj];have:=h3 i (by simp;omega);rw[ybN hi]at this;exact this
    |succ j=>
     have hd:(none:Option DD)=some d:=hd;cases hd
end
section
theorem a91:∃i0 z,Tryz.prog.info? 47=some i0∧i0.zero=some z∧z.cells.size=10∧i0.size=10∧i0.bytes≤128:=by
 have h:(match Tryz.prog.info? 47 with|some i=>(match i.zero with|some z=>Nat.beq z.cells.size 10&&Nat.beq i.size 10&&Nat.ble i.bytes 128|none=>false)|none=>false)=true:=kr;split at h
 ·rename_i i hi;split at h
  ·rename_i z hz;simp only[yad]at h;exact ⟨i,z,hi,hz,ybb h.1.1,ybb h.1.2,ya3 h.2⟩
  ·cases h
 ·cases h
set_option maxHeartbeats 4000000 in
set_option maxRecDepth 100000 in
theorem b6t {w:World} {b n c i vb vo vc:Nat} {L vs:List Value} {t:TypeId} (hi:i<n) (hroom:n+1≤c) (hlim:n+1≤1073741824) (hvb:vb≠b)
 (hb:w.heap[b]?=some (.cells L.toArray t (0,0))) (hL:L.length=c*10) (hvl:vs.length=10)
 (hvs:∀j v,vs[j]?=some v→w.cell? ⟨vb,vo+j,none⟩=some v) (h1:∀v∈(L.drop (i*10)).take ((n-i)*10),v.oneCell'=true) (h2:∀v∈vs,v.oneCell'=true) :
 Calls Tryz.prog 113 #[.slice (some ⟨b,0,none⟩) n c,.int .i64 i,.slice (some ⟨vb,vo,none⟩) 1 vc] w fun e w'=>
  e=.returned (.slice (some ⟨b,0,none⟩) (n+1) c)∧w'=(w.drew.setRow b (Go.splice L ((i+1)*10) ((L.drop (i*10)).take ((n-i)*10))).toArray).setRow b (Go.splice (Go.splice L ((i+1)*10) ((L.drop (i*10)).take ((n-i)*10))) (i*10) vs).toArray:=by
 obtain ⟨i0,z0,hi0,hz0,hzs,hsz,hby⟩:=a91;have hz2:¬((i:Int)=(n:Int)):=by omega
 have hva:∃va ta fa,w.heap[vb]?=some (.cells va ta fa)∧0<va.size:=by
  have h:=hvs 0 _ (yac (by omega));unfold World.cell? at h;split at h
  ·rename_i c0 t0 f0 hc0;exact ⟨c0,t0,f0,hc0,by have:=(yak.1 h).1;omega⟩
  ·cases h
 obtain ⟨va,ta,fa,hva,hva0⟩:=hva;have hov:∀lb cb,(callFunc 174 #[.slice (some ⟨vb,vo,none⟩) 1 vc,.slice (some ⟨b,(i+1)*10,none⟩) lb cb]).run Tryz.prog w=.ok (.value (.bool false)) w:=fun lb cb=>by
  rw[run_callFunc_extern Tryz.func174 kr kr kr (e:=Extern.SlicesOverlaps.overlaps #[22,22] #[4]) kr,
   a35 Tryz.underlying22 hi0 (a:=⟨vb,vo,none⟩) (b:=⟨b,(i+1)*10,none⟩) hvb hva hva0 hb (by simp only[ybu];omega)]
  rfl
 have hLn:(n+1)*10≤L.length:=by rw[hL];exact yap _ hroom
 obtain ⟨C1,hC1⟩:∃C1,C1=(L.drop (i*10)).take ((n-i)*10):=⟨_,rfl⟩
 have hC1l:C1.length=(n-i)*10:=by rw[hC1];simp;omega
 obtain ⟨M1,hM1⟩:∃M1,M1=Go.splice L ((i+1)*10) C1:=⟨_,rfl⟩
 have hM1l:M1.length=L.length:=by rw[hM1];exact length_splice _ _ _ (by omega)
 rw[←hC1,←hM1];have hcp1:∀ty dc sc,(Builtin.copy_ #[22,22] ty #[.slice (some ⟨b,(i+1)*10,none⟩) (n-i) dc,.slice (some ⟨b,i*10,none⟩) (n+1-i) sc]).run Tryz.prog w.drew=.ok (goInt ((n-i:Nat):Int)) (w.drew.setRow b M1.toArray):=fun ty dc sc=>by
  have hmin:Nat.min (n+1-i) (n-i)=n-i:=by show min _ _=_;omega
  have:=a0r (P:=Tryz.prog) (w:=w.drew) (sT:=22) (ty:=ty) (dCap:=dc) (sCap:=sc) (dLen:=n-i) (sLen:=n+1-i) (o:=(i+1)*10) (a:=⟨b,i*10,none⟩) Tryz.underlying22 hi0 hsz hb (cs:=C1) (by rw[hmin];exact hC1l)
   (fun j v hj=>by
    rw[Addr.add_lit];show w.cell? _=_
    simp only[World.cell?,hb];rw[hC1,yaA]at hj;split at hj
    ·simpa using hj
    ·cases hj) (by omega) (by rw[hC1];exact h1)
  rw[hmin,←hM1]at this;exact this
 have hcp2:∀(W:World),W=(w.drew.setRow b M1.toArray)→∀ty dc,(Builtin.copy_ #[22,22] ty #[.slice (some ⟨b,i*10,none⟩) (n+1-i) dc,.slice (some ⟨vb,vo,none⟩) 1 vc]).run Tryz.prog W=.ok (goInt 1) (W.setRow b (Go.splice M1 (i*10) vs).toArray):=fun W hW ty dc=>by
  have hmin:Nat.min 1 (n+1-i)=1:=by show min _ _=_;omega
  have:=a0r (P:=Tryz.prog) (w:=W) (sT:=22) (ty:=ty) (dCap:=dc) (sCap:=vc) (dLen:=n+1-i) (sLen:=1) (o:=i*10) (a:=⟨vb,vo,none⟩) Tryz.underlying22 hi0 hsz (g:=b) (t:=t) (L:=M1) (by rw[hW];exact setRow_heap _ _ _ _ _ _ hb) (cs:=vs) (by rw[hmin];omega)
   (fun j v hj=>by
    rw[Addr.add_lit,hW,cell_setRow_other _ _ _ _ hvb];exact hvs j v hj) (by omega) h2
  rw[hmin]at this;exact this
 have hw1:IntKind.i64.wrap ((i:Int)+1)=(i:Int)+1:=by rw[IntKind.wrap_i64];omega
 have hb1:(0:Int)≤(i:Int)+1:=by omega
 have hin:i≤n:=by omega
 have htn:((i:Int)+1).toNat=i+1:=by omega
 have hb2:¬(c=i+1):=by omega
 have hb3:(i:Int)≤(n:Int)+1:=by omega
 have hb4:¬(c=i):=by omega
 have mixed:Tryz.prog.follows .mixedOrders=true:=kr;clear hC1 hM1 hC1l hM1l h1 h2 hvs hL
 go_enter Tryz.func113,Tryz.ntmps113
 go_wp2_with (simp only[hov])
 go_region_law_o (refine a3n rfl _ _ 22 22 rfl _ _ (by simp[Act.eval,Act.put]) (by simp[Act.eval,Act.put]) (hcp1 _ _ _) ?_)
 go_wp2_with (at_builtin;refine b6e rfl _ _ 22 22 rfl _ _ rfl rfl (hcp2 _ rfl _ _) ?_)
 go_ret
 exact ⟨rfl,rfl⟩
theorem b67 {i0:TypeInfo} {k c:Nat} (h:c<k) (hk:k≤1073741824) (hby:i0.bytes≤128):Builtin.nextslicecap k c*i0.bytes≤281474976710656:=
 growslice_fits h (ybl (yb1 hk hby) (by decide))
set_option maxHeartbeats 4000000 in
set_option maxRecDepth 100000 in
theorem c0m {w:World} {b n c vb vo vc:Nat} {L vs:List Value} {t:TypeId} (hroom:n+1≤c) (hlim:n+1≤1073741824)
 (hb:w.heap[b]?=some (.cells L.toArray t (0,0))) (hL:L.length=c*10) (hvl:vs.length=10)
 (hvs:∀j v,vs[j]?=some v→w.cell? ⟨vb,vo+j,none⟩=some v) (h2:∀v∈vs,v.oneCell'=true) :
 Calls Tryz.prog 113 #[.slice (some ⟨b,0,none⟩) n c,.int .i64 n,.slice (some ⟨vb,vo,none⟩) 1 vc] w fun e w'=>
  e=.returned (.slice (some ⟨b,0,none⟩) (n+1) c)∧w'=w.setRow b (Go.splice L (n*10) vs).toArray:=by
 obtain ⟨i0,z0,hi0,hz0,hzs,hsz,hby⟩:=a91;have hLn:(n+1)*10≤L.length:=by rw[hL];exact yap _ hroom
 have hf:=run_firstCells_some (P:=Tryz.prog) w i0.size 1 ⟨vb,vo,none⟩ 1 vc vs (by omega) (fun j v hj=>by rw[Addr.add_lit];exact hvs j v hj);have hap:∀ty,(Builtin.append_ #[22,22] ty #[.slice (some ⟨b,0,none⟩) n c,.slice (some ⟨vb,vo,none⟩) 1 vc]).run Tryz.prog w=.ok (.slice (some ⟨b,0,none⟩) (n+1) c) (w.setRow b (Go.splice L (n*10) vs).toArray):=fun ty=>by
  have:=a1s (P:=Tryz.prog) (w:=w) (ty:=ty) (ts:=#[22,22]) rfl rfl Tryz.underlying22 Tryz.underlying22 hi0 hf hroom hb (by simp only[ybu];rw[hsz];omega) h2;rw[hsz]at this;simpa[Go.splice]using this
 go_enter Tryz.func113,Tryz.ntmps113
 go_wp2_with (at_builtin;refine a0s rfl _ _ _ _ rfl _ _ rfl rfl (hap _) ?_)
 all_goals (go_ret;exact ⟨rfl,rfl⟩)
set_option maxHeartbeats 4000000 in
set_option maxRecDepth 100000 in
theorem c3f {w:World} {base:Option Addr} {n c vb vo vc:Nat} {olds vs:List Value} (hnc:n≤c) (hroom:c<n+1) (hlim:n+1≤1073741824) (hvl:vs.length=10)
 (hnil:base=none→n=0) (hol:olds.length=n*10) (hos:∀a,base=some a→∀j v,olds[j]?=some v→w.cell? (a.add j)=some v)
 (hvs:∀j v,vs[j]?=some v→w.cell? ⟨vb,vo+j,none⟩=some v) :
 Calls Tryz.prog 113 #[.slice base n c,.int .i64 n,.slice (some ⟨vb,vo,none⟩) 1 vc] w fun e w'=>
  ∃cap zs,e=.returned (.slice (some ⟨w.heap.size,0,none⟩) (n+1) cap)∧w'=w.drew.alloc (.cells (olds++(vs++zs)).toArray 47)∧n+1≤cap∧zs.length=(cap-(n+1))*10:=by
 obtain ⟨i0,z0,hi0,hz0,hzs,hsz,hby⟩:=a91;have hf:=run_firstCells_some (P:=Tryz.prog) w.drew i0.size 1 ⟨vb,vo,none⟩ 1 vc vs (by omega) (fun j v hj=>by rw[Addr.add_lit];exact hvs j v hj);have hold:(Builtin.firstCells i0.size n (.slice base n c)).run Tryz.prog w.drew=.ok olds.toArray w.drew:=by
  cases base with
  |none=>
   have h0:=hnil rfl;subst h0;rw[ybr.1 (by omega:olds.length=0)];exact run_firstCells_none w.drew _ 0 0 c
  |some a=>exact run_firstCells_some w.drew _ n a n c olds (by rw[hsz];omega) (fun j v hj=>hos a rfl j v hj)
 have hap:∀ty,(Builtin.append_ #[22,22] ty #[.slice base n c,.slice (some ⟨vb,vo,none⟩) 1 vc]).run Tryz.prog w=_:=fun ty=>
  a2i (P:=Tryz.prog) (w:=w) (ty:=ty) (ts:=#[22,22]) rfl rfl Tryz.underlying22 Tryz.underlying22 hi0 hz0 hf hold hroom (by omega) (b67 hroom hlim hby)
 have hge:=a15 w (n+1) c 47;obtain ⟨G,hG⟩:∃G,G=grownCap w (n+1) c 47:=⟨_,rfl⟩
 obtain ⟨zs,hzs'⟩:∃zs,zs=(Builtin.zeroCells z0.cells (G-(n+1))).toList:=⟨_,rfl⟩
 rw[←hG]at hap hge;rw[←hzs']at hap;have hzl:zs.length=(G-(n+1))*10:=by rw[hzs',yaY,size_zeroCells,hzs]
 clear hG hzs'
 go_enter Tryz.func113,Tryz.ntmps113
 cases base with
 |none=>
  have h0:=hnil rfl;subst h0
  go_wp2_with (at_builtin;refine a0s rfl _ _ _ _ rfl _ _ rfl rfl (hap _) ?_)
  all_goals (go_ret;first|exact ⟨_,_,rfl,rfl,hge,hzl⟩|exact ⟨_,rfl,_,rfl,hge,hzl⟩)
 |some a=>
  obtain ⟨ab,ao,asp⟩:=a
  go_wp2_with (at_builtin;refine a0s rfl _ _ _ _ rfl _ _ rfl rfl (hap _) ?_)
  all_goals (go_ret;first|exact ⟨_,_,rfl,rfl,hge,hzl⟩|exact ⟨_,rfl,_,rfl,hge,hzl⟩)
set_option maxHeartbeats 4000000 in
set_option maxRecDepth 100000 in
theorem c0l {w:World} {b n c i vb vo vc:Nat} {L vs:List Value} {t:TypeId} (hi:i<n) (hnc:n≤c) (hroom:c<n+1) (hlim:n+1≤1073741824) (hvb:vb≠b)
 (hb:w.heap[b]?=some (.cells L.toArray t (0,0))) (hL:L.length=c*10) (hvl:vs.length=10)
 (hvs:∀j v,vs[j]?=some v→w.cell? ⟨vb,vo+j,none⟩=some v) (h1:∀v∈(L.drop (i*10)).take ((n-i)*10),v.oneCell'=true) (h2:∀v∈vs,v.oneCell'=true) :
 Calls Tryz.prog 113 #[.slice (some ⟨b,0,none⟩) n c,.int .i64 i,.slice (some ⟨vb,vo,none⟩) 1 vc] w fun e w'=>
  ∃cap row,e=.returned (.slice (some ⟨w.heap.size,0,none⟩) (n+1) cap)∧n+1≤cap∧row.length=cap*10∧row.take (i*10)=L.take (i*10)∧
   w'.heap=(w.heap.push (.cells (Go.splice (Go.splice row (i*10) vs) ((i+1)*10) ((L.drop (i*10)).take ((n-i)*10))).toArray 47))∧w'.os=w.os∧w'.output=w.output∧w'.tape=w.tape:=by
 obtain ⟨i0,z0,hi0,hz0,hzs,hsz,hby⟩:=a91;have hz2:¬((i:Int)=(n:Int)):=by omega
 have hz3:(c:Int)<(n:Int)+1:=by omega
 have hLn:n*10≤L.length:=by rw[hL];exact yap _ hnc
 have hbw:b<w.heap.size:=(yak.1 hb).1;have hvw:vb<w.heap.size:=by
  have h:=hvs 0 _ (yac (by omega));unfold World.cell? at h;split at h
  ·rename_i c0 t0 f0 hc0;exact (yak.1 hc0).1
  ·cases h
 have hkk:(n:Int)+1-(i:Int)=((n+1-i:Nat):Int):=by omega
 have hik:i+(n+1-i)=n+1:=by omega
 have hTl:(L.take (i*10)).length=i*10:=by simp;omega
 have hold:(Builtin.firstCells i0.size i (.slice (some ⟨b,0,none⟩) i c)).run Tryz.prog w.drew=.ok (L.take (i*10)).toArray w.drew:=by
  refine run_firstCells_some w.drew _ i ⟨b,0,none⟩ i c (L.take (i*10)) (by rw[hsz];exact hTl) (fun j v hj=>?_);rw[Addr.add_lit,yaE];show w.cell? _=_
  simp only[World.cell?,hb];rw[yaA]at hj;split at hj
  ·simpa using hj
  ·cases hj
 have hrz:∀ty,(Builtin.append_ #[22,3] ty #[.slice (some ⟨b,0,none⟩) i c,.int .i64 ((n:Int)+1-(i:Int))]).run Tryz.prog w =
  .ok (.slice (some ⟨w.heap.size,0,none⟩) (n+1) (grownCap w (n+1) c 47)) (w.drew.alloc (.cells ((L.take (i*10)).toArray++Builtin.zeroCells z0.cells (n+1-i)++Builtin.zeroCells z0.cells (grownCap w (n+1) c 47-(n+1))) 47)):=fun ty=>by
  have h:=Lib.run_append_grow_zeros w 22 3 ty 47 i0 _ .i64 .i64 Tryz.underlying22 Tryz.underlying3 hi0 hz0 (some ⟨b,0,none⟩) i c _ hold (n+1-i) (by omega) (by omega) (by omega) (by omega)
   (ybl (yb1 (show n+1-i≤1073741824 by omega) hby) (by decide)) (by rw[hik];exact b67 hroom hlim hby)
  rw[hik]at h;rw[hkk];exact h
 have hge:=a15 w (n+1) c 47;obtain ⟨G,hG⟩:∃G,G=grownCap w (n+1) c 47:=⟨_,rfl⟩
 rw[←hG]at hrz hge;have hG63:G≤9223372036854775807:=by
  have:=grownCap_le_maxLen w (n+1) c 47 (by unfold maxLen;omega);rw[←hG]at this;unfold maxLen at this;omega
 obtain ⟨R,hR⟩:∃R:List Value,R=L.take (i*10)++((Builtin.zeroCells z0.cells (n+1-i)).toList++(Builtin.zeroCells z0.cells (G-(n+1))).toList):=⟨_,rfl⟩
 have hRl:R.length=G*10:=by
  rw[hR];simp only[yaX,yaY,size_zeroCells,hzs,hTl];rw[←ya0,←ya0];congr 1;omega
 have hRt:R.take (i*10)=L.take (i*10):=by rw[hR,List.take_append_of_le_length (by omega),yb3 (by omega)]
 have hRe:(L.take (i*10)).toArray++Builtin.zeroCells z0.cells (n+1-i)++Builtin.zeroCells z0.cells (G-(n+1))=R.toArray:=by
  rw[hR];apply Array.ext';simp
 rw[hRe]at hrz;obtain ⟨C1,hC1⟩:∃C1,C1=(L.drop (i*10)).take ((n-i)*10):=⟨_,rfl⟩
 have hC1l:C1.length=(n-i)*10:=by rw[hC1];simp;omega
 have hGn:(n+1)*10≤R.length:=by rw[hRl];exact yap _ hge
 obtain ⟨M1,hM1⟩:∃M1,M1=Go.splice R (i*10) vs:=⟨_,rfl⟩
 have hM1l:M1.length=R.length:=by rw[hM1];exact length_splice _ _ _ (by omega)
 rw[←hC1];obtain ⟨gb,hgb⟩:∃gb,gb=w.heap.size:=⟨_,rfl⟩
 have hnew:∀W:World,W.heap=w.heap.push (.cells R.toArray 47)→W.heap[gb]?=some (.cells R.toArray 47 (0,0)):=fun W hW=>by rw[hW,hgb];simp
 have hpast:∀W:World,W.heap=w.heap.push (.cells R.toArray 47)→∀k,k<w.heap.size→W.heap[k]?=w.heap[k]?:=fun W hW k hk=>by rw[hW,ybH hk];simp[hk]
 have hcpA:∀(W:World),W.heap=w.heap.push (.cells R.toArray 47)→∀ty dc,(Builtin.copy_ #[22,22] ty #[.slice (some ⟨gb,i*10,none⟩) (n+1-i) dc,.slice (some ⟨vb,vo,none⟩) 1 vc]).run Tryz.prog W=.ok (goInt 1) (W.setRow gb M1.toArray):=fun W hW ty dc=>by
  have hmin:Nat.min 1 (n+1-i)=1:=by show min _ _=_;omega
  have:=a0r (P:=Tryz.prog) (w:=W) (sT:=22) (ty:=ty) (dCap:=dc) (sCap:=vc) (dLen:=n+1-i) (sLen:=1) (o:=i*10) (a:=⟨vb,vo,none⟩) Tryz.underlying22 hi0 hsz (g:=gb) (t:=47) (L:=R) (hnew W hW) (cs:=vs) (by rw[hmin];omega)
   (fun j v hj=>by
    rw[Addr.add_lit];unfold World.cell?;rw[show W.heap[(⟨vb,vo+j,none⟩:Addr).block]?=w.heap[vb]? from hpast W hW vb hvw];exact hvs j v hj) (by omega) h2
  rw[hmin,←hM1]at this;exact this
 have hcpB:∀(W W0:World),W0.heap=w.heap.push (.cells R.toArray 47)→W.heap=(W0.setRow gb M1.toArray).heap→∀ty dc sc,(Builtin.copy_ #[22,22] ty #[.slice (some ⟨gb,(i+1)*10,none⟩) (n-i) dc,.slice (some ⟨b,i*10,none⟩) (n-i) sc]).run Tryz.prog W=.ok (goInt ((n-i:Nat):Int)) (W.setRow gb (Go.splice M1 ((i+1)*10) C1).toArray):=fun W W0 hW0 hW ty dc sc=>by
  have hmin:Nat.min (n-i) (n-i)=n-i:=by show min _ _=_;omega
  have:=a0r (P:=Tryz.prog) (w:=W) (sT:=22) (ty:=ty) (dCap:=dc) (sCap:=sc) (dLen:=n-i) (sLen:=n-i) (o:=(i+1)*10) (a:=⟨b,i*10,none⟩) Tryz.underlying22 hi0 hsz (g:=gb) (t:=47) (L:=M1) (by rw[hW];exact setRow_heap _ _ _ _ _ _ (hnew W0 hW0)) (cs:=C1) (by rw[hmin];exact hC1l)
   (fun j v hj=>by
    rw[Addr.add_lit];unfold World.cell?;have e:W.heap[(⟨b,i*10+j,none⟩:Addr).block]?=w.heap[b]?:=by
     show W.heap[b]?=_
     rw[hW,setRow_other _ _ _ _ (by omega),hpast W0 hW0 b hbw]
    rw[e,hb];rw[hC1,yaA]at hj;split at hj
    ·simpa using hj
    ·cases hj) (by omega) (by rw[hC1];exact h1)
  rw[hmin]at this;exact this
 have hw1:IntKind.i64.wrap ((i:Int)+1)=(i:Int)+1:=by rw[IntKind.wrap_i64];omega
 have hb1:(0:Int)≤(i:Int)+1:=by omega
 have hin:i≤n:=by omega
 have htn:((i:Int)+1).toNat=i+1:=by omega
 have hb3:(i:Int)≤(n:Int):=by omega
 have hGi:¬(G=i):=by omega
 have hGim:¬(G=i+1):=by omega
 have hci:¬(c=i):=by omega
 have hmixed:Tryz.prog.follows .mixedOrders=true:=kr;have mixed:=hmixed;have hfin:∀W W0:World,W0.heap=w.heap.push (.cells R.toArray 47)→W.heap=(W0.setRow gb M1.toArray).heap→(W.setRow gb (Go.splice M1 ((i+1)*10) C1).toArray).heap=w.heap.push (.cells (Go.splice M1 ((i+1)*10) C1).toArray 47):=fun W W0 hW0 hW=>by
  have h1:W.heap[gb]?=some (.cells M1.toArray 47 (0,0)):=by rw[hW];exact setRow_heap _ _ _ _ _ _ (hnew W0 hW0)
  have hsz0:W.heap.size=w.heap.size+1:=by rw[hW,setRow_size,hW0];simp
  apply Array.ext_getElem?;intro k;by_cases hk:k=gb
  ·subst hk;rw[setRow_heap _ _ _ _ _ _ h1,hgb];simp
  ·rw[setRow_other _ _ _ _ hk];by_cases hk2:k<w.heap.size
   ·rw[hW,setRow_other _ _ _ _ hk,hpast W0 hW0 k hk2,ybH hk2];simp[hk2]
   ·rw[ybo (by omega),ybo (by simp;omega)]
 have hMM:Go.splice (Go.splice R (i*10) vs) ((i+1)*10) C1=Go.splice M1 ((i+1)*10) C1:=by rw[hM1]
 subst hgb;have hcpA':=hcpA ((w.alloc (.cells R.toArray 47)).drew) rfl;clear hkk hcpA hik hold hG hR hRe hC1 hM1 hC1l hM1l h1 h2 hvs hL hTl
 go_enter Tryz.func113,Tryz.ntmps113
 go_wp2_with (at_builtin;refine a0s rfl _ _ _ _ rfl _ _ rfl rfl (hrz _) ?_)
 go_region_law_o (refine a3n rfl _ _ 22 22 rfl (.slice (some ⟨w.heap.size,(i+1)*10,none⟩) (n-i) (G-(i+1))) (.slice (some ⟨b,i*10,none⟩) (n-i) (c-i)) (by simp[Act.eval,Act.put]) (by simp[Act.eval,Act.put]) (hcpB (((w.alloc (.cells R.toArray 47)).drew.setRow w.heap.size M1.toArray).drew) (w.drew.alloc (.cells R.toArray 47)) rfl rfl 3 (G-(i+1)) (c-i)) ?_)
 go_wp2
 go_ret
 refine ⟨G,R,rfl,hge,hRl,hRt,?_,rfl,rfl,rfl⟩;rw[hMM];exact hfin _ (w.drew.alloc (.cells R.toArray 47)) rfl rfl
end
section
theorem a6y:∃i0 z,Tryz.prog.info? 64=some i0∧i0.zero=some z∧z.cells.size=6∧i0.size=6∧i0.bytes≤128:=by
 have h:(match Tryz.prog.info? 64 with|some i=>(match i.zero with|some z=>Nat.beq z.cells.size 6&&Nat.beq i.size 6&&Nat.ble i.bytes 128|none=>false)|none=>false)=true:=kr;split at h
 ·rename_i i hi;split at h
  ·rename_i z hz;simp only[yad]at h;exact ⟨i,z,hi,hz,ybb h.1.1,ybb h.1.2,ya3 h.2⟩
  ·cases h
 ·cases h
set_option maxHeartbeats 4000000 in
set_option maxRecDepth 100000 in
theorem b10 {w:World} {b n c i vb vo vc:Nat} {L vs:List Value} {t:TypeId} (hi:i<n) (hroom:n+1≤c) (hlim:n+1≤1073741824) (hvb:vb≠b)
 (hb:w.heap[b]?=some (.cells L.toArray t (0,0))) (hL:L.length=c*6) (hvl:vs.length=6)
 (hvs:∀j v,vs[j]?=some v→w.cell? ⟨vb,vo+j,none⟩=some v) (h1:∀v∈(L.drop (i*6)).take ((n-i)*6),v.oneCell'=true) (h2:∀v∈vs,v.oneCell'=true) :
 Calls Tryz.prog 179 #[.slice (some ⟨b,0,none⟩) n c,.int .i64 i,.slice (some ⟨vb,vo,none⟩) 1 vc] w fun e w'=>
  e=.returned (.slice (some ⟨b,0,none⟩) (n+1) c)∧w'=(w.drew.setRow b (Go.splice L ((i+1)*6) ((L.drop (i*6)).take ((n-i)*6))).toArray).setRow b (Go.splice (Go.splice L ((i+1)*6) ((L.drop (i*6)).take ((n-i)*6))) (i*6) vs).toArray:=by
 obtain ⟨i0,z0,hi0,hz0,hzs,hsz,hby⟩:=a6y;have hz2:¬((i:Int)=(n:Int)):=by omega
 have hva:∃va ta fa,w.heap[vb]?=some (.cells va ta fa)∧0<va.size:=by
  have h:=hvs 0 _ (yac (by omega));unfold World.cell? at h;split at h
  ·rename_i c0 t0 f0 hc0;exact ⟨c0,t0,f0,hc0,by have:=(yak.1 h).1;omega⟩
  ·cases h
 obtain ⟨va,ta,fa,hva,hva0⟩:=hva;have hov:∀lb cb,(callFunc 221 #[.slice (some ⟨vb,vo,none⟩) 1 vc,.slice (some ⟨b,(i+1)*6,none⟩) lb cb]).run Tryz.prog w=.ok (.value (.bool false)) w:=fun lb cb=>by
  rw[run_callFunc_extern Tryz.func221 kr kr kr (e:=Extern.SlicesOverlaps.overlaps #[23,23] #[4]) kr,
   a35 Tryz.underlying23 hi0 (a:=⟨vb,vo,none⟩) (b:=⟨b,(i+1)*6,none⟩) hvb hva hva0 hb (by simp only[ybu];omega)]
  rfl
 have hLn:(n+1)*6≤L.length:=by rw[hL];exact yap _ hroom
 obtain ⟨C1,hC1⟩:∃C1,C1=(L.drop (i*6)).take ((n-i)*6):=⟨_,rfl⟩
 have hC1l:C1.length=(n-i)*6:=by rw[hC1];simp;omega
 obtain ⟨M1,hM1⟩:∃M1,M1=Go.splice L ((i+1)*6) C1:=⟨_,rfl⟩
 have hM1l:M1.length=L.length:=by rw[hM1];exact length_splice _ _ _ (by omega)
 rw[←hC1,←hM1];have hcp1:∀ty dc sc,(Builtin.copy_ #[23,23] ty #[.slice (some ⟨b,(i+1)*6,none⟩) (n-i) dc,.slice (some ⟨b,i*6,none⟩) (n+1-i) sc]).run Tryz.prog w.drew=.ok (goInt ((n-i:Nat):Int)) (w.drew.setRow b M1.toArray):=fun ty dc sc=>by
  have hmin:Nat.min (n+1-i) (n-i)=n-i:=by show min _ _=_;omega
  have:=a0r (P:=Tryz.prog) (w:=w.drew) (sT:=23) (ty:=ty) (dCap:=dc) (sCap:=sc) (dLen:=n-i) (sLen:=n+1-i) (o:=(i+1)*6) (a:=⟨b,i*6,none⟩) Tryz.underlying23 hi0 hsz hb (cs:=C1) (by rw[hmin];exact hC1l)
   (fun j v hj=>by
    rw[Addr.add_lit];show w.cell? _=_
    simp only[World.cell?,hb];rw[hC1,yaA]at hj;split at hj
    ·simpa using hj
    ·cases hj) (by omega) (by rw[hC1];exact h1)
  rw[hmin,←hM1]at this;exact this
 have hcp2:∀(W:World),W=(w.drew.setRow b M1.toArray)→∀ty dc,(Builtin.copy_ #[23,23] ty #[.slice (some ⟨b,i*6,none⟩) (n+1-i) dc,.slice (some ⟨vb,vo,none⟩) 1 vc]).run Tryz.prog W=.ok (goInt 1) (W.setRow b (Go.splice M1 (i*6) vs).toArray):=fun W hW ty dc=>by
  have hmin:Nat.min 1 (n+1-i)=1:=by show min _ _=_;omega
  have:=a0r (P:=Tryz.prog) (w:=W) (sT:=23) (ty:=ty) (dCap:=dc) (sCap:=vc) (dLen:=n+1-i) (sLen:=1) (o:=i*6) (a:=⟨vb,vo,none⟩) Tryz.underlying23 hi0 hsz (g:=b) (t:=t) (L:=M1) (by rw[hW];exact setRow_heap _ _ _ _ _ _ hb) (cs:=vs) (by rw[hmin];omega)
   (fun j v hj=>by
    rw[Addr.add_lit,hW,cell_setRow_other _ _ _ _ hvb];exact hvs j v hj) (by omega) h2
  rw[hmin]at this;exact this
 have hw1:IntKind.i64.wrap ((i:Int)+1)=(i:Int)+1:=by rw[IntKind.wrap_i64];omega
 have hb1:(0:Int)≤(i:Int)+1:=by omega
 have hin:i≤n:=by omega
 have htn:((i:Int)+1).toNat=i+1:=by omega
 have hb2:¬(c=i+1):=by omega
 have hb3:(i:Int)≤(n:Int)+1:=by omega
 have hb4:¬(c=i):=by omega
 have mixed:Tryz.prog.follows .mixedOrders=true:=kr;clear hC1 hM1 hC1l hM1l h1 h2 hvs hL
 go_enter Tryz.func179,Tryz.ntmps179
 go_wp2_with (simp only[hov])
 go_region_law_o (refine a3n rfl _ _ 23 23 rfl _ _ (by simp[Act.eval,Act.put]) (by simp[Act.eval,Act.put]) (hcp1 _ _ _) ?_)
 go_wp2_with (at_builtin;refine b6e rfl _ _ 23 23 rfl _ _ rfl rfl (hcp2 _ rfl _ _) ?_)
 go_ret
 exact ⟨rfl,rfl⟩
theorem b08 {i0:TypeInfo} {k c:Nat} (h:c<k) (hk:k≤1073741824) (hby:i0.bytes≤128):Builtin.nextslicecap k c*i0.bytes≤281474976710656:=
 growslice_fits h (ybl (yb1 hk hby) (by decide))
set_option maxHeartbeats 4000000 in
set_option maxRecDepth 100000 in
theorem b30 {w:World} {b n c vb vo vc:Nat} {L vs:List Value} {t:TypeId} (hroom:n+1≤c) (hlim:n+1≤1073741824)
 (hb:w.heap[b]?=some (.cells L.toArray t (0,0))) (hL:L.length=c*6) (hvl:vs.length=6)
 (hvs:∀j v,vs[j]?=some v→w.cell? ⟨vb,vo+j,none⟩=some v) (h2:∀v∈vs,v.oneCell'=true) :
 Calls Tryz.prog 179 #[.slice (some ⟨b,0,none⟩) n c,.int .i64 n,.slice (some ⟨vb,vo,none⟩) 1 vc] w fun e w'=>
  e=.returned (.slice (some ⟨b,0,none⟩) (n+1) c)∧w'=w.setRow b (Go.splice L (n*6) vs).toArray:=by
 obtain ⟨i0,z0,hi0,hz0,hzs,hsz,hby⟩:=a6y;have hLn:(n+1)*6≤L.length:=by rw[hL];exact yap _ hroom
 have hf:=run_firstCells_some (P:=Tryz.prog) w i0.size 1 ⟨vb,vo,none⟩ 1 vc vs (by omega) (fun j v hj=>by rw[Addr.add_lit];exact hvs j v hj);have hap:∀ty,(Builtin.append_ #[23,23] ty #[.slice (some ⟨b,0,none⟩) n c,.slice (some ⟨vb,vo,none⟩) 1 vc]).run Tryz.prog w=.ok (.slice (some ⟨b,0,none⟩) (n+1) c) (w.setRow b (Go.splice L (n*6) vs).toArray):=fun ty=>by
  have:=a1s (P:=Tryz.prog) (w:=w) (ty:=ty) (ts:=#[23,23]) rfl rfl Tryz.underlying23 Tryz.underlying23 hi0 hf hroom hb (by simp only[ybu];rw[hsz];omega) h2;rw[hsz]at this;simpa[Go.splice]using this
 go_enter Tryz.func179,Tryz.ntmps179
 go_wp2_with (at_builtin;refine a0s rfl _ _ _ _ rfl _ _ rfl rfl (hap _) ?_)
 all_goals (go_ret;exact ⟨rfl,rfl⟩)
set_option maxHeartbeats 4000000 in
set_option maxRecDepth 100000 in
theorem b6v {w:World} {base:Option Addr} {n c vb vo vc:Nat} {olds vs:List Value} (hnc:n≤c) (hroom:c<n+1) (hlim:n+1≤1073741824) (hvl:vs.length=6)
 (hnil:base=none→n=0) (hol:olds.length=n*6) (hos:∀a,base=some a→∀j v,olds[j]?=some v→w.cell? (a.add j)=some v)
 (hvs:∀j v,vs[j]?=some v→w.cell? ⟨vb,vo+j,none⟩=some v) :
 Calls Tryz.prog 179 #[.slice base n c,.int .i64 n,.slice (some ⟨vb,vo,none⟩) 1 vc] w fun e w'=>
  ∃cap zs,e=.returned (.slice (some ⟨w.heap.size,0,none⟩) (n+1) cap)∧w'=w.drew.alloc (.cells (olds++(vs++zs)).toArray 64)∧n+1≤cap∧zs.length=(cap-(n+1))*6:=by
 obtain ⟨i0,z0,hi0,hz0,hzs,hsz,hby⟩:=a6y;have hf:=run_firstCells_some (P:=Tryz.prog) w.drew i0.size 1 ⟨vb,vo,none⟩ 1 vc vs (by omega) (fun j v hj=>by rw[Addr.add_lit];exact hvs j v hj);have hold:(Builtin.firstCells i0.size n (.slice base n c)).run Tryz.prog w.drew=.ok olds.toArray w.drew:=by
  cases base with
  |none=>
   have h0:=hnil rfl;subst h0;rw[ybr.1 (by omega:olds.length=0)];exact run_firstCells_none w.drew _ 0 0 c
  |some a=>exact run_firstCells_some w.drew _ n a n c olds (by rw[hsz];omega) (fun j v hj=>hos a rfl j v hj)
 have hap:∀ty,(Builtin.append_ #[23,23] ty #[.slice base n c,.slice (some ⟨vb,vo,none⟩) 1 vc]).run Tryz.prog w=_:=fun ty=>
  a2i (P:=Tryz.prog) (w:=w) (ty:=ty) (ts:=#[23,23]) rfl rfl Tryz.underlying23 Tryz.underlying23 hi0 hz0 hf hold hroom (by omega) (b08 hroom hlim hby)
 have hge:=a15 w (n+1) c 64;obtain ⟨G,hG⟩:∃G,G=grownCap w (n+1) c 64:=⟨_,rfl⟩
 obtain ⟨zs,hzs'⟩:∃zs,zs=(Builtin.zeroCells z0.cells (G-(n+1))).toList:=⟨_,rfl⟩
 rw[←hG]at hap hge;rw[←hzs']at hap;have hzl:zs.length=(G-(n+1))*6:=by rw[hzs',yaY,size_zeroCells,hzs]
 clear hG hzs'
 go_enter Tryz.func179,Tryz.ntmps179
 cases base with
 |none=>
  have h0:=hnil rfl;subst h0
  go_wp2_with (at_builtin;refine a0s rfl _ _ _ _ rfl _ _ rfl rfl (hap _) ?_)
  all_goals (go_ret;first|exact ⟨_,_,rfl,rfl,hge,hzl⟩|exact ⟨_,rfl,_,rfl,hge,hzl⟩)
 |some a=>
  obtain ⟨ab,ao,asp⟩:=a
  go_wp2_with (at_builtin;refine a0s rfl _ _ _ _ rfl _ _ rfl rfl (hap _) ?_)
  all_goals (go_ret;first|exact ⟨_,_,rfl,rfl,hge,hzl⟩|exact ⟨_,rfl,_,rfl,hge,hzl⟩)
set_option maxHeartbeats 4000000 in
set_option maxRecDepth 100000 in
theorem b3z {w:World} {b n c i vb vo vc:Nat} {L vs:List Value} {t:TypeId} (hi:i<n) (hnc:n≤c) (hroom:c<n+1) (hlim:n+1≤1073741824) (hvb:vb≠b)
 (hb:w.heap[b]?=some (.cells L.toArray t (0,0))) (hL:L.length=c*6) (hvl:vs.length=6)
 (hvs:∀j v,vs[j]?=some v→w.cell? ⟨vb,vo+j,none⟩=some v) (h1:∀v∈(L.drop (i*6)).take ((n-i)*6),v.oneCell'=true) (h2:∀v∈vs,v.oneCell'=true) :
 Calls Tryz.prog 179 #[.slice (some ⟨b,0,none⟩) n c,.int .i64 i,.slice (some ⟨vb,vo,none⟩) 1 vc] w fun e w'=>
  ∃cap row,e=.returned (.slice (some ⟨w.heap.size,0,none⟩) (n+1) cap)∧n+1≤cap∧row.length=cap*6∧row.take (i*6)=L.take (i*6)∧
   w'.heap=(w.heap.push (.cells (Go.splice (Go.splice row (i*6) vs) ((i+1)*6) ((L.drop (i*6)).take ((n-i)*6))).toArray 64))∧w'.os=w.os∧w'.output=w.output∧w'.tape=w.tape:=by
 obtain ⟨i0,z0,hi0,hz0,hzs,hsz,hby⟩:=a6y;have hz2:¬((i:Int)=(n:Int)):=by omega
 have hz3:(c:Int)<(n:Int)+1:=by omega
 have hLn:n*6≤L.length:=by rw[hL];exact yap _ hnc
 have hbw:b<w.heap.size:=(yak.1 hb).1;have hvw:vb<w.heap.size:=by
  have h:=hvs 0 _ (yac (by omega));unfold World.cell? at h;split at h
  ·rename_i c0 t0 f0 hc0;exact (yak.1 hc0).1
  ·cases h
 have hkk:(n:Int)+1-(i:Int)=((n+1-i:Nat):Int):=by omega
 have hik:i+(n+1-i)=n+1:=by omega
 have hTl:(L.take (i*6)).length=i*6:=by simp;omega
 have hold:(Builtin.firstCells i0.size i (.slice (some ⟨b,0,none⟩) i c)).run Tryz.prog w.drew=.ok (L.take (i*6)).toArray w.drew:=by
  refine run_firstCells_some w.drew _ i ⟨b,0,none⟩ i c (L.take (i*6)) (by rw[hsz];exact hTl) (fun j v hj=>?_);rw[Addr.add_lit,yaE];show w.cell? _=_
  simp only[World.cell?,hb];rw[yaA]at hj;split at hj
  ·simpa using hj
  ·cases hj
 have hrz:∀ty,(Builtin.append_ #[23,3] ty #[.slice (some ⟨b,0,none⟩) i c,.int .i64 ((n:Int)+1-(i:Int))]).run Tryz.prog w =
  .ok (.slice (some ⟨w.heap.size,0,none⟩) (n+1) (grownCap w (n+1) c 64)) (w.drew.alloc (.cells ((L.take (i*6)).toArray++Builtin.zeroCells z0.cells (n+1-i)++Builtin.zeroCells z0.cells (grownCap w (n+1) c 64-(n+1))) 64)):=fun ty=>by
  have h:=Lib.run_append_grow_zeros w 23 3 ty 64 i0 _ .i64 .i64 Tryz.underlying23 Tryz.underlying3 hi0 hz0 (some ⟨b,0,none⟩) i c _ hold (n+1-i) (by omega) (by omega) (by omega) (by omega)
   (ybl (yb1 (show n+1-i≤1073741824 by omega) hby) (by decide)) (by rw[hik];exact b08 hroom hlim hby)
  rw[hik]at h;rw[hkk];exact h
 have hge:=a15 w (n+1) c 64;obtain ⟨G,hG⟩:∃G,G=grownCap w (n+1) c 64:=⟨_,rfl⟩
 rw[←hG]at hrz hge;have hG63:G≤9223372036854775807:=by
  have:=grownCap_le_maxLen w (n+1) c 64 (by unfold maxLen;omega);rw[←hG]at this;unfold maxLen at this;omega
 obtain ⟨R,hR⟩:∃R:List Value,R=L.take (i*6)++((Builtin.zeroCells z0.cells (n+1-i)).toList++(Builtin.zeroCells z0.cells (G-(n+1))).toList):=⟨_,rfl⟩
 have hRl:R.length=G*6:=by
  rw[hR];simp only[yaX,yaY,size_zeroCells,hzs,hTl];rw[←ya0,←ya0];congr 1;omega
 have hRt:R.take (i*6)=L.take (i*6):=by rw[hR,List.take_append_of_le_length (by omega),yb3 (by omega)]
 have hRe:(L.take (i*6)).toArray++Builtin.zeroCells z0.cells (n+1-i)++Builtin.zeroCells z0.cells (G-(n+1))=R.toArray:=by
  rw[hR];apply Array.ext';simp
 rw[hRe]at hrz;obtain ⟨C1,hC1⟩:∃C1,C1=(L.drop (i*6)).take ((n-i)*6):=⟨_,rfl⟩
 have hC1l:C1.length=(n-i)*6:=by rw[hC1];simp;omega
 have hGn:(n+1)*6≤R.length:=by rw[hRl];exact yap _ hge
 obtain ⟨M1,hM1⟩:∃M1,M1=Go.splice R (i*6) vs:=⟨_,rfl⟩
 have hM1l:M1.length=R.length:=by rw[hM1];exact length_splice _ _ _ (by omega)
 rw[←hC1];obtain ⟨gb,hgb⟩:∃gb,gb=w.heap.size:=⟨_,rfl⟩
 have hnew:∀W:World,W.heap=w.heap.push (.cells R.toArray 64)→W.heap[gb]?=some (.cells R.toArray 64 (0,0)):=fun W hW=>by rw[hW,hgb];simp
 have hpast:∀W:World,W.heap=w.heap.push (.cells R.toArray 64)→∀k,k<w.heap.size→W.heap[k]?=w.heap[k]?:=fun W hW k hk=>by rw[hW,ybH hk];simp[hk]
 have hcpA:∀(W:World),W.heap=w.heap.push (.cells R.toArray 64)→∀ty dc,(Builtin.copy_ #[23,23] ty #[.slice (some ⟨gb,i*6,none⟩) (n+1-i) dc,.slice (some ⟨vb,vo,none⟩) 1 vc]).run Tryz.prog W=.ok (goInt 1) (W.setRow gb M1.toArray):=fun W hW ty dc=>by
  have hmin:Nat.min 1 (n+1-i)=1:=by show min _ _=_;omega
  have:=a0r (P:=Tryz.prog) (w:=W) (sT:=23) (ty:=ty) (dCap:=dc) (sCap:=vc) (dLen:=n+1-i) (sLen:=1) (o:=i*6) (a:=⟨vb,vo,none⟩) Tryz.underlying23 hi0 hsz (g:=gb) (t:=64) (L:=R) (hnew W hW) (cs:=vs) (by rw[hmin];omega)
   (fun j v hj=>by
    rw[Addr.add_lit];unfold World.cell?;rw[show W.heap[(⟨vb,vo+j,none⟩:Addr).block]?=w.heap[vb]? from hpast W hW vb hvw];exact hvs j v hj) (by omega) h2
  rw[hmin,←hM1]at this;exact this
 have hcpB:∀(W W0:World),W0.heap=w.heap.push (.cells R.toArray 64)→W.heap=(W0.setRow gb M1.toArray).heap→∀ty dc sc,(Builtin.copy_ #[23,23] ty #[.slice (some ⟨gb,(i+1)*6,none⟩) (n-i) dc,.slice (some ⟨b,i*6,none⟩) (n-i) sc]).run Tryz.prog W=.ok (goInt ((n-i:Nat):Int)) (W.setRow gb (Go.splice M1 ((i+1)*6) C1).toArray):=fun W W0 hW0 hW ty dc sc=>by
  have hmin:Nat.min (n-i) (n-i)=n-i:=by show min _ _=_;omega
  have:=a0r (P:=Tryz.prog) (w:=W) (sT:=23) (ty:=ty) (dCap:=dc) (sCap:=sc) (dLen:=n-i) (sLen:=n-i) (o:=(i+1)*6) (a:=⟨b,i*6,none⟩) Tryz.underlying23 hi0 hsz (g:=gb) (t:=64) (L:=M1) (by rw[hW];exact setRow_heap _ _ _ _ _ _ (hnew W0 hW0)) (cs:=C1) (by rw[hmin];exact hC1l)
   (fun j v hj=>by
    rw[Addr.add_lit];unfold World.cell?;have e:W.heap[(⟨b,i*6+j,none⟩:Addr).block]?=w.heap[b]?:=by
     show W.heap[b]?=_
     rw[hW,setRow_other _ _ _ _ (by omega),hpast W0 hW0 b hbw]
    rw[e,hb];rw[hC1,yaA]at hj;split at hj
    ·simpa using hj
    ·cases hj) (by omega) (by rw[hC1];exact h1)
  rw[hmin]at this;exact this
 have hw1:IntKind.i64.wrap ((i:Int)+1)=(i:Int)+1:=by rw[IntKind.wrap_i64];omega
 have hb1:(0:Int)≤(i:Int)+1:=by omega
 have hin:i≤n:=by omega
 have htn:((i:Int)+1).toNat=i+1:=by omega
 have hb3:(i:Int)≤(n:Int):=by omega
 have hGi:¬(G=i):=by omega
 have hGim:¬(G=i+1):=by omega
 have hci:¬(c=i):=by omega
 have hmixed:Tryz.prog.follows .mixedOrders=true:=kr;have mixed:=hmixed;have hfin:∀W W0:World,W0.heap=w.heap.push (.cells R.toArray 64)→W.heap=(W0.setRow gb M1.toArray).heap→(W.setRow gb (Go.splice M1 ((i+1)*6) C1).toArray).heap=w.heap.push (.cells (Go.splice M1 ((i+1)*6) C1).toArray 64):=fun W W0 hW0 hW=>by
  have h1:W.heap[gb]?=some (.cells M1.toArray 64 (0,0)):=by rw[hW];exact setRow_heap _ _ _ _ _ _ (hnew W0 hW0)
  have hsz0:W.heap.size=w.heap.size+1:=by rw[hW,setRow_size,hW0];simp
  apply Array.ext_getElem?;intro k;by_cases hk:k=gb
  ·subst hk;rw[setRow_heap _ _ _ _ _ _ h1,hgb];simp
  ·rw[setRow_other _ _ _ _ hk];by_cases hk2:k<w.heap.size
   ·rw[hW,setRow_other _ _ _ _ hk,hpast W0 hW0 k hk2,ybH hk2];simp[hk2]
   ·rw[ybo (by omega),ybo (by simp;omega)]
 have hMM:Go.splice (Go.splice R (i*6) vs) ((i+1)*6) C1=Go.splice M1 ((i+1)*6) C1:=by rw[hM1]
 subst hgb;have hcpA':=hcpA ((w.alloc (.cells R.toArray 64)).drew) rfl;clear hkk hcpA hik hold hG hR hRe hC1 hM1 hC1l hM1l h1 h2 hvs hL hTl
 go_enter Tryz.func179,Tryz.ntmps179
 go_wp2_with (at_builtin;refine a0s rfl _ _ _ _ rfl _ _ rfl rfl (hrz _) ?_)
 go_region_law_o (refine a3n rfl _ _ 23 23 rfl (.slice (some ⟨w.heap.size,(i+1)*6,none⟩) (n-i) (G-(i+1))) (.slice (some ⟨b,i*6,none⟩) (n-i) (c-i)) (by simp[Act.eval,Act.put]) (by simp[Act.eval,Act.put]) (hcpB (((w.alloc (.cells R.toArray 64)).drew.setRow w.heap.size M1.toArray).drew) (w.drew.alloc (.cells R.toArray 64)) rfl rfl 3 (G-(i+1)) (c-i)) ?_)
 go_wp2
 go_ret
 refine ⟨G,R,rfl,hge,hRl,hRt,?_,rfl,rfl,rfl⟩;rw[hMM];exact hfin _ (w.drew.alloc (.cells R.toArray 64)) rfl rfl
end
section
theorem a92:∃i0 z,Tryz.prog.info? 56=some i0∧i0.zero=some z∧z.cells.size=6∧i0.size=6∧i0.bytes≤128:=by
 have h:(match Tryz.prog.info? 56 with|some i=>(match i.zero with|some z=>Nat.beq z.cells.size 6&&Nat.beq i.size 6&&Nat.ble i.bytes 128|none=>false)|none=>false)=true:=kr;split at h
 ·rename_i i hi;split at h
  ·rename_i z hz;simp only[yad]at h;exact ⟨i,z,hi,hz,ybb h.1.1,ybb h.1.2,ya3 h.2⟩
  ·cases h
 ·cases h
set_option maxHeartbeats 4000000 in
set_option maxRecDepth 100000 in
theorem b6u {w:World} {b n c i vb vo vc:Nat} {L vs:List Value} {t:TypeId} (hi:i<n) (hroom:n+1≤c) (hlim:n+1≤1073741824) (hvb:vb≠b)
 (hb:w.heap[b]?=some (.cells L.toArray t (0,0))) (hL:L.length=c*6) (hvl:vs.length=6)
 (hvs:∀j v,vs[j]?=some v→w.cell? ⟨vb,vo+j,none⟩=some v) (h1:∀v∈(L.drop (i*6)).take ((n-i)*6),v.oneCell'=true) (h2:∀v∈vs,v.oneCell'=true) :
 Calls Tryz.prog 122 #[.slice (some ⟨b,0,none⟩) n c,.int .i64 i,.slice (some ⟨vb,vo,none⟩) 1 vc] w fun e w'=>
  e=.returned (.slice (some ⟨b,0,none⟩) (n+1) c)∧w'=(w.drew.setRow b (Go.splice L ((i+1)*6) ((L.drop (i*6)).take ((n-i)*6))).toArray).setRow b (Go.splice (Go.splice L ((i+1)*6) ((L.drop (i*6)).take ((n-i)*6))) (i*6) vs).toArray:=by
 obtain ⟨i0,z0,hi0,hz0,hzs,hsz,hby⟩:=a92;have hz2:¬((i:Int)=(n:Int)):=by omega
 have hva:∃va ta fa,w.heap[vb]?=some (.cells va ta fa)∧0<va.size:=by
  have h:=hvs 0 _ (yac (by omega));unfold World.cell? at h;split at h
  ·rename_i c0 t0 f0 hc0;exact ⟨c0,t0,f0,hc0,by have:=(yak.1 h).1;omega⟩
  ·cases h
 obtain ⟨va,ta,fa,hva,hva0⟩:=hva;have hov:∀lb cb,(callFunc 187 #[.slice (some ⟨vb,vo,none⟩) 1 vc,.slice (some ⟨b,(i+1)*6,none⟩) lb cb]).run Tryz.prog w=.ok (.value (.bool false)) w:=fun lb cb=>by
  rw[run_callFunc_extern Tryz.func187 kr kr kr (e:=Extern.SlicesOverlaps.overlaps #[24,24] #[4]) kr,
   a35 Tryz.underlying24 hi0 (a:=⟨vb,vo,none⟩) (b:=⟨b,(i+1)*6,none⟩) hvb hva hva0 hb (by simp only[ybu];omega)]
  rfl
 have hLn:(n+1)*6≤L.length:=by rw[hL];exact yap _ hroom
 obtain ⟨C1,hC1⟩:∃C1,C1=(L.drop (i*6)).take ((n-i)*6):=⟨_,rfl⟩
 have hC1l:C1.length=(n-i)*6:=by rw[hC1];simp;omega
 obtain ⟨M1,hM1⟩:∃M1,M1=Go.splice L ((i+1)*6) C1:=⟨_,rfl⟩
 have hM1l:M1.length=L.length:=by rw[hM1];exact length_splice _ _ _ (by omega)
 rw[←hC1,←hM1];have hcp1:∀ty dc sc,(Builtin.copy_ #[24,24] ty #[.slice (some ⟨b,(i+1)*6,none⟩) (n-i) dc,.slice (some ⟨b,i*6,none⟩) (n+1-i) sc]).run Tryz.prog w.drew=.ok (goInt ((n-i:Nat):Int)) (w.drew.setRow b M1.toArray):=fun ty dc sc=>by
  have hmin:Nat.min (n+1-i) (n-i)=n-i:=by show min _ _=_;omega
  have:=a0r (P:=Tryz.prog) (w:=w.drew) (sT:=24) (ty:=ty) (dCap:=dc) (sCap:=sc) (dLen:=n-i) (sLen:=n+1-i) (o:=(i+1)*6) (a:=⟨b,i*6,none⟩) Tryz.underlying24 hi0 hsz hb (cs:=C1) (by rw[hmin];exact hC1l)
   (fun j v hj=>by
    rw[Addr.add_lit];show w.cell? _=_
    simp only[World.cell?,hb];rw[hC1,yaA]at hj;split at hj
    ·simpa using hj
    ·cases hj) (by omega) (by rw[hC1];exact h1)
  rw[hmin,←hM1]at this;exact this
 have hcp2:∀(W:World),W=(w.drew.setRow b M1.toArray)→∀ty dc,(Builtin.copy_ #[24,24] ty #[.slice (some ⟨b,i*6,none⟩) (n+1-i) dc,.slice (some ⟨vb,vo,none⟩) 1 vc]).run Tryz.prog W=.ok (goInt 1) (W.setRow b (Go.splice M1 (i*6) vs).toArray):=fun W hW ty dc=>by
  have hmin:Nat.min 1 (n+1-i)=1:=by show min _ _=_;omega
  have:=a0r (P:=Tryz.prog) (w:=W) (sT:=24) (ty:=ty) (dCap:=dc) (sCap:=vc) (dLen:=n+1-i) (sLen:=1) (o:=i*6) (a:=⟨vb,vo,none⟩) Tryz.underlying24 hi0 hsz (g:=b) (t:=t) (L:=M1) (by rw[hW];exact setRow_heap _ _ _ _ _ _ hb) (cs:=vs) (by rw[hmin];omega)
   (fun j v hj=>by
    rw[Addr.add_lit,hW,cell_setRow_other _ _ _ _ hvb];exact hvs j v hj) (by omega) h2
  rw[hmin]at this;exact this
 have hw1:IntKind.i64.wrap ((i:Int)+1)=(i:Int)+1:=by rw[IntKind.wrap_i64];omega
 have hb1:(0:Int)≤(i:Int)+1:=by omega
 have hin:i≤n:=by omega
 have htn:((i:Int)+1).toNat=i+1:=by omega
 have hb2:¬(c=i+1):=by omega
 have hb3:(i:Int)≤(n:Int)+1:=by omega
 have hb4:¬(c=i):=by omega
 have mixed:Tryz.prog.follows .mixedOrders=true:=kr;clear hC1 hM1 hC1l hM1l h1 h2 hvs hL
 go_enter Tryz.func122,Tryz.ntmps122
 go_wp2_with (simp only[hov])
 go_region_law_o (refine a3n rfl _ _ 24 24 rfl _ _ (by simp[Act.eval,Act.put]) (by simp[Act.eval,Act.put]) (hcp1 _ _ _) ?_)
 go_wp2_with (at_builtin;refine b6e rfl _ _ 24 24 rfl _ _ rfl rfl (hcp2 _ rfl _ _) ?_)
 go_ret
 exact ⟨rfl,rfl⟩
theorem b68 {i0:TypeInfo} {k c:Nat} (h:c<k) (hk:k≤1073741824) (hby:i0.bytes≤128):Builtin.nextslicecap k c*i0.bytes≤281474976710656:=
 growslice_fits h (ybl (yb1 hk hby) (by decide))
set_option maxHeartbeats 4000000 in
set_option maxRecDepth 100000 in
theorem c0o {w:World} {b n c vb vo vc:Nat} {L vs:List Value} {t:TypeId} (hroom:n+1≤c) (hlim:n+1≤1073741824)
 (hb:w.heap[b]?=some (.cells L.toArray t (0,0))) (hL:L.length=c*6) (hvl:vs.length=6)
 (hvs:∀j v,vs[j]?=some v→w.cell? ⟨vb,vo+j,none⟩=some v) (h2:∀v∈vs,v.oneCell'=true) :
 Calls Tryz.prog 122 #[.slice (some ⟨b,0,none⟩) n c,.int .i64 n,.slice (some ⟨vb,vo,none⟩) 1 vc] w fun e w'=>
  e=.returned (.slice (some ⟨b,0,none⟩) (n+1) c)∧w'=w.setRow b (Go.splice L (n*6) vs).toArray:=by
 obtain ⟨i0,z0,hi0,hz0,hzs,hsz,hby⟩:=a92;have hLn:(n+1)*6≤L.length:=by rw[hL];exact yap _ hroom
 have hf:=run_firstCells_some (P:=Tryz.prog) w i0.size 1 ⟨vb,vo,none⟩ 1 vc vs (by omega) (fun j v hj=>by rw[Addr.add_lit];exact hvs j v hj);have hap:∀ty,(Builtin.append_ #[24,24] ty #[.slice (some ⟨b,0,none⟩) n c,.slice (some ⟨vb,vo,none⟩) 1 vc]).run Tryz.prog w=.ok (.slice (some ⟨b,0,none⟩) (n+1) c) (w.setRow b (Go.splice L (n*6) vs).toArray):=fun ty=>by
  have:=a1s (P:=Tryz.prog) (w:=w) (ty:=ty) (ts:=#[24,24]) rfl rfl Tryz.underlying24 Tryz.underlying24 hi0 hf hroom hb (by simp only[ybu];rw[hsz];omega) h2;rw[hsz]at this;simpa[Go.splice]using this
 go_enter Tryz.func122,Tryz.ntmps122
 go_wp2_with (at_builtin;refine a0s rfl _ _ _ _ rfl _ _ rfl rfl (hap _) ?_)
 all_goals (go_ret;exact ⟨rfl,rfl⟩)
set_option maxHeartbeats 4000000 in
set_option maxRecDepth 100000 in
theorem c3g {w:World} {base:Option Addr} {n c vb vo vc:Nat} {olds vs:List Value} (hnc:n≤c) (hroom:c<n+1) (hlim:n+1≤1073741824) (hvl:vs.length=6)
 (hnil:base=none→n=0) (hol:olds.length=n*6) (hos:∀a,base=some a→∀j v,olds[j]?=some v→w.cell? (a.add j)=some v)
 (hvs:∀j v,vs[j]?=some v→w.cell? ⟨vb,vo+j,none⟩=some v) :
 Calls Tryz.prog 122 #[.slice base n c,.int .i64 n,.slice (some ⟨vb,vo,none⟩) 1 vc] w fun e w'=>
  ∃cap zs,e=.returned (.slice (some ⟨w.heap.size,0,none⟩) (n+1) cap)∧w'=w.drew.alloc (.cells (olds++(vs++zs)).toArray 56)∧n+1≤cap∧zs.length=(cap-(n+1))*6:=by
 obtain ⟨i0,z0,hi0,hz0,hzs,hsz,hby⟩:=a92;have hf:=run_firstCells_some (P:=Tryz.prog) w.drew i0.size 1 ⟨vb,vo,none⟩ 1 vc vs (by omega) (fun j v hj=>by rw[Addr.add_lit];exact hvs j v hj);have hold:(Builtin.firstCells i0.size n (.slice base n c)).run Tryz.prog w.drew=.ok olds.toArray w.drew:=by
  cases base with
  |none=>
   have h0:=hnil rfl;subst h0;rw[ybr.1 (by omega:olds.length=0)];exact run_firstCells_none w.drew _ 0 0 c
  |some a=>exact run_firstCells_some w.drew _ n a n c olds (by rw[hsz];omega) (fun j v hj=>hos a rfl j v hj)
 have hap:∀ty,(Builtin.append_ #[24,24] ty #[.slice base n c,.slice (some ⟨vb,vo,none⟩) 1 vc]).run Tryz.prog w=_:=fun ty=>
  a2i (P:=Tryz.prog) (w:=w) (ty:=ty) (ts:=#[24,24]) rfl rfl Tryz.underlying24 Tryz.underlying24 hi0 hz0 hf hold hroom (by omega) (b68 hroom hlim hby)
 have hge:=a15 w (n+1) c 56;obtain ⟨G,hG⟩:∃G,G=grownCap w (n+1) c 56:=⟨_,rfl⟩
 obtain ⟨zs,hzs'⟩:∃zs,zs=(Builtin.zeroCells z0.cells (G-(n+1))).toList:=⟨_,rfl⟩
 rw[←hG]at hap hge;rw[←hzs']at hap;have hzl:zs.length=(G-(n+1))*6:=by rw[hzs',yaY,size_zeroCells,hzs]
 clear hG hzs'
 go_enter Tryz.func122,Tryz.ntmps122
 cases base with
 |none=>
  have h0:=hnil rfl;subst h0
  go_wp2_with (at_builtin;refine a0s rfl _ _ _ _ rfl _ _ rfl rfl (hap _) ?_)
  all_goals (go_ret;first|exact ⟨_,_,rfl,rfl,hge,hzl⟩|exact ⟨_,rfl,_,rfl,hge,hzl⟩)
 |some a=>
  obtain ⟨ab,ao,asp⟩:=a
  go_wp2_with (at_builtin;refine a0s rfl _ _ _ _ rfl _ _ rfl rfl (hap _) ?_)
  all_goals (go_ret;first|exact ⟨_,_,rfl,rfl,hge,hzl⟩|exact ⟨_,rfl,_,rfl,hge,hzl⟩)
set_option maxHeartbeats 4000000 in
set_option maxRecDepth 100000 in
theorem c0n {w:World} {b n c i vb vo vc:Nat} {L vs:List Value} {t:TypeId} (hi:i<n) (hnc:n≤c) (hroom:c<n+1) (hlim:n+1≤1073741824) (hvb:vb≠b)
 (hb:w.heap[b]?=some (.cells L.toArray t (0,0))) (hL:L.length=c*6) (hvl:vs.length=6)
 (hvs:∀j v,vs[j]?=some v→w.cell? ⟨vb,vo+j,none⟩=some v) (h1:∀v∈(L.drop (i*6)).take ((n-i)*6),v.oneCell'=true) (h2:∀v∈vs,v.oneCell'=true) :
 Calls Tryz.prog 122 #[.slice (some ⟨b,0,none⟩) n c,.int .i64 i,.slice (some ⟨vb,vo,none⟩) 1 vc] w fun e w'=>
  ∃cap row,e=.returned (.slice (some ⟨w.heap.size,0,none⟩) (n+1) cap)∧n+1≤cap∧row.length=cap*6∧row.take (i*6)=L.take (i*6)∧
   w'.heap=(w.heap.push (.cells (Go.splice (Go.splice row (i*6) vs) ((i+1)*6) ((L.drop (i*6)).take ((n-i)*6))).toArray 56))∧w'.os=w.os∧w'.output=w.output∧w'.tape=w.tape:=by
 obtain ⟨i0,z0,hi0,hz0,hzs,hsz,hby⟩:=a92;have hz2:¬((i:Int)=(n:Int)):=by omega
 have hz3:(c:Int)<(n:Int)+1:=by omega
 have hLn:n*6≤L.length:=by rw[hL];exact yap _ hnc
 have hbw:b<w.heap.size:=(yak.1 hb).1;have hvw:vb<w.heap.size:=by
  have h:=hvs 0 _ (yac (by omega));unfold World.cell? at h;split at h
  ·rename_i c0 t0 f0 hc0;exact (yak.1 hc0).1
  ·cases h
 have hkk:(n:Int)+1-(i:Int)=((n+1-i:Nat):Int):=by omega
 have hik:i+(n+1-i)=n+1:=by omega
 have hTl:(L.take (i*6)).length=i*6:=by simp;omega
 have hold:(Builtin.firstCells i0.size i (.slice (some ⟨b,0,none⟩) i c)).run Tryz.prog w.drew=.ok (L.take (i*6)).toArray w.drew:=by
  refine run_firstCells_some w.drew _ i ⟨b,0,none⟩ i c (L.take (i*6)) (by rw[hsz];exact hTl) (fun j v hj=>?_);rw[Addr.add_lit,yaE];show w.cell? _=_
  simp only[World.cell?,hb];rw[yaA]at hj;split at hj
  ·simpa using hj
  ·cases hj
 have hrz:∀ty,(Builtin.append_ #[24,3] ty #[.slice (some ⟨b,0,none⟩) i c,.int .i64 ((n:Int)+1-(i:Int))]).run Tryz.prog w =
  .ok (.slice (some ⟨w.heap.size,0,none⟩) (n+1) (grownCap w (n+1) c 56)) (w.drew.alloc (.cells ((L.take (i*6)).toArray++Builtin.zeroCells z0.cells (n+1-i)++Builtin.zeroCells z0.cells (grownCap w (n+1) c 56-(n+1))) 56)):=fun ty=>by
  have h:=Lib.run_append_grow_zeros w 24 3 ty 56 i0 _ .i64 .i64 Tryz.underlying24 Tryz.underlying3 hi0 hz0 (some ⟨b,0,none⟩) i c _ hold (n+1-i) (by omega) (by omega) (by omega) (by omega)
   (ybl (yb1 (show n+1-i≤1073741824 by omega) hby) (by decide)) (by rw[hik];exact b68 hroom hlim hby)
  rw[hik]at h;rw[hkk];exact h
 have hge:=a15 w (n+1) c 56;obtain ⟨G,hG⟩:∃G,G=grownCap w (n+1) c 56:=⟨_,rfl⟩
 rw[←hG]at hrz hge;have hG63:G≤9223372036854775807:=by
  have:=grownCap_le_maxLen w (n+1) c 56 (by unfold maxLen;omega);rw[←hG]at this;unfold maxLen at this;omega
 obtain ⟨R,hR⟩:∃R:List Value,R=L.take (i*6)++((Builtin.zeroCells z0.cells (n+1-i)).toList++(Builtin.zeroCells z0.cells (G-(n+1))).toList):=⟨_,rfl⟩
 have hRl:R.length=G*6:=by
  rw[hR];simp only[yaX,yaY,size_zeroCells,hzs,hTl];rw[←ya0,←ya0];congr 1;omega
 have hRt:R.take (i*6)=L.take (i*6):=by rw[hR,List.take_append_of_le_length (by omega),yb3 (by omega)]
 have hRe:(L.take (i*6)).toArray++Builtin.zeroCells z0.cells (n+1-i)++Builtin.zeroCells z0.cells (G-(n+1))=R.toArray:=by
  rw[hR];apply Array.ext';simp
 rw[hRe]at hrz;obtain ⟨C1,hC1⟩:∃C1,C1=(L.drop (i*6)).take ((n-i)*6):=⟨_,rfl⟩
 have hC1l:C1.length=(n-i)*6:=by rw[hC1];simp;omega
 have hGn:(n+1)*6≤R.length:=by rw[hRl];exact yap _ hge
 obtain ⟨M1,hM1⟩:∃M1,M1=Go.splice R (i*6) vs:=⟨_,rfl⟩
 have hM1l:M1.length=R.length:=by rw[hM1];exact length_splice _ _ _ (by omega)
 rw[←hC1];obtain ⟨gb,hgb⟩:∃gb,gb=w.heap.size:=⟨_,rfl⟩
 have hnew:∀W:World,W.heap=w.heap.push (.cells R.toArray 56)→W.heap[gb]?=some (.cells R.toArray 56 (0,0)):=fun W hW=>by rw[hW,hgb];simp
 have hpast:∀W:World,W.heap=w.heap.push (.cells R.toArray 56)→∀k,k<w.heap.size→W.heap[k]?=w.heap[k]?:=fun W hW k hk=>by rw[hW,ybH hk];simp[hk]
 have hcpA:∀(W:World),W.heap=w.heap.push (.cells R.toArray 56)→∀ty dc,(Builtin.copy_ #[24,24] ty #[.slice (some ⟨gb,i*6,none⟩) (n+1-i) dc,.slice (some ⟨vb,vo,none⟩) 1 vc]).run Tryz.prog W=.ok (goInt 1) (W.setRow gb M1.toArray):=fun W hW ty dc=>by
  have hmin:Nat.min 1 (n+1-i)=1:=by show min _ _=_;omega
  have:=a0r (P:=Tryz.prog) (w:=W) (sT:=24) (ty:=ty) (dCap:=dc) (sCap:=vc) (dLen:=n+1-i) (sLen:=1) (o:=i*6) (a:=⟨vb,vo,none⟩) Tryz.underlying24 hi0 hsz (g:=gb) (t:=56) (L:=R) (hnew W hW) (cs:=vs) (by rw[hmin];omega)
   (fun j v hj=>by
    rw[Addr.add_lit];unfold World.cell?;rw[show W.heap[(⟨vb,vo+j,none⟩:Addr).block]?=w.heap[vb]? from hpast W hW vb hvw];exact hvs j v hj) (by omega) h2
  rw[hmin,←hM1]at this;exact this
 have hcpB:∀(W W0:World),W0.heap=w.heap.push (.cells R.toArray 56)→W.heap=(W0.setRow gb M1.toArray).heap→∀ty dc sc,(Builtin.copy_ #[24,24] ty #[.slice (some ⟨gb,(i+1)*6,none⟩) (n-i) dc,.slice (some ⟨b,i*6,none⟩) (n-i) sc]).run Tryz.prog W=.ok (goInt ((n-i:Nat):Int)) (W.setRow gb (Go.splice M1 ((i+1)*6) C1).toArray):=fun W W0 hW0 hW ty dc sc=>by
  have hmin:Nat.min (n-i) (n-i)=n-i:=by show min _ _=_;omega
  have:=a0r (P:=Tryz.prog) (w:=W) (sT:=24) (ty:=ty) (dCap:=dc) (sCap:=sc) (dLen:=n-i) (sLen:=n-i) (o:=(i+1)*6) (a:=⟨b,i*6,none⟩) Tryz.underlying24 hi0 hsz (g:=gb) (t:=56) (L:=M1) (by rw[hW];exact setRow_heap _ _ _ _ _ _ (hnew W0 hW0)) (cs:=C1) (by rw[hmin];exact hC1l)
   (fun j v hj=>by
    rw[Addr.add_lit];unfold World.cell?;have e:W.heap[(⟨b,i*6+j,none⟩:Addr).block]?=w.heap[b]?:=by
     show W.heap[b]?=_
     rw[hW,setRow_other _ _ _ _ (by omega),hpast W0 hW0 b hbw]
    rw[e,hb];rw[hC1,yaA]at hj;split at hj
    ·simpa using hj
    ·cases hj) (by omega) (by rw[hC1];exact h1)
  rw[hmin]at this;exact this
 have hw1:IntKind.i64.wrap ((i:Int)+1)=(i:Int)+1:=by rw[IntKind.wrap_i64];omega
 have hb1:(0:Int)≤(i:Int)+1:=by omega
 have hin:i≤n:=by omega
 have htn:((i:Int)+1).toNat=i+1:=by omega
 have hb3:(i:Int)≤(n:Int):=by omega
 have hGi:¬(G=i):=by omega
 have hGim:¬(G=i+1):=by omega
 have hci:¬(c=i):=by omega
 have hmixed:Tryz.prog.follows .mixedOrders=true:=kr;have mixed:=hmixed;have hfin:∀W W0:World,W0.heap=w.heap.push (.cells R.toArray 56)→W.heap=(W0.setRow gb M1.toArray).heap→(W.setRow gb (Go.splice M1 ((i+1)*6) C1).toArray).heap=w.heap.push (.cells (Go.splice M1 ((i+1)*6) C1).toArray 56):=fun W W0 hW0 hW=>by
  have h1:W.heap[gb]?=some (.cells M1.toArray 56 (0,0)):=by rw[hW];exact setRow_heap _ _ _ _ _ _ (hnew W0 hW0)
  have hsz0:W.heap.size=w.heap.size+1:=by rw[hW,setRow_size,hW0];simp
  apply Array.ext_getElem?;intro k;by_cases hk:k=gb
  ·subst hk;rw[setRow_heap _ _ _ _ _ _ h1,hgb];simp
  ·rw[setRow_other _ _ _ _ hk];by_cases hk2:k<w.heap.size
   ·rw[hW,setRow_other _ _ _ _ hk,hpast W0 hW0 k hk2,ybH hk2];simp[hk2]
   ·rw[ybo (by omega),ybo (by simp;omega)]
 have hMM:Go.splice (Go.splice R (i*6) vs) ((i+1)*6) C1=Go.splice M1 ((i+1)*6) C1:=by rw[hM1]
 subst hgb;have hcpA':=hcpA ((w.alloc (.cells R.toArray 56)).drew) rfl;clear hkk hcpA hik hold hG hR hRe hC1 hM1 hC1l hM1l h1 h2 hvs hL hTl
 go_enter Tryz.func122,Tryz.ntmps122
 go_wp2_with (at_builtin;refine a0s rfl _ _ _ _ rfl _ _ rfl rfl (hrz _) ?_)
 go_region_law_o (refine a3n rfl _ _ 24 24 rfl (.slice (some ⟨w.heap.size,(i+1)*6,none⟩) (n-i) (G-(i+1))) (.slice (some ⟨b,i*6,none⟩) (n-i) (c-i)) (by simp[Act.eval,Act.put]) (by simp[Act.eval,Act.put]) (hcpB (((w.alloc (.cells R.toArray 56)).drew.setRow w.heap.size M1.toArray).drew) (w.drew.alloc (.cells R.toArray 56)) rfl rfl 3 (G-(i+1)) (c-i)) ?_)
 go_wp2
 go_ret
 refine ⟨G,R,rfl,hge,hRl,hRt,?_,rfl,rfl,rfl⟩;rw[hMM];exact hfin _ (w.drew.alloc (.cells R.toArray 56)) rfl rfl
end
section
theorem d4a:∃i0 z,Tryz.prog.info? 59=some i0∧i0.zero=some z∧z.cells.size=11∧i0.size=11∧∀v∈z.cells,v.oneCell'=true:=by
 have h:(match Tryz.prog.info? 59 with|some i=>(match i.zero with|some z=>Nat.beq z.cells.size 11&&Nat.beq i.size 11&&z.cells.toList.all (·.oneCell')|none=>false)|none=>false)=true:=kr;split at h
 ·rename_i i hi;split at h
  ·rename_i z hz;simp only[yad]at h;exact ⟨i,z,hi,hz,ybb h.1.1,ybb h.1.2,fun v hv=>yam.1 h.2 v (by simpa using hv)⟩
  ·cases h
 ·cases h
set_option maxHeartbeats 4000000 in
set_option maxRecDepth 100000 in
theorem b92 {w:World} {base:Option Addr} {n c i:Nat} (hnc:n≤c) (hi:i≤n) :
 Calls Tryz.prog 189 #[.slice base n c,.int .i64 i,.int .i64 i] w fun e w'=>e=.returned (.slice base n c)∧w'=w:=by
 cases base with
 |none=>
  go_enter Tryz.func189,Tryz.ntmps189
  go_wp2
  all_goals (go_ret;exact ⟨rfl,rfl⟩)
 |some a=>
  obtain ⟨ab,ao,asp⟩:=a
  go_enter Tryz.func189,Tryz.ntmps189
  go_wp2
  all_goals (go_ret;exact ⟨rfl,rfl⟩)
set_option maxHeartbeats 4000000 in
set_option maxRecDepth 100000 in
theorem b93 {w:World} {b n c i j:Nat} {L:List Value} {t:TypeId} (hij:i<j) (hj:j≤n) (hnc:n≤c)
 (hb:w.heap[b]?=some (.cells L.toArray t (0,0))) (hL:L.length=c*11) (h1:∀v∈(L.drop (j*11)).take ((n-j)*11),v.oneCell'=true) :
 Calls Tryz.prog 189 #[.slice (some ⟨b,0,none⟩) n c,.int .i64 i,.int .i64 j] w fun e w'=>
  e=.returned (.slice (some ⟨b,0,none⟩) (i+(n-j)) c)∧∃(M0:Array Value) (zs:List Value),zs.length=(j-i)*11∧w'=(w.drew.setRow b M0).setRow b (Go.splice (Go.splice L (i*11) ((L.drop (j*11)).take ((n-j)*11))) ((i+(n-j))*11) zs).toArray:=by
 obtain ⟨i0,z0,hi0,hz0,hzs,hsz,hz1⟩:=d4a;have hLn:n*11≤L.length:=by rw[hL];exact yap _ hnc
 obtain ⟨C1,hC1⟩:∃C1,C1=(L.drop (j*11)).take ((n-j)*11):=⟨_,rfl⟩
 have hC1l:C1.length=(n-j)*11:=by rw[hC1];simp;omega
 obtain ⟨M1,hM1⟩:∃M1,M1=Go.splice L (i*11) C1:=⟨_,rfl⟩
 have hM1l:M1.length=L.length:=by rw[hM1];exact length_splice _ _ _ (by omega)
 rw[←hC1,←hM1];obtain ⟨A,hA,hsrc⟩:∃A:Addr,(if c=j then some (⟨b,0,none⟩:Addr) else some ⟨b,j*11,none⟩)=some A∧∀q v,C1[q]?=some v→w.drew.cell? (A.add q)=some v:=by
  by_cases h:c=j
  ·refine ⟨⟨b,0,none⟩,by simp[h],fun q v hq=>?_⟩;have:=(zL hq)
   omega
  ·refine ⟨⟨b,j*11,none⟩,by simp[h],fun q v hq=>?_⟩;rw[Addr.add_lit];show w.cell? _=_
   simp only[World.cell?,hb];rw[hC1,yaA]at hq;split at hq
   ·simpa using hq
   ·cases hq
 have hf:∀xc,(Builtin.firstCells i0.size (n-j) (.slice (some A) (n-j) xc)).run Tryz.prog w.drew=.ok C1.toArray w.drew:=fun xc=>run_firstCells_some (P:=Tryz.prog) w.drew i0.size (n-j) A (n-j) xc C1 (by rw[hsz];exact hC1l) hsrc
 have hone:∀v∈C1,v.oneCell'=true:=by rw[hC1];exact h1
 have hap:∀ty xc,(Builtin.append_ #[25,25] ty #[.slice (some ⟨b,0,none⟩) i c,.slice (some A) (n-j) xc]).run Tryz.prog w.drew=.ok (.slice (some ⟨b,0,none⟩) (i+(n-j)) c) (w.drew.setRow b M1.toArray):=fun ty xc=>by
  have:=a1s (P:=Tryz.prog) (w:=w.drew) (ty:=ty) (ts:=#[25,25]) rfl rfl Tryz.underlying25 Tryz.underlying25 hi0 (hf xc) (sLen:=i) (sCap:=c) (by omega) hb (by simp only[ybu];rw[hsz];omega) hone;rw[hsz]at this;rw[hM1];simpa[Go.splice]using this
 obtain ⟨zs,hzs'⟩:∃zs,zs=(Builtin.zeroCells z0.cells (j-i)).toList:=⟨_,rfl⟩
 have hzl:zs.length=(j-i)*11:=by rw[hzs',yaY,Go.size_zeroCells,hzs]
 have hcl:∀ty cc,(Builtin.clear_ #[25] ty #[.slice (some ⟨b,(i+(n-j))*11,none⟩) (n-(i+(n-j))) cc]).run Tryz.prog (w.drew.setRow b M1.toArray)=.ok (.tuple #[]) ((w.drew.setRow b M1.toArray).setRow b (Go.splice M1 ((i+(n-j))*11) zs).toArray):=fun ty cc=>by
  have e:n-(i+(n-j))=j-i:=by omega
  rw[e,hzs'];exact b5w (P:=Tryz.prog) (w:=w.drew.setRow b M1.toArray) Tryz.underlying25 hi0 hz0 (by omega) (setRow_heap _ _ _ _ _ _ hb) (by rw[hzs];omega) hz1
 have hic:i≤c:=by omega
 have hjc:j≤c:=by omega
 have mixed:Tryz.prog.follows .mixedOrders=true:=kr;clear hC1 hM1 hC1l hM1l h1 hL hf hone hzs'
 go_enter Tryz.func189,Tryz.ntmps189
 go_wp2_with fail
 go_region_law_o (refine b85 rfl (.tmp 22) (.tmp 25) 25 25 rfl (.slice (some ⟨b,0,none⟩) i c) (.slice (some A) (n-j) (c-j)) (by simp[Act.eval,Act.put]) (by simp[Act.eval,Act.put]) (hap _ _) ?_)
 go_wp2
 go_ret
 exact ⟨rfl,_,zs,hzl,rfl⟩
end
end Go.Proofs.YtdahfgialanmpabGreatDoor
