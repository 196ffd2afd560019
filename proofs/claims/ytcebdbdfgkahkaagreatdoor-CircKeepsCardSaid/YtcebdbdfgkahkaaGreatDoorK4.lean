/- CircKeeps: a part of the proof of the given statement, which is proved without conditions. -/
import Derived.Test.YtcebdbdfgkahkaaGreatDoorK3
import Derived.KernelRfl
import Derived.Test.YtcebdbdfgkahkaaGreatDoorProg
import Derived.Shelf.RegionOpenPlain
import Derived.WalkKit
import Derived.Lib.Walk
import Derived.Lib.AppendZerosOnto
import Derived.Lib.AppendZeros
import Derived.Laws.Externs
import Derived.Laws.CopyOwn
import Derived.Deep.RegionLaw
import Derived.Lib.TrimUEq
import Derived.Lib.ValidU
import Derived.Lib.FieldsP
import Derived.Lib.Join
import Derived.Shelf.Strings.OnBuilder
import Derived.Shelf.Strings.FieldsFuncAny
import Derived.Shelf.Unicode.ValidAny
import Derived.Ground.NamesProg
import Derived.Ground.Names2Prog
import Derived.WalkMore
import Derived.Below
import Derived.Laws.RangeString
import Derived.Laws.Runes
import Derived.LoopTactic
import Derived.Deep.LoopGhost
import Derived.Shelf.Sort.Plain
import Derived.Shelf.Slices.CompactI
import Derived.Shelf.Slices.In.SortNone
import Derived.Lib.RowBridge
import Derived.Test.YtcebdbdfgkahkaaGreatDoorTie
set_option linter.all false
namespace Go.Proofs.YtcebdbdfgkahkaaGreatDoor
set_option maxRecDepth 100000
open Ev
open Go (IntKind)
section
def b9j:((List Hold)×Int×Int×Int×Int×(List Int)×Unit)→Option (((List Hold)×Int×Int×Int×Int×(List Int)×Unit)⊕(((List Hold)×Int×Int×Int×(List Int)×Unit))):=fun (l,record,day,rank,i,l2,_)=>
 bif decide (i<(l.length:Int)) then match m6 l i with|some x =>let k6 (v:Bool):Option (((List Hold)×Int×Int×Int×Int×(List Int)×Unit)⊕(((List Hold)×Int×Int×Int×(List Int)×Unit))):=let k5 (v3:Bool):Option (((List Hold)×Int×Int×Int×Int×(List Int)×Unit)⊕(((List Hold)×Int×Int×Int×(List Int)×Unit))):=let k (v4:Bool):Option (((List Hold)×Int×Int×Int×Int×(List Int)×Unit)⊕(((List Hold)×Int×Int×Int×(List Int)×Unit))):=bif v4 then bif decide (l2.length+([x.ID]:List Int).length≤LIM) then some (.inl (l,record,day,rank,wr .i64 (i+1),l2++([x.ID]:List Int),())) else none else some (.inl (l,record,day,rank,wr .i64 (i+1),l2,()));bif v3 then k (x.Rank==rank) else k false;bif v then k5 (decide (x.Asleep≤day)) else k5 false;bif x.State==1 then k6 (x.Record==record) else k6 false|none =>none else some (.inr ((l,record,day,rank,l2,())))
def d30:((List Hold)×Int×Int×Int×(List Int)×Unit)→Option (((List Hold)×Int×Int×Int×(List Int)×Unit)⊕(((List Int)×Unit))):=fun (l,record,day,rank,l1,_)=>
 bif decide (0≤rank) then match b9 b9j (l,record,day,rank,0,l1,()) with|some ((l7,record8,day9,rank10,l11,_)) =>some (.inl (l7,record8,day9,wr .i64 (rank10-1),l11,()))|none =>none else some (.inr ((l1,())))
def qgr (l:List Hold) (record:Int) (day:Int):Option (List Int):=
 match b9 d30 (l,record,day,9,([]:List Int),()) with|some ((l12,_)) =>some l12|none =>none
def c6g:((List Hold)×Int×Int×Hold×Unit)→Option (((List Hold)×Int×Int×Hold×Unit)⊕((Hold×Unit)⊕(Bool×Hold×Unit))):=fun (l,vid,i,v,_)=>
 bif decide (i<(l.length:Int)) then match m6 l i with|some x =>bif x.ID==vid then match m6 l i with|some x1 =>some (.inr (.inr (true,x1,())))|none =>none else some (.inl (l,vid,wr .i64 (i+1),v,()))|none =>none else some (.inr (.inl (v,())))
def qho (l:List Hold) (vid:Int):Option (Hold×Bool):=
 match b9 c6g (l,vid,0,(⟨0,0,0,0,0,0,0,0,0,0,0⟩:Hold),()) with|some (.inl (v,_)) =>some ((⟨0,0,0,0,0,0,0,0,0,0,0⟩:Hold),false)|some (.inr (v2,v3,_)) =>some (v3,v2)|none =>none
def c6b:((List Hold)×Int×Bool×(List Int)×Int×Int×Item×Unit)→Option (((List Hold)×Int×Bool×(List Int)×Int×Int×Item×Unit)⊕((Int×Unit)⊕(Int×Unit))):=fun (l,branch,vlocal,q,first,i,x,_)=>
 bif decide (i<(q.length:Int)) then match m6 q i with|some x2 =>(match qho l x2 with|some (r3,r4) =>let k8 (v:Bool):Option (((List Hold)×Int×Bool×(List Int)×Int×Int×Item×Unit)⊕((Int×Unit)⊕(Int×Unit))):=bif v then some (.inl (l,branch,vlocal,q,first,wr .i64 (i+1),x,())) else let k7 (v5:Bool):Option (((List Hold)×Int×Bool×(List Int)×Int×Int×Item×Unit)⊕((Int×Unit)⊕(Int×Unit))):=bif v5 then some (.inr (.inr (r3.ID,()))) else let k (first6:Int):Option (((List Hold)×Int×Bool×(List Int)×Int×Int×Item×Unit)⊕((Int×Unit)⊕(Int×Unit))):=some (.inl (l,branch,vlocal,q,first6,wr .i64 (i+1),x,()));bif first==0 then k r3.ID else k first;bif vlocal then k7 (r3.Pickup==branch) else k7 false;bif !(r3.Item==0) then k8 (!(r3.Item==x.ID)) else k8 false|none =>none)|none =>none else some (.inr (.inl (first,())))
def qhb (l:List Hold) (x:Item) (branch:Int) (day:Int) (vlocal:Bool):Option Int:=
 match qgr l x.Record day with|some r1 =>(match b9 c6b (l,branch,vlocal,r1,0,0,x,()) with|some (.inl (first,_)) =>some first|some (.inr (v,_)) =>some v|none =>none)|none =>none
def qg0 (c:Circ) (item:Int):Option Int:=
 match qt c item with|some r1 =>(match m6 c.Items r1 with|some x =>(match qhb c.Holds x x.Custody.Branch c.Today c.Local with|some r3 =>some r3|none =>none)|none =>none)|none =>none
def c6e:((List Charge)×Int×Int×Int×Unit)→Option (((List Charge)×Int×Int×Int×Unit)⊕((Int×Unit))):=fun (l,patron,n,i,_)=>
 bif decide (i<(l.length:Int)) then match m6 l i with|some x =>let k (n3:Int):Option (((List Charge)×Int×Int×Int×Unit)⊕((Int×Unit))):=some (.inl (l,patron,n3,wr .i64 (i+1),()));bif x.Patron==patron then match m6 l i with|some x1 =>(match m6 l i with|some x2 =>k (wr .i64 ((wr .i64 (n+x1.Amount))-x2.Paid))|none =>none)|none =>none else k n|none =>none else some (.inr ((n,())))
def qhf (l:List Charge) (patron:Int):Option Int:=
 match b9 c6e (l,patron,0,0,()) with|some ((n,_)) =>some n|none =>none
def c6d:((List Loan)×Int×Int×Int×Int×Unit)→Option (((List Loan)×Int×Int×Int×Int×Unit)⊕((Int×Unit))):=fun (l,patron,day,k,i,_)=>
 bif decide (i<(l.length:Int)) then match m6 l i with|some x =>let k4 (v:Bool):Option (((List Loan)×Int×Int×Int×Int×Unit)⊕((Int×Unit))):=let k3 (k2:Int):Option (((List Loan)×Int×Int×Int×Int×Unit)⊕((Int×Unit))):=some (.inl (l,patron,day,k2,wr .i64 (i+1),()));bif v then k3 (wr .i64 (k+1)) else k3 k;bif x.Patron==patron then match m6 l i with|some x1 =>k4 (decide (x1.Due<day))|none =>none else k4 false|none =>none else some (.inr ((k,())))
def qhd (l:List Loan) (patron:Int) (day:Int):Option Int:=
 match b9 c6d (l,patron,day,0,0,()) with|some ((k,_)) =>some k|none =>none
def qgc (p:Patron) (day:Int) (a8z:Int) (late:Int):Option (List Int):=
 bif p.Stopped then bif decide (([]:List Int).length+([1]:List Int).length≤LIM) then bif decide (p.Until<day) then bif decide ((([])++([1]:List Int)).length+([2]:List Int).length≤LIM) then bif decide (1000<a8z) then bif decide (((([])++([1]:List Int))++([2]:List Int)).length+([3]:List Int).length≤LIM) then bif decide (2<late) then bif decide ((((([])++([1]:List Int))++([2]:List Int))++([3]:List Int)).length+([4]:List Int).length≤LIM) then some ((((([])++([1]:List Int))++([2]:List Int))++([3]:List Int))++([4]:List Int)) else none else some (((([])++([1]:List Int))++([2]:List Int))++([3]:List Int)) else none else bif decide (2<late) then bif decide (((([])++([1]:List Int))++([2]:List Int)).length+([4]:List Int).length≤LIM) then some (((([])++([1]:List Int))++([2]:List Int))++([4]:List Int)) else none else some ((([])++([1]:List Int))++([2]:List Int)) else none else bif decide (1000<a8z) then bif decide ((([])++([1]:List Int)).length+([3]:List Int).length≤LIM) then bif decide (2<late) then bif decide (((([])++([1]:List Int))++([3]:List Int)).length+([4]:List Int).length≤LIM) then some (((([])++([1]:List Int))++([3]:List Int))++([4]:List Int)) else none else some ((([])++([1]:List Int))++([3]:List Int)) else none else bif decide (2<late) then bif decide ((([])++([1]:List Int)).length+([4]:List Int).length≤LIM) then some ((([])++([1]:List Int))++([4]:List Int)) else none else some (([])++([1]:List Int)) else none else bif decide (p.Until<day) then bif decide (([]:List Int).length+([2]:List Int).length≤LIM) then bif decide (1000<a8z) then bif decide ((([])++([2]:List Int)).length+([3]:List Int).length≤LIM) then bif decide (2<late) then bif decide (((([])++([2]:List Int))++([3]:List Int)).length+([4]:List Int).length≤LIM) then some (((([])++([2]:List Int))++([3]:List Int))++([4]:List Int)) else none else some ((([])++([2]:List Int))++([3]:List Int)) else none else bif decide (2<late) then bif decide ((([])++([2]:List Int)).length+([4]:List Int).length≤LIM) then some ((([])++([2]:List Int))++([4]:List Int)) else none else some (([])++([2]:List Int)) else none else bif decide (1000<a8z) then bif decide (([]:List Int).length+([3]:List Int).length≤LIM) then bif decide (2<late) then bif decide ((([])++([3]:List Int)).length+([4]:List Int).length≤LIM) then some ((([])++([3]:List Int))++([4]:List Int)) else none else some (([])++([3]:List Int)) else none else bif decide (2<late) then bif decide (([]:List Int).length+([4]:List Int).length≤LIM) then some (([])++([4]:List Int)) else none else some ([])
def qf7 (c:Circ) (patron:Int):Option Bool:=
 match qcf c.Patrons patron with|some (r1,r2) =>(match qhf c.Charges patron with|some r4 =>(match qhd c.Loans patron c.Today with|some r6 =>(match qgc r1 c.Today r4 r6 with|some r8 =>some (decide (0<(r8.length:Int)))|none =>none)|none =>none)|none =>none)|none =>none
def qhh (r:Rule) (patron:Int) (item:Int) (branch:Int):Option Bool:=
 let k6 (v:Bool):Option Bool:=let k5 (v2:Bool):Option Bool:=let k (v4:Bool):Option Bool:=some v4;bif v2 then bif r.Branch==0 then k true else k (r.Branch==branch) else k false;bif v then bif r.Item==0 then k5 true else k5 (r.Item==item) else k5 false;bif r.Patron==0 then k6 true else k6 (r.Patron==patron)
def qgk (r:Rule):Option Int:=
 let k4 (n:Int):Option Int:=let k3 (n1:Int):Option Int:=let k (n2:Int):Option Int:=some n2;bif !(r.Branch==0) then k (wr .i64 (n1+1)) else k n1;bif !(r.Item==0) then k3 (wr .i64 (n+2)) else k3 n;bif !(r.Patron==0) then k4 4 else k4 0
def b9k:((List Rule)×Int×Int×Int×Int×Int×Unit)→Option (((List Rule)×Int×Int×Int×Int×Int×Unit)⊕((Int×Unit))):=fun (l,patron,item,branch,best,i,_)=>
 bif decide (i<(l.length:Int)) then match m6 l i with|some x =>(match qhh x patron item branch with|some r1 =>let k10 (v8:Bool):Option (((List Rule)×Int×Int×Int×Int×Int×Unit)⊕((Int×Unit))):=let k (best9:Int):Option (((List Rule)×Int×Int×Int×Int×Int×Unit)⊕((Int×Unit))):=some (.inl (l,patron,item,branch,best9,wr .i64 (i+1),()));bif v8 then k i else k best;bif r1 then bif decide (best<0) then k10 true else match m6 l i with|some x2 =>(match qgk x2 with|some r4 =>(match m6 l best with|some x5 =>(match qgk x5 with|some r7 =>k10 (decide (r7<r4))|none =>none)|none =>none)|none =>none)|none =>none else k10 false|none =>none)|none =>none else some (.inr ((best,())))
def qgv (l:List Rule) (patron:Int) (item:Int) (branch:Int):Option Int:=
 match b9 b9k (l,patron,item,branch,(-1),0,()) with|some ((best,_)) =>some best|none =>none
def qhi (l:List Rule) (patron:Int) (item:Int) (branch:Int):Option (Rule×Bool):=
 match qgv l patron item branch with|some r1 =>(bif decide (r1<0) then some ((⟨0,0,0,0,0,0,0,0,0,0,0,0,0⟩:Rule),false) else match m6 l r1 with|some x =>some (x,true)|none =>none)|none =>none
def qgz (c:Circ) (patron:Int) (x:Item):Option (Rule×Bool):=
 match qcf c.Patrons patron with|some (r1,r2) =>(bif !r2 then some ((⟨0,0,0,0,0,0,0,0,0,0,0,0,0⟩:Rule),false) else match qhi c.Rules r1.Kind x.Kind x.Branch with|some (r4,r5) =>some (r4,r5)|none =>none)|none =>none
def c6i:((List Loan)×Int×Int×(List Loan)×Unit)→Option (((List Loan)×Int×Int×(List Loan)×Unit)⊕(((List Loan)×Unit))):=fun (l,patron,i,l1,_)=>
 bif decide (i<(l.length:Int)) then match m6 l i with|some x =>bif x.Patron==patron then match m6 l i with|some x2 =>bif decide (l1.length+([x2]:List Loan).length≤LIM) then some (.inl (l,patron,wr .i64 (i+1),l1++([x2]:List Loan),())) else none|none =>none else some (.inl (l,patron,wr .i64 (i+1),l1,()))|none =>none else some (.inr ((l1,())))
def qht (l:List Loan) (patron:Int):Option (List Loan):=
 match b9 c6i (l,patron,0,[],()) with|some ((l3,_)) =>some l3|none =>none
def qhl (c:Circ) (branch:Int):Option Calendar:=
 let k (v:Int) (v1:List Int):Option Calendar:=some (⟨v,v1⟩:Calendar);bif (wr .i64 (branch-1))==0 then k c.Cals.x0.Week c.Cals.x0.Closed else bif (wr .i64 (branch-1))==1 then k c.Cals.x1.Week c.Cals.x1.Closed else bif (wr .i64 (branch-1))==2 then k c.Cals.x2.Week c.Cals.x2.Closed else bif (wr .i64 (branch-1))==3 then k c.Cals.x3.Week c.Cals.x3.Closed else none
def qhu (day:Int):Option Bool:=
 let k (v:Bool):Option Bool:=some v;bif decide (0≤day) then k (decide (day≤109572)) else k false
def qgd (day:Int):Option Int:=
 match qhu day with|some r1 =>bif !r1 then some (-1) else some (day.tmod 7)|none =>none
def c6f:(Int×Int×Int×Int×Calendar×Unit)→Option ((Int×Int×Int×Int×Calendar×Unit)⊕((Int×Int×Calendar×Unit))):=fun (day,bit,w,i,c,_)=>
 bif decide (i<w) then some (.inl (day,wr .i64 (bit.tdiv 2),w,wr .i64 (i+1),c,())) else some (.inr ((day,bit,c,())))
def b1b:(Int×Int×Calendar×Unit)→Option ((Int×Int×Calendar×Unit)⊕((Unit)⊕(Bool×Unit))):=fun (day,i,c,_)=>
 bif decide (i<(c.Closed.length:Int)) then match m6 c.Closed i with|some x =>bif x==day then some (.inr (.inr (false,()))) else some (.inl (day,wr .i64 (i+1),c,()))|none =>none else some (.inr (.inl (())))
def qhj (c:Calendar) (day:Int):Option Bool:=
 let k (v:Bool):Option Bool:=bif v then some false else match qgd day with|some r1 =>(match b9 c6f (day,c.Week,r1,0,c,()) with|some ((h8k,bit,c3,_)) =>(bif (bit.tmod 2)==1 then some false else match b9 b1b (h8k,0,c3,()) with|some (.inl (_)) =>some true|some (.inr (v4,_)) =>some v4|none =>none)|none =>none)|none =>none;bif decide (day<0) then k true else k (decide (109572<day))
def b1r:(Int×Calendar×Unit)→Option ((Int×Calendar×Unit)⊕((Unit)⊕(Int×Int×Unit))):=fun (d,c,_)=>
 bif decide (d≤109572) then match qhj c d with|some r1 =>bif r1 then some (.inr (.inr (d,0,()))) else some (.inl (wr .i64 (d+1),c,()))|none =>none else some (.inr (.inl (())))
def qhk (c:Calendar) (day:Int):Option (Int×Int):=
 match b9 b1r ((if day<0 then 0 else day),c,()) with|some (.inl (_)) =>some (0,2)|some (.inr (v,v2,_)) =>some (v,v2)|none =>none
def c56:(Int×Calendar×Unit)→Option ((Int×Calendar×Unit)⊕((Unit)⊕(Int×Int×Unit))):=fun (d,c,_)=>
 bif decide (0≤d) then match qhj c d with|some r1 =>bif r1 then some (.inr (.inr (d,0,()))) else some (.inl (wr .i64 (d-1),c,()))|none =>none else some (.inr (.inl (())))
def qgl (c:Calendar) (day:Int):Option (Int×Int):=
 match b9 c56 ((if 109572<day then 109572 else day),c,()) with|some (.inl (_)) =>some (0,2)|some (.inr (v,v2,_)) =>some (v,v2)|none =>none
def qhs (r:Rule) (c:Calendar) (day:Int) (vuntil:Int):Option (Int×Int):=
 match qbi day 0 109572 with|some r2 =>(let k16 (v:Bool):Option (Int×Int):=bif v then some (0,2) else bif r.Days==0 then some (0,15) else let k15 (last:Int):Option (Int×Int):=bif decide (last≤day) then some (0,15) else match qhk c (if last<wr .i64 (day+r.Days) then last else wr .i64 (day+r.Days)) with|some (r6,r7) =>let k14 (v8:Bool):Option (Int×Int):=let k13 (d:Int) (e:Int):Option (Int×Int):=let k (v12:Bool):Option (Int×Int):=bif v12 then some (0,15) else some (d,0);bif !(e==0) then k true else k (decide (d≤day));bif v8 then match qgl c last with|some (r10,r11) =>k13 r10 r11|none =>none else k13 r6 r7;bif !(r7==0) then k14 true else k14 (decide (last<r6))|none =>none;bif decide (0<r.Fixed) then k15 (if r.Fixed<vuntil then r.Fixed else vuntil) else k15 vuntil;bif !r2 then k16 true else match qbi vuntil 0 109572 with|some r4 =>k16 (!r4)|none =>none)|none =>none
def qf5 (c:Circ) (item:Int) (patron:Int) (branch:Int):Option (Int×Int):=
 match qt c item with|some r1 =>(match qcf c.Patrons patron with|some (r3,r4) =>let k30 (v:Bool):Option (Int×Int):=bif v then some (0,9) else match m6 c.Items r1 with|some x =>let k29 (v5:Bool):Option (Int×Int):=bif v5 then some (0,12) else bif !(x.Custody.Branch==branch) then some (0,1) else let k28 (v6:Bool):Option (Int×Int):=bif v6 then some (0,16) else match qg0 c item with|some r8 =>let k27 (v9:Bool):Option (Int×Int):=let k26 (_:Unit):Option (Int×Int):=match qf7 c patron with|some r14 =>(bif r14 then some (0,14) else match qgz c patron x with|some (r16,r17) =>(let k (v20:Bool):Option (Int×Int):=bif v20 then some (0,15) else match qhl c branch with|some r22 =>(match qhs r16 r22 c.Today r3.Until with|some (r24,r25) =>some (r24,r25)|none =>none)|none =>none;bif !r17 then k true else match qht c.Loans patron with|some r19 =>k (decide (r16.Loans≤(r19.length:Int)))|none =>none)|none =>none)|none =>none;bif v9 then match qho c.Holds r8 with|some (r11,r12) =>bif !(r11.Patron==patron) then some (0,16) else k26 ()|none =>none else k26 ();bif x.Custody.State==3 then k27 (!(r8==0)) else k27 false|none =>none;bif x.Custody.State==5 then k28 (!(x.Custody.Who==patron)) else k28 false;bif !(x.Custody.State==3) then k29 (!(x.Custody.State==5)) else k29 false|none =>none;bif decide (r1<0) then k30 true else k30 (!r4)|none =>none)|none =>none
def b1a:(Int×Int×Circ×Circ×Move×Custody×(List Item)×Unit)→Option ((Int×Int×Circ×Circ×Move×Custody×(List Item)×Unit)⊕((Circ×Circ×Move×(List Item)×Unit))):=fun (i,k,c,v,m,u,l,_)=>
 bif decide (k<(c.Items.length:Int)) then match m6 c.Items k with|some x =>let k6 (x5:Item):Option ((Int×Int×Circ×Circ×Move×Custody×(List Item)×Unit)⊕((Circ×Circ×Move×(List Item)×Unit))):=bif decide (l.length+([x5]:List Item).length≤LIM) then some (.inl (i,wr .i64 (k+1),c,v,m,u,l++([x5]:List Item),())) else none;bif k==i then k6 (⟨x.ID,x.Record,x.Branch,x.Kind,x.Price,x.Call,u⟩:Item) else k6 x|none =>none else some (.inr ((c,v,m,l,())))
def qgn (c:Circ) (item:Int) (kind:Int) (branch:Int) (who:Int):Option (Circ×Int):=
 match qt c item with|some r1 =>(match m6 c.Items r1 with|some x =>(match qc0 x.Custody (⟨c.Today,item,kind,branch,who⟩:Move) with|some (r3,r4) =>(bif !(r4==0) then some (ZN,r4) else bif decide (2000≤(c.Moves.length:Int)) then some (ZN,13) else match b9 b1a (r1,0,c,ZN,(⟨c.Today,item,kind,branch,who⟩:Move),r3,([]:List Item),()) with|some ((c7,v,m,l,_)) =>bif decide (c7.Moves.length≤LIM) then bif decide (c7.Moves.length+([m]:List Move).length≤LIM) then some ({c7 with Items:=l,Moves:=c7.Moves++([m]:List Move)},0) else none else none|none =>none)|none =>none)|none =>none)|none =>none
def qgb (l:List Loan):Option ((List Loan)×Int):=
 match qar l with|some r1 =>bif !(r1==0) then some ([],r1) else some (l,0)|none =>none
def b9o:((List Loan)×Int×Loan×Unit)→Option (((List Loan)×Int×Loan×Unit)⊕(((List Loan)×Int×Loan×Unit))):=fun (l,k,n,_)=>
 let k2 (v:Bool):Option (((List Loan)×Int×Loan×Unit)⊕(((List Loan)×Int×Loan×Unit))):=bif v then some (.inl (l,wr .i64 (k+1),n,())) else some (.inr ((l,k,n,())));bif decide (k<(l.length:Int)) then match m6 l k with|some x =>k2 (decide (x.Item<n.Item))|none =>none else k2 false
def qhp (l:List Loan) (n:Loan):Option ((List Loan)×Int):=
 match qam l n.Item with|some r1 =>(bif decide (0≤r1) then some ([],7) else match b9 b9o (l,0,n,()) with|some ((l3,k,n4,_)) =>bif decide (0≤(0:Int))&&(decide ((0:Int)≤k)&&decide (k≤(l3.length:Int))) then bif decide (([]:List Loan).length+((l3.take k.toNat).drop (0:Int).toNat).length≤LIM) then bif decide ((([])++((l3.take k.toNat).drop (0:Int).toNat)).length+([n4]:List Loan).length≤LIM) then bif decide (0≤(k:Int))&&(decide ((k:Int)≤(l3.length:Int))&&decide ((l3.length:Int)≤(l3.length:Int))) then bif decide (((([])++((l3.take k.toNat).drop (0:Int).toNat))++([n4]:List Loan)).length+((l3.take (l3.length:Int).toNat).drop (k:Int).toNat).length≤LIM) then match qgb (((([])++((l3.take k.toNat).drop (0:Int).toNat))++([n4]:List Loan))++((l3.take (l3.length:Int).toNat).drop (k:Int).toNat)) with|some (r6,r7) =>some (r6,r7)|none =>none else none else none else none else none else none|none =>none)|none =>none
def qg2 (h:Hold) (x:Item):Option Bool:=
 let k (v1:Bool):Option Bool:=some v1;bif h.Record==x.Record then bif h.Item==0 then k true else k (h.Item==x.ID) else k false
def c53:((List Hold)×Int×Int×Hold×Hold×(List Hold)×Unit)→Option (((List Hold)×Int×Int×Hold×Hold×(List Hold)×Unit)⊕((Hold×Hold×(List Hold)×Unit))):=fun (l,vid,i,v,h,l3,_)=>
 bif decide (i<(l.length:Int)) then match m6 l i with|some x =>bif !(x.ID==vid) then match m6 l i with|some x4 =>bif decide (l3.length+([x4]:List Hold).length≤LIM) then some (.inl (l,vid,wr .i64 (i+1),v,h,l3++([x4]:List Hold),())) else none|none =>none else some (.inl (l,vid,wr .i64 (i+1),v,h,l3,()))|none =>none else some (.inr ((v,h,l3,())))
def qgh (l:List Hold) (vid:Int):Option ((List Hold)×Hold×Int):=
 match qho l vid with|some (r1,r2) =>(bif !r2 then some ([],(⟨0,0,0,0,0,0,0,0,0,0,0⟩:Hold),9) else match b9 c53 (l,vid,0,(⟨0,0,0,0,0,0,0,0,0,0,0⟩:Hold),r1,([]:List Hold),()) with|some ((v,h,l5,_)) =>some (l5,h,0)|none =>none)|none =>none
def a2s:(Int×Int×Bool×Int×Circ×Circ×Item×Hold×Unit)→Option ((Int×Int×Bool×Int×Circ×Circ×Item×Hold×Unit)⊕((Int×Bool×Circ×Circ×Hold×Unit))):=fun (patron,due,has,i,c,v,x,h,_)=>
 let k20 (v14:Bool):Option ((Int×Int×Bool×Int×Circ×Circ×Item×Hold×Unit)⊕((Int×Bool×Circ×Circ×Hold×Unit))):=bif v14 then match m6 c.Holds i with|some x15 =>let k19 (v16:Bool):Option ((Int×Int×Bool×Int×Circ×Circ×Item×Hold×Unit)⊕((Int×Bool×Circ×Circ×Hold×Unit))):=let k (v18:Bool):Option ((Int×Int×Bool×Int×Circ×Circ×Item×Hold×Unit)⊕((Int×Bool×Circ×Circ×Hold×Unit))):=some (.inl (patron,due,v18,wr .i64 (i+1),c,v,x,x15,()));bif v16 then match qg2 x15 x with|some r17 =>k r17|none =>none else k false;bif x15.Patron==patron then k19 (x15.State==1) else k19 false|none =>none else some (.inr ((due,has,c,v,h,())));bif decide (i<(c.Holds.length:Int)) then k20 (!has) else k20 false
def qg7 (c:Circ) (item:Int) (patron:Int) (branch:Int):Option (Circ×Int×Int):=
 match qf5 c item patron branch with|some (r1,r2) =>(bif !(r2==0) then some (ZN,0,r2) else match qt c item with|some r4 =>(match m6 c.Items r4 with|some x =>(match qgn c item 3 branch patron with|some (r6,r7) =>(bif !(r7==0) then some (ZN,0,r7) else match qhp r6.Loans (⟨item,patron,r6.Today,r1,0,false⟩:Loan) with|some (r9,r10) =>(bif !(r10==0) then some (ZN,0,r10) else match qaw {r6 with Loans:=r9} item with|some (r12,r13) =>(match b9 a2s (patron,r1,r13,0,{r6 with Loans:=r9},ZN,x,r12,()) with|some ((due,has,c21,v,h,_)) =>let k (c26:List Hold):Option (Circ×Int×Int):=some ({c21 with Holds:=c26},due,0);bif has then match qgh c21.Holds h.ID with|some (r23,r24,r25) =>bif !(r25==0) then some (ZN,0,r25) else k r23|none =>none else k c21.Holds|none =>none)|none =>none)|none =>none)|none =>none)|none =>none)|none =>none)|none =>none
def qhe (l:List Loan) (item:Int):Option ((List Loan)×Loan×Int):=
 match qam l item with|some r1 =>bif decide (r1<0) then some ([],(⟨0,0,0,0,0,false⟩:Loan),9) else bif decide (0≤(0:Int))&&(decide ((0:Int)≤r1)&&decide (r1≤(l.length:Int))) then bif decide (([]:List Loan).length+((l.take r1.toNat).drop (0:Int).toNat).length≤LIM) then bif decide (0≤(wr .i64 (r1+1):Int))&&(decide ((wr .i64 (r1+1):Int)≤(l.length:Int))&&decide ((l.length:Int)≤(l.length:Int))) then bif decide ((([])++((l.take r1.toNat).drop (0:Int).toNat)).length+((l.take (l.length:Int).toNat).drop (wr .i64 (r1+1):Int).toNat).length≤LIM) then match m6 l r1 with|some x =>some ((([])++((l.take r1.toNat).drop (0:Int).toNat))++((l.take (l.length:Int).toNat).drop (wr .i64 (r1+1):Int).toNat),x,0)|none =>none else none else none else none else none|none =>none
def b9m:(Int×Int×Int×Calendar×Unit)→Option ((Int×Int×Int×Calendar×Unit)⊕((Int×Unit))):=fun (vto,n,d,c,_)=>
 bif decide (d≤(if 109572<vto then 109572 else vto)) then match qhj c d with|some r1 =>let k (n2:Int):Option ((Int×Int×Int×Calendar×Unit)⊕((Int×Unit))):=some (.inl (vto,n2,wr .i64 (d+1),c,()));bif r1 then k (wr .i64 (n+1)) else k n|none =>none else some (.inr ((n,())))
def qgy (c:Calendar) (vfrom:Int) (vto:Int):Option Int:=
 match b9 b9m (vto,0,(if vfrom<0 then 0 else vfrom),c,()) with|some ((n,_)) =>some n|none =>none
def qhg (r:Rule) (c:Calendar) (due:Int) (back:Int):Option Int:=
 match qx c with|some r2 =>(let k10 (v:Bool):Option Int:=let k (v7:Bool):Option Int:=bif v7 then some 0 else match qgy c (wr .i64 (due+1)) back with|some r9 =>bif decide (r9≤r.Grace) then some 0 else some (if r.MaxFine<wr .i64 (r9*r.Fine) then r.MaxFine else wr .i64 (r9*r.Fine))|none =>none;bif v then k true else match qfc back with|some r6 =>k (!r6)|none =>none;bif !(r2==0) then k10 true else match qfc due with|some r4 =>k10 (!r4)|none =>none)|none =>none
def c6h:((List Charge)×Int×Charge×(List Charge)×Unit)→Option (((List Charge)×Int×Charge×(List Charge)×Unit)⊕((Charge×(List Charge)×Unit))):=fun (l,i,c,l1,_)=>
 bif decide (i<(l.length:Int)) then match m6 l i with|some x =>bif decide (l1.length+([x]:List Charge).length≤LIM) then some (.inl (l,wr .i64 (i+1),c,l1++([x]:List Charge),())) else none|none =>none else some (.inr ((c,l1,())))
def qhr (l:List Charge) (c:Charge):Option ((List Charge)×Int):=
 match b9 c6h (l,0,c,([]:List Charge),()) with|some ((c2,l3,_)) =>bif decide (l3.length+([c2]:List Charge).length≤LIM) then match qa3 (l3++([c2]:List Charge)) with|some r4 =>bif !(r4==0) then some ([],r4) else some (l3++([c2]:List Charge),0)|none =>none else none|none =>none
def qf6 (c:Circ) (patron:Int) (item:Int) (kind:Int) (amount:Int):Option (Circ×Int):=
 bif decide (99999<c.NextCharge) then some (ZN,13) else match qhr c.Charges (⟨c.NextCharge,patron,item,c.Today,kind,amount,0⟩:Charge) with|some (r1,r2) =>bif !(r2==0) then some (ZN,r2) else some ({c with Charges:=r1,NextCharge:=wr .i64 (c.NextCharge+1)},0)|none =>none
def c55:((List Charge)×Int×Int×Int×Int×Int×(List Charge)×Unit)→Option (((List Charge)×Int×Int×Int×Int×Int×(List Charge)×Unit)⊕((Int×(List Charge)×Unit))):=fun (l,patron,item,kind,paid,i,l1,_)=>
 bif decide (i<(l.length:Int)) then match m6 l i with|some x =>let k4 (v:Bool):Option (((List Charge)×Int×Int×Int×Int×Int×(List Charge)×Unit)⊕((Int×(List Charge)×Unit))):=let k (v3:Bool):Option (((List Charge)×Int×Int×Int×Int×Int×(List Charge)×Unit)⊕((Int×(List Charge)×Unit))):=bif v3 then some (.inl (l,patron,item,kind,wr .i64 (paid+x.Paid),wr .i64 (i+1),l1,())) else bif decide (l1.length+([x]:List Charge).length≤LIM) then some (.inl (l,patron,item,kind,paid,wr .i64 (i+1),l1++([x]:List Charge),())) else none;bif v then bif kind==0 then k true else k (x.Kind==kind) else k false;bif x.Patron==patron then k4 (x.Item==item) else k4 false|none =>none else some (.inr ((paid,l1,())))
def qgj (l:List Charge) (patron:Int) (item:Int) (kind:Int):Option ((List Charge)×Int):=
 match b9 c55 (l,patron,item,kind,0,0,([]:List Charge),()) with|some ((paid,l5,_)) =>some (l5,paid)|none =>none
def qf2 (c:Circ) (item:Int) (branch:Int):Option (Circ×Int):=
 match qgn c item 4 branch 0 with|some (r1,r2) =>(bif !(r2==0) then some (ZN,r2) else match qhe r1.Loans item with|some (r4,r5,r6) =>(bif !(r6==0) then some (ZN,r6) else match qt {r1 with Loans:=r4} item with|some r8 =>(match m6 r1.Items r8 with|some x =>(match qgz {r1 with Loans:=r4} r5.Patron x with|some (r10,r11) =>let k23 (fine:Int):Option (Circ×Int):=let k (c19:Circ):Option (Circ×Int):=match qgj c19.Charges r5.Patron item 2 with|some (r21,r22) =>some ({c19 with Charges:=r21},0)|none =>none;bif decide (0<fine) then match qf6 {r1 with Loans:=r4} r5.Patron item 1 fine with|some (r17,r18) =>bif !(r18==0) then some (ZN,r18) else k r17|none =>none else k {r1 with Loans:=r4};bif r11 then match qhl {r1 with Loans:=r4} branch with|some r13 =>(match qhg r10 r13 r5.Due r1.Today with|some r15 =>k23 r15|none =>none)|none =>none else k23 0|none =>none)|none =>none)|none =>none)|none =>none)|none =>none
def b9l:(Int×Int×Int×Calendar×Unit)→Option ((Int×Int×Int×Calendar×Unit)⊕((Int×Unit)⊕(Int×Int×Unit))):=fun (n,d,i,c,_)=>
 bif decide (i<n) then match qhk c (wr .i64 (d+1)) with|some (r4,r5) =>bif !(r5==0) then some (.inr (.inr (0,r5,()))) else some (.inl (n,r4,wr .i64 (i+1),c,()))|none =>none else some (.inr (.inl (d,())))
def qgx (c:Calendar) (day:Int) (n:Int):Option (Int×Int):=
 let k8 (v:Bool):Option (Int×Int):=bif v then some (0,1) else let k (v1:Bool):Option (Int×Int):=bif v1 then some (0,2) else bif n==0 then match qhk c day with|some (r2,r3) =>some (r2,r3)|none =>none else match b9 b9l (n,day,0,c,()) with|some (.inl (d,_)) =>some (d,0)|some (.inr (v6,v7,_)) =>some (v6,v7)|none =>none;bif decide (day<0) then k true else k (decide (109572<day));bif decide (n<0) then k8 true else k8 (decide (1000<n))
def c6a:((List Hold)×Int×Hold×(List Hold)×Unit)→Option (((List Hold)×Int×Hold×(List Hold)×Unit)⊕(((List Hold)×Unit))):=fun (l,i,h,l1,_)=>
 bif decide (i<(l.length:Int)) then match m6 l i with|some x =>(let k (l3:List Hold):Option (((List Hold)×Int×Hold×(List Hold)×Unit)⊕(((List Hold)×Unit))):=some (.inl (l,wr .i64 (i+1),h,l3,()));bif x.ID==h.ID then bif decide (l1.length+([h]:List Hold).length≤LIM) then k (l1++([h]:List Hold)) else none else match m6 l i with|some x2 =>bif decide (l1.length+([x2]:List Hold).length≤LIM) then k (l1++([x2]:List Hold)) else none|none =>none)|none =>none else some (.inr ((l1,())))
def qha (l:List Hold) (h:Hold):Option (List Hold):=
 match b9 c6a (l,0,h,([]:List Hold),()) with|some ((l4,_)) =>some l4|none =>none
def c59:((List Hold)×Int×Int×Int×Int×Int×Hold×Unit)→Option (((List Hold)×Int×Int×Int×Int×Int×Hold×Unit)⊕(((List Hold)×Int×Int×Int×Hold×Unit)⊕((List Hold)×Int×Unit))):=fun (l,number,item,state,vuntil,i,h,_)=>
 bif decide (i<(l.length:Int)) then match m6 l i with|some x =>let k (v:Bool):Option (((List Hold)×Int×Int×Int×Int×Int×Hold×Unit)⊕(((List Hold)×Int×Int×Int×Hold×Unit)⊕((List Hold)×Int×Unit))):=bif v then some (.inr (.inr ([],7,()))) else some (.inl (l,number,item,state,vuntil,wr .i64 (i+1),h,()));bif !(x.ID==number) then match m6 l i with|some x16 =>k (x16.Got==item)|none =>none else k false|none =>none else some (.inr (.inl (l,item,state,vuntil,h,())))
def qgt (l:List Hold) (number:Int) (item:Int) (state:Int) (vuntil:Int):Option ((List Hold)×Int):=
 match qho l number with|some (r1,r2) =>(bif !r2 then some ([],9) else match qen item with|some r4 =>let k28 (v5:Bool):Option ((List Hold)×Int):=let k27 (v10:Bool):Option ((List Hold)×Int):=let k26 (v12:Bool):Option ((List Hold)×Int):=bif v12 then some ([],1) else let k25 (v15:Bool):Option ((List Hold)×Int):=bif v15 then some ([],12) else match b9 c59 (l,number,item,state,vuntil,0,r1,()) with|some (.inl (l17,item18,state19,vuntil20,h,_)) =>(match qha l17 (⟨h.ID,h.Patron,h.Record,h.Item,h.Pickup,h.Placed,state19,item18,vuntil20,h.Asleep,h.Rank⟩:Hold) with|some r22 =>some (r22,0)|none =>none)|some (.inr (v23,v24,_)) =>some (v23,v24)|none =>none;bif !(r1.State==1) then let k (v13:Bool):Option ((List Hold)×Int):=bif v13 then k25 true else k25 (!(state==3));bif !(r1.State==2) then k true else k (!(r1.Got==item)) else k25 false;bif v10 then k26 true else bif state==2 then k26 (!(vuntil==0)) else k26 false;bif v5 then k27 true else bif state==3 then bif decide (vuntil<1) then k27 true else match qe2 vuntil with|some r7 =>k27 (!r7)|none =>none else k27 false;bif !r4 then k28 true else bif !(state==2) then k28 (!(state==3)) else k28 false|none =>none)|none =>none
def qgm (c:Circ) (item:Int) (h:Hold):Option (Circ×Int):=
 match qt c item with|some r1 =>(match m6 c.Items r1 with|some x =>(match qgz c h.Patron x with|some (r3,r4) =>let k (days:Int):Option (Circ×Int):=match qgn c item 5 x.Custody.Branch h.Patron with|some (r6,r7) =>(bif !(r7==0) then some (ZN,r7) else match qhl r6 x.Custody.Branch with|some r9 =>(match qgx r9 r6.Today days with|some (r11,r12) =>(bif !(r12==0) then some (ZN,r12) else match qgt r6.Holds h.ID item 3 r11 with|some (r14,r15) =>bif !(r15==0) then some (ZN,r15) else some ({r6 with Holds:=r14},0)|none =>none)|none =>none)|none =>none)|none =>none;bif r4 then k r3.Shelf else k 7|none =>none)|none =>none)|none =>none
def qg3 (c:Circ) (item:Int):Option (Circ×Int):=
 match qt c item with|some r1 =>(match m6 c.Items r1 with|some x =>(match qg0 c item with|some r3 =>(let k (v:Int) (v10:Circ):Option (Circ×Int):=some (v10,v);bif r3==0 then bif !(x.Branch==x.Custody.Branch) then match qgn c item 6 x.Branch 0 with|some (r5,r6) =>k r6 r5|none =>none else bif x.Custody.State==3 then k 0 c else match qgn c item 2 x.Custody.Branch 0 with|some (r8,r9) =>k r9 r8|none =>none else match qho c.Holds r3 with|some (r12,r13) =>(bif r12.Pickup==x.Custody.Branch then match qgm c item r12 with|some (r15,r16) =>some (r15,r16)|none =>none else match qgn c item 6 r12.Pickup r12.Patron with|some (r18,r19) =>(bif !(r19==0) then some (ZN,r19) else match qgt r18.Holds r3 item 2 0 with|some (r21,r22) =>bif !(r22==0) then some (ZN,r22) else some ({r18 with Holds:=r21},0)|none =>none)|none =>none)|none =>none)|none =>none)|none =>none)|none =>none
def qg9 (c:Circ) (item:Int) (branch:Int):Option (Circ×Int×Int):=
 match qt c item with|some r1 =>(bif decide (r1<0) then some (ZN,0,9) else match m6 c.Items r1 with|some x =>(match qer x.Custody with|some r3 =>let k38 (e21:Int) (c22:Circ):Option (Circ×Int×Int):=bif !(e21==0) then some (ZN,0,e21) else match qaw c22 item with|some (r24,r25) =>(let k37 (e32:Int) (c33:Circ):Option (Circ×Int×Int):=bif !(e32==0) then some (ZN,0,e32) else match qaw c33 item with|some (r35,r36) =>some (c33,r35.ID,0)|none =>none;bif r25 then match qgm c22 item r24 with|some (r27,r28) =>k37 r28 r27|none =>none else match qg3 c22 item with|some (r30,r31) =>k37 r31 r30|none =>none)|none =>none;bif r3 then let k (v:Bool):Option (Circ×Int×Int):=bif v then some (ZN,0,1) else match qf2 c item branch with|some (r5,r6) =>k38 r6 r5|none =>none;bif decide (branch<1) then k true else k (decide (4<branch)) else bif x.Custody.State==8 then match qgn c item 4 branch 0 with|some (r8,r9) =>k38 r9 r8|none =>none else bif x.Custody.State==11 then match qgn c item 14 branch 0 with|some (r11,r12) =>k38 r12 r11|none =>none else bif x.Custody.State==6 then match qgn c item 7 branch 0 with|some (r14,r15) =>k38 r15 r14|none =>none else k38 12 c|none =>none)|none =>none)|none =>none
def qgw (r:Rule) (c:Calendar) (n:Loan) (day:Int) (vuntil:Int):Option (Int×Int):=
 let k (v:Bool):Option (Int×Int):=bif v then some (0,15) else match qhs r c day vuntil with|some (r2,r3) =>bif !(r3==0) then some (0,r3) else bif decide (r2≤n.Due) then some (0,15) else some (r2,0)|none =>none;bif decide (r.Renewals≤n.Renewals) then k true else k n.Recalled
def qgu (l:List Loan) (item:Int) (due:Int):Option ((List Loan)×Int):=
 match qam l item with|some r1 =>(bif decide (r1<0) then some ([],9) else match m6 l r1 with|some x =>bif x.Recalled then some ([],12) else bif decide (([]:List Loan).length+l.length≤LIM) then match m6 (([])++l) r1 with|some _ =>(match (([])++l)[r1.toNat]? with|some x2 =>(match m6 l r1 with|some x3 =>(match m6 ((([])++l).set r1.toNat (⟨x2.Item,x2.Patron,x2.Out,due,x2.Renewals,x2.Recalled⟩:Loan)) r1 with|some _ =>(match ((([])++l).set r1.toNat (⟨x2.Item,x2.Patron,x2.Out,due,x2.Renewals,x2.Recalled⟩:Loan))[r1.toNat]? with|some x4 =>(match qgb (((([])++l).set r1.toNat (⟨x2.Item,x2.Patron,x2.Out,due,x2.Renewals,x2.Recalled⟩:Loan)).set r1.toNat (⟨x4.Item,x4.Patron,x4.Out,x4.Due,wr .i64 (x3.Renewals+1),x4.Recalled⟩:Loan)) with|some (r6,r7) =>some (r6,r7)|none =>none)|none =>none)|none =>none)|none =>none)|none =>none)|none =>none else none|none =>none)|none =>none
def a8c:(Int×Int×Circ×Circ×Loan×Item×Unit)→Option ((Int×Int×Circ×Circ×Loan×Item×Unit)⊕((Int×Circ×Circ×Loan×Item×Unit)⊕(Int×Int×Circ×Unit))):=fun (item,i,c,v,n,x,_)=>
 bif decide (i<(c.Holds.length:Int)) then match m6 c.Holds i with|some x7 =>let k11 (v8:Bool):Option ((Int×Int×Circ×Circ×Loan×Item×Unit)⊕((Int×Circ×Circ×Loan×Item×Unit)⊕(Int×Int×Circ×Unit))):=let k (v10:Bool):Option ((Int×Int×Circ×Circ×Loan×Item×Unit)⊕((Int×Circ×Circ×Loan×Item×Unit)⊕(Int×Int×Circ×Unit))):=bif v10 then some (.inr (.inr (0,16,ZN,()))) else some (.inl (item,wr .i64 (i+1),c,v,n,x,()));bif v8 then match qg2 x7 x with|some r9 =>k r9|none =>none else k false;bif x7.State==1 then k11 (decide (x7.Asleep≤c.Today)) else k11 false|none =>none else some (.inr (.inl (item,c,v,n,x,())))
def qgp (c:Circ) (item:Int):Option (Circ×Int×Int):=
 match qdz c.Loans item with|some (r1,r2) =>(bif !r2 then some (ZN,0,9) else match qt c item with|some r4 =>(match m6 c.Items r4 with|some x =>(bif !(x.Custody.State==4) then some (ZN,0,12) else match qf7 c r1.Patron with|some r6 =>(bif r6 then some (ZN,0,14) else match b9 a8c (item,0,c,ZN,r1,x,()) with|some (.inl (item12,c13,v,n,x14,_)) =>(match qgz c13 n.Patron x14 with|some (r16,r17) =>(bif !r17 then some (ZN,0,15) else match qcf c13.Patrons n.Patron with|some (r19,r20) =>(match qhl c13 x14.Custody.Branch with|some r22 =>(match qgw r16 r22 n c13.Today r19.Until with|some (r24,r25) =>(bif !(r25==0) then some (ZN,0,r25) else match qgu c13.Loans item12 r24 with|some (r27,r28) =>bif !(r28==0) then some (ZN,0,r28) else some ({c13 with Loans:=r27},r24,0)|none =>none)|none =>none)|none =>none)|none =>none)|none =>none)|some (.inr (v29,v30,v31,_)) =>some (v31,v29,v30)|none =>none)|none =>none)|none =>none)|none =>none)|none =>none
def qgi (l:List Loan) (item:Int) (due:Int):Option ((List Loan)×Int):=
 match qam l item with|some r1 =>(bif decide (r1<0) then some ([],9) else match m6 l r1 with|some x =>bif x.Recalled then some ([],12) else let k12 (v:Bool):Option ((List Loan)×Int):=bif v then some ([],2) else bif decide (([]:List Loan).length+l.length≤LIM) then match m6 (([])++l) r1 with|some _ =>(match (([])++l)[r1.toNat]? with|some x2 =>(match m6 l r1 with|some x3 =>let k11 (l5:List Loan):Option ((List Loan)×Int):=match m6 l5 r1 with|some _ =>(match l5[r1.toNat]? with|some x6 =>(match m6 l r1 with|some x7 =>let k (l10:List Loan):Option ((List Loan)×Int):=some (l10,0);bif decide (x6.Due<x7.Out) then match m6 l r1 with|some x8 =>(match m6 l5 r1 with|some _ =>(match l5[r1.toNat]? with|some x9 =>k (l5.set r1.toNat (⟨x9.Item,x9.Patron,x9.Out,x8.Out,x9.Renewals,x9.Recalled⟩:Loan))|none =>none)|none =>none)|none =>none else k l5|none =>none)|none =>none)|none =>none;bif decide (due<x3.Due) then match m6 ((([])++l).set r1.toNat (⟨x2.Item,x2.Patron,x2.Out,x2.Due,x2.Renewals,true⟩:Loan)) r1 with|some _ =>(match ((([])++l).set r1.toNat (⟨x2.Item,x2.Patron,x2.Out,x2.Due,x2.Renewals,true⟩:Loan))[r1.toNat]? with|some x4 =>k11 (((([])++l).set r1.toNat (⟨x2.Item,x2.Patron,x2.Out,x2.Due,x2.Renewals,true⟩:Loan)).set r1.toNat (⟨x4.Item,x4.Patron,x4.Out,due,x4.Renewals,x4.Recalled⟩:Loan))|none =>none)|none =>none else k11 ((([])++l).set r1.toNat (⟨x2.Item,x2.Patron,x2.Out,x2.Due,x2.Renewals,true⟩:Loan))|none =>none)|none =>none)|none =>none else none;bif decide (due<0) then k12 true else k12 (decide (109572<due))|none =>none)|none =>none
def b5s:(Int×Circ×Circ×Hold×Loan×Unit)→Option ((Int×Circ×Circ×Hold×Loan×Unit)⊕((Circ×Circ×Loan×Unit))):=fun (i,c,v,h,best,_)=>
 bif decide (i<(c.Items.length:Int)) then match m6 c.Items i with|some x =>(match qdz c.Loans x.ID with|some (r3,r4) =>let k16 (v5:Bool):Option ((Int×Circ×Circ×Hold×Loan×Unit)⊕((Circ×Circ×Loan×Unit))):=let k15 (v8:Bool):Option ((Int×Circ×Circ×Hold×Loan×Unit)⊕((Circ×Circ×Loan×Unit))):=let k14 (v9:Bool):Option ((Int×Circ×Circ×Hold×Loan×Unit)⊕((Circ×Circ×Loan×Unit))):=let k13 (v11:Bool):Option ((Int×Circ×Circ×Hold×Loan×Unit)⊕((Circ×Circ×Loan×Unit))):=let k (best12:Loan):Option ((Int×Circ×Circ×Hold×Loan×Unit)⊕((Circ×Circ×Loan×Unit))):=some (.inl (wr .i64 (i+1),c,v,h,best12,()));bif v11 then k r3 else k best;bif v9 then bif best.Item==0 then k13 true else k13 (decide (r3.Due<best.Due)) else k13 false;bif v8 then k14 (!r3.Recalled) else k14 false;bif v5 then match qg2 h x with|some r7 =>k15 r7|none =>none else k15 false;bif r4 then k16 (x.Custody.State==4) else k16 false|none =>none)|none =>none else some (.inr ((c,v,best,())))
def qgf (c:Circ) (vid:Int):Option (Circ×Int×Int):=
 match qho c.Holds vid with|some (r1,r2) =>(bif !r2 then some (ZN,0,9) else bif !(r1.State==1) then some (ZN,0,12) else match b9 b5s (0,c,ZN,r1,(⟨0,0,0,0,0,false⟩:Loan),()) with|some ((c17,v,best,_)) =>(bif best.Item==0 then some (ZN,0,9) else match qt c17 best.Item with|some r19 =>(match m6 c17.Items r19 with|some x =>(match qgz c17 best.Patron x with|some (r21,r22) =>(bif !r22 then some (ZN,0,15) else match qhl c17 x.Custody.Branch with|some r24 =>(match qgx r24 c17.Today r21.Recall with|some (r26,r27) =>(bif !(r27==0) then some (ZN,0,r27) else match qgi c17.Loans best.Item r26 with|some (r29,r30) =>bif !(r30==0) then some (ZN,0,r30) else some ({c17 with Loans:=r29},best.Item,0)|none =>none)|none =>none)|none =>none)|none =>none)|none =>none)|none =>none)|none =>none)|none =>none
def qf8 (c:Circ) (item:Int) (branch:Int):Option (Circ×Int):=
 match qt c item with|some r1 =>(bif decide (r1<0) then some (ZN,9) else match qgn c item 1 branch 0 with|some (r3,r4) =>(bif !(r4==0) then some (ZN,r4) else match qg3 r3 item with|some (r6,r7) =>some (r6,r7)|none =>none)|none =>none)|none =>none
def qf9 (c:Circ) (item:Int) (vout:Bool):Option (Circ×Int):=
 match qt c item with|some r1 =>(bif decide (r1<0) then some (ZN,9) else bif vout then match m6 c.Items r1 with|some x =>(match qgn c item 8 x.Custody.Branch 0 with|some (r3,r4) =>some (r3,r4)|none =>none)|none =>none else match m6 c.Items r1 with|some x5 =>(match qgn c item 9 x5.Branch 0 with|some (r7,r8) =>(bif !(r8==0) then some (ZN,r8) else match qg3 r7 item with|some (r10,r11) =>some (r10,r11)|none =>none)|none =>none)|none =>none)|none =>none
def c52:(Int×Int×Int×Circ×Item×Unit)→Option ((Int×Int×Int×Circ×Item×Unit)⊕((Item×Unit)⊕(Bool×Item×Unit))):=fun (record,item,i,c,v,_)=>
 bif decide (i<(c.Items.length:Int)) then match m6 c.Items i with|some x =>let k4 (v1:Bool):Option ((Int×Int×Int×Circ×Item×Unit)⊕((Item×Unit)⊕(Bool×Item×Unit))):=let k (v3:Bool):Option ((Int×Int×Int×Circ×Item×Unit)⊕((Item×Unit)⊕(Bool×Item×Unit))):=bif v3 then some (.inr (.inr (true,x,()))) else some (.inl (record,item,wr .i64 (i+1),c,v,()));bif v1 then bif item==0 then k true else k (x.ID==item) else k false;bif x.Record==record then k4 (!(x.Custody.State==12)) else k4 false|none =>none else some (.inr (.inl (v,())))
def qge (c:Circ) (record:Int) (item:Int):Option (Item×Bool):=
 match b9 c52 (record,item,0,c,(⟨0,0,0,0,0,[],⟨0,0,0,0⟩⟩:Item),()) with|some (.inl (v,_)) =>some ((⟨0,0,0,0,0,[],⟨0,0,0,0⟩⟩:Item),false)|some (.inr (v5,v6,_)) =>some (v6,v5)|none =>none
def c58:((List Hold)×Int×Hold×(List Hold)×Unit)→Option (((List Hold)×Int×Hold×(List Hold)×Unit)⊕((Hold×(List Hold)×Unit))):=fun (l,i,h,l2,_)=>
 bif decide (i<(l.length:Int)) then match m6 l i with|some x =>bif decide (l2.length+([x]:List Hold).length≤LIM) then some (.inl (l,wr .i64 (i+1),h,l2++([x]:List Hold),())) else none|none =>none else some (.inr ((h,l2,())))
def qgs (l:List Hold) (h:Hold):Option ((List Hold)×Int):=
 let k6 (v:Bool):Option ((List Hold)×Int):=let k (v1:Bool):Option ((List Hold)×Int):=bif v1 then some ([],12) else match b9 c58 (l,0,h,([]:List Hold),()) with|some ((h3,l4,_)) =>bif decide (l4.length+([h3]:List Hold).length≤LIM) then match ql (l4++([h3]:List Hold)) with|some r5 =>bif !(r5==0) then some ([],r5) else some (l4++([h3]:List Hold),0)|none =>none else none|none =>none;bif v then k true else k (!(h.Until==0));bif !(h.State==1) then k6 true else k6 (!(h.Got==0))
def a5l:(Int×Int×Circ×Circ×Unit)→Option ((Int×Int×Circ×Circ×Unit)⊕((Circ×Circ×Unit)⊕(Int×Circ×Unit))):=fun (record,i,c,v,_)=>
 bif decide (i<(c.Items.length:Int)) then match m6 c.Items i with|some x =>let k7 (v1:Bool):Option ((Int×Int×Circ×Circ×Unit)⊕((Circ×Circ×Unit)⊕(Int×Circ×Unit))):=let k (v3:Bool):Option ((Int×Int×Circ×Circ×Unit)⊕((Circ×Circ×Unit)⊕(Int×Circ×Unit))):=bif v3 then some (.inl (record,wr .i64 (i+1),c,v,())) else match qg3 c x.ID with|some (r5,r6) =>bif !(r6==0) then some (.inr (.inr (r6,ZN,()))) else some (.inl (record,wr .i64 (i+1),r5,v,()))|none =>none;bif v1 then k true else match qg0 c x.ID with|some r2 =>k (r2==0)|none =>none;bif !(x.Record==record) then k7 true else k7 (!(x.Custody.State==3))|none =>none else some (.inr (.inl (c,v,())))
def qg1 (c:Circ) (record:Int):Option (Circ×Int):=
 match b9 a5l (record,0,c,ZN,()) with|some (.inl (c8,v,_)) =>some (c8,0)|some (.inr (v9,v10,_)) =>some (v10,v9)|none =>none
def a9o:(Int×Int×Int×Int×(List Loan)×Int×Circ×Circ×Item×Unit)→Option ((Int×Int×Int×Int×(List Loan)×Int×Circ×Circ×Item×Unit)⊕((Int×Int×Int×Int×Circ×Circ×Item×Unit)⊕(Int×Int×Circ×Unit))):=fun (patron,record,item,pickup,loans,i,c,v,x,_)=>
 bif decide (i<(loans.length:Int)) then match m6 loans i with|some x11 =>(match qt c x11.Item with|some r12 =>(match m6 c.Items r12 with|some x13 =>bif x13.Record==record then some (.inr (.inr (0,12,ZN,()))) else some (.inl (patron,record,item,pickup,loans,wr .i64 (i+1),c,v,x,()))|none =>none)|none =>none)|none =>none else some (.inr (.inl (patron,record,item,pickup,c,v,x,())))
def qg8 (c:Circ) (patron:Int) (record:Int) (item:Int) (pickup:Int):Option (Circ×Int×Int):=
 match qcf c.Patrons patron with|some (r1,r2) =>(match qge c record item with|some (r4,r5) =>let k32 (v:Bool):Option (Circ×Int×Int):=bif v then some (ZN,0,9) else let k (v6:Bool):Option (Circ×Int×Int):=bif v6 then some (ZN,0,2) else match qf7 c patron with|some r8 =>(bif r8 then some (ZN,0,14) else match qht c.Loans patron with|some r10 =>(match b9 a9o (patron,record,item,pickup,r10,0,c,ZN,r4,()) with|some (.inl (patron14,record15,item16,pickup17,c18,v19,x,_)) =>(bif decide (99999<c18.NextHold) then some (ZN,0,13) else match qgz c18 patron14 x with|some (r21,r22) =>(match qgs c18.Holds (⟨c18.NextHold,patron14,record15,item16,pickup17,c18.Today,1,0,0,0,r21.Rank⟩:Hold) with|some (r24,r25) =>(bif !(r25==0) then some (ZN,0,r25) else match qg1 {c18 with Holds:=r24,NextHold:=wr .i64 (c18.NextHold+1)} record15 with|some (r27,r28) =>bif !(r28==0) then some (ZN,0,r28) else some (r27,c18.NextHold,0)|none =>none)|none =>none)|none =>none)|some (.inr (v29,v30,v31,_)) =>some (v31,v29,v30)|none =>none)|none =>none)|none =>none;bif decide (pickup<1) then k true else k (decide (4<pickup));bif !r2 then k32 true else k32 (!r5)|none =>none)|none =>none
def qgo (c:Circ) (vid:Int):Option (Circ×Int):=
 match qgh c.Holds vid with|some (r1,r2,r3) =>(bif !(r3==0) then some (ZN,r3) else bif !(r2.State==3) then some ({c with Holds:=r1},0) else match qgn {c with Holds:=r1} r2.Got 2 r2.Pickup 0 with|some (r5,r6) =>(bif !(r6==0) then some (ZN,r6) else match qg3 r5 r2.Got with|some (r8,r9) =>some (r8,r9)|none =>none)|none =>none)|none =>none
def qgg (c:Circ) (vid:Int):Option (Circ×Int):=
 match qgo c vid with|some (r1,r2) =>some (r1,r2)|none =>none
def qgq (c:Circ) (item:Int):Option (Circ×Int):=
 match qt c item with|some r1 =>(bif decide (r1<0) then some (ZN,9) else match m6 c.Items r1 with|some x =>(match qgn c item 11 x.Custody.Branch 0 with|some (r3,r4) =>some (r3,r4)|none =>none)|none =>none)|none =>none
def c6c:((List Hold)×Int×Int×Unit)→Option (((List Hold)×Int×Int×Unit)⊕((Unit)⊕((List Hold)×Int×Unit))):=fun (l,item,i,_)=>
 bif decide (i<(l.length:Int)) then let k (v:Bool):Option (((List Hold)×Int×Int×Unit)⊕((Unit)⊕((List Hold)×Int×Unit))):=bif v then match m6 l i with|some x1 =>(match qha l (⟨x1.ID,x1.Patron,x1.Record,x1.Item,x1.Pickup,x1.Placed,1,0,0,x1.Asleep,x1.Rank⟩:Hold) with|some r2 =>some (.inr (.inr (r2,0,())))|none =>none)|none =>none else some (.inl (l,item,wr .i64 (i+1),()));bif !(item==0) then match m6 l i with|some x =>k (x.Got==item)|none =>none else k false else some (.inr (.inl (())))
def qhc (l:List Hold) (item:Int):Option ((List Hold)×Int):=
 match b9 c6c (l,item,0,()) with|some (.inl (_)) =>some ([],9)|some (.inr (v,v3,_)) =>some (v,v3)|none =>none
def qg5 (c:Circ) (item:Int):Option (Circ×Int):=
 match qt c item with|some r1 =>(bif decide (r1<0) then some (ZN,9) else match m6 c.Items r1 with|some x =>let k22 (v:Bool):Option (Circ×Int):=let k (v8:Int) (v9:Circ):Option (Circ×Int):=some (v9,v8);bif v then match qgn c item 12 x.Custody.Branch 0 with|some (r3,r4) =>(bif !(r4==0) then some (ZN,r4) else bif x.Price==0 then k 0 r3 else match qf6 r3 x.Custody.Who item 2 x.Price with|some (r6,r7) =>k r7 r6|none =>none)|none =>none else match qgn c item 13 x.Custody.Branch 0 with|some (r11,r12) =>(bif !(r12==0) then some (ZN,r12) else match qaw r11 item with|some (r14,r15) =>(bif !r15 then some (r11,0) else match qhc r11.Holds item with|some (r17,r18) =>(bif !(r18==0) then some (ZN,r18) else match qg1 {r11 with Holds:=r17} x.Record with|some (r20,r21) =>some (r20,r21)|none =>none)|none =>none)|none =>none)|none =>none;bif x.Custody.State==4 then k22 true else k22 (x.Custody.State==9)|none =>none)|none =>none
def b5o:(Int×Int×Bool×Int×Circ×Circ×Item×Unit)→Option ((Int×Int×Bool×Int×Circ×Circ×Item×Unit)⊕((Int×Bool×Circ×Circ×Item×Unit))):=fun (item,i,others,k,c,v,x,_)=>
 bif decide (k<(c.Items.length:Int)) then let k8 (v7:Bool):Option ((Int×Int×Bool×Int×Circ×Circ×Item×Unit)⊕((Int×Bool×Circ×Circ×Item×Unit))):=some (.inl (item,i,v7,wr .i64 (k+1),c,v,x,()));bif others then k8 true else let k6 (v3:Bool):Option ((Int×Int×Bool×Int×Circ×Circ×Item×Unit)⊕((Int×Bool×Circ×Circ×Item×Unit))):=bif v3 then match m6 c.Items k with|some x4 =>k8 (!(x4.Custody.State==12))|none =>none else k8 false;bif !(k==i) then match m6 c.Items k with|some x2 =>k6 (x2.Record==x.Record)|none =>none else k6 false else some (.inr ((item,others,c,v,x,())))
def b5m:(Int×Bool×Int×Circ×Circ×Item×Unit)→Option ((Int×Bool×Int×Circ×Circ×Item×Unit)⊕((Int×Circ×Circ×Item×Unit)⊕(Int×Circ×Unit))):=fun (item,others,k,c,v,x,_)=>
 bif decide (k<(c.Holds.length:Int)) then match m6 c.Holds k with|some x12 =>(let k18 (v17:Bool):Option ((Int×Bool×Int×Circ×Circ×Item×Unit)⊕((Int×Circ×Circ×Item×Unit)⊕(Int×Circ×Unit))):=bif v17 then some (.inr (.inr (10,ZN,()))) else some (.inl (item,others,wr .i64 (k+1),c,v,x,()));bif x12.Item==item then k18 true else match m6 c.Holds k with|some x13 =>let k16 (v14:Bool):Option ((Int×Bool×Int×Circ×Circ×Item×Unit)⊕((Int×Circ×Circ×Item×Unit)⊕(Int×Circ×Unit))):=bif v14 then k18 (!(x.Custody.State==12)) else k18 false;bif x13.Record==x.Record then k16 (!others) else k16 false|none =>none)|none =>none else some (.inr (.inl (item,c,v,x,())))
def qf4 (c:Circ) (item:Int):Option (Circ×Int):=
 match qt c item with|some r1 =>(bif decide (r1<0) then some (ZN,9) else match m6 c.Items r1 with|some x =>(match b9 b5o (item,r1,false,0,c,ZN,x,()) with|some ((item9,others,c10,v,x11,_)) =>(match b9 b5m (item9,others,0,c10,v,x11,()) with|some (.inl (item19,c20,v21,x22,_)) =>(match qgn c20 item19 15 x22.Custody.Branch 0 with|some (r24,r25) =>(bif !(r25==0) then some (ZN,r25) else match qhe r24.Loans item19 with|some (r27,r28,r29) =>let k (c30:List Loan):Option (Circ×Int):=some ({r24 with Loans:=c30},0);bif r29==0 then k r27 else k r24.Loans|none =>none)|none =>none)|some (.inr (v31,v32,_)) =>some (v32,v31)|none =>none)|none =>none)|none =>none)|none =>none
def qg6 (c:Circ) (item:Int) (partner:Int):Option (Circ×Int):=
 match qt c item with|some r1 =>(bif decide (r1<0) then some (ZN,9) else match m6 c.Items r1 with|some x =>let k (v:Bool):Option (Circ×Int):=bif v then some (ZN,16) else match m6 c.Items r1 with|some x4 =>(match qgn c item 10 x4.Custody.Branch partner with|some (r6,r7) =>some (r6,r7)|none =>none)|none =>none;bif x.Custody.State==3 then match qg0 c item with|some r3 =>k (!(r3==0))|none =>none else k false|none =>none)|none =>none
def e5d:((List Charge)×Int×Int×Int×(List Charge)×Unit)→Option (((List Charge)×Int×Int×Int×(List Charge)×Unit)⊕((Int×(List Charge)×Unit))):=fun (l,patron,amount,i,l1,_)=>
 bif decide (i<(l.length:Int)) then match m6 l i with|some x =>let k (amount2:Int) (c:Int):Option (((List Charge)×Int×Int×Int×(List Charge)×Unit)⊕((Int×(List Charge)×Unit))):=bif decide (c<x.Amount) then bif decide (l1.length+([(⟨x.ID,x.Patron,x.Item,x.Day,x.Kind,x.Amount,c⟩:Charge)]:List Charge).length≤LIM) then some (.inl (l,patron,amount2,wr .i64 (i+1),l1++([(⟨x.ID,x.Patron,x.Item,x.Day,x.Kind,x.Amount,c⟩:Charge)]:List Charge),())) else none else some (.inl (l,patron,amount2,wr .i64 (i+1),l1,()));bif x.Patron==patron then k (wr .i64 (amount-(if wr .i64 (x.Amount-x.Paid)<amount then wr .i64 (x.Amount-x.Paid) else amount))) (wr .i64 (x.Paid+(if wr .i64 (x.Amount-x.Paid)<amount then wr .i64 (x.Amount-x.Paid) else amount))) else k amount x.Paid|none =>none else some (.inr ((amount,l1,())))
def qhq (l:List Charge) (patron:Int) (amount:Int):Option ((List Charge)×Int×Int):=
 let k (v:Bool):Option ((List Charge)×Int×Int):=bif v then some ([],0,1) else match b9 e5d (l,patron,amount,0,([]:List Charge),()) with|some ((amount3,l4,_)) =>some (l4,amount3,0)|none =>none;bif decide (amount<1) then k true else k (decide (100000000<amount))
def qhm (c:Circ) (patron:Int) (amount:Int):Option (Circ×Int×Int):=
 match qcf c.Patrons patron with|some (r1,r2) =>(bif !r2 then some (ZN,0,9) else match qhq c.Charges patron amount with|some (r4,r5,r6) =>bif !(r6==0) then some (ZN,0,r6) else some ({c with Charges:=r4},r5,0)|none =>none)|none =>none
def e49:((List Hold)×Int×Int×(List Int)×Unit)→Option (((List Hold)×Int×Int×(List Int)×Unit)⊕(((List Int)×Unit))):=fun (l,day,i,l1,_)=>
 bif decide (i<(l.length:Int)) then match m6 l i with|some x =>let k (v:Bool):Option (((List Hold)×Int×Int×(List Int)×Unit)⊕(((List Int)×Unit))):=bif v then match m6 l i with|some x3 =>bif decide (l1.length+([x3.ID]:List Int).length≤LIM) then some (.inl (l,day,wr .i64 (i+1),l1++([x3.ID]:List Int),())) else none|none =>none else some (.inl (l,day,wr .i64 (i+1),l1,()));bif x.State==3 then match m6 l i with|some x2 =>k (decide (x2.Until<day))|none =>none else k false|none =>none else some (.inr ((l1,())))
def qga (l:List Hold) (day:Int):Option (List Int):=
 match b9 e49 (l,day,0,([]:List Int),()) with|some ((l4,_)) =>some l4|none =>none
def a5m:((List Int)×Int×Circ×Circ×Unit)→Option (((List Int)×Int×Circ×Circ×Unit)⊕((Circ×Circ×Unit)⊕(Int×Circ×Unit))):=fun (l,i,c,v,_)=>
 bif decide (i<(l.length:Int)) then match m6 l i with|some x =>(match qgo c x with|some (r2,r3) =>bif !(r3==0) then some (.inr (.inr (r3,ZN,()))) else some (.inl (l,wr .i64 (i+1),r2,v,()))|none =>none)|none =>none else some (.inr (.inl (c,v,())))
def b5v:(Int×Int×Int×Circ×Circ×Unit)→Option ((Int×Int×Int×Circ×Circ×Unit)⊕((Int×Circ×Circ×Unit))):=fun (last,record,i,c,v,_)=>
 bif decide (i<(c.Items.length:Int)) then match m6 c.Items i with|some x =>let k10 (v5:Bool):Option ((Int×Int×Int×Circ×Circ×Unit)⊕((Int×Circ×Circ×Unit))):=let k9 (v7:Bool):Option ((Int×Int×Int×Circ×Circ×Unit)⊕((Int×Circ×Circ×Unit))):=let k (record8:Int):Option ((Int×Int×Int×Circ×Circ×Unit)⊕((Int×Circ×Circ×Unit))):=some (.inl (last,record8,wr .i64 (i+1),c,v,()));bif v7 then k x.Record else k record;bif v5 then bif record==0 then k9 true else k9 (decide (x.Record<record)) else k9 false;bif x.Custody.State==3 then k10 (decide (last<x.Record)) else k10 false|none =>none else some (.inr ((record,c,v,())))
def a29:(Int×Circ×Circ×Unit)→Option ((Int×Circ×Circ×Unit)⊕((Int×Circ×Unit))):=fun (last,c,v,_)=>
 match b9 b5v (last,0,0,c,v,()) with|some ((record,c11,v12,_)) =>(bif record==0 then some (.inr ((0,c11,()))) else match qg1 c11 record with|some (r13,r14) =>bif !(r14==0) then some (.inr ((r14,ZN,()))) else some (.inl (record,r13,v12,()))|none =>none)|none =>none
def qhn (c:Circ):Option (Circ×Int):=
 bif decide (109572≤c.Today) then some (ZN,2) else match qga c.Holds (wr .i64 (c.Today+1)) with|some r1 =>(match b9 a5m (r1,0,{c with Today:=wr .i64 (c.Today+1)},ZN,()) with|some (.inl (c4,v,_)) =>(match b9 a29 (0,c4,v,()) with|some ((v15,v16,_)) =>some (v16,v15)|none =>none)|some (.inr (v17,v18,_)) =>some (v18,v17)|none =>none)|none =>none
end
section
open Go
theorem c3g:m8 y1:=m8.iso (m8.cons (i6.int _) (m8.cons (i6.int _) (m8.cons (i6.int _) (m8.cons (i6.int _) m8.nil)))) (fun _=>rfl)
theorem c3i:m8 w6:=m8.iso (m8.cons (i6.int _) (m8.cons (i6.int _) (m8.cons (i6.int _) (m8.cons (i6.int _) (m8.cons (i6.int _) (m8.cons i6.str (m8.cons (i6.int _) (m8.cons (i6.int _) (m8.cons (i6.int _) (m8.cons (i6.int _) m8.nil)))))))))) (fun _=>rfl)
theorem b3f:m8 a0o:=m8.iso (m8.cons (i6.int _) (m8.cons (i6.int _) (m8.cons (i6.int _) (m8.cons (i6.int _) (m8.cons i6.bool (m8.cons i6.str m8.nil)))))) (fun _=>rfl)
theorem c3j:m8 a19:=m8.iso (m8.cons (i6.int _) (m8.cons (i6.int _) (m8.cons (i6.int _) (m8.cons (i6.int _) (m8.cons (i6.int _) (m8.cons i6.bool m8.nil)))))) (fun _=>rfl)
theorem c3h:m8 y8:=m8.iso (m8.cons (i6.int _) (m8.cons (i6.int _) (m8.cons (i6.int _) (m8.cons (i6.int _) (m8.cons (i6.int _) (m8.cons (i6.int _) (m8.cons (i6.int _) (m8.cons (i6.int _) (m8.cons (i6.int _) (m8.cons (i6.int _) (m8.cons (i6.int _) m8.nil))))))))))) (fun _=>rfl)
theorem b3e:m8 a49:=m8.iso (m8.cons (i6.int _) (m8.cons (i6.int _) (m8.cons (i6.int _) (m8.cons (i6.int _) (m8.cons (i6.int _) (m8.cons (i6.int _) (m8.cons (i6.int _) m8.nil))))))) (fun _=>rfl)
theorem c3l:m8 a3t:=m8.iso (m8.cons (i6.int _) (m8.cons (i6.int _) (m8.cons (i6.int _) (m8.cons (i6.int _) (m8.cons (i6.int _) (m8.cons (i6.int _) (m8.cons (i6.int _) (m8.cons (i6.int _) (m8.cons (i6.int _) (m8.cons (i6.int _) (m8.cons (i6.int _) (m8.cons (i6.int _) (m8.cons (i6.int _) m8.nil))))))))))))) (fun _=>rfl)
theorem c0k:m8 u9:=m8.iso (m8.cons (i6.int _) (m8.cons (i6.lst _) m8.nil)) (fun _=>rfl)
theorem c3k:m8 b0t:=m8.iso (m8.cons (i6.int _) (m8.cons (i6.int _) (m8.cons (i6.int _) (m8.cons (i6.int _) (m8.cons (i6.int _) m8.nil))))) (fun _=>rfl)
theorem d9x:m8 j5:=m8.iso (m8.cons (i6.int _) (m8.cons (i6.lst _) (m8.cons (i6.lst _) (m8.cons (i6.lst _) (m8.cons (i6.lst _) (m8.cons (i6.lst _) (m8.cons (i6.lst _) (m8.cons (i6.int _) (m8.cons (i6.lst _) (m8.cons (i6.int _) (m8.cons (i6.lst _) (m8.cons (i6.int _) (m8.cons (i6.lst _) (m8.cons (i6.int _) (m8.cons (i6.lst _) (m8.cons (i6.lst _) (m8.cons (i6.int _) (m8.cons (i6.int _) (m8.cons i6.bool m8.nil))))))))))))))))))) (fun _=>rfl)
theorem a3m:m8 a0n:=m8.iso (m8.cons (i6.int _) (m8.cons (i6.int _) (m8.cons (i6.int _) (m8.cons (i6.int _) (m8.cons (i6.int _) m8.nil))))) (fun _=>rfl)
theorem b60:m8 n9:=m8.iso (m8.cons (i6.int _) (m8.cons (i6.lst _) (m8.cons (i6.lst _) (m8.cons (i6.lst _) (m8.cons (i6.lst _) (m8.cons (i6.lst _) (m8.cons (i6.lst _) (m8.cons (i6.int _) (m8.cons (i6.lst _) (m8.cons (i6.int _) (m8.cons (i6.lst _) (m8.cons (i6.int _) (m8.cons (i6.lst _) (m8.cons (i6.int _) (m8.cons (i6.lst _) (m8.cons (i6.lst _) (m8.cons (i6.int _) (m8.cons (i6.int _) (m8.cons i6.bool (m8.cons (i6.int _) m8.nil)))))))))))))))))))) (fun _=>rfl)
theorem a4a:m8 a24:=m8.iso (m8.cons (i6.int _) (m8.cons (i6.int _) m8.nil)) (fun _=>rfl)
theorem b11:m8 a56:=m8.iso (m8.cons (i6.int _) (m8.cons (i6.lst _) (m8.cons (i6.int _) (m8.cons (i6.lst _) (m8.cons (i6.int _) (m8.cons (i6.lst _) (m8.cons (i6.int _) (m8.cons (i6.lst _) m8.nil)))))))) (fun _=>rfl)
theorem c3m:m8 a1f:=m8.iso (m8.cons i6.bool (m8.cons i6.bool (m8.cons i6.bool (m8.cons i6.bool (m8.cons i6.bool (m8.cons i6.bool (m8.cons i6.bool m8.nil))))))) (fun _=>rfl)
instance:CCC y1:=⟨c3g⟩
instance:CCC w6:=⟨c3i⟩
instance:CCC a0o:=⟨b3f⟩
instance:CCC a19:=⟨c3j⟩
instance:CCC y8:=⟨c3h⟩
instance:CCC a49:=⟨b3e⟩
instance:CCC a3t:=⟨c3l⟩
instance:CCC u9:=⟨c0k⟩
instance:CCC b0t:=⟨c3k⟩
instance:CCC j5:=⟨d9x⟩
instance:CCC a0n:=⟨a3m⟩
instance:CCC n9:=⟨b60⟩
instance:CCC a24:=⟨a4a⟩
instance:CCC a56:=⟨b11⟩
instance:CCC a1f:=⟨c3m⟩
end
section
abbrev x0a:=OC.xs 0 [] [] [] Zz (.r [4] [] [] (Zs 4 Zi Zz))
abbrev x0b:=Cod.cptr (CC.one Zi)
abbrev x0c:=OC.r [2] [] [] (Zs 2 Zb Zz)
abbrev x0d:=Zl .kHold
abbrev x0e:=OC.r [2] [] [] (Zs 2 Zi Zz)
abbrev x0f:=Zx 1 j5 Zz
abbrev x0g:=Zs 7 Zi (Zs 8 Zi Zz)
abbrev x0h:=Zc Zi Zn
abbrev x0i:=OC.xs 0 [1] [1] [] (Zp 1 1 x0f) x0c
abbrev x0j:=Cod.fnc 231 (Zn) (Zn)
abbrev x0k:=Zc (Cod.cptr w6) Zn
abbrev x0l:=Zl .kLoan
abbrev x0m:=Zc x0b Zn
abbrev x0n:=OC.r [4] [] [] (Zs 4 Zb Zz)
abbrev x0o:=Zc Zi x0h
abbrev x0p:=Zl .kCharge
abbrev x0q:=Cod.agg j5
abbrev x0r:=Cod.agg y8
abbrev x0s:=OC.xs 0 [] [] [] Zz x0e
abbrev x0t:=Zl .kItem
abbrev x0u:=Zl .kPatron
abbrev x0v:=OC.xs 0 [6,9] [6,9] [] (Zp 6 6 (Zp 9 9 (Zx 6 y1 (Zx 9 y1 Zz)))) (.r [7,8] [6] [6] (Zp 6 6 (Zs 7 Zi (Zs 8 Zi (Zx 6 y1 Zz)))))
abbrev x0w:=Zs 8 Zi (FC.own 99999 Kd.kHold false Zz)
abbrev x0x:=Cod.agg w6
abbrev x0y:=OC.xs 2 [1] [1] [] (Zp 1 1 x0f) x0c
abbrev x0z:=Zc (Cod.cptr w6) (Zc (Cod.cptr (CC.one Zb)) Zn)
abbrev x00:=Zl .ki64
abbrev x01:=Zl .kRule
abbrev x02:=Cod.agg a0o
abbrev x03:=Cod.agg a19
abbrev x04:=Zp 1 1 (Zs 3 Zi x0f)
abbrev x05:=Zs 1 Zi (Zs 2 x0j (Zs 6 Zi (Zs 7 Zi (FC.own 99999 Kd.kHold false Zz))))
abbrev x06:=Zs 3 Zi Zz
abbrev x07:=Zs 5 Zi Zz
abbrev x08:=Zl .kLibrarylaw33_Deed
abbrev x09:=Zs 0 x0d (Zs 1 (Cod.fnc 165 (Zn) (Zn)) (Zs 8 Zi (Zs 9 Zi Zz)))
abbrev x1a:=Zs 0 x0d (Zs 1 (Cod.fnc 166 (Zn) (Zn)) (Zs 8 Zi (Zs 9 Zi Zz)))
abbrev x1b:=OC.xs 4 [] [] [] Zz x0c
abbrev x1c:=OC.xs 2 [] [] [] Zz x0c
abbrev x1d:=Zx 2 j5 (Zx 16 n9 Zz)
abbrev x1e:=Zc Zb Zn
abbrev x1f:=Zc Zi x0o
abbrev x1g:=Zs 5 Zi (Zs 8 Zi (Zs 9 Zi (Zs 12 Zi (Zs 13 Zi Zz))))
abbrev x1h:=Cod.agg a3t
abbrev x1i:=Zc x0r Zn
abbrev x1j:=OC.xs 0 [] [] [] Zz (.r [4,5] [] [] (Zs 4 Zi x07))
abbrev x1k:=Cod.agg u9
abbrev x1l:=Cod.agg y1
abbrev x1m:=Zc x0b x0m
abbrev x1n:=Zs 10 Zi (Zs 11 Zi Zz)
abbrev x1o:=Zs 1 Zi (Zs 2 x0j (Zs 6 Zi (Zs 7 Zi x0w)))
abbrev x1p:=OC.xs 0 [] [] [] Zz x0n
abbrev x1q:=Zl .kMove
abbrev a89:ZC (Circ×Unit):=Zc x0q Zn
abbrev u3:ZD (Bool):=Zb
abbrev h7l {R:Type}:Sm R:=o0 a89 u3 (fun a=>qb a.1)
def g08 {R:Type}:Nat→Sm R:=c0
abbrev e2z:=a0q [] [] [1,3] [1] [] x04 d68 x0i
abbrev e20:=a0q [] [] [1,4] [1] [] (Zp 1 1 (Zs 4 Zi x0f)) d69 x0y
abbrev d2n:=a0q [] [] [1,5] [1] [] (Zp 1 1 (Zs 5 Zi x0f)) b1o x1b
def b2n {R:Type}:Lp Kd El R:=lp 14 d2n.sem (lp 9 e20.sem (lp 4 e2z.sem l0))
abbrev f5s:ZC ((List UInt8)×Int×Unit):=Zc Cod.str x0h
abbrev b53:ZD (Int×Int):=(Cod.tup2 x0o)
abbrev c95 {R:Type}:Sm R:=o0 f5s b53 (fun a=>qbo a.1 a.2.1)
abbrev d0l:ZC ((List UInt8)×Unit):=Zc Cod.str Zn
abbrev c93 {R:Type}:Sm R:=o0 d0l u3 (fun a=>qaj a.1)
def f0s {R:Type}:Nat→Sm R:=cl 174 c95 c0
abbrev d2a:=a0q [] [] [0,3] [] [] (Zs 0 Cod.str x06) b80 (.xs 0 [] [] [] Zz x0c)
def c43 {R:Type}:Lp Kd El R:=lp 2 d2a.sem l0
abbrev a0e:ZD (Int):=Zi
abbrev g0i {R:Type}:Sm R:=o0 f5s a0e (fun a=>qe a.1 a.2.1)
abbrev a2o:ZC (Int×Unit):=Zc Zi Zn
abbrev e6r {R:Type}:Sm R:=o0 a2o u3 (fun a=>qak a.1)
abbrev f9n:ZD ((List UInt8)):=Cod.str
abbrev e6g {R:Type}:Sm R:=o0 d0l f9n (fun a=>qa4 a.1)
def f0h {R:Type}:Nat→Sm R:=cl 174 c95 (cl 175 g0i (cl 176 e6r c0))
abbrev d1x:=a0q [] [] [0,3,4,5] [] [] (Zs 0 Cod.str (Zs 3 Cod.str (Zs 4 Zb x07))) b8v (.x 0 [3] [] [] (Zs 3 Cod.str Zz))
def c4y {R:Type}:Lp Kd El R:=lp 4 d1x.sem l0
abbrev d0n:ZC ((List Patron)×Unit):=Zc x0u Zn
abbrev e6v {R:Type}:Sm R:=o0 d0n a0e (fun a=>qas a.1)
def f0x {R:Type}:Nat→Sm R:=cl 104 c93 (cl 105 e6g c0)
abbrev d2f:=a0q [] [] [0,3] [] [] (Zs 0 x0u x06) b5g x0s
def c48 {R:Type}:Lp Kd El R:=lp 4 d2f.sem l0
abbrev d0m:ZC ((List Loan)×Unit):=Zc x0l Zn
abbrev e6u {R:Type}:Sm R:=o0 d0m a0e (fun a=>qar a.1)
def f0w {R:Type}:Nat→Sm R:=c0
abbrev d2e:=a0q [] [] [0,3] [] [] (Zs 0 x0l x06) b5f x0s
def c47 {R:Type}:Lp Kd El R:=lp 4 d2e.sem l0
abbrev h0j {R:Type}:Sm R:=o0 a2o u3 (fun a=>qen a.1)
abbrev h0a {R:Type}:Sm R:=o0 a2o u3 (fun a=>qe2 a.1)
abbrev f5x:ZC (Hold×Unit):=Zc x0r Zn
abbrev e79 {R:Type}:Sm R:=o0 f5x a0e (fun a=>qdu a.1)
abbrev g0x:ZC ((List Hold)×Unit):=Zc x0d Zn
abbrev g0n {R:Type}:Sm R:=o0 g0x a0e (fun a=>ql a.1)
def g1g {R:Type}:Nat→Sm R:=cl 106 e79 c0
abbrev e3c:=a0q [] [] [0,3] [] [] (Zs 0 x0d x06) c9k (.xs 0 [0] [] [] (Zs 0 x0d Zz) x0e)
abbrev d22:=a0q [] [] [0,5,6] [] [] (Zs 0 x0d (Zs 5 Zi (Zs 6 Zi Zz))) b5w (.xs 4 [0,5] [] [] (Zs 0 x0d x07) x0e)
abbrev d21:=a0q [] [] [0,5] [] [] (Zs 0 x0d x07) b9p (.xs 2 [] [] [] Zz x0e)
def b2p {R:Type}:Lp Kd El R:=lp 12 d21.sem (lp 15 d22.sem (lp 4 e3c.sem l0))
abbrev e8t {R:Type}:Sm R:=o0 a2o u3 (fun a=>qfc a.1)
abbrev f5l:ZC ((List Charge)×Unit):=Zc x0p Zn
abbrev e6f {R:Type}:Sm R:=o0 f5l a0e (fun a=>qa3 a.1)
def f0g {R:Type}:Nat→Sm R:=cl 107 e8t c0
abbrev d1w:=a0q [] [] [0,3] [] [] (Zs 0 x0p x06) b48 x0s
def c4x {R:Type}:Lp Kd El R:=lp 4 d1w.sem l0
abbrev c2s:ZC (Int×Int×Int×Unit):=Zc Zi x0o
abbrev g81 {R:Type}:Sm R:=o0 c2s u3 (fun a=>qbi a.1 a.2.1 a.2.2.1)
abbrev d8n:ZC (Rule×Unit):=Zc x1h Zn
abbrev e7h {R:Type}:Sm R:=o0 d8n u3 (fun a=>qc8 a.1)
abbrev h3c:ZC ((List Rule)×Unit):=Zc x01 Zn
abbrev g0m {R:Type}:Sm R:=o0 h3c a0e (fun a=>qk a.1)
def g1f {R:Type}:Nat→Sm R:=cl 108 e7h c0
abbrev e3b:=a0q [] [] [0,3,4] [] [] (Zs 0 x01 (Zs 3 Zi (Zs 4 Zi Zz))) c9j (.xs 2 [0,3] [] [] (Zs 0 x01 x06) x0e)
abbrev e3a:=a0q [] [] [0,3] [] [] (Zs 0 x01 x06) d7i x0s
def c1p {R:Type}:Lp Kd El R:=lp 4 e3a.sem (lp 9 e3b.sem l0)
abbrev g0y:ZC (Calendar×Unit):=Zc x1k Zn
abbrev g0r {R:Type}:Sm R:=o0 g0y a0e (fun a=>qx a.1)
def g1r {R:Type}:Nat→Sm R:=c0
abbrev e3q:=a0q [] [] [1,3] [1] [] (Zp 1 1 (Zs 3 Zi (Zx 1 u9 Zz))) c9q (.xs 0 [1] [1] [] (Zp 1 1 (Zx 1 u9 Zz)) x0e)
abbrev d29:=a0q [] [] [1,4] [1] [] (Zp 1 1 (Zs 4 Zi (Zx 1 u9 Zz))) b50 (.xs 2 [] [] [] Zz x0e)
def c1r {R:Type}:Lp Kd El R:=lp 11 d29.sem (lp 6 e3q.sem l0)
abbrev d0p:ZC ((List Patron)×Int×Unit):=Zc x0u x0h
abbrev g8s {R:Type}:Sm R:=o0 d0p a0e (fun a=>qay a.1 a.2.1)
def f03 {R:Type}:Nat→Sm R:=c0
abbrev d2l:=a0q [] [] [0,1,5] [] [] (Zs 0 x0u (Zs 1 Zi x07)) b87 x0a
def c5e {R:Type}:Lp Kd El R:=lp 2 d2l.sem l0
abbrev f9t:ZD (Patron×Bool):=(Cod.tup2 (Zc x02 x1e))
abbrev c2f {R:Type}:Sm R:=o0 d0p f9t (fun a=>qcf a.1 a.2.1)
abbrev g0b:ZD (Custody):=x1l
abbrev e8a {R:Type}:Sm R:=o0 a2o g0b (fun a=>qdv a.1)
abbrev h0y {R:Type}:Sm R:=o0 a2o u3 (fun a=>qfj a.1)
abbrev d8y:ZC (Custody×Unit):=Zc x1l Zn
abbrev g95 {R:Type}:Sm R:=o0 d8y u3 (fun a=>qdw a.1)
abbrev h3a:ZC (Move×Unit):=Zc (Cod.agg b0t) Zn
abbrev h0r {R:Type}:Sm R:=o0 h3a u3 (fun a=>qez a.1)
abbrev c6l:ZD ((List Int)):=x00
abbrev e7v {R:Type}:Sm R:=o0 a2o c6l (fun a=>qcu a.1)
abbrev c2r:ZC (Int×Int×Unit):=Zc Zi x0h
abbrev g8o {R:Type}:Sm R:=o0 c2r u3 (fun a=>qao a.1 a.2.1)
def f0v {R:Type}:Nat→Sm R:=cl 248 e7v c0
abbrev d2d:=a0q [] [] [0,5,6] [] [] (Zs 0 Zi (Zs 5 x00 (Zs 6 Zi Zz))) b83 x1p
def c46 {R:Type}:Lp Kd El R:=lp 3 d2d.sem l0
abbrev d0u:ZC (Custody×Move×Unit):=Zc x1l (Zc (Cod.agg b0t) Zn)
abbrev g9v {R:Type}:Sm R:=o0 d0u u3 (fun a=>qdj a.1 a.2.1)
abbrev h05 {R:Type}:Sm R:=o0 a2o a0e (fun a=>qfq a.1)
abbrev d34:ZD (Custody×Int):=(Cod.tup2 (Zc x1l x0h))
abbrev e7b {R:Type}:Sm R:=o0 d0u d34 (fun a=>qc0 a.1 a.2.1)
abbrev f5p:ZC (Int×(List Move)×Int×Unit):=Zc Zi (Zc x1q x0h)
abbrev f9o:ZD (Custody×Int×Int):=(Cod.tup3 (Zc x1l x0o))
abbrev e6s {R:Type}:Sm R:=o0 f5p f9o (fun a=>qal a.1 a.2.1 a.2.2.1)
def f0t {R:Type}:Nat→Sm R:=cl 180 e8a (cl 181 e7b c0)
abbrev d2b:=a0q [] [] [1,2,6,9,10] [6,9] [] (Zs 1 x1q (Zs 2 Zi (Zp 6 6 (Zp 9 9 (Zs 10 Zi (Zx 6 y1 (Zx 9 y1 Zz))))))) b81 x0v
def c44 {R:Type}:Lp Kd El R:=lp 5 d2b.sem l0
abbrev b22:ZC (Circ×Int×Unit):=Zc x0q x0h
abbrev d4a {R:Type}:Sm R:=o0 b22 a0e (fun a=>qt a.1 a.2.1)
def g1n {R:Type}:Nat→Sm R:=c0
abbrev e3m:=a0q [] [] [1,2,5] [2] [] (Zs 1 Zi (Zp 2 2 (Zs 5 Zi (Zx 2 j5 Zz)))) d7n x0a
def d3n {R:Type}:Lp Kd El R:=lp 2 e3m.sem l0
abbrev e6o {R:Type}:Sm R:=o0 a89 u3 (fun a=>qac a.1)
def f0n {R:Type}:Nat→Sm R:=cl 104 c93 (cl 110 e6s (cl 111 d4a c0))
abbrev d15:=a0q [] [] [1,3] [1] [] x04 b5b x0i
abbrev c4i:=a0q [] [] [1,8] [1] [] (Zp 1 1 (Zs 8 Zi x0f)) a9l x1c
def b4o {R:Type}:Lp Kd El R:=lp 15 c4i.sem (lp 4 d15.sem l0)
abbrev e8o {R:Type}:Sm R:=o0 d8y u3 (fun a=>qer a.1)
abbrev b7t:ZC ((List Loan)×Int×Unit):=Zc x0l x0h
abbrev g8m {R:Type}:Sm R:=o0 b7t a0e (fun a=>qam a.1 a.2.1)
def f0u {R:Type}:Nat→Sm R:=c0
abbrev d2c:=a0q [] [] [0,1,5] [] [] (Zs 0 x0l (Zs 1 Zi x07)) b82 x0a
def c45 {R:Type}:Lp Kd El R:=lp 2 d2c.sem l0
abbrev g0c:ZD (Loan×Bool):=(Cod.tup2 (Zc x03 x1e))
abbrev e8b {R:Type}:Sm R:=o0 b7t g0c (fun a=>qdz a.1 a.2.1)
abbrev e6n {R:Type}:Sm R:=o0 a89 u3 (fun a=>qab a.1)
def f0m {R:Type}:Nat→Sm R:=cl 40 c2f (cl 111 d4a (cl 112 e8o (cl 113 e8b c0)))
abbrev d14:=a0q [] [] [1,3] [1] [] x04 b5a x0i
abbrev c4h:=a0q [] [] [1,8] [1] [] (Zp 1 1 (Zs 8 Zi x0f)) b05 x1c
def b4n {R:Type}:Lp Kd El R:=lp 10 c4h.sem (lp 2 d14.sem l0)
abbrev e5u:ZD (Hold×Bool):=(Cod.tup2 (Zc x0r x1e))
abbrev e6y {R:Type}:Sm R:=o0 b22 e5u (fun a=>qaw a.1 a.2.1)
def f01 {R:Type}:Nat→Sm R:=c0
abbrev d2j:=a0q [] [] [1,2,4,6] [2,4] [] (Zs 1 Zi (Zp 2 2 (Zp 4 4 (Zs 6 Zi (Zx 2 j5 (Zx 4 y8 Zz)))))) b85 (.xs 0 [4] [4] [] (Zp 4 4 (Zx 4 y8 Zz)) (.r [5] [4] [4] (Zp 4 4 (Zs 5 Zb (Zx 4 y8 Zz)))))
def c5c {R:Type}:Lp Kd El R:=lp 2 d2j.sem l0
abbrev e6p {R:Type}:Sm R:=o0 a89 u3 (fun a=>qad a.1)
def f0o {R:Type}:Nat→Sm R:=cl 40 c2f (cl 111 d4a (cl 114 e6y c0))
abbrev d16:=a0q [] [] [1,3] [1] [] x04 b5c x0i
abbrev c4j:=a0q [] [] [1,9] [1] [] (Zp 1 1 (Zs 9 Zi x0f)) b06 x1c
def b4p {R:Type}:Lp Kd El R:=lp 18 c4j.sem (lp 2 d16.sem l0)
abbrev g0s {R:Type}:Sm R:=o0 a89 u3 (fun a=>qz a.1)
def g1s {R:Type}:Nat→Sm R:=cl 34 e6v (cl 35 e6u (cl 36 g0n (cl 37 e6f (cl 38 g0m (cl 39 g0r (cl 40 c2f (cl 41 e6o (cl 42 e6n (cl 43 e6p c0)))))))))
abbrev e3r:=a0q [] [] [1,3] [1] [] x04 c6k x0i
abbrev d3a:=a0q [] [] [1,4] [1] [] (Zp 1 1 (Zs 4 Zi x0f)) b51 x0y
def c1s {R:Type}:Lp Kd El R:=lp 11 d3a.sem (lp 6 e3r.sem l0)
abbrev e8s {R:Type}:Sm R:=o0 a89 u3 (fun a=>qfb a.1)
abbrev g0f:ZD (Circ):=x0q
abbrev h0i {R:Type}:Sm R:=o0 a2o g0f (fun a=>qem a.1)
abbrev h2w:ZC (Item×Int×Unit):=Zc x0x x0m
abbrev e75 {R:Type}:Sm R:=o0 h2w u3 (fun a=>qde a.1 a.2.1)
abbrev h8d:ZC ((List Item)×((Unit)×(Int×Unit))×Unit):=Zc x0t (Zc (Cod.fnc 141 (Zn) x0m) Zn)
abbrev h7m {R:Type}:Sm R:=o0 h8d a0e (fun a=>qc (fun g x0=>qde x0 g.2.1) a.1 a.2.1)
def g09 {R:Type}:Nat→Sm R:=cl 141 e75 c0
abbrev e22:=a0q [] [] [0,1,7,8] [] [] (Zs 0 x0t (Zs 1 (Cod.fnc 141 (Zn) x0m) x0g)) (c14 (fun g x0=>qde x0 g.2.1)) x0a
def d3i {R:Type}:Lp Kd El R:=lp 2 e22.sem l0
abbrev c60 {R:Type}:Sm R:=o0 b22 a0e (fun a=>q9 a.1 a.2.1)
abbrev e8j {R:Type}:Sm R:=o0 a2o g0b (fun a=>qec a.1)
abbrev f5u:ZC (Item×Item×Unit):=Zc x0x x0k
abbrev e7y {R:Type}:Sm R:=o0 f5u u3 (fun a=>qcy a.1 a.2.1)
abbrev e9v:ZC ((List Item)×((Unit)×(Item×Unit))×Unit):=Zc x0t (Zc (Cod.fnc 125 (Zn) x0k) Zn)
abbrev e7j {R:Type}:Sm R:=o0 e9v a0e (fun a=>qc (fun g x0=>qcy x0 g.2.1) a.1 a.2.1)
def d43 {R:Type}:Nat→Sm R:=cl 125 e7y c0
abbrev b8h:=a0q [] [] [0,1,7,8] [] [] (Zs 0 x0t (Zs 1 (Cod.fnc 125 (Zn) x0k) x0g)) (c14 (fun g x0=>qcy x0 g.2.1)) x0a
def b4t {R:Type}:Lp Kd El R:=lp 2 b8h.sem l0
abbrev h2k:ZC ((List Item)×Unit):=Zc x0t Zn
abbrev f9u:ZD ((List Item)):=x0t
abbrev g9m {R:Type}:Sm R:=o0 h2k f9u (fun a=>qcm a.1)
abbrev d8t:ZC ((List Item)×Int×(List Item)×Unit):=Zc x0t (Zc Zi (Zc x0t Zn))
abbrev f9y:ZD ((List Item)):=f9u
def f78 (a:(List Item)×Int×(List Item)×Unit):Option ((List Item)):=qd6 a.1 a.2.1 a.2.2.1
abbrev e61 {R:Type}:Sm R:=o0 c2s u3 (fun a=>qb5 a.1 a.2.1 a.2.2.1)
abbrev d8w:ZC ((List UInt8)×Unit):=d0l
abbrev f92:ZD (Bool):=u3
def f8b (a:(List UInt8)×Unit):Option (Bool):=qdg a.1
abbrev h25:ZC (Item×Unit):=Zc x0x Zn
abbrev e8h {R:Type}:Sm R:=o0 h25 u3 (fun a=>qea a.1)
abbrev e7a {R:Type}:Sm R:=o0 c2s u3 (fun a=>qbr a.1 a.2.1 a.2.2.1)
abbrev h0w {R:Type}:Sm R:=o0 d8y u3 (fun a=>qfh a.1)
abbrev h0v {R:Type}:Sm R:=o0 c2r u3 (fun a=>qfg a.1 a.2.1)
abbrev h2q:ZC (Custody×Bool×Unit):=Zc x1l x1e
abbrev g9p {R:Type}:Sm R:=o0 h2q d34 (fun a=>qcx a.1 a.2.1)
abbrev h0z {R:Type}:Sm R:=o0 d0u d34 (fun a=>qfk a.1 a.2.1)
abbrev e8k {R:Type}:Sm R:=o0 d0u d34 (fun a=>qed a.1 a.2.1)
abbrev c92 {R:Type}:Sm R:=o0 f5p f9o (fun a=>qa1 a.1 a.2.1 a.2.2.1)
def f0e {R:Type}:Nat→Sm R:=cl 44 e7a (cl 45 e8j (cl 46 e8k c0))
abbrev d1u:=a0q [] [] [2,6,9,20,21,22] [6,9] [] (Zs 2 Zi (Zp 6 6 (Zp 9 9 (Zs 20 x1q (Zs 21 Zi (Zs 22 Zi (Zx 6 y1 (Zx 9 y1 Zz)))))))) b8u x0v
def c4v {R:Type}:Lp Kd El R:=lp 5 d1u.sem l0
abbrev h7u {R:Type}:Sm R:=o0 a89 u3 (fun a=>qs a.1)
def g1m {R:Type}:Nat→Sm R:=cl 9 c92 (cl 73 c60 (cl 96 e8h c0))
abbrev e3l:=a0q [] [] [1,23,24,25] [1] [] (Zp 1 1 (Zs 23 x0t (Zs 24 Zi (Zs 25 Zi x0f)))) c9n x0i
abbrev d27:=a0q [] [] [1,51,52,53] [1] [] (Zp 1 1 (Zs 51 x1q (Zs 52 Zi (Zs 53 Zi x0f)))) b9s x0y
abbrev d28:=a0q [] [] [1,64,65,66] [1] [] (Zp 1 1 (Zs 64 x0t (Zs 65 Zi (Zs 66 Zi x0f)))) b9t x1b
def b2t {R:Type}:Lp Kd El R:=lp 16 d28.sem (lp 10 d27.sem (lp 4 e3l.sem l0))
abbrev d8z:ZC ((List UInt8)×Unit):=d0l
abbrev g0e:ZD ((List UInt8)):=f9n
def f8d (a:(List UInt8)×Unit):Option ((List UInt8)):=qej a.1
abbrev h1w:ZC (Patron×Unit):=Zc x02 Zn
abbrev e6z {R:Type}:Sm R:=o0 h1w a0e (fun a=>qb0 a.1)
abbrev e64 {R:Type}:Sm R:=o0 d0n a0e (fun a=>qba a.1)
def f05 {R:Type}:Nat→Sm R:=cl 161 e6z c0
abbrev d2o:=a0q [] [] [3,10,11,12] [] [] (Zs 3 Zi (Zs 10 x0u (Zs 11 Zi (Zs 12 Zi Zz)))) b89 x0s
def c5g {R:Type}:Lp Kd El R:=lp 5 d2o.sem l0
abbrev e8c {R:Type}:Sm R:=o0 a2o u3 (fun a=>qe3 a.1)
abbrev e7z {R:Type}:Sm R:=o0 a2o u3 (fun a=>qd0 a.1)
abbrev e65 {R:Type}:Sm R:=o0 d0m a0e (fun a=>qbc a.1)
def f07 {R:Type}:Nat→Sm R:=cl 147 e7z (cl 162 e8c c0)
abbrev d2q:=a0q [] [] [0,8,9,10] [] [] (Zs 0 x0l (Zs 8 x0l (Zs 9 Zi (Zs 10 Zi Zz)))) b5i x0s
def c5i {R:Type}:Lp Kd El R:=lp 4 d2q.sem l0
abbrev g8v {R:Type}:Sm R:=o0 c2s u3 (fun a=>qb4 a.1 a.2.1 a.2.2.1)
abbrev g98 {R:Type}:Sm R:=o0 a2o u3 (fun a=>qe0 a.1)
abbrev e8r {R:Type}:Sm R:=o0 f5x a0e (fun a=>qfa a.1)
abbrev d8p:ZC (Hold×Hold×Unit):=Zc x0r x1i
abbrev e7p {R:Type}:Sm R:=o0 d8p u3 (fun a=>qck a.1 a.2.1)
abbrev h2s:ZC ((List Hold)×((Unit)×(Unit))×Unit):=Zc x0d (Zc (Cod.fnc 165 (Zn) (Zn)) Zn)
abbrev g0h {R:Type}:Sm R:=o0 h2s u3 (fun a=>qd (fun g x0 x1=>qck x0 x1) a.1 a.2.1)
def g1a {R:Type}:Nat→Sm R:=cl 165 e7p c0
abbrev e24:=a0q [] [] [0,1,5,8,9,12,13] [] [] (Zs 0 x0d (Zs 1 (Cod.fnc 165 (Zn) (Zn)) x1g)) (c51 (fun g x0 x1=>qck x0 x1)) (.xs 2 [0,1,8,9] [] [] x09 x0n)
abbrev e23:=a0q [] [] [0,1,8,9] [] [] x09 (c9c (fun g x0 x1=>qck x0 x1)) x1p
def c1o {R:Type}:Lp Kd El R:=lp 2 e23.sem (lp 5 e24.sem l0)
abbrev e78 {R:Type}:Sm R:=o0 d8p u3 (fun a=>qdt a.1 a.2.1)
abbrev d0t:ZC ((List Hold)×((Unit)×(Unit))×Unit):=Zc x0d (Zc (Cod.fnc 166 (Zn) (Zn)) Zn)
abbrev c62 {R:Type}:Sm R:=o0 d0t u3 (fun a=>qd (fun g x0 x1=>qdt x0 x1) a.1 a.2.1)
def d46 {R:Type}:Nat→Sm R:=cl 166 e78 c0
abbrev b8l:=a0q [] [] [0,1,5,8,9,12,13] [] [] (Zs 0 x0d (Zs 1 (Cod.fnc 166 (Zn) (Zn)) x1g)) (c51 (fun g x0 x1=>qdt x0 x1)) (.xs 2 [0,1,8,9] [] [] x1a x0n)
abbrev b8k:=a0q [] [] [0,1,8,9] [] [] x1a (c9c (fun g x0 x1=>qdt x0 x1)) x1p
def a9h {R:Type}:Lp Kd El R:=lp 2 b8k.sem (lp 5 b8l.sem l0)
abbrev g0l {R:Type}:Sm R:=o0 g0x a0e (fun a=>qi a.1)
def g1d {R:Type}:Nat→Sm R:=cl 163 e8r (cl 164 (si h2s g0h (si d0t c62 s0)) c0)
abbrev e28:=a0q [] [] [0,9,10,11] [] [] (Zs 0 x0d (Zs 9 x0d x1n)) c9h (.xs 0 [0] [] [] (Zs 0 x0d Zz) x0e)
def d3k {R:Type}:Lp Kd El R:=lp 4 e28.sem l0
abbrev h0c {R:Type}:Sm R:=o0 a2o u3 (fun a=>qe8 a.1)
abbrev h0g {R:Type}:Sm R:=o0 a2o u3 (fun a=>qek a.1)
abbrev h1z:ZC (Charge×Unit):=Zc (Cod.agg a49) Zn
abbrev e62 {R:Type}:Sm R:=o0 h1z a0e (fun a=>qb7 a.1)
abbrev e66 {R:Type}:Sm R:=o0 f5l a0e (fun a=>qbd a.1)
def f08 {R:Type}:Nat→Sm R:=cl 167 e62 c0
abbrev d2r:=a0q [] [] [0,9,10,11] [] [] (Zs 0 x0p (Zs 9 x0p x1n)) b5j x0s
def c5j {R:Type}:Lp Kd El R:=lp 4 d2r.sem l0
abbrev g9b {R:Type}:Sm R:=o0 c2s u3 (fun a=>qbw a.1 a.2.1 a.2.2.1)
abbrev e8f {R:Type}:Sm R:=o0 d8n u3 (fun a=>qe6 a.1)
abbrev h2l:ZC (Rule×Rule×Unit):=Zc x1h (Zc (Cod.cptr a3t) Zn)
abbrev e7q {R:Type}:Sm R:=o0 h2l u3 (fun a=>qcn a.1 a.2.1)
abbrev f5m:ZC ((List Rule)×((Unit)×(Rule×Unit))×Unit):=Zc x01 (Zc (Cod.fnc 169 (Zn) (Zc (Cod.cptr a3t) Zn)) Zn)
abbrev g8e {R:Type}:Sm R:=o0 f5m a0e (fun a=>qa7 (fun g x0=>qcn x0 g.2.1) a.1 a.2.1)
def f0j {R:Type}:Nat→Sm R:=cl 169 e7q c0
abbrev d1z:=a0q [] [] [0,1,7,8] [] [] (Zs 0 x01 (Zs 1 (Cod.fnc 169 (Zn) (Zc (Cod.cptr a3t) Zn)) x0g)) (b8x (fun g x0=>qcn x0 g.2.1)) x0a
def c40 {R:Type}:Lp Kd El R:=lp 2 d1z.sem l0
abbrev e8d {R:Type}:Sm R:=o0 f5m u3 (fun a=>qe4 (fun g x0=>qcn x0 g.2.1) a.1 a.2.1)
abbrev g0q {R:Type}:Sm R:=o0 h3c a0e (fun a=>qw a.1)
def g1q {R:Type}:Nat→Sm R:=cl 168 e8f (cl 170 e8d c0)
abbrev e3p:=a0q [] [] [0,9,10,11] [] [] (Zs 0 x01 (Zs 9 x01 x1n)) d7p x0s
def d3q {R:Type}:Lp Kd El R:=lp 4 e3p.sem l0
abbrev e7g {R:Type}:Sm R:=o0 a2o u3 (fun a=>qc7 a.1)
abbrev e7c {R:Type}:Sm R:=o0 a2o u3 (fun a=>qc2 a.1)
abbrev f5n:ZC ((List Int)×((Unit)×(Unit))×Unit):=Zc x00 (Zc (Cod.fnc 172 (Zn) (Zn)) Zn)
abbrev g8f {R:Type}:Sm R:=o0 f5n a0e (fun a=>qa8 (fun g x0=>qc2 x0) a.1 a.2.1)
def f0k {R:Type}:Nat→Sm R:=cl 172 e7c c0
abbrev d12:=a0q [] [] [0,1,7,8] [] [] (Zs 0 x00 (Zs 1 (Cod.fnc 172 (Zn) (Zn)) x0g)) (b8y (fun g x0=>qc2 x0)) x0a
def c41 {R:Type}:Lp Kd El R:=lp 2 d12.sem l0
abbrev e8e {R:Type}:Sm R:=o0 f5n u3 (fun a=>qe5 (fun g x0=>qc2 x0) a.1 a.2.1)
abbrev g0p {R:Type}:Sm R:=o0 g0y a0e (fun a=>qv a.1)
def g1p {R:Type}:Nat→Sm R:=cl 171 e8e c0
abbrev e3o:=a0q [] [] [1,24,25,26] [1] [] (Zp 1 1 (Zs 24 x00 (Zs 25 Zi (Zs 26 Zi (Zx 1 u9 Zz))))) c9p (.xs 1 [] [] [] Zz x0e)
def d3p {R:Type}:Lp Kd El R:=lp 8 e3o.sem l0
abbrev h7t {R:Type}:Sm R:=o0 a89 u3 (fun a=>qr a.1)
def g1l {R:Type}:Nat→Sm R:=cl 28 e61 (cl 97 e64 (cl 98 e65 (cl 99 g0l (cl 100 e66 (cl 101 g0q (cl 102 g0p c0))))))
abbrev e3k:=a0q [] [] [1,38,39] [1] [] (Zp 1 1 (Zs 38 (Cod.agg a56) (Zs 39 Zi x0f))) c6j x0i
abbrev d25:=a0q [] [] [1,57,58,59] [1] [] (Zp 1 1 (Zs 57 x0d (Zs 58 Zi (Zs 59 Zi x0f)))) b9q x0y
abbrev d26:=a0q [] [] [1,70,71,72] [1] [] (Zp 1 1 (Zs 70 x0p (Zs 71 Zi (Zs 72 Zi x0f)))) b9r x1b
def b2s {R:Type}:Lp Kd El R:=lp 18 d26.sem (lp 12 d25.sem (lp 4 e3k.sem l0))
abbrev h2c:ZC (Patron×Int×Unit):=Zc x02 x0m
abbrev e7d {R:Type}:Sm R:=o0 h2c u3 (fun a=>qc4 a.1 a.2.1)
abbrev h8f:ZC ((List Patron)×((Unit)×(Int×Unit))×Unit):=Zc x0u (Zc (Cod.fnc 192 (Zn) x0m) Zn)
abbrev h7q {R:Type}:Sm R:=o0 h8f a0e (fun a=>qn (fun g x0=>qc4 x0 g.2.1) a.1 a.2.1)
def g1i {R:Type}:Nat→Sm R:=cl 192 e7d c0
abbrev e3e:=a0q [] [] [0,1,7,8] [] [] (Zs 0 x0u (Zs 1 (Cod.fnc 192 (Zn) x0m) x0g)) (c9m (fun g x0=>qc4 x0 g.2.1)) x0a
def d3m {R:Type}:Lp Kd El R:=lp 2 e3e.sem l0
abbrev g9c {R:Type}:Sm R:=o0 d0p a0e (fun a=>qbx a.1 a.2.1)
abbrev g9j {R:Type}:Sm R:=o0 d0p f9t (fun a=>qcd a.1 a.2.1)
abbrev h2i:ZC (Int×Circ×Unit):=Zc Zi (Zc (Cod.cptr j5) Zn)
abbrev e7l {R:Type}:Sm R:=o0 h2i u3 (fun a=>qcc a.1 a.2.1)
abbrev h7n {R:Type}:Sm R:=o0 a89 u3 (fun a=>qf a.1)
def g1b {R:Type}:Nat→Sm R:=cl 73 c60 (cl 103 e7l c0)
abbrev e25:=a0q [] [] [1,3,12,13,14] [1] [] (Zp 1 1 (FC.clo 3 103 [] [1] (Zs 12 x0l (Zs 13 Zi (Zs 14 Zi x0f))))) c9e (.xs 0 [1,3] [1] [] (Zp 1 1 (FC.clo 3 103 [] [1] x0f)) x0c)
abbrev e26:=a0q [] [] [1,3,32,33,34] [1] [] (Zp 1 1 (FC.clo 3 103 [] [1] (Zs 32 x0d (Zs 33 Zi (Zs 34 Zi x0f))))) d7d (.xs 2 [1,3] [1] [] (Zp 1 1 (FC.clo 3 103 [] [1] x0f)) x0c)
abbrev d20:=a0q [] [] [3,45,46,47] [1] [] (FC.clo 3 103 [] [1] (Zs 45 x0p (Zs 46 Zi (Zs 47 Zi x0f)))) b9h x1b
def b2o {R:Type}:Lp Kd El R:=lp 15 d20.sem (lp 9 e26.sem (lp 3 e25.sem l0))
abbrev h68:ZD ((Int×Unit)):=(Cod.clo 120 x0m)
abbrev g8h {R:Type}:Sm R:=o0 a2o h68 (fun a=>qaa a.1)
abbrev h14:ZC (Loan×Int×Unit):=Zc x03 x0m
abbrev e63 {R:Type}:Sm R:=o0 h14 u3 (fun a=>qb8 a.1 a.2.1)
abbrev g0w:ZC ((List Loan)×((Unit)×(Int×Unit))×Unit):=Zc x0l (Zc (Cod.fnc 120 (Zn) x0m) Zn)
abbrev h7o {R:Type}:Sm R:=o0 g0w a0e (fun a=>qj (fun g x0=>qb8 x0 g.2.1) a.1 a.2.1)
def g1e {R:Type}:Nat→Sm R:=cl 120 e63 c0
abbrev e29:=a0q [] [] [0,1,7,8] [] [] (Zs 0 x0l (Zs 1 (Cod.fnc 120 (Zn) x0m) x0g)) (c9i (fun g x0=>qb8 x0 g.2.1)) x0a
def d3l {R:Type}:Lp Kd El R:=lp 2 e29.sem l0
abbrev f9q:ZD (Loan×Int):=(Cod.tup2 (Zc x03 x0h))
abbrev g84 {R:Type}:Sm R:=o0 g0w f9q (fun a=>qbl (fun g x0=>qb8 x0 g.2.1) a.1 a.2.1)
abbrev c2e {R:Type}:Sm R:=o0 b7t g0c (fun a=>qb9 a.1 a.2.1)
abbrev g85 {R:Type}:Sm R:=o0 a89 u3 (fun a=>qbp a.1)
def f1f {R:Type}:Nat→Sm R:=cl 10 c2e c0
abbrev d2y:=a0q [] [] [1,9,10,11] [1] [] (Zp 1 1 (Zs 9 x0t (Zs 10 Zi (Zs 11 Zi x0f)))) b9c (.xs 0 [] [] [] Zz x0c)
def c5q {R:Type}:Lp Kd El R:=lp 2 d2y.sem l0
abbrev d8q:ZC (Hold×Int×Unit):=Zc x0r x0m
abbrev e7r {R:Type}:Sm R:=o0 d8q u3 (fun a=>qco a.1 a.2.1)
abbrev h8c:ZC ((List Hold)×((Unit)×(Int×Unit))×Unit):=Zc x0d (Zc (Cod.fnc 135 (Zn) x0m) Zn)
abbrev h7k {R:Type}:Sm R:=o0 h8c a0e (fun a=>qa (fun g x0=>qco x0 g.2.1) a.1 a.2.1)
def g07 {R:Type}:Nat→Sm R:=cl 135 e7r c0
abbrev e2y:=a0q [] [] [0,1,7,8] [] [] (Zs 0 x0d (Zs 1 (Cod.fnc 135 (Zn) x0m) x0g)) (b2d (fun g x0=>qco x0 g.2.1)) x0a
def d3h {R:Type}:Lp Kd El R:=lp 2 e2y.sem l0
abbrev e6t {R:Type}:Sm R:=o0 b22 e5u (fun a=>qap a.1 a.2.1)
abbrev g8i {R:Type}:Sm R:=o0 a89 u3 (fun a=>qaf a.1)
def f0p {R:Type}:Nat→Sm R:=cl 62 e6t (cl 73 c60 c0)
abbrev d17:=a0q [] [] [1,13,14,15] [1] [] (Zp 1 1 (Zs 13 x0d (Zs 14 Zi (Zs 15 Zi x0f)))) b5d x0i
abbrev c4k:=a0q [] [] [1,65,66,67] [1] [] (Zp 1 1 (Zs 65 x0t (Zs 66 Zi (Zs 67 Zi x0f)))) b07 x1c
def b4q {R:Type}:Lp Kd El R:=lp 16 c4k.sem (lp 2 d17.sem l0)
abbrev e77 {R:Type}:Sm R:=o0 a89 u3 (fun a=>qdi a.1)
abbrev g0z:ZC (Circ×Item×Unit):=Zc x0q (Zc x0x Zn)
abbrev b2g:ZD (Circ×Int):=(Cod.tup2 (Zc x0q x0h))
abbrev h7w {R:Type}:Sm R:=o0 g0z b2g (fun a=>qy a.1 a.2.1)
abbrev h2v:ZC (Patron×Patron×Unit):=Zc x02 (Zc (Cod.cptr a0o) Zn)
abbrev e71 {R:Type}:Sm R:=o0 h2v u3 (fun a=>qda a.1 a.2.1)
abbrev e9x:ZC ((List Patron)×((Unit)×(Patron×Unit))×Unit):=Zc x0u (Zc (Cod.fnc 188 (Zn) (Zc (Cod.cptr a0o) Zn)) Zn)
abbrev e8v {R:Type}:Sm R:=o0 e9x a0e (fun a=>qn (fun g x0=>qda x0 g.2.1) a.1 a.2.1)
def d48 {R:Type}:Nat→Sm R:=cl 188 e71 c0
abbrev b8n:=a0q [] [] [0,1,7,8] [] [] (Zs 0 x0u (Zs 1 (Cod.fnc 188 (Zn) (Zc (Cod.cptr a0o) Zn)) x0g)) (c9m (fun g x0=>qda x0 g.2.1)) x0a
def b4x {R:Type}:Lp Kd El R:=lp 2 b8n.sem l0
abbrev f9w:ZD ((List Patron)):=x0u
abbrev g9s {R:Type}:Sm R:=o0 d0n f9w (fun a=>qd4 a.1)
abbrev d8r:ZC ((List Patron)×Int×(List Patron)×Unit):=Zc x0u (Zc Zi (Zc x0u Zn))
abbrev f9v:ZD ((List Patron)):=f9w
def f76 (a:(List Patron)×Int×(List Patron)×Unit):Option ((List Patron)):=qd3 a.1 a.2.1 a.2.2.1
abbrev f91:ZD ((List Patron)×Int):=(Cod.tup2 (Zc x0u x0h))
abbrev g9t {R:Type}:Sm R:=o0 d0n f91 (fun a=>qd9 a.1)
abbrev h2b:ZC ((List Patron)×Patron×Unit):=Zc x0u (Zc x02 Zn)
abbrev g9e {R:Type}:Sm R:=o0 h2b f91 (fun a=>qbz a.1 a.2.1)
abbrev f5w:ZC (Circ×Patron×Unit):=Zc x0q (Zc x02 Zn)
abbrev g94 {R:Type}:Sm R:=o0 f5w b2g (fun a=>qds a.1 a.2.1)
abbrev f5y:ZC (Unit):=Zn
abbrev h0d {R:Type}:Sm R:=o0 f5y g0f (fun a=>qee)
abbrev h69:ZC (Circ_desk):=n9
abbrev e6q {R:Type}:Sm R:=g0g a89 h69 (fun a=>qae a.1)
abbrev d4h:ZC (Unit×Int×Unit):=Zc (Cod.ptrc 100000) x0h
abbrev b2f:ZD (Unit):=Cod.unit
abbrev h7s {R:Type}:Sm R:=b6e d4h (BC.one n9) b2f (fun a b=>qp a.2.1 b)
abbrev g87 {R:Type}:Sm R:=b6e d4h (BC.one n9) a0e (fun a b=>qbs a.2.1 b)
abbrev h2z:ZC ((List Move)×Unit):=Zc x1q Zn
abbrev h7d:ZD ((List Move)):=x1q
abbrev g9y {R:Type}:Sm R:=o0 h2z h7d (fun a=>qdm a.1)
abbrev f5q:ZC (Unit×Int×Int×Int×Int×Unit):=Zc (Cod.ptrc 100000) (Zc Zi x1f)
abbrev g8n {R:Type}:Sm R:=b6e f5q (BC.one n9) b2f (fun a b=>qan a.2.1 a.2.2.1 a.2.2.2.1 a.2.2.2.2.1 b)
abbrev c94 {R:Type}:Sm R:=o0 d8p a0e (fun a=>qb1 a.1 a.2.1)
abbrev h8h:ZC ((List Hold)×Int×Int×((Unit)×(Unit))×Unit):=Zc x0d (Zc Zi (Zc Zi (Zc x0j Zn)))
abbrev f4y:ZD (List Hold):=x0d
abbrev g0o {R:Type}:Sm R:=o0 h8h f4y (fun a=>qq (fun g x0 x1=>qb1 x0 x1) a.1 a.2.1 a.2.2.1 a.2.2.2.1)
def g1k {R:Type}:Nat→Sm R:=cl 231 c94 c0
abbrev e3j:=a0q [] [] [0,1,2,3,8,9] [] [99999] (FC.arr 0 99999 (Zs 1 Zi (Zs 2 Zi (Zs 3 x0j (Zs 8 Zi (Zs 9 Zi (FC.own 99999 Kd.kHold false Zz))))))) (d7m (fun g x0 x1=>qb1 x0 x1)) (.x 2 [0,1,2,3,8] [] [99999] (FC.arr 0 99999 (Zs 1 Zi (Zs 2 Zi (Zs 3 x0j x0w)))))
abbrev e3i:=a0q [] [] [0,1,2,3,8] [] [99999] (FC.arr 0 99999 (Zs 1 Zi (Zs 2 Zi (Zs 3 x0j x0w)))) (d7l (fun g x0 x1=>qb1 x0 x1)) (.x 0 [] [] [99999] (FC.own 99999 Kd.kHold false Zz))
def c1q {R:Type}:Lp Kd El R:=lp 1 e3i.sem (lp 4 e3j.sem l0)
abbrev f5t:ZC ((List Hold)×Int×Int×Int×((Unit)×(Unit))×Unit):=Zc x0d (Zc Zi (Zc Zi (Zc Zi (Zc x0j Zn))))
abbrev f9r:ZD (List Hold):=f4y
def f74 (a:(List Hold)×Int×Int×Int×((Unit)×(Unit))×Unit):Option (List Hold):=qc1 (fun g x0 x1=>qb1 x0 x1) a.1 a.2.1 a.2.2.1 a.2.2.2.1 a.2.2.2.2.1
abbrev g9f {R:Type}:Sm R:=o0 f5t f9r f74
abbrev h8g:ZC ((List Hold)×Int×((Unit)×(Unit))×Unit):=Zc x0d (Zc Zi (Zc x0j Zn))
abbrev h7r {R:Type}:Sm R:=o0 h8g f4y (fun a=>qo (fun g x0 x1=>qb1 x0 x1) a.1 a.2.1 a.2.2.1)
def g1j {R:Type}:Nat→Sm R:=cl 231 c94 (cl 267 g0o (cl 268 g9f c0))
abbrev e3f:=a0q [] [] [0,1,2,6,7,8] [] [99999] (FC.arr 0 99999 x1o) (f4v (fun g x0 x1=>qb1 x0 x1)) (.x 0 [0,1,2,6,7] [] [99999] (FC.arr 0 99999 x05))
abbrev e3h:=a0q [] [] [0,1,2,6,7,8] [] [99999] (FC.arr 0 99999 x1o) (h64 (fun g x0 x1=>qb1 x0 x1)) (.x 4 [0,1,2,6,7] [] [99999] (FC.arr 0 99999 x05))
abbrev e3g:=a0q [] [] [0,1,2,6] [] [99999] (FC.arr 0 99999 (Zs 1 Zi (Zs 2 x0j (Zs 6 Zi (FC.own 99999 Kd.kHold false Zz))))) (f4w (fun g x0 x1=>qb1 x0 x1)) (.x 2 [] [] [99999] (FC.own 99999 Kd.kHold false Zz))
def b2r {R:Type}:Lp Kd El R:=lp 7 e3g.sem (lp 9 e3h.sem (lp 2 e3f.sem l0))
abbrev h2u:ZC ((List Hold)×((Unit)×(Unit))×Unit):=Zc x0d (Zc x0j Zn)
abbrev e70 {R:Type}:Sm R:=o0 h2u f4y (fun a=>qd2 (fun g x0 x1=>qb1 x0 x1) a.1 a.2.1)
abbrev h3b:ZC ((List Hold)×Int×Int×Unit):=Zc x0d x0o
abbrev f4x:ZD ((List Hold)):=x0d
abbrev g0k {R:Type}:Sm R:=o0 h3b f4x (fun a=>qh a.1 a.2.1 a.2.2.1)
def g1c {R:Type}:Nat→Sm R:=cl 230 e70 c0
abbrev e27:=a0q [(7,7,Kd.kHold)] [] [1,2,7,10,11,12] [] [7] (Zs 1 Zi (Zs 2 Zi (FC.arr 7 7 (Zs 10 x0d (Zs 11 Zi (Zs 12 Zi (FC.own 7 Kd.kHold false Zz))))))) d7f (.x 0 [7] [] [7] (FC.arr 7 7 (FC.own 7 Kd.kHold false Zz)))
def d3j {R:Type}:Lp Kd El R:=lp 3 e27.sem l0
abbrev h17:ZC ((List Hold)×Item×Int×Int×Bool×Unit):=Zc x0d (Zc x0x (Zc Zi (Zc Zi x1e)))
abbrev g82 {R:Type}:Sm R:=o0 h17 a0e (fun a=>qbj a.1 a.2.1 a.2.2.1 a.2.2.2.1 a.2.2.2.2.1)
def f1b {R:Type}:Nat→Sm R:=cl 206 g0k c0
abbrev d2u:=a0q [] [] [2,4,6,11,18,19,20] [6] [] (Zs 2 Zi (Zs 4 Zb (Zp 6 6 (Zs 11 Zi (Zs 18 x0d (Zs 19 Zi (Zs 20 Zi (Zx 6 w6 Zz)))))))) b9a (.xs 0 [11] [] [] (Zs 11 Zi Zz) (.r [10] [] [] (Zs 10 Zi Zz)))
def c5m {R:Type}:Lp Kd El R:=lp 3 d2u.sem l0
abbrev e7x {R:Type}:Sm R:=o0 g0z a0e (fun a=>qcw a.1 a.2.1)
abbrev e8l {R:Type}:Sm R:=o0 d8q u3 (fun a=>qeh a.1 a.2.1)
abbrev e9s:ZC ((List Hold)×((Unit)×(Int×Unit))×Unit):=Zc x0d (Zc (Cod.fnc 200 (Zn) x0m) Zn)
abbrev e6h {R:Type}:Sm R:=o0 e9s a0e (fun a=>qa (fun g x0=>qeh x0 g.2.1) a.1 a.2.1)
def d4x {R:Type}:Nat→Sm R:=cl 200 e8l c0
abbrev b8b:=a0q [] [] [0,1,7,8] [] [] (Zs 0 x0d (Zs 1 (Cod.fnc 200 (Zn) x0m) x0g)) (b2d (fun g x0=>qeh x0 g.2.1)) x0a
def b4h {R:Type}:Lp Kd El R:=lp 2 b8b.sem l0
abbrev c2q:ZC ((List Hold)×Int×Unit):=Zc x0d x0h
abbrev g8c {R:Type}:Sm R:=o0 c2q a0e (fun a=>qa5 a.1 a.2.1)
abbrev e7o {R:Type}:Sm R:=o0 c2q e5u (fun a=>qci a.1 a.2.1)
abbrev d8m:ZC (Unit×Int×Int×Unit):=Zc (Cod.ptrc 100000) x0o
abbrev g9a {R:Type}:Sm R:=b6e d8m (BC.one n9) b2f (fun a b=>qbv a.2.1 a.2.2.1 b)
abbrev h0m {R:Type}:Sm R:=o0 c2r u3 (fun a=>qes a.1 a.2.1)
abbrev h1x:ZC (Rule×Int×Int×Int×Unit):=Zc x1h x1f
abbrev e60 {R:Type}:Sm R:=o0 h1x u3 (fun a=>qb3 a.1 a.2.1 a.2.2.1 a.2.2.2.1)
abbrev e67 {R:Type}:Sm R:=o0 d8n a0e (fun a=>qbh a.1)
def f1a {R:Type}:Nat→Sm R:=c0
abbrev d2t:=a0q [] [] [3,12,13,14] [] [12] (Zs 3 Zi (FC.arr 12 12 (Zs 13 Zi (Zs 14 Zi (FC.own 12 Kd.ki64 false Zz))))) b1p (.x 0 [3] [] [] x06)
def c5l {R:Type}:Lp Kd El R:=lp 3 d2t.sem l0
abbrev f5r:ZC ((List Rule)×Int×Int×Int×Unit):=Zc x01 x1f
abbrev g8x {R:Type}:Sm R:=o0 f5r a0e (fun a=>qbb a.1 a.2.1 a.2.2.1 a.2.2.2.1)
def f06 {R:Type}:Nat→Sm R:=cl 225 e60 (cl 226 e67 c0)
abbrev d2p:=a0q [] [] [0,1,2,3,9,12,13,14] [] [] (Zs 0 x01 (Zs 1 Zi (Zs 2 Zi (Zs 3 Zi (Zs 9 Zi (Zs 12 x01 (Zs 13 Zi (Zs 14 Zi Zz)))))))) b5h (.x 0 [9] [] [] (Zs 9 Zi Zz))
def c5h {R:Type}:Lp Kd El R:=lp 3 d2p.sem l0
abbrev g0d:ZD (Rule×Bool):=(Cod.tup2 (Zc x1h x1e))
abbrev h0f {R:Type}:Sm R:=o0 f5r g0d (fun a=>qeg a.1 a.2.1 a.2.2.1 a.2.2.2.1)
abbrev h1y:ZC (Circ×Int×Item×Unit):=Zc x0q (Zc Zi (Zc x0x Zn))
abbrev g8w {R:Type}:Sm R:=o0 h1y g0d (fun a=>qb6 a.1 a.2.1 a.2.2.1)
abbrev h7c:ZD (Calendar):=x1k
abbrev g9l {R:Type}:Sm R:=o0 b22 h7c (fun a=>qcl a.1 a.2.1)
abbrev h0b {R:Type}:Sm R:=o0 a2o u3 (fun a=>qe7 a.1)
abbrev e8g {R:Type}:Sm R:=o0 c2r u3 (fun a=>qe9 a.1 a.2.1)
abbrev e8n {R:Type}:Sm R:=o0 a2o u3 (fun a=>qeo a.1)
abbrev h1v:ZC ((List Int)×Int×Unit):=Zc x00 x0h
abbrev h7b:ZD (Int×Bool):=(Cod.tup2 (Zc Zi x1e))
abbrev g8t {R:Type}:Sm R:=o0 h1v h7b (fun a=>qaz a.1 a.2.1)
def f04 {R:Type}:Nat→Sm R:=cl 238 e8g (cl 266 e8n c0)
abbrev d2m:=a0q [] [] [0,1,6,7,8] [] [] (Zs 0 x00 (Zs 1 Zi (Zs 6 Zi x0g))) b88 (.x 0 [0,1,6,7] [] [] (Zs 0 x00 (Zs 1 Zi (Zs 6 Zi (Zs 7 Zi Zz)))))
def c5f {R:Type}:Lp Kd El R:=lp 3 d2m.sem l0
abbrev h7a:ZD ((V7 Bool)):=(Cod.agg a1f)
abbrev e6x {R:Type}:Sm R:=o0 g0y h7a (fun a=>qau a.1)
def f0z {R:Type}:Nat→Sm R:=c0
abbrev d2h:=a0q [] [] [1,2,3,5] [1,2,3] [] (Zp 1 1 (Zp 2 2 (Zp 3 3 (Zs 5 Zi (Zx 1 u9 (Zx 2 a1f (Zx 3 a1f Zz))))))) e4r (.x 0 [2,3] [2,3] [] (Zp 2 2 (Zp 3 3 (Zx 2 a1f (Zx 3 a1f Zz)))))
def c5a {R:Type}:Lp Kd El R:=lp 3 d2h.sem l0
abbrev h03 {R:Type}:Sm R:=o0 a2o u3 (fun a=>qfo a.1)
abbrev e72 {R:Type}:Sm R:=o0 a2o a0e (fun a=>qdb a.1)
abbrev d8o:ZC (Calendar×Int×Unit):=Zc x1k x0h
abbrev c96 {R:Type}:Sm R:=o0 d8o u3 (fun a=>qcj a.1 a.2.1)
abbrev e6e {R:Type}:Sm R:=o0 d8o b53 (fun a=>qa2 a.1 a.2.1)
def f0f {R:Type}:Nat→Sm R:=cl 223 c96 c0
abbrev d1v:=a0q [] [] [2,6] [2] [] (Zp 2 2 (Zs 6 Zi (Zx 2 u9 Zz))) c5w x1j
def c4w {R:Type}:Lp Kd El R:=lp 2 d1v.sem l0
abbrev f5o:ZC (Calendar×Int×Int×Unit):=Zc x1k x0o
abbrev g8g {R:Type}:Sm R:=o0 f5o b53 (fun a=>qa9 a.1 a.2.1 a.2.2.1)
def f0l {R:Type}:Nat→Sm R:=cl 173 e7g (cl 194 e6e c0)
abbrev d13:=a0q [] [] [3,8,28,29] [3] [] (Zp 3 3 (Zs 8 Zi (Zs 28 Zi (Zs 29 Zi (Zx 3 u9 Zz))))) b8z (.xs 0 [8] [] [] (Zs 8 Zi Zz) (.r [6,7] [] [] (Zs 6 Zi (Zs 7 Zi Zz))))
def c42 {R:Type}:Lp Kd El R:=lp 9 d13.sem l0
abbrev h0l {R:Type}:Sm R:=b6e d8m (BC.one n9) a0e (fun a b=>qeq a.2.1 a.2.2.1 b)
abbrev h2m:ZC (Hold×Int×Int×Unit):=Zc x0r x1m
abbrev e7s {R:Type}:Sm R:=o0 h2m u3 (fun a=>qcq a.1 a.2.1 a.2.2.1)
abbrev d0i:ZC ((List Hold)×((Unit)×(Int×Int×Unit))×Unit):=Zc x0d (Zc (Cod.fnc 184 (Zn) x1m) Zn)
abbrev e6i {R:Type}:Sm R:=o0 d0i a0e (fun a=>qa (fun g x0=>qcq x0 g.2.1 g.2.2.1) a.1 a.2.1)
def d4y {R:Type}:Nat→Sm R:=cl 184 e7s c0
abbrev b8c:=a0q [] [] [0,1,7,8] [] [] (Zs 0 x0d (Zs 1 (Cod.fnc 184 (Zn) x1m) x0g)) (b2d (fun g x0=>qcq x0 g.2.1 g.2.2.1)) x0a
def b4i {R:Type}:Lp Kd El R:=lp 2 b8c.sem l0
abbrev g8u {R:Type}:Sm R:=o0 d0i u3 (fun a=>qb2 (fun g x0=>qcq x0 g.2.1 g.2.2.1) a.1 a.2.1)
abbrev g90 {R:Type}:Sm R:=o0 g0x f4x (fun a=>qdo a.1)
abbrev h2t:ZC ((List Hold)×Int×Hold×Unit):=Zc x0d (Zc Zi x1i)
abbrev g9r {R:Type}:Sm R:=o0 h2t f4x (fun a=>qd1 a.1 a.2.1 a.2.2.1)
abbrev h1t:ZC ((List Hold)×Int×Int×Int×Int×Unit):=Zc x0d (Zc Zi x1f)
abbrev e5t:ZD ((List Hold)×Int):=(Cod.tup2 (Zc x0d x0h))
abbrev g8p {R:Type}:Sm R:=o0 h1t e5t (fun a=>qaq a.1 a.2.1 a.2.2.1 a.2.2.2.1 a.2.2.2.2.1)
abbrev h2h:ZC (Unit×(List Hold)×Int×Unit):=Zc (Cod.ptrc 100000) (Zc x0d x0h)
abbrev g9i {R:Type}:Sm R:=b6e h2h (BC.one n9) b2f (fun a b=>qcb a.2.1 a.2.2.1 b)
abbrev h21:ZC (Unit×Int×Hold×Unit):=Zc (Cod.ptrc 100000) (Zc Zi x1i)
abbrev g91 {R:Type}:Sm R:=b6e h21 (BC.one n9) b2f (fun a b=>qdp a.2.1 a.2.2.1 b)
abbrev e7m {R:Type}:Sm R:=b6e d4h (BC.one n9) b2f (fun a b=>qcg a.2.1 b)
abbrev h8e:ZC (Unit×Unit):=Zc (Cod.ptrc 100000) Zn
abbrev g0j {R:Type}:Sm R:=b6e h8e (BC.one n9) b2g (fun a b=>qg b)
abbrev d0s:ZC (Circ×Int×Int×Unit):=Zc x0q x0o
abbrev g9o {R:Type}:Sm R:=o0 d0s b2g (fun a=>qct a.1 a.2.1 a.2.2.1)
abbrev h1s:ZC ((List Charge)×Int×Unit):=Zc x0p x0h
abbrev g8d {R:Type}:Sm R:=o0 h1s a0e (fun a=>qa6 a.1 a.2.1)
def f0i {R:Type}:Nat→Sm R:=c0
abbrev d1y:=a0q [] [] [1,5,8,9,10] [] [] (Zs 1 Zi (Zs 5 Zi (Zs 8 x0p (Zs 9 Zi (Zs 10 Zi Zz))))) b8w (.x 0 [5] [] [] x07)
def c4z {R:Type}:Lp Kd El R:=lp 3 d1y.sem l0
abbrev d7s:ZD ((List Loan)):=x0l
abbrev e6d {R:Type}:Sm R:=o0 b7t d7s (fun a=>q8 a.1 a.2.1)
def g06 {R:Type}:Nat→Sm R:=c0
abbrev e2x:=a0q [(5,5,Kd.kLoan)] [] [1,5,8,9,10] [] [5] (Zs 1 Zi (FC.arr 5 5 (Zs 8 x0l (Zs 9 Zi (Zs 10 Zi (FC.own 5 Kd.kLoan false Zz)))))) d62 (.x 0 [5] [] [5] (FC.arr 5 5 (FC.own 5 Kd.kLoan false Zz)))
def d3g {R:Type}:Lp Kd El R:=lp 3 e2x.sem l0
abbrev d0o:ZC ((List Loan)×Int×Int×Unit):=Zc x0l x0o
abbrev g8r {R:Type}:Sm R:=o0 d0o a0e (fun a=>qax a.1 a.2.1 a.2.2.1)
def f02 {R:Type}:Nat→Sm R:=cl 129 e6d c0
abbrev d2k:=a0q [] [] [2,7,12,13,14] [] [] (Zs 2 Zi (Zs 7 Zi (Zs 12 x0l (Zs 13 Zi (Zs 14 Zi Zz))))) b86 (.x 0 [7] [] [] (Zs 7 Zi Zz))
def c5d {R:Type}:Lp Kd El R:=lp 3 d2k.sem l0
abbrev h16:ZC (Patron×Int×Int×Int×Unit):=Zc x02 x1f
abbrev g80 {R:Type}:Sm R:=o0 h16 c6l (fun a=>qbg a.1 a.2.1 a.2.2.1 a.2.2.2.1)
def f09 {R:Type}:Nat→Sm R:=c0
abbrev d2s:=a0q [(9,9,Kd.ki64)] [] [9,22,23,24] [] [9,22] (FC.arr 9 9 (FC.arr 22 22 (Zs 23 Zi (Zs 24 Zi (FC.own 9 Kd.ki64 false (FC.own 22 Kd.kbool false Zz)))))) e4t (.x 0 [9] [] [9] (FC.arr 9 9 (FC.own 9 Kd.ki64 false Zz)))
def c5k {R:Type}:Lp Kd El R:=lp 3 d2s.sem l0
abbrev e74 {R:Type}:Sm R:=o0 f5w u3 (fun a=>qdd a.1 a.2.1)
abbrev g86 {R:Type}:Sm R:=o0 d8o b53 (fun a=>qbq a.1 a.2.1)
def f1g {R:Type}:Nat→Sm R:=cl 223 c96 c0
abbrev d2z:=a0q [] [] [2,6] [2] [] (Zp 2 2 (Zs 6 Zi (Zx 2 u9 Zz))) c5z x1j
def c5r {R:Type}:Lp Kd El R:=lp 2 d2z.sem l0
abbrev f5v:ZC (Rule×Calendar×Int×Int×Unit):=Zc x1h (Zc x1k x0o)
abbrev g9u {R:Type}:Sm R:=o0 f5v b53 (fun a=>qdh a.1 a.2.1 a.2.2.1 a.2.2.2.1)
abbrev h29:ZC (Circ×Item×Patron×Int×Unit):=Zc x0q (Zc x0x (Zc x02 x0h))
abbrev h0o {R:Type}:Sm R:=o0 h29 b53 (fun a=>qev a.1 a.2.1 a.2.2.1 a.2.2.2.1)
abbrev h2p:ZC (Loan×Loan×Unit):=Zc x03 (Zc (Cod.cptr a19) Zn)
abbrev e7w {R:Type}:Sm R:=o0 h2p u3 (fun a=>qcv a.1 a.2.1)
abbrev b95:ZC ((List Loan)×((Unit)×(Loan×Unit))×Unit):=Zc x0l (Zc (Cod.fnc 131 (Zn) (Zc (Cod.cptr a19) Zn)) Zn)
abbrev e8u {R:Type}:Sm R:=o0 b95 a0e (fun a=>qj (fun g x0=>qcv x0 g.2.1) a.1 a.2.1)
def d47 {R:Type}:Nat→Sm R:=cl 131 e7w c0
abbrev b8m:=a0q [] [] [0,1,7,8] [] [] (Zs 0 x0l (Zs 1 (Cod.fnc 131 (Zn) (Zc (Cod.cptr a19) Zn)) x0g)) (c9i (fun g x0=>qcv x0 g.2.1)) x0a
def b4w {R:Type}:Lp Kd El R:=lp 2 b8m.sem l0
abbrev d74 {R:Type}:Sm R:=o0 b95 f9q (fun a=>qbl (fun g x0=>qcv x0 g.2.1) a.1 a.2.1)
abbrev g9z {R:Type}:Sm R:=o0 d0m d7s (fun a=>qdn a.1)
abbrev d8s:ZC ((List Loan)×Int×(List Loan)×Unit):=Zc x0l (Zc Zi (Zc x0l Zn))
abbrev f9x:ZD ((List Loan)):=d7s
def f77 (a:(List Loan)×Int×(List Loan)×Unit):Option ((List Loan)):=qd5 a.1 a.2.1 a.2.2.1
abbrev d35:ZD ((List Loan)×Int):=(Cod.tup2 (Zc x0l x0h))
abbrev g9n {R:Type}:Sm R:=o0 d0m d35 (fun a=>qcp a.1)
abbrev h19:ZC ((List Loan)×Loan×Unit):=Zc x0l (Zc x03 Zn)
abbrev g89 {R:Type}:Sm R:=o0 h19 d35 (fun a=>qbu a.1 a.2.1)
abbrev h2g:ZC (Unit×(List Loan)×Int×Unit):=Zc (Cod.ptrc 100000) (Zc x0l x0h)
abbrev g9h {R:Type}:Sm R:=b6e h2g (BC.one n9) b2f (fun a b=>qca a.2.1 a.2.2.1 b)
abbrev d8v:ZC ((List Hold)×Int×Int×Unit):=h3b
abbrev f90:ZD ((List Hold)):=f4x
def f8a (a:(List Hold)×Int×Int×Unit):Option ((List Hold)):=qd8 a.1 a.2.1 a.2.2.1
abbrev h7f:ZD ((List Hold)×Hold×Int):=(Cod.tup3 (Zc x0d (Zc x0r x0h)))
abbrev h0p {R:Type}:Sm R:=o0 c2q h7f (fun a=>qex a.1 a.2.1)
abbrev g93 {R:Type}:Sm R:=b6e d4h (BC.one n9) b2f (fun a b=>qdr a.2.1 b)
abbrev b52:ZD (Circ×Int×Int):=(Cod.tup3 (Zc x0q x0o))
abbrev g8z {R:Type}:Sm R:=b6e d4h (BC.one n9) b52 (fun a b=>qbf a.2.1 b)
abbrev h2j:ZC (Hold×Item×Unit):=Zc x0r (Zc x0x Zn)
abbrev e7n {R:Type}:Sm R:=o0 h2j u3 (fun a=>qch a.1 a.2.1)
abbrev h2x:ZC (Hold×Int×Item×Unit):=Zc x0r (Zc x0b x0k)
abbrev e76 {R:Type}:Sm R:=o0 h2x u3 (fun a=>qdf a.1 a.2.1 a.2.2.1)
abbrev e9t:ZC ((List Hold)×((Unit)×(Int×Item×Unit))×Unit):=Zc x0d (Zc (Cod.fnc 66 (Zn) (Zc x0b x0k)) Zn)
abbrev e6j {R:Type}:Sm R:=o0 e9t a0e (fun a=>qa (fun g x0=>qdf x0 g.2.1 g.2.2.1) a.1 a.2.1)
def d4z {R:Type}:Nat→Sm R:=cl 66 e76 c0
abbrev b8d:=a0q [] [] [0,1,7,8] [] [] (Zs 0 x0d (Zs 1 (Cod.fnc 66 (Zn) (Zc x0b x0k)) x0g)) (b2d (fun g x0=>qdf x0 g.2.1 g.2.2.1)) x0a
def b4j {R:Type}:Lp Kd El R:=lp 2 b8d.sem l0
abbrev h15:ZC (Circ×Int×Int×Int×Unit):=Zc x0q x1f
abbrev g8y {R:Type}:Sm R:=o0 h15 b52 (fun a=>qbe a.1 a.2.1 a.2.2.1 a.2.2.2.1)
abbrev h2r:ZC (Item×Int×Unit):=Zc x0x x0h
abbrev g9q {R:Type}:Sm R:=o0 h2r u3 (fun a=>qcz a.1 a.2.1)
abbrev h2d:ZC (Item×Hold×Unit):=Zc x0x (Zc (Cod.cptr y8) Zn)
abbrev e7e {R:Type}:Sm R:=o0 h2d u3 (fun a=>qc5 a.1 a.2.1)
abbrev e9w:ZC ((List Item)×((Unit)×(Hold×Unit))×Unit):=Zc x0t (Zc (Cod.fnc 137 (Zn) (Zc (Cod.cptr y8) Zn)) Zn)
abbrev c61 {R:Type}:Sm R:=o0 e9w a0e (fun a=>qc (fun g x0=>qc5 x0 g.2.1) a.1 a.2.1)
def d44 {R:Type}:Nat→Sm R:=cl 137 e7e c0
abbrev b8i:=a0q [] [] [0,1,7,8] [] [] (Zs 0 x0t (Zs 1 (Cod.fnc 137 (Zn) (Zc (Cod.cptr y8) Zn)) x0g)) (c14 (fun g x0=>qc5 x0 g.2.1)) x0a
def b4u {R:Type}:Lp Kd El R:=lp 2 b8i.sem l0
abbrev h8i:ZC (Circ×Patron×Hold×Unit):=Zc x0q (Zc x02 x1i)
abbrev h80:ZD (Item×Int):=(Cod.tup2 (Zc x0x x0h))
abbrev h7v {R:Type}:Sm R:=o0 h8i h80 (fun a=>qu a.1 a.2.1 a.2.2.1)
def g1o {R:Type}:Nat→Sm R:=cl 73 c60 (cl 74 e74 (cl 124 c61 (cl 129 e6d c0)))
abbrev e3n:=a0q [] [] [3,5,6,8,36,37,38] [3,5,6] [] (Zp 3 3 (Zp 5 5 (Zp 6 6 (Zs 8 Zi (Zs 36 x0l (Zs 37 Zi (Zs 38 Zi (Zx 3 j5 (Zx 5 y8 (Zx 6 w6 Zz)))))))))) c9o (.xs 0 [3,6,8] [3,6] [] (Zp 3 3 (Zp 6 6 (Zs 8 Zi (Zx 3 j5 (Zx 6 w6 Zz))))) (.r [7] [6] [6] (Zp 6 6 (Zs 7 Zi (Zx 6 w6 Zz)))))
def d3o {R:Type}:Lp Kd El R:=lp 9 e3n.sem l0
abbrev h24:ZC ((List Hold)×Hold×Unit):=Zc x0d x1i
abbrev g99 {R:Type}:Sm R:=o0 h24 e5t (fun a=>qe1 a.1 a.2.1)
abbrev e6w {R:Type}:Sm R:=b6e d4h (BC.one n9) b2f (fun a b=>qat a.2.1 b)
def f0y {R:Type}:Nat→Sm R:=cl 52 e7m (cl 92 e7x c0)
abbrev d2g:=a0q [] [] [0,1,11,12] [100000] [] (Zp 0 100000 (Zs 1 Zi (Zs 11 Zi (Zs 12 Zi (Zx 100000 n9 Zz))))) a4r (.xs 0 [] [100000] [] (Zx 100000 n9 Zz) (.r [] [] [100000] (Zx 100000 n9 Zz)))
def c49 {R:Type}:Lp Kd El R:=lp 1 d2g.sem l0
abbrev h23:ZC (Circ×Int×Int×Int×Int×Unit):=Zc x0q (Zc Zi x1f)
abbrev g97 {R:Type}:Sm R:=o0 h23 b52 (fun a=>qdy a.1 a.2.1 a.2.2.1 a.2.2.2.1 a.2.2.2.2.1)
abbrev h2o:ZC (Hold×Circ×Item×Unit):=Zc x0r (Zc (Cod.cptr j5) x0k)
abbrev e7u {R:Type}:Sm R:=o0 h2o u3 (fun a=>qcs a.1 a.2.1 a.2.2.1)
abbrev d0j:ZC ((List Hold)×((Unit)×(Circ×Item×Unit))×Unit):=Zc x0d (Zc (Cod.fnc 75 (Zn) (Zc (Cod.cptr j5) x0k)) Zn)
abbrev e6k {R:Type}:Sm R:=o0 d0j a0e (fun a=>qa (fun g x0=>qcs x0 g.2.1 g.2.2.1) a.1 a.2.1)
def d40 {R:Type}:Nat→Sm R:=cl 75 e7u c0
abbrev b8e:=a0q [] [] [0,1,7,8] [] [] (Zs 0 x0d (Zs 1 (Cod.fnc 75 (Zn) (Zc (Cod.cptr j5) x0k)) x0g)) (b2d (fun g x0=>qcs x0 g.2.1 g.2.2.1)) x0a
def b4k {R:Type}:Lp Kd El R:=lp 2 b8e.sem l0
abbrev d72 {R:Type}:Sm R:=o0 d0j u3 (fun a=>qb2 (fun g x0=>qcs x0 g.2.1 g.2.2.1) a.1 a.2.1)
abbrev h28:ZC (Rule×Calendar×Loan×Int×Int×Unit):=Zc x1h (Zc x1k (Zc x03 x0o))
abbrev h0n {R:Type}:Sm R:=o0 h28 b53 (fun a=>qeu a.1 a.2.1 a.2.2.1 a.2.2.2.1 a.2.2.2.2.1)
abbrev h22:ZC ((List Loan)×Int×Loan×Unit):=Zc x0l (Zc Zi (Zc x03 Zn))
abbrev g92 {R:Type}:Sm R:=o0 h22 d7s (fun a=>qdq a.1 a.2.1 a.2.2.1)
abbrev h02 {R:Type}:Sm R:=o0 d0o d35 (fun a=>qfn a.1 a.2.1 a.2.2.1)
abbrev g88 {R:Type}:Sm R:=o0 b22 b52 (fun a=>qbt a.1 a.2.1)
abbrev h1r:ZC (Circ×Hold×Unit):=Zc x0q x1i
abbrev h67:ZD (Loan×Item×Bool):=(Cod.tup3 (Zc x03 (Zc x0x x1e)))
abbrev g8b {R:Type}:Sm R:=o0 h1r h67 (fun a=>qa0 a.1 a.2.1)
def f0d {R:Type}:Nat→Sm R:=cl 10 c2e (cl 67 e7n c0)
abbrev d1t:=a0q [] [] [2,3,4,5,6,12,13,14] [2,3,4,5] [] (Zp 2 2 (Zp 3 3 (Zp 4 4 (Zp 5 5 (Zs 6 Zb (Zs 12 x0t (Zs 13 Zi (Zs 14 Zi (Zx 2 j5 (Zx 3 y8 (Zx 4 a19 (Zx 5 w6 Zz)))))))))))) b47 (.x 0 [4,5,6] [4,5] [] (Zp 4 4 (Zp 5 5 (Zs 6 Zb (Zx 4 a19 (Zx 5 w6 Zz))))))
def c4u {R:Type}:Lp Kd El R:=lp 2 d1t.sem l0
abbrev h00 {R:Type}:Sm R:=o0 d0o d35 (fun a=>qfl a.1 a.2.1 a.2.2.1)
abbrev h0q {R:Type}:Sm R:=o0 b22 b52 (fun a=>qey a.1 a.2.1)
abbrev d8u:ZC ((List Loan)×Int×Int×Unit):=d0o
abbrev f9z:ZD ((List Loan)):=d7s
def f79 (a:(List Loan)×Int×Int×Unit):Option ((List Loan)):=qd7 a.1 a.2.1 a.2.2.1
abbrev h0u {R:Type}:Sm R:=o0 b7t d7s (fun a=>qff a.1 a.2.1)
abbrev h7e:ZD ((List Loan)×Loan×Int):=(Cod.tup3 (Zc x0l (Zc x03 x0h)))
abbrev g96 {R:Type}:Sm R:=o0 b7t h7e (fun a=>qdx a.1 a.2.1)
abbrev e8p {R:Type}:Sm R:=o0 c2r a0e (fun a=>qet a.1 a.2.1)
abbrev g8j {R:Type}:Sm R:=o0 f5o a0e (fun a=>qag a.1 a.2.1 a.2.2.1)
def f0q {R:Type}:Nat→Sm R:=cl 227 e6x (cl 228 e8p (cl 229 e72 c0))
abbrev d18:=a0q [] [] [1,2,3,7,8,22,23] [3,7] [] (Zs 1 Zi (Zs 2 Zi (Zp 3 3 (Zp 7 7 (Zs 8 Zi (Zs 22 (Cod.agg a1f) (Zs 23 Zi (Zx 3 u9 (Zx 7 a1f Zz))))))))) b5e (.x 0 [1,2,3,7,8] [3,7] [] (Zs 1 Zi (Zs 2 Zi (Zp 3 3 (Zp 7 7 (Zs 8 Zi (Zx 3 u9 (Zx 7 a1f Zz))))))))
abbrev c4l:=a0q [] [] [1,2,7,8,40,41,42] [7] [] (Zs 1 Zi (Zs 2 Zi (Zp 7 7 (Zs 8 Zi (Zs 40 x00 (Zs 41 Zi (Zs 42 Zi (Zx 7 a1f Zz)))))))) b08 (.x 2 [8] [] [] (Zs 8 Zi Zz))
def b4r {R:Type}:Lp Kd El R:=lp 13 c4l.sem (lp 7 d18.sem l0)
abbrev h06 {R:Type}:Sm R:=o0 f5v a0e (fun a=>qfr a.1 a.2.1 a.2.2.1 a.2.2.2.1)
abbrev h2y:ZC ((List Charge)×Charge×Unit):=Zc x0p (Zc (Cod.agg a49) Zn)
abbrev f96:ZD ((List Charge)×Int):=(Cod.tup2 (Zc x0p x0h))
abbrev g9w {R:Type}:Sm R:=o0 h2y f96 (fun a=>qdk a.1 a.2.1)
abbrev h0k {R:Type}:Sm R:=b6e f5q (BC.one n9) b2f (fun a b=>qep a.2.1 a.2.2.1 a.2.2.2.1 a.2.2.2.2.1 b)
abbrev h2f:ZC (Charge×Int×Int×Int×Unit):=Zc (Cod.agg a49) (Zc x0b x1m)
abbrev e7i {R:Type}:Sm R:=o0 h2f u3 (fun a=>qc9 a.1 a.2.1 a.2.2.1 a.2.2.2.1)
abbrev h1u:ZC ((List Charge)×((Unit)×(Int×Int×Int×Unit))×Unit):=Zc x0p (Zc (Cod.fnc 204 (Zn) (Zc x0b x1m)) Zn)
abbrev f9p:ZD ((List Charge)×Int×Int):=(Cod.tup3 (Zc x0p x0o))
abbrev g8q {R:Type}:Sm R:=o0 h1u f9p (fun a=>qav (fun g x0=>qc9 x0 g.2.1 g.2.2.1 g.2.2.2.1) a.1 a.2.1)
def f00 {R:Type}:Nat→Sm R:=cl 204 e7i c0
abbrev d2i:=a0q [(4,4,Kd.kCharge)] [] [1,4,5,6,9,10,11] [] [4] (Zs 1 (Cod.fnc 204 (Zn) (Zc x0b x1m)) (FC.arr 4 4 (Zs 5 Zi (Zs 6 Zi (Zs 9 x0p (Zs 10 Zi (Zs 11 Zi (FC.own 4 Kd.kCharge false Zz)))))))) (b84 (fun g x0=>qc9 x0 g.2.1 g.2.2.1 g.2.2.2.1)) (.x 0 [4,5,6] [] [4] (FC.arr 4 4 (Zs 5 Zi (Zs 6 Zi (FC.own 4 Kd.kCharge false Zz)))))
def c5b {R:Type}:Lp Kd El R:=lp 2 d2i.sem l0
abbrev h2a:ZC ((List Charge)×Int×Int×Int×Unit):=Zc x0p x1f
abbrev g9d {R:Type}:Sm R:=o0 h2a f96 (fun a=>qby a.1 a.2.1 a.2.2.1 a.2.2.2.1)
abbrev h0t {R:Type}:Sm R:=b6e d8m (BC.one n9) b2f (fun a b=>qfe a.2.1 a.2.2.1 b)
abbrev h0h {R:Type}:Sm R:=o0 d0s b52 (fun a=>qel a.1 a.2.1 a.2.2.1)
abbrev e8q {R:Type}:Sm R:=o0 f5y u3 (fun a=>qew)
abbrev h2e:ZC (Unit×Hold×Unit):=Zc (Cod.ptrc 100000) x1i
abbrev e7f {R:Type}:Sm R:=b6e h2e (BC.one n9) b2f (fun a b=>qc6 a.2.1 b)
abbrev h01 {R:Type}:Sm R:=o0 b22 b2g (fun a=>qfm a.1 a.2.1)
abbrev h04 {R:Type}:Sm R:=o0 b22 b2g (fun a=>qfp a.1 a.2.1)
abbrev e8m {R:Type}:Sm R:=o0 d8q u3 (fun a=>qei a.1 a.2.1)
abbrev e9u:ZC ((List Hold)×((Unit)×(Int×Unit))×Unit):=Zc x0d (Zc (Cod.fnc 151 (Zn) x0m) Zn)
abbrev e6l {R:Type}:Sm R:=o0 e9u a0e (fun a=>qa (fun g x0=>qei x0 g.2.1) a.1 a.2.1)
def d41 {R:Type}:Nat→Sm R:=cl 151 e8m c0
abbrev b8f:=a0q [] [] [0,1,7,8] [] [] (Zs 0 x0d (Zs 1 (Cod.fnc 151 (Zn) x0m) x0g)) (b2d (fun g x0=>qei x0 g.2.1)) x0a
def b4l {R:Type}:Lp Kd El R:=lp 2 b8f.sem l0
abbrev g9k {R:Type}:Sm R:=o0 c2q e5t (fun a=>qce a.1 a.2.1)
abbrev h07 {R:Type}:Sm R:=o0 b22 b2g (fun a=>qfs a.1 a.2.1)
abbrev e73 {R:Type}:Sm R:=o0 f5u u3 (fun a=>qdc a.1 a.2.1)
abbrev d0r:ZC ((List Item)×((Unit)×(Item×Unit))×Unit):=Zc x0t (Zc (Cod.fnc 154 (Zn) x0k) Zn)
abbrev e7k {R:Type}:Sm R:=o0 d0r a0e (fun a=>qc (fun g x0=>qdc x0 g.2.1) a.1 a.2.1)
def d45 {R:Type}:Nat→Sm R:=cl 154 e73 c0
abbrev b8j:=a0q [] [] [0,1,7,8] [] [] (Zs 0 x0t (Zs 1 (Cod.fnc 154 (Zn) x0k) x0g)) (c14 (fun g x0=>qdc x0 g.2.1)) x0a
def b4v {R:Type}:Lp Kd El R:=lp 2 b8j.sem l0
abbrev h0s {R:Type}:Sm R:=o0 d0r u3 (fun a=>qfd (fun g x0=>qdc x0 g.2.1) a.1 a.2.1)
abbrev h2n:ZC (Hold×Item×Bool×Unit):=Zc x0r x0z
abbrev e7t {R:Type}:Sm R:=o0 h2n u3 (fun a=>qcr a.1 a.2.1 a.2.2.1)
abbrev d0k:ZC ((List Hold)×((Unit)×(Item×Bool×Unit))×Unit):=Zc x0d (Zc (Cod.fnc 155 (Zn) x0z) Zn)
abbrev e6m {R:Type}:Sm R:=o0 d0k a0e (fun a=>qa (fun g x0=>qcr x0 g.2.1 g.2.2.1) a.1 a.2.1)
def d42 {R:Type}:Nat→Sm R:=cl 155 e7t c0
abbrev b8g:=a0q [] [] [0,1,7,8] [] [] (Zs 0 x0d (Zs 1 (Cod.fnc 155 (Zn) x0z) x0g)) (b2d (fun g x0=>qcr x0 g.2.1 g.2.2.1)) x0a
def b4m {R:Type}:Lp Kd El R:=lp 2 b8g.sem l0
abbrev d73 {R:Type}:Sm R:=o0 d0k u3 (fun a=>qb2 (fun g x0=>qcr x0 g.2.1 g.2.2.1) a.1 a.2.1)
abbrev g8k {R:Type}:Sm R:=o0 g0z u3 (fun a=>qah a.1 a.2.1)
abbrev h0x {R:Type}:Sm R:=o0 b22 b2g (fun a=>qfi a.1 a.2.1)
abbrev h08 {R:Type}:Sm R:=o0 d0s b2g (fun a=>qft a.1 a.2.1 a.2.2.1)
abbrev h27:ZC (Circ×Int×Bool×Unit):=Zc x0q (Zc Zi x1e)
abbrev h0e {R:Type}:Sm R:=o0 h27 b2g (fun a=>qef a.1 a.2.1 a.2.2.1)
abbrev h18:ZC ((List Charge)×Int×Int×Unit):=Zc x0p x0o
abbrev g83 {R:Type}:Sm R:=o0 h18 f9p (fun a=>qbk a.1 a.2.1 a.2.2.1)
def f1c {R:Type}:Nat→Sm R:=c0
abbrev d2v:=a0q [(9,9,Kd.kCharge)] [] [1,9,10,21,22,23] [] [9] (Zs 1 Zi (FC.arr 9 9 (Zs 10 Zi (Zs 21 x0p (Zs 22 Zi (Zs 23 Zi (FC.own 9 Kd.kCharge false Zz))))))) b1q (.x 0 [9,10] [] [9] (FC.arr 9 9 (Zs 10 Zi (FC.own 9 Kd.kCharge false Zz))))
def c5n {R:Type}:Lp Kd El R:=lp 6 d2v.sem l0
abbrev h09 {R:Type}:Sm R:=o0 d0s b52 (fun a=>qfu a.1 a.2.1 a.2.2.1)
abbrev e68 {R:Type}:Sm R:=o0 c2q c6l (fun a=>qbm a.1 a.2.1)
def f1d {R:Type}:Nat→Sm R:=c0
abbrev d2w:=a0q [(5,5,Kd.ki64)] [] [1,5,8,9,10] [] [5] (Zs 1 Zi (FC.arr 5 5 (Zs 8 x0d (Zs 9 Zi (Zs 10 Zi (FC.own 5 Kd.ki64 false Zz)))))) b0l (.x 0 [5] [] [5] (FC.arr 5 5 (FC.own 5 Kd.ki64 false Zz)))
def c5o {R:Type}:Lp Kd El R:=lp 3 d2w.sem l0
abbrev d0q:ZC ((List Int)×Unit):=Zc x00 Zn
abbrev f9s:ZD (List Int):=x00
def f75 (a:(List Int)×Unit):Option (List Int):=qc3 a.1
abbrev g9g {R:Type}:Sm R:=o0 d0q f9s f75
abbrev d8x:ZC ((List Int)×Unit):=d0q
abbrev g0a:ZD ((List Int)):=c6l
def f8c (a:(List Int)×Unit):Option ((List Int)):=qdl a.1
abbrev g9x {R:Type}:Sm R:=o0 d8x g0a f8c
abbrev e69 {R:Type}:Sm R:=o0 a89 c6l (fun a=>qbn a.1)
def f1e {R:Type}:Nat→Sm R:=cl 158 g9g (cl 159 g9x c0)
abbrev d2x:=a0q [(3,3,Kd.ki64)] [] [3,7,8,9] [] [3] (FC.arr 3 3 (Zs 7 x0t (Zs 8 Zi (Zs 9 Zi (FC.own 3 Kd.ki64 false Zz))))) b9b (.x 0 [3] [] [3] (FC.arr 3 3 (FC.own 3 Kd.ki64 false Zz)))
def c5p {R:Type}:Lp Kd El R:=lp 3 d2x.sem l0
abbrev g8l {R:Type}:Sm R:=o0 a89 b2g (fun a=>qai a.1)
def f0r {R:Type}:Nat→Sm R:=cl 49 e6q (cl 53 g0j (cl 72 e6w (cl 80 e7o (cl 86 e7f (cl 94 e68 (cl 95 e69 c0))))))
abbrev d19:=a0q [] [] [2,4,36,37,38] [2,16] [] (Zp 2 2 (Zp 4 16 (Zs 36 x00 (Zs 37 Zi (Zs 38 Zi x1d))))) a5k (.x 0 [2,4] [2,16] [] (Zp 2 2 (Zp 4 16 x1d)))
abbrev c4m:=a0q [] [] [2,4,61,62,63] [2,16] [] (Zp 2 2 (Zp 4 16 (Zs 61 x00 (Zs 62 Zi (Zs 63 Zi x1d))))) a2r (.x 2 [2,4] [2,16] [] (Zp 2 2 (Zp 4 16 x1d)))
def b4s {R:Type}:Lp Kd El R:=lp 13 c4m.sem (lp 6 d19.sem l0)
abbrev h26:ZC (Librarylaw33_Deed×Circ×Unit):=Zc (Cod.agg a0n) (Zc x0q Zn)
abbrev e8i {R:Type}:Sm R:=o0 h26 b2g (fun a=>qeb a.1 a.2.1)
abbrev h3d:ZC (Circ×(List Librarylaw33_Deed)×Unit):=Zc x0q (Zc x08 Zn)
abbrev h8z:ZD (Bool):=u3
def h46 (a:Circ×(List Librarylaw33_Deed)×Unit):Option (Bool):=qm a.1 a.2.1
abbrev h7p {R:Type}:Sm R:=o0 h3d h8z h46
def g1h {R:Type}:Nat→Sm R:=cl 4 e8s (cl 5 e8q (cl 6 e8i (cl 7 e77 (cl 8 g0s (cl 9 c92 (cl 10 c2e c0))))))
abbrev d23:=a0q [] [] [1,2,5,6,8] [2,6] [] (Zs 1 x08 (Zp 2 2 (Zs 5 Zi (Zp 6 6 (Zs 8 Zi (Zx 2 j5 (Zx 6 j5 Zz))))))) b5x (.xs 2 [1,2,5,6] [2,6] [] (Zs 1 x08 (Zp 2 2 (Zs 5 Zi (Zp 6 6 (Zx 2 j5 (Zx 6 j5 Zz)))))) x0n)
abbrev e3d:=a0q [] [] [1,2,5] [2] [] (Zs 1 x08 (Zp 2 2 (Zs 5 Zi (Zx 2 j5 Zz)))) c9l (.xs 0 [2] [2] [] (Zp 2 2 (Zx 2 j5 Zz)) x0n)
abbrev d24:=a0q [] [] [2,9] [2] [] (Zp 2 2 (Zs 9 Zi (Zx 2 j5 Zz))) b5y (.xs 4 [] [] [] Zz x0n)
def b2q {R:Type}:Lp Kd El R:=lp 17 d24.sem (lp 4 e3d.sem (lp 11 d23.sem l0))
end
section
open Go
theorem h3r:∀k,m8 (ccK k)
 |.kItem=>c3i
 |.kPatron=>b3f
 |.kLoan=>c3j
 |.kHold=>c3h
 |.kCharge=>b3e
 |.kRule=>c3l
 |.ki64=>m8.one (i6.int _)
 |.kMove=>c3k
 |.kLibrarylaw33_Deed=>a3m
 |.kbool=>m8.one i6.bool
 |.ku16=>m8.one (i6.int _)
 |.ku8=>m8.one (i6.int _)
 |.kUtf8_acceptRange=>a4a
theorem h9t:SgOk sg:=h1a (cc:=ccK) (fun _=>rfl) (fun _=>rfl) h3r (by intro k x;cases k<;>rfl) (by intro k x;cases k<;>rfl) (by intro k;cases k<;>decide)
theorem eok:∀t,h4h t=true→EqOk Tryz.prog t:=d1k kr (d1k kr (g5q))
theorem good:GoodP Tryz.prog sg:=⟨h9r kr kr,h9t,eok⟩
end
end Go.Proofs.YtcebdbdfgkahkaaGreatDoor
namespace Go.Proofs.YtcebdbdfgkahkaaGreatDoor.Ev
open Go
section
section
variable {P:Program} {w:World}
theorem a02 {dT sT ty elem:TypeId} {i0:TypeInfo} {g o dLen dCap sLen sCap z:Nat} {a:Addr} {L cs:List Value} {t:TypeId} (hu:P.underlying dT=some (.slice elem)) (hi:P.info? elem=some i0) (hz:i0.size=z)
 (hg:w.heap[g]?=some (.cells L.toArray t (0,0))) (hn:cs.length=Nat.min sLen dLen*z) (hsrc:∀j v,cs[j]?=some v→w.cell? (a.add j)=some v) (hfit:o+cs.length≤L.length) (h1:∀v∈cs,v.oneCell'=true) :
 (Builtin.copy_ #[dT,sT] ty #[.slice (some ⟨g,o,none⟩) dLen dCap,.slice (some a) sLen sCap]).run P w=.ok (goInt (Nat.min sLen dLen)) (w.setRow g (Go.splice L o cs).toArray):=by
 have hl:=run_firstCells_some (P:=P) w z (Nat.min sLen dLen) a sLen sCap cs hn hsrc;have hst:=run_storeCells_at P g o t cs 0 L.toArray w hg (by simpa using hfit) h1;simp only[ybl]at hst;subst hz;simp[Builtin.copy_,run_underlying hu,Builtin.lenOf,sizeOf,typeInfo,hi,hl,hst,Go.splice]
theorem b6t {ops:Array Oper} {rest:List Oper} {o:Oper} {a:Act} {Q:Exit→Act→World→Prop} (hgd:o.guard=none) (d s:Operand) (t t':TypeId)
 (ho:o.op=.call {callee:=.builtin .copy,args:=#[d,s],argTypes:=#[t,t']}) (v u:Value) (hd:a.eval d=v) (hs:a.eval s=u) {v':Value} {w':World}
 (hr:(Builtin.copy_ #[t,t'] o.type #[v,u]).run P w=.ok v' w') (h:wpList P ops Q rest (a.put o.dst v') w'):wpList P ops Q (o::rest) a w:=
 wpList_plain hgd fun _ hK=>by
  unfold Oper.wp execOp;simp only[ho,resolve,invoke,builtin,Sem.run_bind,Sem.run_pure,Result.andThen_ok,List.map_toArray,ybg,List.map_nil,hd,hs,hr];exact hK _ _ h
theorem a3y {ops:Array Oper} {o:Oper} {a:Act} {K:Act→World→Prop} {Q:Exit→Act→World→Prop} {E:Prop}
 (hg:o.guard=none) (d x:Operand) (dT sT:TypeId) (hop:o.op=Op.call {callee:=Callee.builtin Builtin.copy,args:=#[d,x],argTypes:=#[dT,sT]})
 (v u:Value) (hd:a.eval d=v) (hx:a.eval x=u) {v':Value} {w':World} (hr:(Builtin.copy_ #[dT,sT] o.type #[v,u]).run P w=.ok v' w') (hK:K (a.put o.dst v') w') :
 if Region.wanted o (yielded ops a.tmps)=true then Oper.wp P o a w K Q else E:=by
 have hw:Region.wanted o (yielded ops a.tmps)=true:=by simp[Region.wanted,hg]
 rw[yaQ hw];unfold Oper.wp;simp[execOp,hop,resolve,invoke,builtin,hd,hx,hr,Result.andThen];exact hK
theorem b9y {ops:Array Oper} {o:Oper} {a:Act} {K:Act→World→Prop} {Q:Exit→Act→World→Prop} {E:Prop}
 (hg:o.guard=none) (d x:Operand) (dT sT:TypeId) (hop:o.op=Op.call {callee:=Callee.builtin Builtin.append,args:=#[d,x],argTypes:=#[dT,sT]})
 (v u:Value) (hd:a.eval d=v) (hx:a.eval x=u) {v':Value} {w':World} (hr:(Builtin.append_ #[dT,sT] o.type #[v,u]).run P w=.ok v' w') (hK:K (a.put o.dst v') w') :
 if Region.wanted o (yielded ops a.tmps)=true then Oper.wp P o a w K Q else E:=by
 have hw:Region.wanted o (yielded ops a.tmps)=true:=by simp[Region.wanted,hg]
 rw[yaQ hw];unfold Oper.wp;simp[execOp,hop,resolve,invoke,builtin,hd,hx,hr,Result.andThen];exact hK
theorem a03 {ops:Array Oper} {rest:List Oper} {o:Oper} {a:Act} {Q:Exit→Act→World→Prop} (hgd:o.guard=none) (s x:Operand) (t tn:TypeId)
 (ho:o.op=.call {callee:=.builtin .append,args:=#[s,x],argTypes:=#[t,tn]}) (vs vx:Value) (hs:a.eval s=vs) (hx:a.eval x=vx)
 {v':Value} {w':World} (hr:(Builtin.append_ #[t,tn] o.type #[vs,vx]).run P w=.ok v' w') (h:wpList P ops Q rest (a.put o.dst v') w'):wpList P ops Q (o::rest) a w:=
 Lib.wpList_append_run w hgd s x t tn ho vs vx hs hx v' w' hr h
theorem b6a {t e ty:TypeId} {i0:TypeInfo} {z0:Value} {b o n c:Nat} {L:List Value} {tt:TypeId} (ht:P.underlying t=some (.slice e)) (hi:P.info? e=some i0) (hz:i0.zero=some z0)
 (hn:0<n) (hb:w.heap[b]?=some (.cells L.toArray tt (0,0))) (hfit:o+n*z0.cells.size≤L.length) (h1:∀v∈z0.cells,v.oneCell'=true) :
 (Builtin.clear_ #[t] ty #[.slice (some ⟨b,o,none⟩) n c]).run P w=.ok (.tuple #[]) (w.setRow b (Go.splice L o (Builtin.zeroCells z0.cells n).toList).toArray):=by
 have hl:(Builtin.zeroCells z0.cells n).toList.length=n*z0.cells.size:=by rw[yaZ,Go.size_zeroCells]
 have hst:=run_storeCells_at P b o tt (Builtin.zeroCells z0.cells n).toList 0 L.toArray w hb (by rw[hl];simpa using hfit) (fun v hv=>by
  simp only[Builtin.zeroCells,Array.toList_map,yba,Array.toList_range,yb4]at hv;obtain ⟨q,hq,rfl⟩:=hv;have hp:0<z0.cells.size:=Nat.pos_of_ne_zero (fun h=>by rw[h]at hq;omega);rw[getElem!_pos z0.cells _ (Nat.mod_lt _ hp)];exact h1 _ (Array.getElem_mem _))
 simp only[ybl]at hst;obtain ⟨m,rfl⟩:∃m,n=m+1:=⟨n-1,by omega⟩
 simp only[ybz]at hst;simp[Builtin.clear_,run_underlying ht,sizeOf,typeInfo,zeroValue,hi,hz,hst,Go.splice]
theorem a4l {tS tR e:TypeId} {i0:TypeInfo} (ht:P.underlying tS=some (.slice e)) (hi:P.info? e=some i0) {a b:Addr} {la ca lb cb:Nat} (hne:a.block≠b.block)
 {va vb:Array Value} {ta tb:TypeId} {fa:Nat×Nat} (ha:w.heap[a.block]?=some (.cells va ta fa)) (ha0:0<va.size) (hb:w.heap[b.block]?=some (.cells vb tb (0,0))) (hb0:0<vb.size) :
 (Extern.SlicesOverlaps.overlaps #[tS,tS] #[tR] #[.slice (some a) la ca,.slice (some b) lb cb]).run P w=.ok (.bool false) w:=by
 have hnb:(a.block != b.block)=true:=by simpa using hne
 have hnb':(a.block==b.block)=false:=by simpa using hne
 have hsa:w.shape? a.block=some (ta,va.size):=by simp[World.shape?,ha]
 have hsb:w.shape? b.block=some (tb,vb.size):=by simp[World.shape?,hb]
 have hfb:w.frozen? b=false:=by simp[World.frozen?,hb]
 have hfb':w.frozen? {block:=b.block,off:=vb.size}=false:=by simp[World.frozen?,hb]
 change Sem.run P (α:=Value) (do
  let some t:=(#[tS,tS]:Array TypeId)[0]?|stuck "slices.overlaps: no parameter types"
  let .slice elem ←underlying t|stuck "slices.overlaps: slice type expected"
  let size ←sizeOf elem
  match (some a:Option Addr),(some b:Option Addr) with
  |some a,some b=>
   if la=0∨lb=0∨size=0 then pure (Value.bool false)
   else if a.block != b.block&&(←frozen a)&&(←frozen b) then unsupported .addressObserved
   else do
    if a.block != b.block then do
     noView a;noView b
     if ←mayBeOne a b then return Value.bool ((←choose (.extern "sameAddr.stringBytes" 2))==1)
    pure (Value.bool (a.block==b.block&&a.off<b.off+lb*size&&b.off<a.off+la*size))
  |_,_=>pure (Value.bool false)) w=_
 have hz:(Go.sizeOf e).run P w=.ok i0.size w:=by simp[sizeOf,typeInfo,hi]
 by_cases h0:la=0∨lb=0∨i0.size=0
 ·simp[run_underlying ht,hz,h0]
 ·obtain ⟨ka,hka⟩:∃k,va.size=k+1:=⟨va.size-1,by omega⟩
  obtain ⟨kb,hkb⟩:∃k,vb.size=k+1:=⟨vb.size-1,by omega⟩
  rw[hka]at hsa;rw[hkb]at hsb hfb';by_cases hfa:w.frozen? a=true
  ·simp[run_underlying ht,hz,h0,hnb,hnb',frozen,noView,viewAt,mayBeOne,stringish,shape,Sem.run,hsa,hsb,hfa,hfb,hfb']
  ·have hfa:w.frozen? a=false:=by simpa using hfa
   by_cases hfe:w.frozen? {block:=a.block,off:=ka+1}=true
   ·simp[run_underlying ht,hz,h0,hnb,hnb',frozen,noView,viewAt,mayBeOne,stringish,shape,Sem.run,hsa,hsb,hfa,hfb,hfb',hfe]
   ·have hfe:w.frozen? {block:=a.block,off:=ka+1}=false:=by simpa using hfe
    simp[run_underlying ht,hz,h0,hnb,hnb',frozen,noView,viewAt,mayBeOne,stringish,shape,Sem.run,hsa,hsb,hfa,hfb,hfb',hfe]
end
end
section
section
variable {κ:Type} {El:κ→Type} {S:Sg κ El} {P:Program}
theorem a0l {α:Type} {L new:List α} {off j:Nat} (h:off+new.length≤L.length):(Go.splice L off new)[j]?=if off≤j∧j<off+new.length then new[j-off]? else L[j]?:=by
 unfold Go.splice;rw[←ybz];exact c2d L new off j h
theorem a7s (sgk:SgOk S) {w w':World} {I J I':Nat→Nat→Prop} {v:Value} {d:D κ El} (h:DR S w I J v d) (hp:a8b d=true) (H:∀b o,I b o→w'.cell? ⟨b,o,none⟩=w.cell? ⟨b,o,none⟩∧I' b o):DR S w' I' I' v d:=
 (h.relendL sgk (J':=I) (a3w hp)).mono H H
theorem a4e (sgk:SgOk S) {k:κ} {x:El k} {j:Nat} {d:D κ El} (h:(S.enc k x)[j]?=some d):a8b d=true:=sgk.plain k x d (yag h)
theorem e4i {w:World} {I J:Nat→Nat→Prop} {v:Value} {d:D κ El} (h:DR S w I J v d) (hp:a8b d=true):v.oneCell'=true:=
 (h.lone (by cases d<;>simp_all[a8b,solid])).one
structure InsOk (P:Program) (f z E:Nat):Prop where
 shift:∀{w:World} {b n c i vb vo vc:Nat} {L vs:List Value} {t:TypeId},i<n→n+1≤c→n+1≤1073741824→vb≠b→w.heap[b]?=some (.cells L.toArray t (0,0))→L.length=c*z→vs.length=z→
  (∀j v,vs[j]?=some v→w.cell? ⟨vb,vo+j,none⟩=some v)→(∀v∈(L.drop (i*z)).take ((n-i)*z),v.oneCell'=true)→(∀v∈vs,v.oneCell'=true)→
  Calls P f #[.slice (some ⟨b,0,none⟩) n c,.int .i64 i,.slice (some ⟨vb,vo,none⟩) 1 vc] w fun e w'=>
   e=.returned (.slice (some ⟨b,0,none⟩) (n+1) c)∧w'=(w.drew.setRow b (Go.splice L ((i+1)*z) ((L.drop (i*z)).take ((n-i)*z))).toArray).setRow b (Go.splice (Go.splice L ((i+1)*z) ((L.drop (i*z)).take ((n-i)*z))) (i*z) vs).toArray
 room:∀{w:World} {b n c vb vo vc:Nat} {L vs:List Value} {t:TypeId},n+1≤c→n+1≤1073741824→w.heap[b]?=some (.cells L.toArray t (0,0))→L.length=c*z→vs.length=z→
  (∀j v,vs[j]?=some v→w.cell? ⟨vb,vo+j,none⟩=some v)→(∀v∈vs,v.oneCell'=true)→
  Calls P f #[.slice (some ⟨b,0,none⟩) n c,.int .i64 n,.slice (some ⟨vb,vo,none⟩) 1 vc] w fun e w'=>
   e=.returned (.slice (some ⟨b,0,none⟩) (n+1) c)∧w'=w.setRow b (Go.splice L (n*z) vs).toArray
 new:∀{w:World} {base:Option Addr} {n c vb vo vc:Nat} {olds vs:List Value},n≤c→c<n+1→n+1≤1073741824→vs.length=z→(base=none→n=0)→olds.length=n*z→
  (∀a,base=some a→∀j v,olds[j]?=some v→w.cell? (a.add j)=some v)→(∀j v,vs[j]?=some v→w.cell? ⟨vb,vo+j,none⟩=some v)→
  Calls P f #[.slice base n c,.int .i64 n,.slice (some ⟨vb,vo,none⟩) 1 vc] w fun e w'=>
   ∃cap zs,e=.returned (.slice (some ⟨w.heap.size,0,none⟩) (n+1) cap)∧w'=w.drew.alloc (.cells (olds++(vs++zs)).toArray E)∧n+1≤cap∧zs.length=(cap-(n+1))*z
 grow:∀{w:World} {b n c i vb vo vc:Nat} {L vs:List Value} {t:TypeId},i<n→n≤c→c<n+1→n+1≤1073741824→vb≠b→w.heap[b]?=some (.cells L.toArray t (0,0))→L.length=c*z→vs.length=z→
  (∀j v,vs[j]?=some v→w.cell? ⟨vb,vo+j,none⟩=some v)→(∀v∈(L.drop (i*z)).take ((n-i)*z),v.oneCell'=true)→(∀v∈vs,v.oneCell'=true)→
  Calls P f #[.slice (some ⟨b,0,none⟩) n c,.int .i64 i,.slice (some ⟨vb,vo,none⟩) 1 vc] w fun e w'=>
   ∃cap row,e=.returned (.slice (some ⟨w.heap.size,0,none⟩) (n+1) cap)∧n+1≤cap∧row.length=cap*z∧row.take (i*z)=L.take (i*z)∧
    w'.heap=(w.heap.push (.cells (Go.splice (Go.splice row (i*z) vs) ((i+1)*z) ((L.drop (i*z)).take ((n-i)*z))).toArray E))∧w'.os=w.os∧w'.output=w.output∧w'.tape=w.tape
theorem b4b {k:κ} {xs:List (El k)} {y:El k} {i:Nat} {L vs M:List Value} {Q:Value→D κ El→Prop} (sgk:SgOk S) (hi:i≤xs.length)
 (h1:∀(i:Nat) (hi:i<xs.length) (j:Nat) (d:D κ El),(S.enc k xs[i])[j]?=some d→∃v,L[i*S.sz k+j]?=some v∧Q v d)
 (h2:∀(j:Nat) (d:D κ El),(S.enc k y)[j]?=some d→∃v,vs[j]?=some v∧Q v d)
 (m1:∀p:Nat,p<i*S.sz k→M[p]?=L[p]?) (m2:∀j:Nat,j<S.sz k→M[i*S.sz k+j]?=vs[j]?) (m3:∀p:Nat,i*S.sz k≤p→p<xs.length*S.sz k→M[p+S.sz k]?=L[p]?) :
 ∀(i':Nat) (hi':i'<(xs.take i++y::xs.drop i).length) (j:Nat) (d:D κ El),(S.enc k (xs.take i++y::xs.drop i)[i'])[j]?=some d→∃v,M[i'*S.sz k+j]?=some v∧Q v d:=by
 intro i' hi' j d hj;have hj':j<S.sz k:=by have:=(zL hj);rwa [sgk.sz]at this
 have hl:(xs.take i).length=i:=by simp;omega
 by_cases hlt:i'<i
 ·have e:(xs.take i++y::xs.drop i)[i']=xs[i']'(by omega):=by rw[ybM (by omega)];simp
  rw[e]at hj;obtain ⟨v,a,b⟩:=h1 i' (by omega) j d hj;exact ⟨v,by rw[m1 _ (a30 hj' hlt)];exact a,b⟩
 ·by_cases heq:i'=i
  ·subst heq;have e:(xs.take i'++y::xs.drop i')[i']=y:=by rw[ybI (by omega)];simp[hl]
   rw[e]at hj;obtain ⟨v,a,b⟩:=h2 j d hj;exact ⟨v,by rw[m2 j hj'];exact a,b⟩
  ·obtain ⟨p,rfl⟩:∃p,i'=p+1:=⟨i'-1,by omega⟩
   have hp:p<xs.length:=by simp at hi';omega
   have e:(xs.take i++y::xs.drop i)[p+1]=xs[p]:=by
    rw[ybI (by omega)];have e2:p+1-(xs.take i).length=(p-i)+1:=by omega
    simp only[e2,List.getElem_cons_succ,List.getElem_drop];congr 1;omega
   rw[e]at hj;obtain ⟨v,a,b⟩:=h1 p hp j d hj;refine ⟨v,?_,b⟩;have:=m3 (p*S.sz k+j) (by have:=yaq (S.sz k) (show i≤p by omega);omega) (a30 hj' hp);rw[←a,←this];congr 1;rw[ya0];omega
theorem g10 (sgk:SgOk S) {f E:Nat} {fn:Func} {code:Code} (fok:FnOk P f fn code) (hmd:S.md f=.cons) {k:κ} (W:InsOk P f (S.sz k) E)
 {xs:List (El k)} {y:El k} {i:Nat} {ds:List (D κ El)} (hi:i≤xs.length) (hlim:xs.length+1≤1073741824) (hwl:WL ds [.lst k xs,.int .i64 (i:Int),.lst k [y]]) :
 Con P S f ds [] (.lst k (xs.take i++y::xs.drop i)) []:=by
 unfold Con;rw[hmd];intro _ k' xs' ds0 hds k2 xs2 hd w I J mb v0 vs hp ho ha;subst hds;cases hd
 have hw0:=hwl.2 0 _ _ rfl rfl;cases hw0 with
 |leaf _ _ hw0=>
 cases hw0
 have ha:=WL.args (cs':=[.int .i64 (i:Int),.lst k [y]]) ⟨by simpa using hwl.1,fun q d d' h1 h2=>hwl.2 (q+1) d d' (by simpa using h1) (by simpa using h2)⟩ ha;obtain ⟨base,c,rfl,hnc,hz⟩:=ho;obtain ⟨hvs,hav⟩:=ha;obtain ⟨u1,u2,rfl⟩:∃u1 u2,vs = #[u1,u2]:=by
  simp at hvs;exact ⟨vs[0],vs[1],by
   apply Array.ext
   ·simp[hvs]
   ·intro j h1 h2;simp at h2;rcases (show j=0∨j=1 by omega) with rfl|rfl<;>rfl⟩
 have hu1:u1=.int .i64 i:=(hav 0 u1 _ rfl rfl).int_inv;have hu2:=hav 1 u2 _ rfl rfl;subst hu1;obtain ⟨n,hn⟩:∃n,n=xs.length:=⟨_,rfl⟩
 have hpos:=sgk.pos k;cases hu2 with
 |lst vb vo vc _ _ cv hvcap hvc hvv=>
 obtain ⟨us,hus⟩:∃us,us=(List.range (S.sz k)).map (cv 0):=⟨_,rfl⟩
 have husl:us.length=S.sz k:=by rw[hus];simp
 have hug:∀j,j<S.sz k→us[j]?=some (cv 0 j):=fun j hj=>by rw[hus];simp[hj]
 have huc:∀j v,us[j]?=some v→w.cell? ⟨vb,vo+j,none⟩=some v:=fun j v hj=>by
  have hlt:=(zL hj)
  rw[husl]at hlt;rw[hug j hlt]at hj;cases hj
  have:=(hvc 0 j (by simp) hlt).1;simpa using this
 have huI:∀j,j<S.sz k→I vb (vo+j):=fun j hlt=>by have:=(hvc 0 j (by simp) hlt).2;simpa using this
 have hud:∀j d,(S.enc k y)[j]?=some d→∃v,us[j]?=some v∧DR S w I J v d:=fun j d hj=>by
  have hlt:=(zL hj)
  rw[sgk.sz]at hlt;exact ⟨_,hug j hlt,hvv 0 (by simp) j d hj⟩
 have hu1c:∀v∈us,v.oneCell'=true:=fun v hv=>by
  obtain ⟨j,hj⟩:=yav hv;have hlt:=(zL hj)
  have hlt':j<(S.enc k y).length:=by rw[sgk.sz,←husl];exact hlt
  obtain ⟨v',e1,e2⟩:=hud j _ (yac hlt');rw[hj]at e1;cases e1
  exact e4i e2 (sgk.plain k y _ (ybs hlt'))
 have hIw:∀b o,I b o→b<w.heap.size:=hp.ib;have hres:(xs.take i++y::xs.drop i).length=n+1:=by simp;omega
 unfold a3d;rw[MuLone.run_callFunc_enter fok.at_ fok.name fok.body _ w];simp only;show Calls P f #[.slice base xs.length c,.int .i64 (i:Int),.slice (some ⟨vb,vo,none⟩) 1 vc] w _
 rcases hz with ⟨rfl,rfl⟩|⟨b,vals,t,rfl,rfl,hb,hvsz,hel⟩
 ·have hx0:xs=[]:=yaL (by omega);subst hx0;have hi0:i=0:=by simpa using hi
  subst hi0;have hnew:=W.new (w:=w) (base:=base) (n:=0) (c:=0) (vb:=vb) (vo:=vo) (vc:=vc) (olds:=[]) (vs:=us) (by omega) (by omega) (by omega) husl (fun _=>rfl) (by simp) (fun a _ j v hj=>by simp at hj) huc;refine hnew.mono (fun e w' he=>?_);obtain ⟨cap,zs,rfl,rfl,hcap,hzl⟩:=he;refine ⟨I,⟨by rw[World.size_alloc];show w.heap.size≤w.heap.size+1;omega,rfl,rfl,rfl,fun q hq _=>?_,fun _ _ h=>h,fun _ _ h=>.inl h,fun q o h=>by have:=hIw q o h;rw[World.size_alloc];show q<w.heap.size+1;omega⟩,
   some ⟨w.heap.size,0,none⟩,cap,by simp,by simp;omega,.inr ⟨w.heap.size,_,E,rfl,a45 w.drew _,?_,.inl (yaH _),fun o h=>absurd (hIw _ _ h) (by omega),?_⟩⟩
  ·simp only[World.alloc];rw[Array.getElem?_push,yat (by show ¬q=w.heap.size;omega)];rfl
  ·simp[husl,hzl];obtain ⟨q,rfl⟩:∃q,cap=q+1:=⟨cap-1,by omega⟩
   rw[Nat.add_sub_cancel,ya0];omega
  ·intro i' hi' j d hj;have:=b4b (L:=[]) (vs:=us) (M:=us++zs) (Q:=fun v d=>DR S (w.drew.alloc (.cells ([]++(us++zs)).toArray E)) I I v d) sgk (i:=0) (xs:=[]) (y:=y) (by simp) (fun i hi=>absurd hi (by simp))
    (fun j d hj=>by
     obtain ⟨v,a,b⟩:=hud j d hj;exact ⟨v,a,a7s sgk b (a4e sgk hj) (fun q o h=>⟨by
      have:=hIw q o h;simp only[World.cell?,World.alloc];rw[Array.getElem?_push,yat (by show ¬q=w.heap.size;omega)];rfl,h⟩)⟩)
    (fun p hp=>absurd hp (by omega)) (fun j hj=>by rw[Nat.zero_mul,yaF,yaE (by omega)]) (fun p _ hp=>by simp at hp) i' hi' j d hj
   simpa using this
 ·have hbw:b<w.heap.size:=(yak.1 hb).1;have hbI:∀o,¬I b o:=fun o h=>(hp.jb b o (hp.ij b o h)).2 (by simp)
  have hne:vb≠b:=fun e=>by subst e;exact hbI _ (huI 0 hpos)
  obtain ⟨L,hL⟩:∃L,L=vals.toList:=⟨_,rfl⟩
  have hLa:vals=L.toArray:=by rw[hL]
  have hLl:L.length=c*S.sz k:=by rw[hL];simpa using hvsz
  rw[hLa]at hb;have hel':∀i (hi:i<xs.length) j d,(S.enc k xs[i])[j]?=some d→∃v,L[i*S.sz k+j]?=some v∧DR S w I J v d:=fun i hi j d hj=>by
   obtain ⟨v,a,e⟩:=hel i hi j d hj;exact ⟨v,by rw[hL];simpa using a,e⟩
  have hnL:n*S.sz k≤L.length:=by rw[hLl];exact yaq _ (by omega)
  have hone:∀v∈L.take (n*S.sz k),v.oneCell'=true:=fun v hv=>by
   obtain ⟨p,hp'⟩:=yav hv;have hlt:=(zL hp')
   simp only[yaS]at hlt;have h1:p / S.sz k<n:=(Nat.div_lt_iff_lt_mul hpos).2 (by omega);have h2:=Nat.mod_lt p hpos;have h3:p % S.sz k<(S.enc k (xs[p / S.sz k]'(by omega))).length:=by rw[sgk.sz];exact h2
   obtain ⟨v',a,e⟩:=hel' (p / S.sz k) (by omega) _ _ (yac h3);rw[Nat.div_add_mod']at a;rw[yaD,yaQ (by omega),a]at hp';cases hp'
   exact e4i e (sgk.plain k _ _ (ybs h3))
  have hC1:(L.drop (i*S.sz k)).take ((n-i)*S.sz k)=(L.take (n*S.sz k)).drop (i*S.sz k):=by
   rw[List.drop_take];congr 1;rw[Nat.sub_mul]
  have hone1:∀v∈(L.drop (i*S.sz k)).take ((n-i)*S.sz k),v.oneCell'=true:=fun v hv=>hone v (by rw[hC1]at hv;exact List.mem_of_mem_drop hv)
  have hin:i*S.sz k≤n*S.sz k:=yaq _ (by omega);have hi1:(i+1)*S.sz k=i*S.sz k+S.sz k:=by rw[ya0,yb9]
  have hn1:(n+1)*S.sz k=n*S.sz k+S.sz k:=by rw[ya0,yb9]
  obtain ⟨C1,hC⟩:∃C1,C1=(L.drop (i*S.sz k)).take ((n-i)*S.sz k):=⟨_,rfl⟩
  have hC1l:C1.length=n*S.sz k-i*S.sz k:=by rw[hC,hC1];simp;omega
  have hC1g:∀q,q<n*S.sz k-i*S.sz k→C1[q]?=L[i*S.sz k+q]?:=fun q hq=>by rw[hC,hC1,ybK,yaD,yaQ (by omega)]
  have inpl:∀(M:List Value) (w':World),M.length=L.length→(w'=w.setRow b M.toArray∨∃M0:Array Value,w'=(w.drew.setRow b M0).setRow b M.toArray)→n+1≤c→
   (∀p:Nat,p<i*S.sz k→M[p]?=L[p]?)→(∀j:Nat,j<S.sz k→M[i*S.sz k+j]?=us[j]?)→(∀p:Nat,i*S.sz k≤p→p<xs.length*S.sz k→M[p+S.sz k]?=L[p]?)→
   ∃I',GrowM [b] w w' I I'∧h8b S w' I' w.heap.size [b] k (xs.take i++y::xs.drop i) (.slice (some ⟨b,0,none⟩) (n+1) c):=by
   intro M w' hMl hw' hroom m1 m2 m3;have hheap:w'.heap[b]?=some (.cells M.toArray t (0,0)):=by
    rcases hw' with rfl|⟨M0,rfl⟩
    ·exact setRow_heap _ _ _ _ _ _ hb
    ·exact setRow_heap _ _ _ _ _ _ (setRow_heap w.drew _ _ _ _ _ hb)
   have hoth:∀q,q≠b→w'.heap[q]?=w.heap[q]?:=fun q hq=>by
    rcases hw' with rfl|⟨M0,rfl⟩
    ·exact setRow_other _ _ _ _ hq
    ·rw[setRow_other _ _ _ _ hq,setRow_other _ _ _ _ hq];rfl
   have hsz:w'.heap.size=w.heap.size:=by
    rcases hw' with rfl|⟨M0,rfl⟩<;>simp only[setRow_size]<;>rfl
   refine ⟨I,⟨by omega,by rcases hw' with rfl|⟨M0,rfl⟩<;>rfl,by rcases hw' with rfl|⟨M0,rfl⟩<;>rfl,by rcases hw' with rfl|⟨M0,rfl⟩<;>rfl,fun q hq hm=>hoth q (by simpa using hm),fun _ _ h=>h,fun _ _ h=>.inl h,fun q o h=>by have:=hIw q o h;omega⟩,
    some ⟨b,0,none⟩,c,by rw[hres],by omega,.inr ⟨b,_,t,rfl,hheap,by simp[hMl,hLl],.inr (by simp),hbI,?_⟩⟩
   intro i' hi' j d hj;have:=b4b (L:=L) (vs:=us) (M:=M) (Q:=fun v d=>DR S w' I I v d) sgk (by omega)
    (fun i hi j d hj=>by
     obtain ⟨v,a,e⟩:=hel' i hi j d hj;exact ⟨v,a,a7s sgk e (a4e sgk hj) (fun q o h=>⟨by simp only[World.cell?];rw[hoth q (fun e=>by subst e;exact hbI o h)],h⟩)⟩)
    (fun j d hj=>by
     obtain ⟨v,a,e⟩:=hud j d hj;exact ⟨v,a,a7s sgk e (a4e sgk hj) (fun q o h=>⟨by simp only[World.cell?];rw[hoth q (fun e=>by subst e;exact hbI o h)],h⟩)⟩) m1 m2 m3 i' hi' j d hj
   simpa using this
  have newb:∀(M:List Value) (cap:Nat) (w':World),M.length=cap*S.sz k→w'.heap=w.heap.push (.cells M.toArray E)→w'.os=w.os→w'.output=w.output→w'.tape=w.tape→n+1≤cap→
   (∀p:Nat,p<i*S.sz k→M[p]?=L[p]?)→(∀j:Nat,j<S.sz k→M[i*S.sz k+j]?=us[j]?)→(∀p:Nat,i*S.sz k≤p→p<xs.length*S.sz k→M[p+S.sz k]?=L[p]?)→
   ∃I',GrowM [b] w w' I I'∧h8b S w' I' w.heap.size [b] k (xs.take i++y::xs.drop i) (.slice (some ⟨w.heap.size,0,none⟩) (n+1) cap):=by
   intro M cap w' hMl hheap h1 h2 h3 hcap m1 m2 m3;have hoth:∀q,q<w.heap.size→w'.heap[q]?=w.heap[q]?:=fun q hq=>by rw[hheap,Array.getElem?_push,yat (by omega)]
   refine ⟨I,⟨by rw[hheap];simp,h1,h2,h3,fun q hq _=>hoth q hq,fun _ _ h=>h,fun _ _ h=>.inl h,fun q o h=>by have:=hIw q o h;rw[hheap];simp;omega⟩,
    some ⟨w.heap.size,0,none⟩,cap,by rw[hres],by omega,.inr ⟨w.heap.size,_,E,rfl,by rw[hheap];exact Array.getElem?_push_size,by simp[hMl],.inl (yaH _),fun o h=>absurd (hIw _ _ h) (by omega),?_⟩⟩
   intro i' hi' j d hj;have:=b4b (L:=L) (vs:=us) (M:=M) (Q:=fun v d=>DR S w' I I v d) sgk (by omega)
    (fun i hi j d hj=>by
     obtain ⟨v,a,e⟩:=hel' i hi j d hj;exact ⟨v,a,a7s sgk e (a4e sgk hj) (fun q o h=>⟨by simp only[World.cell?];rw[hoth q (hIw q o h)],h⟩)⟩)
    (fun j d hj=>by
     obtain ⟨v,a,e⟩:=hud j d hj;exact ⟨v,a,a7s sgk e (a4e sgk hj) (fun q o h=>⟨by simp only[World.cell?];rw[hoth q (hIw q o h)],h⟩)⟩) m1 m2 m3 i' hi' j d hj
   simpa using this
  rw[←hn]at hi hlim hnc ⊢;by_cases hroom:n+1≤c
  ·have hn1c:(n+1)*S.sz k≤L.length:=by rw[hLl];exact yaq _ hroom
   by_cases hlt:i<n
   ·refine (W.shift (vc:=vc) hlt hroom hlim hne hb hLl husl huc hone1 hu1c).mono (fun e w' he=>?_);obtain ⟨rfl,rfl⟩:=he;rw[←hC];have l1:(Go.splice L ((i+1)*S.sz k) C1).length=L.length:=length_splice _ _ _ (by omega);refine inpl _ _ ?_ (.inr ⟨_,rfl⟩) hroom ?_ ?_ ?_
    ·rw[length_splice _ _ _ (by omega),l1]
    ·intro p hp';rw[a0l (by omega),yat (by omega),a0l (by omega),yat (by omega)]
    ·intro j hj;rw[a0l (by omega),yaQ (by omega)];congr 1;omega
    ·intro p h1 h2;rw[←hn]at h2;rw[a0l (by omega),yat (by omega),a0l (by omega),yaQ (by omega),hC1g _ (by omega)];congr 1;omega
   ·have hie:i=n:=by omega
    subst hie;refine (W.room (vc:=vc) hroom hlim hb hLl husl huc hu1c).mono (fun e w' he=>?_);obtain ⟨rfl,rfl⟩:=he;refine inpl _ _ (length_splice _ _ _ (by omega)) (.inl rfl) hroom ?_ ?_ ?_
    ·intro p hp';rw[a0l (by omega),yat (by omega)]
    ·intro j hj;rw[a0l (by omega),yaQ (by omega)];congr 1;omega
    ·intro p h1 h2;rw[←hn]at h2;omega
  ·by_cases hlt:i<n
   ·refine (W.grow (vc:=vc) hlt hnc (by omega) hlim hne hb hLl husl huc hone1 hu1c).mono (fun e w' he=>?_);obtain ⟨cap,row,rfl,hcap,hrl,hrt,hheap,q1,q2,q3⟩:=he;rw[←hC]at hheap;have hrl':(n+1)*S.sz k≤row.length:=by rw[hrl];exact yaq _ hcap
    have l1:(Go.splice row (i*S.sz k) us).length=row.length:=length_splice _ _ _ (by omega);refine newb _ cap w' ?_ hheap q1 q2 q3 hcap ?_ ?_ ?_
    ·rw[length_splice _ _ _ (by omega),l1,hrl]
    ·intro p hp';rw[a0l (by omega),yat (by omega),a0l (by omega),yat (by omega)];have e1:(row.take (i*S.sz k))[p]?=row[p]?:=by rw[yaD,yaQ hp']
     have e2:(L.take (i*S.sz k))[p]?=L[p]?:=by rw[yaD,yaQ hp']
     rw[←e1,hrt,e2]
    ·intro j hj;rw[a0l (by omega),yat (by omega),a0l (by omega),yaQ (by omega)];congr 1;omega
    ·intro p h1 h2;rw[←hn]at h2;rw[a0l (by omega),yaQ (by omega),hC1g _ (by omega)];congr 1;omega
   ·have hie:i=n:=by omega
    subst hie;refine (W.new (base:=some ⟨b,0,none⟩) (vc:=vc) (olds:=L.take (i*S.sz k)) hnc (by omega) hlim husl (fun h=>by cases h) (by simp;omega) (fun a ha j v hj=>?_) huc).mono (fun e w' he=>?_)
    ·cases ha
     rw[yaD]at hj;split at hj
     ·rw[a1b,yaF];simp only[World.cell?,hb];simpa using hj
     ·cases hj
    ·obtain ⟨cap,zs,rfl,rfl,hcap,hzl⟩:=he;obtain ⟨q,rfl⟩:∃q,cap=q+(i+1):=⟨cap-(i+1),by omega⟩
     rw[Nat.add_sub_cancel]at hzl;have hTl:(L.take (i*S.sz k)).length=i*S.sz k:=by simp;omega
     refine newb _ (q+(i+1)) _ ?_ rfl rfl rfl rfl hcap ?_ ?_ ?_
     ·simp only[yaU,hTl,husl,hzl];rw[ya0,hi1];omega
     ·intro p hp';rw[yaE (by omega),yaD,yaQ hp']
     ·intro j hj;rw[yaI (by omega),yaE (by omega)];congr 1;omega
     ·intro p h1 h2;rw[←hn]at h2;omega
theorem c0n (sgk:SgOk S) {f E:Nat} {fn:Func} {code:Code} (fok:FnOk P f fn code) (hmd:S.md f=.cons) {k:κ} (W:InsOk P f (S.sz k) E)
 {xs vs r:List (El k)} {i:Int} {ds:List (D κ El)} (hwl:WL ds [.lst k xs,.int .i64 i,.lst k vs]) (hr:a7y xs i vs=some r):Con P S f ds [] (.lst k r) []:=by
 unfold a7y at hr;split at hr
 ·rename_i y;rw[e8]at hr;split at hr
  ·rename_i h;simp only[yae,yad]at h;cases hr
   obtain ⟨n,rfl⟩:=Int.eq_ofNat_of_zero_le h.1.1;exact g10 sgk fok hmd W (i:=n) (by omega) h.2 hwl
  ·cases hr
 ·cases hr
end
end
section
section
variable {κ:Type} {El:κ→Type} {S:Sg κ El} {P:Program}
structure DelOk (P:Program) (f z:Nat):Prop where
 non:∀{w:World} {base:Option Addr} {n c i:Nat},n≤c→i≤n→Calls P f #[.slice base n c,.int .i64 i,.int .i64 i] w fun e w'=>e=.returned (.slice base n c)∧w'=w
 som:∀{w:World} {b n c i j:Nat} {L:List Value} {t:TypeId},i<j→j≤n→n≤c→w.heap[b]?=some (.cells L.toArray t (0,0))→L.length=c*z→(∀v∈(L.drop (j*z)).take ((n-j)*z),v.oneCell'=true)→
  Calls P f #[.slice (some ⟨b,0,none⟩) n c,.int .i64 i,.int .i64 j] w fun e w'=>
   e=.returned (.slice (some ⟨b,0,none⟩) (i+(n-j)) c)∧∃(M0:Array Value) (zs:List Value),zs.length=(j-i)*z∧w'=(w.drew.setRow b M0).setRow b (Go.splice (Go.splice L (i*z) ((L.drop (j*z)).take ((n-j)*z))) ((i+(n-j))*z) zs).toArray
theorem g1z (sgk:SgOk S) {f:Nat} {fn:Func} {code:Code} (fok:FnOk P f fn code) (hmd:S.md f=.cons) {k:κ} (W:DelOk P f (S.sz k))
 {xs:List (El k)} {i j:Nat} {ds:List (D κ El)} (hij:i≤j) (hj:j≤xs.length) (hwl:WL ds [.lst k xs,.int .i64 (i:Int),.int .i64 (j:Int)]) :
 Con P S f ds [] (.lst k (xs.take i++xs.drop j)) []:=by
 unfold Con;rw[hmd];intro _ k' xs' ds0 hds k2 xs2 hd w I J mb v0 vs hp ho ha;subst hds;cases hd
 have hw0:=hwl.2 0 _ _ rfl rfl;cases hw0 with
 |leaf _ _ hw0=>
 cases hw0
 have ha:=WL.args (cs':=[.int .i64 (i:Int),.int .i64 (j:Int)]) ⟨by simpa using hwl.1,fun q d d' h1 h2=>hwl.2 (q+1) d d' (by simpa using h1) (by simpa using h2)⟩ ha;obtain ⟨base,c,rfl,hnc,hz⟩:=ho;obtain ⟨hvs,hav⟩:=ha;obtain ⟨u1,u2,rfl⟩:∃u1 u2,vs = #[u1,u2]:=by
  simp at hvs;exact ⟨vs[0],vs[1],by
   apply Array.ext
   ·simp[hvs]
   ·intro j h1 h2;simp at h2;rcases (show j=0∨j=1 by omega) with rfl|rfl<;>rfl⟩
 have hu1:u1=.int .i64 i:=(hav 0 u1 _ rfl rfl).int_inv;have hu2:u2=.int .i64 j:=(hav 1 u2 _ rfl rfl).int_inv;subst hu1 hu2;obtain ⟨n,hn⟩:∃n,n=xs.length:=⟨_,rfl⟩
 have hpos:=sgk.pos k;have hIw:∀b o,I b o→b<w.heap.size:=hp.ib;have hres:(xs.take i++xs.drop j).length=i+(n-j):=by simp;omega
 unfold a3d;rw[MuLone.run_callFunc_enter fok.at_ fok.name fok.body _ w];simp only;show Calls P f #[.slice base xs.length c,.int .i64 (i:Int),.int .i64 (j:Int)] w _
 by_cases heq:i=j
 ·subst heq;refine (W.non hnc hj).mono (fun e w' he=>?_);obtain ⟨rfl,rfl⟩:=he;have e:xs.take i++xs.drop i=xs:=by simp
  rw[e];refine ⟨I,⟨yaH _,rfl,rfl,rfl,fun _ _ _=>rfl,fun _ _ h=>h,fun _ _ h=>.inl h,hIw⟩,base,c,rfl,hnc,?_⟩;rcases hz with ⟨h,_⟩|⟨b,vals,t,rfl,rfl,hb,hvsz,hel⟩
  ·exact .inl h
  ·have hbI:∀o,¬I b o:=fun o h=>(hp.jb b o (hp.ij b o h)).2 (by simp)
   refine .inr ⟨b,vals,t,rfl,hb,hvsz,.inr (by simp),hbI,fun q hq j d hj=>?_⟩;obtain ⟨v,a,e⟩:=hel q hq j d hj;exact ⟨v,a,a7s sgk e (a4e sgk hj) (fun _ _ h=>⟨rfl,h⟩)⟩
 ·have hlt:i<j:=by omega
  rcases hz with ⟨rfl,rfl⟩|⟨b,vals,t,rfl,rfl,hb,hvsz,hel⟩
  ·exfalso;omega
  ·have hbw:b<w.heap.size:=(yak.1 hb).1;have hbI:∀o,¬I b o:=fun o h=>(hp.jb b o (hp.ij b o h)).2 (by simp)
   obtain ⟨L,hL⟩:∃L,L=vals.toList:=⟨_,rfl⟩
   have hLa:vals=L.toArray:=by rw[hL]
   have hLl:L.length=c*S.sz k:=by rw[hL];simpa using hvsz
   rw[hLa]at hb;have hel':∀i (hi:i<xs.length) j d,(S.enc k xs[i])[j]?=some d→∃v,L[i*S.sz k+j]?=some v∧DR S w I J v d:=fun i hi j d hj=>by
    obtain ⟨v,a,e⟩:=hel i hi j d hj;exact ⟨v,by rw[hL];simpa using a,e⟩
   have hnL:n*S.sz k≤L.length:=by rw[hLl];exact yaq _ (by omega)
   have hone:∀v∈L.take (n*S.sz k),v.oneCell'=true:=fun v hv=>by
    obtain ⟨p,hp'⟩:=yav hv;have hlt:=(zL hp')
    simp only[yaS]at hlt;have h1:p / S.sz k<n:=(Nat.div_lt_iff_lt_mul hpos).2 (by omega);have h2:=Nat.mod_lt p hpos;have h3:p % S.sz k<(S.enc k (xs[p / S.sz k]'(by omega))).length:=by rw[sgk.sz];exact h2
    obtain ⟨v',a,e⟩:=hel' (p / S.sz k) (by omega) _ _ (yac h3);rw[Nat.div_add_mod']at a;rw[yaD,yaQ (by omega),a]at hp';cases hp'
    exact e4i e (sgk.plain k _ _ (ybs h3))
   have hjn:j*S.sz k≤n*S.sz k:=yaq _ (by omega);have hC1:(L.drop (j*S.sz k)).take ((n-j)*S.sz k)=(L.take (n*S.sz k)).drop (j*S.sz k):=by
    rw[List.drop_take];congr 1;rw[Nat.sub_mul]
   have hone1:∀v∈(L.drop (j*S.sz k)).take ((n-j)*S.sz k),v.oneCell'=true:=fun v hv=>hone v (by rw[hC1]at hv;exact List.mem_of_mem_drop hv)
   obtain ⟨C1,hC⟩:∃C1,C1=(L.drop (j*S.sz k)).take ((n-j)*S.sz k):=⟨_,rfl⟩
   have hC1l:C1.length=n*S.sz k-j*S.sz k:=by rw[hC,hC1];simp;omega
   have hC1g:∀q,q<n*S.sz k-j*S.sz k→C1[q]?=L[j*S.sz k+q]?:=fun q hq=>by rw[hC,hC1,ybK,yaD,yaQ (by omega)]
   have hij':i*S.sz k≤j*S.sz k:=yaq _ (by omega);have hm:(i+(n-j))*S.sz k=i*S.sz k+(n*S.sz k-j*S.sz k):=by rw[ya0,Nat.sub_mul]
   have hz2:(j-i)*S.sz k=j*S.sz k-i*S.sz k:=by rw[Nat.sub_mul]
   refine (W.som hlt hj hnc hb hLl (by rw[←hn];exact hone1)).mono (fun e w' he=>?_);obtain ⟨rfl,M0,zs,hzl,rfl⟩:=he;rw[←hn,←hC];have l1:(Go.splice L (i*S.sz k) C1).length=L.length:=length_splice _ _ _ (by omega);have l2:(Go.splice (Go.splice L (i*S.sz k) C1) ((i+(n-j))*S.sz k) zs).length=L.length:=by rw[length_splice _ _ _ (by omega),l1]
   generalize hM:Go.splice (Go.splice L (i*S.sz k) C1) ((i+(n-j))*S.sz k) zs=M at l2 ⊢;have hMg:∀p,p<(i+(n-j))*S.sz k→M[p]?=if p<i*S.sz k then L[p]? else L[p+(j*S.sz k-i*S.sz k)]?:=fun p hp=>by
    rw[←hM,a0l (by omega),yat (by omega),a0l (by omega)];by_cases h:p<i*S.sz k
    ·rw[yat (by omega),yaQ h]
    ·rw[yaQ (by omega),yat h,hC1g _ (by omega)];congr 1;omega
   have hheap:((w.drew.setRow b M0).setRow b M.toArray).heap[b]?=some (.cells M.toArray t (0,0)):=setRow_heap _ _ _ _ _ _ (setRow_heap w.drew _ _ _ _ _ hb);have hoth:∀q,q≠b→((w.drew.setRow b M0).setRow b M.toArray).heap[q]?=w.heap[q]?:=fun q hq=>by rw[setRow_other _ _ _ _ hq,setRow_other _ _ _ _ hq];rfl
   have hsz:((w.drew.setRow b M0).setRow b M.toArray).heap.size=w.heap.size:=by simp only[setRow_size];rfl
   refine ⟨I,⟨by omega,rfl,rfl,rfl,fun q hq hm=>hoth q (by simpa using hm),fun _ _ h=>h,fun _ _ h=>.inl h,fun q o h=>by have:=hIw q o h;omega⟩,
    some ⟨b,0,none⟩,c,by rw[hres],by omega,.inr ⟨b,_,t,rfl,hheap,by simp[l2,hLl],.inr (by simp),hbI,?_⟩⟩
   intro q hq s d hs;have hs':s<S.sz k:=by have:=(zL hs);rwa [sgk.sz]at this
   rw[hres]at hq;have hlt2:=a30 hs' hq;by_cases hqi:q<i
   ·have e:(xs.take i++xs.drop j)[q]'(by omega)=xs[q]'(by omega):=by rw[ybM (by simp;omega)];simp
    rw[e]at hs;obtain ⟨v,a,e2⟩:=hel' q (by omega) s d hs;refine ⟨v,?_,a7s sgk e2 (a4e sgk hs) (fun q o h=>⟨by simp only[World.cell?];rw[hoth q (fun e=>by subst e;exact hbI o h)],h⟩)⟩;rw[←a,ybA,hMg _ hlt2,yaQ (a30 hs' hqi)]
   ·have e:(xs.take i++xs.drop j)[q]'(by omega)=xs[q+(j-i)]'(by omega):=by
     have hl:(xs.take i).length=i:=by simp;omega
     rw[ybI (by omega)];simp only[hl,List.getElem_drop];congr 1;omega
    rw[e]at hs;obtain ⟨v,a,e2⟩:=hel' (q+(j-i)) (by omega) s d hs;refine ⟨v,?_,a7s sgk e2 (a4e sgk hs) (fun q o h=>⟨by simp only[World.cell?];rw[hoth q (fun e=>by subst e;exact hbI o h)],h⟩)⟩;have hqz:i*S.sz k≤q*S.sz k:=yaq _ (by omega);rw[←a,ybA,hMg _ hlt2,yat (by omega)];congr 1;rw[ya0,hz2];omega
theorem d1h (sgk:SgOk S) {f:Nat} {fn:Func} {code:Code} (fok:FnOk P f fn code) (hmd:S.md f=.cons) {k:κ} (W:DelOk P f (S.sz k))
 {xs r:List (El k)} {i j:Int} {ds:List (D κ El)} (hwl:WL ds [.lst k xs,.int .i64 i,.int .i64 j]) (hr:a7p xs i j=some r):Con P S f ds [] (.lst k r) []:=by
 unfold a7p at hr;rw[e8]at hr;split at hr
 ·rename_i h;simp only[yae,yad]at h;cases hr
  obtain ⟨n,rfl⟩:=Int.eq_ofNat_of_zero_le h.1.1.1;obtain ⟨m,rfl⟩:=Int.eq_ofNat_of_zero_le (Int.le_trans h.1.1.1 h.1.1.2);exact g1z sgk fok hmd W (i:=n) (j:=m) (by omega) (by omega) hwl
 ·cases hr
end
end
section
def d9c (c:Nat):Bool:=decide (c<32)||(decide (127≤c)&&decide (c≤159))||decide (65535<c)
theorem a8j {c:Nat}:d9c c=true↔c<32∨(127≤c∧c≤159)∨65535<c:=by
 unfold d9c;simp only[ybi,yae,yad];omega
set_option maxHeartbeats 2000000 in
theorem b71 {l:List UInt8} (hl:l≠[]):dcd l=if ((Lib.decodeL l).1=65533∧(Lib.decodeL l).2=1)∨d9c (Lib.decodeL l).1=true then (0,0) else Lib.decodeL l:=by
 cases l with
 |nil=>exact absurd rfl hl
 |cons a r=>
  rw[Lib.decodeL_N];have ha:=a.toNat_lt;simp only[a8j];rcases r with _|⟨b,_|⟨c,_|⟨d,r⟩⟩⟩
  ·simp only[List.getD_cons_zero,List.getD_cons_succ,List.getD_nil,yaK,ybQ];obtain ⟨X,hX⟩:∃X,Lib.decodeN (0+1) a.toNat (0:UInt8).toNat (0:UInt8).toNat (0:UInt8).toNat=X:=⟨_,rfl⟩
   rw[hX];unfold Lib.decodeN at hX;unfold dcd;dsimp only;split at hX
   ·subst hX
    repeat' split
    all_goals first|with_reducible rfl|(exfalso;omega)
   ·rw[yat (by omega),yat (by omega),yat (by omega)]at hX;subst hX
    repeat' split
    all_goals first|with_reducible rfl|(exfalso;omega)
  ·simp only[List.getD_cons_zero,List.getD_cons_succ,List.getD_nil,yaK,ybQ];have hb:=b.toNat_lt;obtain ⟨X,hX⟩:∃X,Lib.decodeN (0+1+1) a.toNat b.toNat (0:UInt8).toNat (0:UInt8).toNat=X:=⟨_,rfl⟩
   rw[hX];unfold Lib.decodeN at hX;unfold dcd;dsimp only
   repeat' split at hX
   all_goals subst hX
   all_goals dsimp only
   all_goals repeat' split
   all_goals first|with_reducible rfl|(exfalso;omega)|(simp only[yaO,and_true];omega)
  ·simp only[List.getD_cons_zero,List.getD_cons_succ,List.getD_nil,yaK,ybQ];have hb:=b.toNat_lt;have hc:=c.toNat_lt;obtain ⟨X,hX⟩:∃X,Lib.decodeN (0+1+1+1) a.toNat b.toNat c.toNat (0:UInt8).toNat=X:=⟨_,rfl⟩
   rw[hX];unfold Lib.decodeN at hX;unfold dcd;dsimp only
   repeat' split at hX
   all_goals subst hX
   all_goals dsimp only
   all_goals repeat' split
   all_goals first|with_reducible rfl|(exfalso;omega)|(simp only[yaO,and_true];omega)
  ·simp only[List.getD_cons_zero,List.getD_cons_succ,List.getD_nil,yaK,ybQ];have hb:=b.toNat_lt;have hc:=c.toNat_lt;have hd:=d.toNat_lt;obtain ⟨X,hX⟩:∃X,Lib.decodeN (r.length+1+1+1+1) a.toNat b.toNat c.toNat d.toNat=X:=⟨_,rfl⟩
   rw[hX];unfold Lib.decodeN at hX;unfold dcd;dsimp only
   repeat' split at hX
   all_goals subst hX
   all_goals dsimp only
   all_goals repeat' split
   all_goals first|with_reducible rfl|(exfalso;omega)|(simp only[yaO,and_true];omega)
def okN:Nat→List UInt8→Bool
 |0,_=>true
 |n+1,l=>if l=[] then true else if d9c (Lib.decodeL l).1 then false else okN n (l.drop (Lib.decodeL l).2)
theorem a65 {l:List UInt8} (hl:l≠[]):1≤(Lib.decodeL l).2∧(Lib.decodeL l).2≤l.length:=by
 cases l with
 |nil=>exact absurd rfl hl
 |cons a r=>
  rw[Lib.decodeL_N];unfold Lib.decodeN;have:1≤(a::r).length:=by simp
  repeat' split
  all_goals simp only
  all_goals omega
theorem h1f:∀(n:Nat) (l:List UInt8),d8d n l=(Lib.validGoD n l&&okN n l):=by
 intro n
 induction n with
 |zero=>intro l;rfl
 |succ n ih=>
  intro l;simp only[d8d,Lib.validGoD,okN];by_cases hl:l=[]
  ·simp[hl]
  ·simp only[hl,ya5];rw[b71 hl];by_cases h1:(Lib.decodeL l).1=65533∧(Lib.decodeL l).2=1
   ·simp[h1]
   ·by_cases h2:d9c (Lib.decodeL l).1=true
    ·simp[h2]
    ·have:=a65 hl;have hne:¬(((Lib.decodeL l).1=65533∧(Lib.decodeL l).2=1)∨d9c (Lib.decodeL l).1=true):=fun h=>h.elim h1 h2
     rw[yat hne,yat (show ¬(Lib.decodeL l).2=0 by omega),yat h1,yat h2];exact ih _
theorem f4o:∀(n m:Nat) (l:List UInt8),l.length≤n→l.length≤m→okN n l=okN m l:=by
 intro n
 induction n with
 |zero=>intro m l h1 h2;have:l=[]:=ybu.1 (by omega);subst this;cases m<;>simp[okN]
 |succ n ih=>
  intro m l h1 h2;by_cases hl:l=[]
  ·subst hl;cases m<;>simp[okN]
  ·have hp:=a65 hl;have:0<l.length:=List.length_pos_iff.2 hl;obtain ⟨m,rfl⟩:∃k,m=k+1:=⟨m-1,by omega⟩
   simp only[okN,hl,ya5];split
   ·rfl
   ·exact ih m _ (by rw[ya8];omega) (by rw[ya8];omega)
theorem e2r (xs:List (List UInt8)) (y sep:List UInt8):Lib.join (xs++[y]) sep=if xs=[] then y else Lib.join xs sep++(sep++y):=by
 cases xs with
 |nil=>simp[Lib.join_one]
 |cons x xs=>
  rw[yb2,Lib.join_cons,Lib.join_cons];simp[Lib.joinTail]
def pcs (l:List UInt8) (acc:List (Nat×Nat)):List (List UInt8):=acc.map fun x=>(l.take x.2).drop x.1
def J (l:List UInt8) (acc:List (Nat×Nat)):List UInt8:=Lib.join (pcs l acc) [32]
theorem h1p (l:List UInt8):J l []=[]:=rfl
theorem d8j (l:List UInt8) (acc:List (Nat×Nat)) (a b:Nat):J l (acc++[(a,b)])=if acc=[] then (l.take b).drop a else J l acc++([32]++(l.take b).drop a):=by
 unfold J pcs;rw[List.map_append,List.map_singleton,e2r];simp only[List.map_eq_nil_iff]
theorem h9h {l:List UInt8}:∀{acc:List (Nat×Nat)},(∀x∈acc,x.1<x.2∧x.2≤l.length)→acc≠[]→J l acc≠[]:=by
 intro acc h hne;obtain ⟨x,r,rfl⟩:=List.exists_cons_of_ne_nil hne;have hx:=h x (by simp);unfold J pcs;rw[ybg,Lib.join_cons];intro e;have:=congrArg List.length e;simp only[yaU,ya8,yaS,ybQ]at this;omega
theorem d92 {s:ByteArray} {l:List UInt8} (hl:s.data.toList=l) (p:Nat→Bool) (hp:∀c,p c=blk c):∀(f pos:Nat) (st:Option Nat) (acc:List (Nat×Nat)) (gap:Bool),
 s.size≤pos+f→pos≤s.size→d8d f (l.drop pos)=true→(∀a,st=some a→a<pos∧gap=false)→(st=none→gap=true∨acc=[])→(∀x∈acc,x.1<x.2∧x.2≤l.length)→
 J l (Lib.closeSpans s (Lib.spansFromP p s f pos st acc))=c2m f (l.drop pos) (match st with|some a=>J l (acc++[(a,pos)])|none=>J l acc) gap:=by
 have hsz:s.size=l.length:=by rw[Lib.size_eq,hl]
 intro f
 induction f with
 |zero=>
  intro pos st acc gap h1 h2 hv hs hn hacc;have:pos=s.size:=by omega
  subst this;simp only[Lib.spansFromP,c2m];cases st with
  |none=>rfl
  |some a=>rfl
 |succ f ih=>
  intro pos st acc gap h1 h2 hv hs hn hacc;by_cases hlt:pos<s.size
  ·have hne:l.drop pos≠[]:=by simp;omega
   have hdec:Lib.decodeL (l.drop pos)=Utf8.decode s pos:=by rw[←hl];exact Lib.decodeL_drop s pos
   have hpos:=a65 hne;rw[ya8]at hpos;have hv2:=hv;simp only[d8d,hne,ya5]at hv2;have hd:=b71 hne;split at hd
   ·rw[hd]at hv2;simp at hv2
   ·rename_i hnb;have hz:¬(dcd (l.drop pos)).2=0:=by rw[hd];omega
    rw[yat hz,List.drop_drop,hd,hdec]at hv2;have hw:wid (l.drop pos)=(Utf8.decode s pos).2:=by unfold wid;rw[hd,hdec,yat (by rw[←hdec];omega)]
    rw[hdec]at hpos;obtain ⟨k,hk⟩:∃k,(Utf8.decode s pos).2=k:=⟨_,rfl⟩
    rw[c2m,yat hne,List.drop_drop,hw,hd,hdec];simp only[Lib.spansFromP,hlt,ybB,hp];rw[hk]at hpos hv2 ⊢;have htk:∀a,a≤pos→(l.take pos).drop a++(l.drop pos).take k=(l.take (pos+k)).drop a:=by
     intro a ha;rw[List.take_add,List.drop_append_of_le_length (by simp;omega)]
    cases hb:blk (Utf8.decode s pos).1 with
    |true=>
     simp only[ybB];cases st with
     |none=>exact ih (pos+k) none acc true (by omega) (by omega) hv2 (fun a h=>by cases h) (fun _=>.inl rfl) hacc
     |some a=>
      have:=(hs a rfl).1;exact ih (pos+k) none (acc++[(a,pos)]) true (by omega) (by omega) hv2 (fun a h=>by cases h) (fun _=>.inl rfl) (fun x hx=>by
       rcases yas.1 hx with h|h
       ·exact hacc x h
       ·simp only[ybD]at h;subst h;exact ⟨this,by simp only;omega⟩)
    |false=>
     simp only[yaB,ya5];cases st with
     |some a=>
      obtain ⟨ha,hg⟩:=hs a rfl;subst hg;rw[ih (pos+k) (some a) acc false (by omega) (by omega) hv2 (fun b h=>by cases h;exact ⟨by omega,rfl⟩) (fun h=>by cases h) hacc];simp only[ybt,yaB,ya5];congr 1;rw[d8j,d8j];split
      ·exact (htk a (by omega)).symm
      ·rw[←htk a (by omega)];simp
     |none=>
      rw[ih (pos+k) (some pos) acc false (by omega) (by omega) hv2 (fun b h=>by cases h;exact ⟨by omega,rfl⟩) (fun h=>by cases h) hacc];congr 1;dsimp only;rw[d8j];have e:=htk pos (yaH _);rw[@List.drop_eq_nil_of_le _ (l.take pos) _ (by simp;omega),ya1]at e;rcases hn rfl with hg|hacc0
      ·subst hg;by_cases h0:acc=[]
       ·subst h0;simp[h1p,e]
       ·have:=h9h hacc h0;have hb2:(J l acc==[])=false:=by simpa using this
        simp[h0,hb2,e]
      ·subst hacc0;simp[h1p,e]
  ·have:pos=s.size:=by omega
   subst this;have hnil:l.drop s.size=[]:=by rw[hsz];simp
   rw[Lib.spansFromP_end _ _ _ _ _ _ hlt,c2m,yaQ hnil];cases st with
   |none=>rfl
   |some a=>rfl
theorem d5c {s:ByteArray} {p:Nat→Bool} (hp:∀c,p c=blk c) (hv:vld s.data.toList=true):Lib.join ((Lib.goFieldsP p s).map (·.data.toList)) [32]=cln s.data.toList:=by
 have h:=d92 (s:=s) rfl p hp s.size 0 none [] false (by omega) (by omega) (by rw[ybw,Lib.size_eq];exact hv) (fun a h=>by cases h) (fun _=>.inr rfl) (fun x h=>by cases h);rw[ybw]at h;have hc:cln s.data.toList=c2m s.size s.data.toList [] false:=by unfold cln;rw[Lib.size_eq]
 rw[hc];refine Eq.trans ?_ h;unfold J pcs Lib.goFieldsP Lib.spansOfP;rw[List.map_map];congr 1;refine List.map_congr_left (fun x _=>?_);show (s.extract x.1 x.2).data.toList=(s.data.toList.take x.2).drop x.1
 rw[Lib.extract_data,List.drop_take]
theorem e81 (p:Nat→Bool) (s:ByteArray):∀(f pos:Nat) (st:Option Nat) (acc:List (Nat×Nat)),(Lib.spansFromP p s f pos st acc).1.length≤acc.length+f:=by
 intro f
 induction f with
 |zero=>intro pos st acc;exact yaH _
 |succ f ih=>
  intro pos st acc;unfold Lib.spansFromP;split
  ·split
   ·cases st with
    |none=>exact ybm (ih _ _ _) (by omega)
    |some a=>exact ybm (ih _ _ _) (by simp;omega)
   ·cases st with
    |none=>exact ybm (ih _ _ _) (by omega)
    |some a=>exact ybm (ih _ _ _) (by omega)
  ·simp
theorem d5r (p:Nat→Bool) (s:ByteArray):(Lib.goFieldsP p s).length≤s.size+1:=by
 have:=e81 p s s.size 0 none [];unfold Lib.goFieldsP Lib.spansOfP Lib.closeSpans;rw[ybe];split
 ·rw[yaU];simp at this ⊢;omega
 ·simp at this;omega
theorem f1o:∀(n:Nat) (l out:List UInt8) (gap:Bool),(c2m n l out gap).length≤out.length+2*l.length:=by
 intro n
 induction n with
 |zero=>intro l out gap;simp[c2m]
 |succ n ih=>
  intro l out gap;rw[c2m];split
  ·omega
  ·have hw:1≤wid l:=by unfold wid;split<;>omega
   have hl:0<l.length:=List.length_pos_iff.2 (by assumption);split
   ·have:=ih (l.drop (wid l)) out true;rw[ya8]at this;omega
   ·have:=ih (l.drop (wid l)) ((if gap&&!(out==[]) then out++[32] else out)++l.take (wid l)) false;rw[ya8]at this;have h2:(if gap&&!(out==[]) then out++[32] else out).length≤out.length+1:=by split<;>simp
    simp only[yaU,yaS]at this;omega
theorem g1y (s:ByteArray):(cln s.data.toList).length≤2*s.size:=by
 have:=f1o s.data.toList.length s.data.toList [] false;rw[Lib.size_eq];simpa[cln]using this
end
end Go.Proofs.YtcebdbdfgkahkaaGreatDoor.Ev
namespace Go.Proofs
open Go.Shelf
def Tryz.laysValid_ren:Go.Shelf.Ren:=⟨fun|196=>209|259=>243|n=>n,fun|9=>9|4=>4|3=>3|5=>5|12=>12|119=>244|0=>0|46=>217|139=>247|138=>246|53=>242|n=>n,fun|3=>1|4=>2|n=>n⟩
theorem Tryz.laysValid:Go.Proofs.Lays.n196 Tryz.prog Tryz.laysValid_ren:={
 mixed:=by kernel_rfl
 f196:=Tryz.func209.trans (congrArg some (by kernel_rfl))
 f259:=Tryz.func243.trans (congrArg some (by kernel_rfl))
 t0:=Tryz.underlying0
 a0:=Tryz.isAgg0
 z0:=Tryz.sizeOf0
 v0:=Tryz.zeroValue0
 t3:=Tryz.underlying3
 a3:=Tryz.isAgg3
 z3:=Tryz.sizeOf3
 v3:=Tryz.zeroValue3
 t4:=Tryz.underlying4
 a4:=Tryz.isAgg4
 z4:=Tryz.sizeOf4
 v4:=Tryz.zeroValue4
 t5:=Tryz.underlying5
 a5:=Tryz.isAgg5
 z5:=Tryz.sizeOf5
 v5:=Tryz.zeroValue5
 t9:=Tryz.underlying9
 a9:=Tryz.isAgg9
 z9:=Tryz.sizeOf9
 v9:=Tryz.zeroValue9
 t12:=Tryz.underlying12
 a12:=Tryz.isAgg12
 z12:=Tryz.sizeOf12
 v12:=Tryz.zeroValue12
 t46:=Tryz.underlying217
 a46:=Tryz.isAgg217
 z46:=Tryz.sizeOf217
 v46:=Tryz.zeroValue217
 t53:=Tryz.underlying242
 a53:=Tryz.isAgg242
 z53:=Tryz.sizeOf242
 v53:=Tryz.zeroValue242
 t119:=Tryz.underlying244
 a119:=Tryz.isAgg244
 z119:=Tryz.sizeOf244
 t138:=Tryz.underlying246
 a138:=Tryz.isAgg246
 z138:=Tryz.sizeOf246
 v138:=Tryz.zeroValue246
 t139:=Tryz.underlying247
 a139:=Tryz.isAgg247
 z139:=Tryz.sizeOf247
 v139:=Tryz.zeroValue247
 g3:=by kernel_rfl
 g4:=by kernel_rfl}
def Tryz.lays156_ren:Go.Shelf.Ren:=⟨fun|156=>244|165=>262|166=>263|169=>264|240=>270|241=>271|276=>273|277=>274|n=>n,fun|31=>249|9=>9|3=>3|4=>4|0=>0|20=>20|72=>266|76=>269|70=>263|37=>264|75=>268|127=>280|164=>281|5=>5|80=>271|n=>n,fun|n=>n⟩
theorem Tryz.lays156:Go.Proofs.Lays.n156 Tryz.prog Tryz.lays156_ren:={
 mixed:=by kernel_rfl
 f156:=Tryz.func244.trans (congrArg some (by kernel_rfl))
 f165:=Tryz.func262.trans (congrArg some (by kernel_rfl))
 f166:=Tryz.func263.trans (congrArg some (by kernel_rfl))
 f169:=Tryz.func264.trans (congrArg some (by kernel_rfl))
 f240:=Tryz.func270.trans (congrArg some (by kernel_rfl))
 f241:=Tryz.func271.trans (congrArg some (by kernel_rfl))
 f276:=Tryz.func273.trans (congrArg some (by kernel_rfl))
 f277:=Tryz.func274.trans (congrArg some (by kernel_rfl))
 t0:=Tryz.underlying0
 a0:=Tryz.isAgg0
 z0:=Tryz.sizeOf0
 v0:=Tryz.zeroValue0
 t3:=Tryz.underlying3
 a3:=Tryz.isAgg3
 z3:=Tryz.sizeOf3
 v3:=Tryz.zeroValue3
 t4:=Tryz.underlying4
 a4:=Tryz.isAgg4
 z4:=Tryz.sizeOf4
 v4:=Tryz.zeroValue4
 t9:=Tryz.underlying9
 a9:=Tryz.isAgg9
 z9:=Tryz.sizeOf9
 v9:=Tryz.zeroValue9
 t20:=Tryz.underlying20
 a20:=Tryz.isAgg20
 z20:=Tryz.sizeOf20
 v20:=Tryz.zeroValue20
 t31:=Tryz.underlying249
 a31:=Tryz.isAgg249
 z31:=Tryz.sizeOf249
 v31:=Tryz.zeroValue249
 t37:=Tryz.underlying264
 a37:=Tryz.isAgg264
 z37:=Tryz.sizeOf264
 v37:=Tryz.zeroValue264
 t70:=Tryz.underlying263
 a70:=Tryz.isAgg263
 z70:=Tryz.sizeOf263
 v70:=Tryz.zeroValue263
 t72:=Tryz.underlying266
 a72:=Tryz.isAgg266
 z72:=Tryz.sizeOf266
 v72:=Tryz.zeroValue266
 t75:=Tryz.underlying268
 a75:=Tryz.isAgg268
 z75:=Tryz.sizeOf268
 v75:=Tryz.zeroValue268
 t76:=Tryz.underlying269
 a76:=Tryz.isAgg269
 z76:=Tryz.sizeOf269
 v76:=Tryz.zeroValue269
 t127:=Tryz.underlying280
 a127:=Tryz.isAgg280
 z127:=Tryz.sizeOf280
 v127:=Tryz.zeroValue280
 t164:=Tryz.underlying281
 a164:=Tryz.isAgg281
 z164:=Tryz.sizeOf281
 v164:=Tryz.zeroValue281}
theorem Tryz.Builder_Extra_156:Builder.Extra Tryz.prog Tryz.lays156_ren:={
 sizeBuilder:=by kernel_rfl
 liesBuilder:=by kernel_rfl
 t5:=Tryz.underlying5
 a5:=Tryz.isAgg5
 z5:=Tryz.sizeOf5
 v5:=Tryz.zeroValue5
 infoByte:=by kernel_rfl
 cellsByte:=by kernel_rfl
 sizeByte:=by kernel_rfl
 neB5:=by decide}
open Go.RowKit in
theorem Tryz.strings_Join (bk o c:Nat) (xs:List ByteArray) (sep:ByteArray) (w:World) (hcells:∀(j:Nat) x,xs[j]?=some x→w.cell? ⟨bk,o+j,none⟩=some (.string x)) (hbk:bk<w.heap.size) (hN:xs.length≤140737488355328) (hcap:xs.length≤c) (hlen:(Lib.join (xs.map (·.data.toList)) sep.data.toList).length≤140737488355328) :
 Calls Tryz.prog 244 #[.slice (some ⟨bk,o,none⟩) xs.length c,.string sep] w fun e w'=>e=.returned (.string ⟨(Lib.join (xs.map (·.data.toList)) sep.data.toList).toArray⟩)∧Below w.heap.size w w':=Any.strings_Join Tryz.lays156 Tryz.Builder_Extra_156 bk o c xs sep w hcells hbk hN hcap hlen
def Tryz.lays229_ren:Go.Shelf.Ren:=⟨fun|229=>245|n=>n,fun|9=>9|40=>251|31=>249|152=>272|3=>3|0=>0|4=>4|21=>21|154=>274|n=>n,fun|n=>n⟩
theorem Tryz.lays229:Go.Proofs.Lays.n229 Tryz.prog Tryz.lays229_ren:={
 mixed:=by kernel_rfl
 f229:=Tryz.func245.trans (congrArg some (by kernel_rfl))
 t0:=Tryz.underlying0
 a0:=Tryz.isAgg0
 z0:=Tryz.sizeOf0
 v0:=Tryz.zeroValue0
 t3:=Tryz.underlying3
 a3:=Tryz.isAgg3
 z3:=Tryz.sizeOf3
 v3:=Tryz.zeroValue3
 t4:=Tryz.underlying4
 a4:=Tryz.isAgg4
 z4:=Tryz.sizeOf4
 v4:=Tryz.zeroValue4
 t9:=Tryz.underlying9
 a9:=Tryz.isAgg9
 z9:=Tryz.sizeOf9
 v9:=Tryz.zeroValue9
 t21:=Tryz.underlying21
 a21:=Tryz.isAgg21
 z21:=Tryz.sizeOf21
 v21:=Tryz.zeroValue21
 t31:=Tryz.underlying249
 a31:=Tryz.isAgg249
 z31:=Tryz.sizeOf249
 v31:=Tryz.zeroValue249
 t40:=Tryz.underlying251
 a40:=Tryz.isAgg251
 z40:=Tryz.sizeOf251
 v40:=Tryz.zeroValue251
 t152:=Tryz.underlying272
 a152:=Tryz.isAgg272
 z152:=Tryz.sizeOf272
 v152:=Tryz.zeroValue272
 t154:=Tryz.underlying274
 a154:=Tryz.isAgg274
 z154:=Tryz.sizeOf274
 v154:=Tryz.zeroValue274}
open Go.RowKit Go.Lib in
theorem Tryz.strings_FieldsFunc_runes (g:Nat) (lb:Array Value) (eg:∀args w,(callFunc g args).run Tryz.prog w=.ok (.enter g args) w) (p:Nat→Bool) (s:ByteArray) (w:World) (hs:s.size≤4294967296) (hp:PredAtRunes Tryz.prog g lb p w) :
 Calls Tryz.prog 245 #[.string s,.func (.func g) #[] lb] w fun e w'=>∃A,e=.returned (.slice (some ⟨A,0,none⟩) (Lib.goFieldsP p s).length (Lib.goFieldsP p s).length)∧w.heap.size≤A∧
  w'.ownsRow w.heap.size 9 1 (.slice (some ⟨A,0,none⟩) (Lib.goFieldsP p s).length (Lib.goFieldsP p s).length) (Lib.goFieldsP p s).length ((Lib.goFieldsP p s).map Value.string)∧Below w.heap.size w w':=Any.strings_FieldsFunc_runes Tryz.lays229 g lb eg p s w hs hp (by kernel_rfl) (by kernel_rfl)
open Go.RowKit in
theorem Tryz.strings_Join_none (a:Option Addr) (c:Nat) (sep:ByteArray) (w:World) :
 Calls Tryz.prog 244 #[.slice a 0 c,.string sep] w fun e w'=>e=.returned (.string ⟨#[]⟩)∧w'=w:=Any.strings_Join_none Tryz.lays156 Tryz.Builder_Extra_156 a c sep w
end Go.Proofs
namespace Go.Proofs.YtcebdbdfgkahkaaGreatDoor
open Go Ev
open Go.Lib Go.RowKit
theorem e54 {X:Ending} (b:Bool) {b':Bool} (h:X=.returned (.bool b)) (e:b=b'):X=.returned (.bool b'):=e▸h
set_option maxHeartbeats 4000000 in
set_option maxRecDepth 1000000 in
theorem d8c (s:ByteArray) (w:World) (hs:s.size≤1073741824) (hT:Lib.Utf8Tabs 1 2 w) :
 Calls Tryz.prog 160 #[.string s] w fun e w'=>e=.returned (.bool (vld s.data.toList))∧Below w.heap.size w w':=by
 have cV:Calls Tryz.prog 209 #[.string s] w _:=Any.utf8_ValidString Tryz.laysValid s w (by omega) hT;have hvl:vld s.data.toList=(Lib.validD s.data.toList&&okN s.size s.data.toList):=by rw[Lib.size_eq];exact h1f _ _
 rw[hvl];clear hvl;generalize Lib.validD s.data.toList=V at cV ⊢;cases V with
 |false=>
  rw[ybt]
  go_enter Tryz.func160,Tryz.ntmps160
  go_wp2_with (go_at_call 209;refine cV.mono ?_;rintro e w' ⟨rfl,hb⟩)
  go_ret
  exact ⟨rfl,hb⟩
 |true=>
  rw[yaT]
  go_enter Tryz.func160,Tryz.ntmps160
  go_wp2_with (go_at_call 209;refine cV.mono ?_;rintro e w' ⟨rfl,hb⟩)
  go_loopg [4] (s.size+1) (fun gk s4 wx=>∃pos:Nat,wx.heap[w'.heap.size]?=some (.stringIter s pos)∧Below w.heap.size w wx∧
   okN gk (s.data.toList.drop pos)=okN s.size s.data.toList∧s.size≤pos+gk∧pos≤s.size)
  case atStart=>
   refine ⟨0,World.iter_heap w' s 0,hb.alloc hb.size _,?_,by omega,by omega⟩;rw[ybw];exact f4o _ _ _ (by rw[←Lib.size_eq];omega) (by rw[←Lib.size_eq];omega)
  case round=>
   obtain ⟨pos,hit,hbw,hok,hfu,hps⟩:=hrel;have hdec:Lib.decodeL (s.data.toList.drop pos)=Utf8.decode s pos:=Lib.decodeL_drop s pos;by_cases hlt:pos<s.size
   ·obtain ⟨g',rfl⟩:∃g',gk=g'+1:=⟨gk-1,by omega⟩
    have hnx:∀ty,(Instr.next (.pointer (some ⟨w'.heap.size,0,none⟩)) true ty).run Tryz.prog wr=_:=fun ty=>Lib.run_next_any_at wr w'.heap.size s pos ty hit hlt
    have hne:s.data.toList.drop pos≠[]:=by rw[Ne,List.drop_eq_nil_iff,←Lib.size_eq];omega
    have hwd:=a65 hne;rw[hdec,ya8,←Lib.size_eq]at hwd;simp only[okN,hne,ya5,hdec,List.drop_drop]at hok;obtain ⟨R,hR⟩:∃R,(Utf8.decode s pos).1=R:=⟨_,rfl⟩
    obtain ⟨K,hK⟩:∃K,(Utf8.decode s pos).2=K:=⟨_,rfl⟩
    rw[hR,hK]at hnx hok;rw[hK]at hwd;have hit2:=Lib.iterAt_heap wr w'.heap.size s pos (pos+K) hit;have hbw2:=Lib.below_iterAt hbw (k:=w'.heap.size) hb.size s (pos+K);by_cases h1:R<32
    ·have hz:(R:Int)<32:=by omega
     have hb1:d9c R=true:=a8j.2 (.inl h1);rw[yaQ hb1]at hok
     go_wp2
     go_ret
     first|exact ⟨rfl,hbw2⟩|exact ⟨e54 false rfl hok,hbw2⟩
    ·have hz:¬(R:Int)<32:=by omega
     by_cases h2:127≤R
     ·have hz2:(127:Int)≤(R:Int):=by omega
      by_cases h3:R≤159
      ·have hz3:(R:Int)≤159:=by omega
       have hb1:d9c R=true:=a8j.2 (.inr (.inl ⟨h2,h3⟩));rw[yaQ hb1]at hok
       go_wp2
       go_ret
       first|exact ⟨rfl,hbw2⟩|exact ⟨e54 false rfl hok,hbw2⟩
      ·have hz3:¬(R:Int)≤159:=by omega
       by_cases h4:65535<R
       ·have hz4:(65535:Int)<(R:Int):=by omega
        have hb1:d9c R=true:=a8j.2 (.inr (.inr h4));rw[yaQ hb1]at hok
        go_wp2
        go_ret
        first|exact ⟨rfl,hbw2⟩|exact ⟨e54 false rfl hok,hbw2⟩
       ·have hz4:¬(65535:Int)<(R:Int):=by omega
        have hb1:¬d9c R=true:=fun h=>by rw[a8j]at h;omega
        rw[yat hb1]at hok
        go_wp2
        go_roundg g'
        case measure=>omega
        case rel=>exact ⟨pos+K,hit2,hbw2,hok,by omega,by omega⟩
     ·have hz2:¬(127:Int)≤(R:Int):=by omega
      have hz4:¬(65535:Int)<(R:Int):=by omega
      have hb1:¬d9c R=true:=fun h=>by rw[a8j]at h;omega
      rw[yat hb1]at hok
      go_wp2
      go_roundg g'
      case measure=>omega
      case rel=>exact ⟨pos+K,hit2,hbw2,hok,by omega,by omega⟩
   ·have:pos=s.size:=by omega
    subst this;have hnx:∀ty,(Instr.next (.pointer (some ⟨w'.heap.size,0,none⟩)) true ty).run Tryz.prog wr=_:=fun ty=>Lib.run_next_end_at wr w'.heap.size s s.size ty hit hlt
    have hnil:s.data.toList.drop s.size=[]:=by rw[Lib.size_eq];simp
    have hok2:okN s.size s.data.toList=true:=by rw[←hok,hnil];cases gk<;>simp[okN]
    go_wp2
    go_ret
    first|exact ⟨rfl,hbw⟩|exact ⟨e54 true rfl hok2.symm,hbw⟩
set_option maxRecDepth 1000000 in
theorem d4r (R:Nat) (hR:R≤1114111) (w:World):Calls Tryz.prog 246 #[.int .i32 (R:Int)] w fun e w'=>e=.returned (.bool (blk R))∧∃q,w'=w.drewN q:=by
 by_cases h1:R=32
 ·subst h1
  go_enter Tryz.func246,Tryz.ntmps246
  go_wp2
  go_ret
  exact ⟨rfl,0,rfl⟩
 ·have z1:¬(R:Int)=32:=by omega
  by_cases h2:R=160
  ·subst h2
   go_enter Tryz.func246,Tryz.ntmps246
   go_wp2
   go_ret
   exact ⟨rfl,0,rfl⟩
  ·have z2:¬(R:Int)=160:=by omega
   have hb:blk R=false:=by unfold blk;simp[h1,h2]
   go_enter Tryz.func246,Tryz.ntmps246
   go_wp2
   go_ret
   exact ⟨e54 ((R:Int)==32||(R:Int)==160) rfl (by rw[hb,yai];exact ⟨by simp;omega,by simp;omega⟩),0,rfl⟩
set_option maxHeartbeats 4000000 in
set_option maxRecDepth 1000000 in
theorem d5b (s:ByteArray) (w:World) (hs:s.size≤1073741824) (hv:vld s.data.toList=true) :
 Calls Tryz.prog 210 #[.string s] w fun e w'=>e=.returned (.string ⟨(cln s.data.toList).toArray⟩)∧Below w.heap.size w w':=by
 have eg:∀args w,(callFunc 246 args).run Tryz.prog w=.ok (.enter 246 args) w:=enters_of Tryz.func246 kr rfl;have hp:PredAtRunes Tryz.prog 246 #[] blk w:=fun W x hx hb=>by
  exact d4r x hx W
 have cF:=Tryz.strings_FieldsFunc_runes 246 #[] eg blk s w (by omega) hp;have hj:=d5c (s:=s) (p:=blk) (fun _=>rfl) hv;have hlen:(cln s.data.toList).length≤2*s.size:=g1y s;obtain ⟨Fs,hFs⟩:∃Fs,Lib.goFieldsP blk s=Fs:=⟨_,rfl⟩
 have hfl:=d5r blk s;rw[hFs]at hj cF hfl;have cJ:∀A W,Below w.heap.size w W→W.ownsRow w.heap.size 9 1 (.slice (some ⟨A,0,none⟩) Fs.length Fs.length) Fs.length (Fs.map Value.string)→
  Calls Tryz.prog 244 #[.slice (some ⟨A,0,none⟩) Fs.length Fs.length,.string ⟨#[32]⟩] W fun e w'=>e=.returned (.string ⟨(cln s.data.toList).toArray⟩)∧Below w.heap.size w w':=by
  intro A W hb hrow;by_cases h0:Fs=[]
  ·subst h0;have:=Tryz.strings_Join_none (some ⟨A,0,none⟩) 0 ⟨#[32]⟩ W;refine this.mono ?_;rintro e w' ⟨rfl,rfl⟩;rw[←hj];exact ⟨rfl,hb⟩
  ·obtain ⟨-,h|⟨g,cap,cur,hv2,hbg,hh,hn,hmx,hcs,hct⟩⟩:=hrow
   ·exact absurd (ybu.1 h.2) h0
   ·injection hv2 with e1 e2 e3;injection e1 with e1;injection e1 with e1;subst e1;have hj2:(Lib.join (Fs.map (·.data.toList)) (⟨#[32]⟩:ByteArray).data.toList)=cln s.data.toList:=hj;have:=Tryz.strings_Join A 0 Fs.length Fs ⟨#[32]⟩ W (fun j x hx=>by
     rw[Nat.mul_one]at hct;have hj3:j<Fs.length:=(zL hx)
     have e4:cur.toList[j]?=some (Value.string x):=by
      rw[←ybN hj3,hct,yaJ,hx];rfl
     rw[yaw]at e4;rw[yaF];simp only[World.cell?,hh];exact e4) (yak.1 hh).1 (by omega) (yaH _) (by rw[hj2];omega)
    refine this.mono ?_;rintro e w' ⟨rfl,hb2⟩;rw[hj2];exact ⟨rfl,hb.trans (hb2.mono hb.size)⟩
 clear hj hlen hFs hfl
 go_enter Tryz.func210,Tryz.ntmps210
 go_wp2_with (first|(go_at_call 245;refine cF.mono ?_;rintro e w' ⟨A,rfl,hA,hrow,hb⟩)|(go_at_call 244;refine (cJ A _ hb hrow).mono ?_;rintro e w'' ⟨rfl,hb2⟩))
 go_ret
 exact ⟨rfl,hb2⟩
end Go.Proofs.YtcebdbdfgkahkaaGreatDoor
namespace Go.Proofs
open Go.Shelf
def Tryz.lays189_ren:Go.Shelf.Ren:=⟨fun|189=>158|125=>208|257=>207|128=>241|129=>242|294=>232|295=>233|296=>234|297=>235|298=>236|299=>237|216=>238|300=>239|301=>240|328=>256|329=>257|330=>258|331=>259|332=>260|215=>261|343=>269|n=>n,fun|28=>28|3=>3|46=>217|0=>0|51=>240|53=>242|4=>4|183=>233|182=>232|131=>237|5=>5|9=>9|218=>257|222=>261|228=>278|229=>191|n=>n,fun|n=>n⟩
theorem Tryz.lays189:Go.Proofs.Lays.n189 Tryz.prog Tryz.lays189_ren:={
 mixed:=by kernel_rfl
 f125:=Tryz.func208.trans (congrArg some (by kernel_rfl))
 f128:=Tryz.func241.trans (congrArg some (by kernel_rfl))
 f129:=Tryz.func242.trans (congrArg some (by kernel_rfl))
 f189:=Tryz.func158.trans (congrArg some (by kernel_rfl))
 f215:=Tryz.func261.trans (congrArg some (by kernel_rfl))
 f216:=Tryz.func238.trans (congrArg some (by kernel_rfl))
 f257:=Tryz.func207.trans (congrArg some (by kernel_rfl))
 f294:=Tryz.func232.trans (congrArg some (by kernel_rfl))
 f295:=Tryz.func233.trans (congrArg some (by kernel_rfl))
 f296:=Tryz.func234.trans (congrArg some (by kernel_rfl))
 f297:=Tryz.func235.trans (congrArg some (by kernel_rfl))
 f298:=Tryz.func236.trans (congrArg some (by kernel_rfl))
 f299:=Tryz.func237.trans (congrArg some (by kernel_rfl))
 f300:=Tryz.func239.trans (congrArg some (by kernel_rfl))
 f301:=Tryz.func240.trans (congrArg some (by kernel_rfl))
 f328:=Tryz.func256.trans (congrArg some (by kernel_rfl))
 f329:=Tryz.func257.trans (congrArg some (by kernel_rfl))
 f330:=Tryz.func258.trans (congrArg some (by kernel_rfl))
 f331:=Tryz.func259.trans (congrArg some (by kernel_rfl))
 f332:=Tryz.func260.trans (congrArg some (by kernel_rfl))
 f343:=Tryz.func269.trans (congrArg some (by kernel_rfl))
 t0:=Tryz.underlying0
 a0:=Tryz.isAgg0
 z0:=Tryz.sizeOf0
 v0:=Tryz.zeroValue0
 t3:=Tryz.underlying3
 a3:=Tryz.isAgg3
 z3:=Tryz.sizeOf3
 v3:=Tryz.zeroValue3
 t4:=Tryz.underlying4
 a4:=Tryz.isAgg4
 z4:=Tryz.sizeOf4
 v4:=Tryz.zeroValue4
 t5:=Tryz.underlying5
 a5:=Tryz.isAgg5
 z5:=Tryz.sizeOf5
 v5:=Tryz.zeroValue5
 t9:=Tryz.underlying9
 a9:=Tryz.isAgg9
 z9:=Tryz.sizeOf9
 v9:=Tryz.zeroValue9
 t28:=Tryz.underlying28
 a28:=Tryz.isAgg28
 z28:=Tryz.sizeOf28
 v28:=Tryz.zeroValue28
 t46:=Tryz.underlying217
 a46:=Tryz.isAgg217
 z46:=Tryz.sizeOf217
 v46:=Tryz.zeroValue217
 t51:=Tryz.underlying240
 a51:=Tryz.isAgg240
 z51:=Tryz.sizeOf240
 v51:=Tryz.zeroValue240
 t53:=Tryz.underlying242
 a53:=Tryz.isAgg242
 z53:=Tryz.sizeOf242
 v53:=Tryz.zeroValue242
 t131:=Tryz.underlying237
 a131:=Tryz.isAgg237
 z131:=Tryz.sizeOf237
 v131:=Tryz.zeroValue237
 t182:=Tryz.underlying232
 a182:=Tryz.isAgg232
 z182:=Tryz.sizeOf232
 v182:=Tryz.zeroValue232
 t183:=Tryz.underlying233
 a183:=Tryz.isAgg233
 z183:=Tryz.sizeOf233
 v183:=Tryz.zeroValue233
 t218:=Tryz.underlying257
 a218:=Tryz.isAgg257
 z218:=Tryz.sizeOf257
 v218:=Tryz.zeroValue257
 t222:=Tryz.underlying261
 a222:=Tryz.isAgg261
 z222:=Tryz.sizeOf261
 v222:=Tryz.zeroValue261
 t228:=Tryz.underlying278
 a228:=Tryz.isAgg278
 z228:=Tryz.sizeOf278
 v228:=Tryz.zeroValue278
 t229:=Tryz.underlying191
 a229:=Tryz.isAgg191
 z229:=Tryz.sizeOf191
 v229:=Tryz.zeroValue191}
def Tryz.laysNm220_ren:Go.Shelf.Ren:=⟨fun|20=>159|n=>n,fun|22=>28|3=>3|4=>4|0=>0|n=>n,fun|n=>n⟩
theorem Tryz.laysNm220:Go.Proofs.Lays2.n20 Tryz.prog Tryz.laysNm220_ren:={
 mixed:=by kernel_rfl
 f20:=Tryz.func159.trans (congrArg some (by kernel_rfl))
 t0:=Tryz.underlying0
 a0:=Tryz.isAgg0
 z0:=Tryz.sizeOf0
 v0:=Tryz.zeroValue0
 t3:=Tryz.underlying3
 a3:=Tryz.isAgg3
 z3:=Tryz.sizeOf3
 v3:=Tryz.zeroValue3
 t4:=Tryz.underlying4
 a4:=Tryz.isAgg4
 z4:=Tryz.sizeOf4
 v4:=Tryz.zeroValue4
 t22:=Tryz.underlying28
 a22:=Tryz.isAgg28
 z22:=Tryz.sizeOf28
 v22:=Tryz.zeroValue28
 i3:=by kernel_rfl}
end Go.Proofs
namespace Go.Proofs.YtcebdbdfgkahkaaGreatDoor
open Go Ev
section
open Go.Sort
set_option maxRecDepth 100000
theorem c6x {w:World} {I J:Nat→Nat→Prop} {xs:List Int} {blk:Nat} {vals:Array Value} {t:TypeId} (hb:w.heap[blk]?=some (.cells vals t (0,0)))
 (hc:∀i (hi:i<xs.length) j d,(sg.enc Kd.ki64 xs[i])[j]?=some d→∃v,vals[i*sg.sz Kd.ki64+j]?=some v∧DR sg w I J v d):∀i (hi:i<xs.length),vals[i]?=some (.int .i64 xs[i]):=by
 intro i hi;obtain ⟨v,h1,h2⟩:=hc i hi 0 (.int .i64 xs[i]) rfl;rw[h2.int_inv]at h1;have h1:vals[i*1+0]?=_:=h1;rw[Nat.mul_one,ybl]at h1;exact h1
theorem c6w {w:World} {xs:List Int} {blk:Nat} {vals:Array Value} {t:TypeId} (hb:w.heap[blk]?=some (.cells vals t (0,0))) (hc:∀i (hi:i<xs.length),vals[i]?=some (.int .i64 xs[i])) :
 Holds (Value.int .i64) w blk 0 xs.toArray:=by
 intro j hj;have hj:j<xs.length:=by simpa using hj
 refine ⟨?_,?_⟩
 ·simp only[World.cell?,hb,yaF,hc j hj];simp[hj]
 ·simp[World.frozen?,hb]
theorem e57 {w:World} {I J:Nat→Nat→Prop} {ys:List Int} {blk q:Nat} {vals:Array Value} {t:TypeId} {os:Array Obj} (hp:Pre sg w I J [blk]) (hb:w.heap[blk]?=some (.cells vals t (0,0))) (hy:ys.length≤vals.size) :
 GrowM [blk] w (grow (putRow (Value.int .i64) (Sort.ahead w q) blk 0 ys.toArray) os) I I∧
 ∃vals',(grow (putRow (Value.int .i64) (Sort.ahead w q) blk 0 ys.toArray) os).heap[blk]?=some (.cells vals' t (0,0))∧vals'.size=vals.size∧∀i (hi:i<ys.length),vals'[i]?=some (.int .i64 ys[i]):=by
 have hlt:blk<w.heap.size:=(yak.1 hb).1;have hh:(grow (putRow (Value.int .i64) (Sort.ahead w q) blk 0 ys.toArray) os).heap=w.heap.modify blk (onCells (putCells (Value.int .i64) 0 ys.toArray))++os:=rfl;have hsz:(w.heap.modify blk (onCells (putCells (Value.int .i64) 0 ys.toArray))).size=w.heap.size:=by simp
 have hget:∀b,b<w.heap.size→(grow (putRow (Value.int .i64) (Sort.ahead w q) blk 0 ys.toArray) os).heap[b]?=if blk=b then (w.heap[b]?).map (onCells (putCells (Value.int .i64) 0 ys.toArray)) else w.heap[b]?:=by
  intro b hb;rw[hh,ybG (by rw[hsz];exact hb),Array.getElem?_modify]
 refine ⟨⟨?_,rfl,rfl,rfl,fun b h1 h2=>?_,fun _ _ h=>h,fun _ _ h=>.inl h,fun b o h=>?_⟩,putCells (Value.int .i64) 0 ys.toArray vals,?_,?_,?_⟩
 ·rw[hh,Array.size_append,hsz];omega
 ·rw[hget b h1,yat (fun e=>h2 (by simp[e]))]
 ·have:=hp.ib b o h;rw[hh,Array.size_append,hsz];omega
 ·rw[hget blk hlt,yaQ rfl,hb];rfl
 ·simp[putCells]
 ·intro i hi;unfold putCells;rw[Array.getElem?_mapIdx,yap (by omega)];simp[hi]
theorem c37 {mb:List Nat} {w:World} {I:Nat→Nat→Prop} (h:∀b o,I b o→b<w.heap.size):GrowM mb w w I I:=⟨yaH _,rfl,rfl,rfl,fun _ _ _=>rfl,fun _ _ h=>h,fun _ _ h=>.inl h,h⟩
theorem d0z {w:World} {I J:Nat→Nat→Prop} {vs:Array Value} (h:c2o sg w I J vs []):vs = #[]:=by
 have h1:vs.size=0:=h.1;exact Array.eq_empty_of_size_eq_zero h1
theorem h4k:fnB Tryz.prog 158 Tryz.f158 []=true:=kr
theorem g29:∀ds a r,d0q.dec ds=some a→f75 a=some r→Con Tryz.prog sg 158 ds [] (f9s.enc r) []:=by
 intro ds a r hd hf;obtain ⟨code,fok,-,-⟩:=a0z Tryz.func158 h4k;have hac:m8 d0q:=m8.cons (i6.lst _) m8.nil;have hds:=hac ds a hd;have hmd:sg.md 158=.inpl:=kr;unfold Con;rw[hmd];obtain ⟨zs,u⟩:=a;have hds:WL ds [.lst .ki64 zs]:=hds;have hf:(bif decide (zs.length≤LIM) then some (zs.mergeSort fun x y=>decide (x≤y)) else none)=some r:=hf;intro _ k xs ds0 he xs' hr w I J mb v0 vs hp ho hargs;subst he;have hr:(D.lst Kd.ki64 r:DD)=D.lst k xs':=hr;cases hr
 have hw0:=hds.2 0 _ _ rfl rfl;cases hw0 with
 |leaf _ _ hw0=>
 cases hw0
 have hargs:=WL.args (cs':=[]) ⟨by simpa using hds.1,fun q d d' h1 h2=>by simp at h2⟩ hargs;have:=d0z hargs;subst this;cases hlim:decide (zs.length≤LIM) with
 |false=>rw[hlim]at hf;cases hf
 |true=>
  rw[hlim]at hf;have hl:=yaR hlim;unfold LIM at hl;have hf:some (zs.mergeSort fun x y=>decide (x≤y))=some r:=hf;cases hf
  have hlen:=List.length_mergeSort (le:=fun x y:Int=>decide (x≤y)) zs;unfold a3d;rw[show (#[v0]++(#[]:Array Value)) = #[v0] from rfl,MuLone.run_callFunc_enter fok.at_ fok.name fok.body _ w];simp only;obtain ⟨base,cap,rfl,hcap,ho⟩:=ho;rcases ho with ⟨rfl,rfl⟩|⟨blk,vals,t,rfl,rfl,hb,hv,hc⟩
  ·have hz:zs=[]:=ybu.1 (by omega);subst hz;have h:=Any.slices_Sort_int_none Tryz.lays189 base 0 w;refine h.mono (fun e w' he=>?_);obtain ⟨rfl,rfl⟩:=he;exact ⟨rfl,hlen,I,c37 hp.ib,base,0,by rw[List.mergeSort_nil],by simp,.inl ⟨rfl,rfl⟩⟩
  ·have hc2:=c6x hb hc;have hv:vals.size=cap*1:=hv;have h:=Any.slices_Sort_int Tryz.lays189 blk 0 cap zs w (c6w hb hc2) (yak.1 hb).1 (by omega);refine h.mono (fun e w' he=>?_);obtain ⟨rfl,n,os,rfl⟩:=he;obtain ⟨g,vals',h1,h2,h3⟩:=e57 (q:=n) (os:=os) (ys:=zs.mergeSort fun x y=>decide (x≤y)) hp hb (by omega);refine ⟨rfl,hlen,I,g,some ⟨blk,0,none⟩,cap,by rw[hlen],by omega,.inr ⟨blk,vals',t,rfl,rfl,h1,by rw[h2];exact hv,?_⟩⟩;intro i hi j d hd;cases j with
   |zero=>
    have hd:some (D.int .i64 (zs.mergeSort fun x y=>decide (x≤y))[i]:DD)=some d:=hd;cases hd
    refine ⟨.int .i64 (zs.mergeSort fun x y=>decide (x≤y))[i],?_,.int _ _⟩;show vals'[i*1+0]?=_
    rw[Nat.mul_one,ybl];exact h3 i hi
   |succ j=>
    have hd:(none:Option DD)=some d:=hd;cases hd
theorem h4l:fnB Tryz.prog 159 Tryz.f159 [4,9]=true:=kr
theorem g3x:∀ds a r,d8x.dec ds=some a→f8c a=some r→Con Tryz.prog sg 159 ds [] (g0a.enc r) []:=by
 intro ds a r hd hf;obtain ⟨code,fok,-,-⟩:=a0z Tryz.func159 h4l;have hac:m8 d8x:=m8.cons (i6.lst _) m8.nil;have hds:=hac ds a hd;have hmd:sg.md 159=.cons:=kr;unfold Con;rw[hmd];obtain ⟨zs,u⟩:=a;have hds:WL ds [.lst .ki64 zs]:=hds;have hf:(bif decide (zs.length≤LIM) then some (Go.Lib.compact zs) else none)=some r:=hf;intro _ k xs ds0 he k' xs' hr w I J mb v0 vs hp ho hargs;subst he;have hr:(D.lst Kd.ki64 r:DD)=D.lst k' xs':=hr;cases hr
 have hw0:=hds.2 0 _ _ rfl rfl;cases hw0 with
 |leaf _ _ hw0=>
 cases hw0
 have hargs:=WL.args (cs':=[]) ⟨by simpa using hds.1,fun q d d' h1 h2=>by simp at h2⟩ hargs;have:=d0z hargs;subst this;cases hlim:decide (zs.length≤LIM) with
 |false=>rw[hlim]at hf;cases hf
 |true=>
  rw[hlim]at hf;have hl:=yaR hlim;unfold LIM at hl;have hf:some (Go.Lib.compact zs)=some r:=hf;cases hf
  have hlen:=Go.Lib.compact_length_le zs;unfold a3d;rw[show (#[v0]++(#[]:Array Value)) = #[v0] from rfl,MuLone.run_callFunc_enter fok.at_ fok.name fok.body _ w];simp only;obtain ⟨base,cap,rfl,hcap,ho⟩:=ho;rcases ho with ⟨rfl,rfl⟩|⟨blk,vals,t,rfl,rfl,hb,hv,hc⟩
  ·have hz:zs=[]:=ybu.1 (by omega);subst hz;have h:=Any.slices_Compact_int_empty Tryz.laysNm220 base 0 w;refine h.mono (fun e w' he=>?_);obtain ⟨rfl,rfl⟩:=he;exact ⟨I,c37 hp.ib,base,0,rfl,by simp[Go.Lib.compact,Go.Lib.compactUpTo],.inl rfl⟩
  ·have hc2:=c6x hb hc;have hv:vals.size=cap*1:=hv;have h:=Any.slices_Compact_int Tryz.laysNm220 blk 0 cap zs w (c6w hb hc2) (by omega) hcap;refine h.mono (fun e w' he=>?_);obtain ⟨rfl,n,rfl⟩:=he;have e0:∀W:World,W=grow W #[]:=fun W=>by unfold grow;simp
   rw[e0 (putRow _ _ _ _ _)];obtain ⟨g,vals',h1,h2,h3⟩:=e57 (q:=n) (os:=#[]) (ys:=Go.Lib.compact zs++List.replicate (zs.length-(Go.Lib.compact zs).length) 0) hp hb (by simp;omega);refine ⟨I,g,some ⟨blk,0,none⟩,cap,rfl,by omega,.inr ⟨blk,vals',t,rfl,h1,by rw[h2];exact hv,.inr (by simp),fun o hI=>?_,?_⟩⟩
   ·exact absurd (by simp) (hp.jb blk o (hp.ij blk o hI)).2
   ·intro i hi j d hd;cases j with
    |zero=>
     have hd:some (D.int .i64 (Go.Lib.compact zs)[i]:DD)=some d:=hd;cases hd
     refine ⟨.int .i64 (Go.Lib.compact zs)[i],?_,.int _ _⟩;show vals'[i*1+0]?=_
     rw[Nat.mul_one,ybl];have:=h3 i (by simp;omega);rw[ybM hi]at this;exact this
    |succ j=>
     have hd:(none:Option DD)=some d:=hd;cases hd
end
section
theorem b0e:∃i0 z,Tryz.prog.info? 50=some i0∧i0.zero=some z∧z.cells.size=10∧i0.size=10∧i0.bytes≤128:=by
 have h:(match Tryz.prog.info? 50 with|some i=>(match i.zero with|some z=>Nat.beq z.cells.size 10&&Nat.beq i.size 10&&Nat.ble i.bytes 128|none=>false)|none=>false)=true:=kr;split at h
 ·rename_i i hi;split at h
  ·rename_i z hz;simp only[yae]at h;exact ⟨i,z,hi,hz,ybd h.1.1,ybd h.1.2,ya6 h.2⟩
  ·cases h
 ·cases h
set_option maxHeartbeats 4000000 in
set_option maxRecDepth 100000 in
theorem b7a {w:World} {b n c i vb vo vc:Nat} {L vs:List Value} {t:TypeId} (hi:i<n) (hroom:n+1≤c) (hlim:n+1≤1073741824) (hvb:vb≠b)
 (hb:w.heap[b]?=some (.cells L.toArray t (0,0))) (hL:L.length=c*10) (hvl:vs.length=10)
 (hvs:∀j v,vs[j]?=some v→w.cell? ⟨vb,vo+j,none⟩=some v) (h1:∀v∈(L.drop (i*10)).take ((n-i)*10),v.oneCell'=true) (h2:∀v∈vs,v.oneCell'=true) :
 Calls Tryz.prog 126 #[.slice (some ⟨b,0,none⟩) n c,.int .i64 i,.slice (some ⟨vb,vo,none⟩) 1 vc] w fun e w'=>
  e=.returned (.slice (some ⟨b,0,none⟩) (n+1) c)∧w'=(w.drew.setRow b (Go.splice L ((i+1)*10) ((L.drop (i*10)).take ((n-i)*10))).toArray).setRow b (Go.splice (Go.splice L ((i+1)*10) ((L.drop (i*10)).take ((n-i)*10))) (i*10) vs).toArray:=by
 obtain ⟨i0,z0,hi0,hz0,hzs,hsz,hby⟩:=b0e;have hz2:¬((i:Int)=(n:Int)):=by omega
 have hva:∃va ta fa,w.heap[vb]?=some (.cells va ta fa)∧0<va.size:=by
  have h:=hvs 0 _ (yac (by omega));unfold World.cell? at h;split at h
  ·rename_i c0 t0 f0 hc0;exact ⟨c0,t0,f0,hc0,by have:=(yak.1 h).1;omega⟩
  ·cases h
 obtain ⟨va,ta,fa,hva,hva0⟩:=hva;have hov:∀lb cb,(callFunc 185 #[.slice (some ⟨vb,vo,none⟩) 1 vc,.slice (some ⟨b,(i+1)*10,none⟩) lb cb]).run Tryz.prog w=.ok (.value (.bool false)) w:=fun lb cb=>by
  rw[run_callFunc_extern Tryz.func185 kr kr kr (e:=Extern.SlicesOverlaps.overlaps #[22,22] #[4]) kr,
   a4l Tryz.underlying22 hi0 (a:=⟨vb,vo,none⟩) (b:=⟨b,(i+1)*10,none⟩) hvb hva hva0 hb (by simp only[ybx];omega)]
  rfl
 have hLn:(n+1)*10≤L.length:=by rw[hL];exact yaq _ hroom
 obtain ⟨C1,hC1⟩:∃C1,C1=(L.drop (i*10)).take ((n-i)*10):=⟨_,rfl⟩
 have hC1l:C1.length=(n-i)*10:=by rw[hC1];simp;omega
 obtain ⟨M1,hM1⟩:∃M1,M1=Go.splice L ((i+1)*10) C1:=⟨_,rfl⟩
 have hM1l:M1.length=L.length:=by rw[hM1];exact length_splice _ _ _ (by omega)
 rw[←hC1,←hM1];have hcp1:∀ty dc sc,(Builtin.copy_ #[22,22] ty #[.slice (some ⟨b,(i+1)*10,none⟩) (n-i) dc,.slice (some ⟨b,i*10,none⟩) (n+1-i) sc]).run Tryz.prog w.drew=.ok (goInt ((n-i:Nat):Int)) (w.drew.setRow b M1.toArray):=fun ty dc sc=>by
  have hmin:Nat.min (n+1-i) (n-i)=n-i:=by show min _ _=_;omega
  have:=a02 (P:=Tryz.prog) (w:=w.drew) (sT:=22) (ty:=ty) (dCap:=dc) (sCap:=sc) (dLen:=n-i) (sLen:=n+1-i) (o:=(i+1)*10) (a:=⟨b,i*10,none⟩) Tryz.underlying22 hi0 hsz hb (cs:=C1) (by rw[hmin];exact hC1l)
   (fun j v hj=>by
    rw[Addr.add_lit];show w.cell? _=_
    simp only[World.cell?,hb];rw[hC1,yaD]at hj;split at hj
    ·simpa using hj
    ·cases hj) (by omega) (by rw[hC1];exact h1)
  rw[hmin,←hM1]at this;exact this
 have hcp2:∀(W:World),W=(w.drew.setRow b M1.toArray)→∀ty dc,(Builtin.copy_ #[22,22] ty #[.slice (some ⟨b,i*10,none⟩) (n+1-i) dc,.slice (some ⟨vb,vo,none⟩) 1 vc]).run Tryz.prog W=.ok (goInt 1) (W.setRow b (Go.splice M1 (i*10) vs).toArray):=fun W hW ty dc=>by
  have hmin:Nat.min 1 (n+1-i)=1:=by show min _ _=_;omega
  have:=a02 (P:=Tryz.prog) (w:=W) (sT:=22) (ty:=ty) (dCap:=dc) (sCap:=vc) (dLen:=n+1-i) (sLen:=1) (o:=i*10) (a:=⟨vb,vo,none⟩) Tryz.underlying22 hi0 hsz (g:=b) (t:=t) (L:=M1) (by rw[hW];exact setRow_heap _ _ _ _ _ _ hb) (cs:=vs) (by rw[hmin];omega)
   (fun j v hj=>by
    rw[Addr.add_lit,hW,cell_setRow_other _ _ _ _ hvb];exact hvs j v hj) (by omega) h2
  rw[hmin]at this;exact this
 have hw1:IntKind.i64.wrap ((i:Int)+1)=(i:Int)+1:=by rw[IntKind.wrap_i64];omega
 have hb1:(0:Int)≤(i:Int)+1:=by omega
 have hin:i≤n:=by omega
 have htn:((i:Int)+1).toNat=i+1:=by omega
 have hb2:¬(c=i+1):=by omega
 have hb3:(i:Int)≤(n:Int)+1:=by omega
 have hb4:¬(c=i):=by omega
 have mixed:Tryz.prog.follows .mixedOrders=true:=kr;clear hC1 hM1 hC1l hM1l h1 h2 hvs hL
 go_enter Tryz.func126,Tryz.ntmps126
 go_wp2_with (simp only[hov])
 go_region_law_o (refine a3y rfl _ _ 22 22 rfl _ _ (by simp[Act.eval,Act.put]) (by simp[Act.eval,Act.put]) (hcp1 _ _ _) ?_)
 go_wp2_with (at_builtin;refine b6t rfl _ _ 22 22 rfl _ _ rfl rfl (hcp2 _ rfl _ _) ?_)
 go_ret
 exact ⟨rfl,rfl⟩
theorem b7r {i0:TypeInfo} {k c:Nat} (h:c<k) (hk:k≤1073741824) (hby:i0.bytes≤128):Builtin.nextslicecap k c*i0.bytes≤281474976710656:=
 growslice_fits h (ybm (yb5 hk hby) (by decide))
set_option maxHeartbeats 4000000 in
set_option maxRecDepth 100000 in
theorem c1g {w:World} {b n c vb vo vc:Nat} {L vs:List Value} {t:TypeId} (hroom:n+1≤c) (hlim:n+1≤1073741824)
 (hb:w.heap[b]?=some (.cells L.toArray t (0,0))) (hL:L.length=c*10) (hvl:vs.length=10)
 (hvs:∀j v,vs[j]?=some v→w.cell? ⟨vb,vo+j,none⟩=some v) (h2:∀v∈vs,v.oneCell'=true) :
 Calls Tryz.prog 126 #[.slice (some ⟨b,0,none⟩) n c,.int .i64 n,.slice (some ⟨vb,vo,none⟩) 1 vc] w fun e w'=>
  e=.returned (.slice (some ⟨b,0,none⟩) (n+1) c)∧w'=w.setRow b (Go.splice L (n*10) vs).toArray:=by
 obtain ⟨i0,z0,hi0,hz0,hzs,hsz,hby⟩:=b0e;have hLn:(n+1)*10≤L.length:=by rw[hL];exact yaq _ hroom
 have hf:=run_firstCells_some (P:=Tryz.prog) w i0.size 1 ⟨vb,vo,none⟩ 1 vc vs (by omega) (fun j v hj=>by rw[Addr.add_lit];exact hvs j v hj);have hap:∀ty,(Builtin.append_ #[22,22] ty #[.slice (some ⟨b,0,none⟩) n c,.slice (some ⟨vb,vo,none⟩) 1 vc]).run Tryz.prog w=.ok (.slice (some ⟨b,0,none⟩) (n+1) c) (w.setRow b (Go.splice L (n*10) vs).toArray):=fun ty=>by
  have:=a15 (P:=Tryz.prog) (w:=w) (ty:=ty) (ts:=#[22,22]) rfl rfl Tryz.underlying22 Tryz.underlying22 hi0 hf hroom hb (by simp only[ybx];rw[hsz];omega) h2;rw[hsz]at this;simpa[Go.splice]using this
 go_enter Tryz.func126,Tryz.ntmps126
 go_wp2_with (at_builtin;refine a03 rfl _ _ _ _ rfl _ _ rfl rfl (hap _) ?_)
 all_goals (go_ret;exact ⟨rfl,rfl⟩)
set_option maxHeartbeats 4000000 in
set_option maxRecDepth 100000 in
theorem c4d {w:World} {base:Option Addr} {n c vb vo vc:Nat} {olds vs:List Value} (hnc:n≤c) (hroom:c<n+1) (hlim:n+1≤1073741824) (hvl:vs.length=10)
 (hnil:base=none→n=0) (hol:olds.length=n*10) (hos:∀a,base=some a→∀j v,olds[j]?=some v→w.cell? (a.add j)=some v)
 (hvs:∀j v,vs[j]?=some v→w.cell? ⟨vb,vo+j,none⟩=some v) :
 Calls Tryz.prog 126 #[.slice base n c,.int .i64 n,.slice (some ⟨vb,vo,none⟩) 1 vc] w fun e w'=>
  ∃cap zs,e=.returned (.slice (some ⟨w.heap.size,0,none⟩) (n+1) cap)∧w'=w.drew.alloc (.cells (olds++(vs++zs)).toArray 50)∧n+1≤cap∧zs.length=(cap-(n+1))*10:=by
 obtain ⟨i0,z0,hi0,hz0,hzs,hsz,hby⟩:=b0e;have hf:=run_firstCells_some (P:=Tryz.prog) w.drew i0.size 1 ⟨vb,vo,none⟩ 1 vc vs (by omega) (fun j v hj=>by rw[Addr.add_lit];exact hvs j v hj);have hold:(Builtin.firstCells i0.size n (.slice base n c)).run Tryz.prog w.drew=.ok olds.toArray w.drew:=by
  cases base with
  |none=>
   have h0:=hnil rfl;subst h0;rw[ybu.1 (by omega:olds.length=0)];exact run_firstCells_none w.drew _ 0 0 c
  |some a=>exact run_firstCells_some w.drew _ n a n c olds (by rw[hsz];omega) (fun j v hj=>hos a rfl j v hj)
 have hap:∀ty,(Builtin.append_ #[22,22] ty #[.slice base n c,.slice (some ⟨vb,vo,none⟩) 1 vc]).run Tryz.prog w=_:=fun ty=>
  a2x (P:=Tryz.prog) (w:=w) (ty:=ty) (ts:=#[22,22]) rfl rfl Tryz.underlying22 Tryz.underlying22 hi0 hz0 hf hold hroom (by omega) (b7r hroom hlim hby)
 have hge:=a2e w (n+1) c 50;obtain ⟨G,hG⟩:∃G,G=grownCap w (n+1) c 50:=⟨_,rfl⟩
 obtain ⟨zs,hzs'⟩:∃zs,zs=(Builtin.zeroCells z0.cells (G-(n+1))).toList:=⟨_,rfl⟩
 rw[←hG]at hap hge;rw[←hzs']at hap;have hzl:zs.length=(G-(n+1))*10:=by rw[hzs',yaZ,size_zeroCells,hzs]
 clear hG hzs'
 go_enter Tryz.func126,Tryz.ntmps126
 cases base with
 |none=>
  have h0:=hnil rfl;subst h0
  go_wp2_with (at_builtin;refine a03 rfl _ _ _ _ rfl _ _ rfl rfl (hap _) ?_)
  all_goals (go_ret;first|exact ⟨_,_,rfl,rfl,hge,hzl⟩|exact ⟨_,rfl,_,rfl,hge,hzl⟩)
 |some a=>
  obtain ⟨ab,ao,asp⟩:=a
  go_wp2_with (at_builtin;refine a03 rfl _ _ _ _ rfl _ _ rfl rfl (hap _) ?_)
  all_goals (go_ret;first|exact ⟨_,_,rfl,rfl,hge,hzl⟩|exact ⟨_,rfl,_,rfl,hge,hzl⟩)
set_option maxHeartbeats 4000000 in
set_option maxRecDepth 100000 in
theorem c1f {w:World} {b n c i vb vo vc:Nat} {L vs:List Value} {t:TypeId} (hi:i<n) (hnc:n≤c) (hroom:c<n+1) (hlim:n+1≤1073741824) (hvb:vb≠b)
 (hb:w.heap[b]?=some (.cells L.toArray t (0,0))) (hL:L.length=c*10) (hvl:vs.length=10)
 (hvs:∀j v,vs[j]?=some v→w.cell? ⟨vb,vo+j,none⟩=some v) (h1:∀v∈(L.drop (i*10)).take ((n-i)*10),v.oneCell'=true) (h2:∀v∈vs,v.oneCell'=true) :
 Calls Tryz.prog 126 #[.slice (some ⟨b,0,none⟩) n c,.int .i64 i,.slice (some ⟨vb,vo,none⟩) 1 vc] w fun e w'=>
  ∃cap row,e=.returned (.slice (some ⟨w.heap.size,0,none⟩) (n+1) cap)∧n+1≤cap∧row.length=cap*10∧row.take (i*10)=L.take (i*10)∧
   w'.heap=(w.heap.push (.cells (Go.splice (Go.splice row (i*10) vs) ((i+1)*10) ((L.drop (i*10)).take ((n-i)*10))).toArray 50))∧w'.os=w.os∧w'.output=w.output∧w'.tape=w.tape:=by
 obtain ⟨i0,z0,hi0,hz0,hzs,hsz,hby⟩:=b0e;have hz2:¬((i:Int)=(n:Int)):=by omega
 have hz3:(c:Int)<(n:Int)+1:=by omega
 have hLn:n*10≤L.length:=by rw[hL];exact yaq _ hnc
 have hbw:b<w.heap.size:=(yak.1 hb).1;have hvw:vb<w.heap.size:=by
  have h:=hvs 0 _ (yac (by omega));unfold World.cell? at h;split at h
  ·rename_i c0 t0 f0 hc0;exact (yak.1 hc0).1
  ·cases h
 have hkk:(n:Int)+1-(i:Int)=((n+1-i:Nat):Int):=by omega
 have hik:i+(n+1-i)=n+1:=by omega
 have hTl:(L.take (i*10)).length=i*10:=by simp;omega
 have hold:(Builtin.firstCells i0.size i (.slice (some ⟨b,0,none⟩) i c)).run Tryz.prog w.drew=.ok (L.take (i*10)).toArray w.drew:=by
  refine run_firstCells_some w.drew _ i ⟨b,0,none⟩ i c (L.take (i*10)) (by rw[hsz];exact hTl) (fun j v hj=>?_);rw[Addr.add_lit,yaF];show w.cell? _=_
  simp only[World.cell?,hb];rw[yaD]at hj;split at hj
  ·simpa using hj
  ·cases hj
 have hrz:∀ty,(Builtin.append_ #[22,3] ty #[.slice (some ⟨b,0,none⟩) i c,.int .i64 ((n:Int)+1-(i:Int))]).run Tryz.prog w =
  .ok (.slice (some ⟨w.heap.size,0,none⟩) (n+1) (grownCap w (n+1) c 50)) (w.drew.alloc (.cells ((L.take (i*10)).toArray++Builtin.zeroCells z0.cells (n+1-i)++Builtin.zeroCells z0.cells (grownCap w (n+1) c 50-(n+1))) 50)):=fun ty=>by
  have h:=Lib.run_append_grow_zeros w 22 3 ty 50 i0 _ .i64 .i64 Tryz.underlying22 Tryz.underlying3 hi0 hz0 (some ⟨b,0,none⟩) i c _ hold (n+1-i) (by omega) (by omega) (by omega) (by omega)
   (ybm (yb5 (show n+1-i≤1073741824 by omega) hby) (by decide)) (by rw[hik];exact b7r hroom hlim hby)
  rw[hik]at h;rw[hkk];exact h
 have hge:=a2e w (n+1) c 50;obtain ⟨G,hG⟩:∃G,G=grownCap w (n+1) c 50:=⟨_,rfl⟩
 rw[←hG]at hrz hge;have hG63:G≤9223372036854775807:=by
  have:=grownCap_le_maxLen w (n+1) c 50 (by unfold maxLen;omega);rw[←hG]at this;unfold maxLen at this;omega
 obtain ⟨R,hR⟩:∃R:List Value,R=L.take (i*10)++((Builtin.zeroCells z0.cells (n+1-i)).toList++(Builtin.zeroCells z0.cells (G-(n+1))).toList):=⟨_,rfl⟩
 have hRl:R.length=G*10:=by
  rw[hR];simp only[yaU,yaZ,size_zeroCells,hzs,hTl];rw[←ya0,←ya0];congr 1;omega
 have hRt:R.take (i*10)=L.take (i*10):=by rw[hR,List.take_append_of_le_length (by omega),yb6 (by omega)]
 have hRe:(L.take (i*10)).toArray++Builtin.zeroCells z0.cells (n+1-i)++Builtin.zeroCells z0.cells (G-(n+1))=R.toArray:=by
  rw[hR];apply Array.ext';simp
 rw[hRe]at hrz;obtain ⟨C1,hC1⟩:∃C1,C1=(L.drop (i*10)).take ((n-i)*10):=⟨_,rfl⟩
 have hC1l:C1.length=(n-i)*10:=by rw[hC1];simp;omega
 have hGn:(n+1)*10≤R.length:=by rw[hRl];exact yaq _ hge
 obtain ⟨M1,hM1⟩:∃M1,M1=Go.splice R (i*10) vs:=⟨_,rfl⟩
 have hM1l:M1.length=R.length:=by rw[hM1];exact length_splice _ _ _ (by omega)
 rw[←hC1];obtain ⟨gb,hgb⟩:∃gb,gb=w.heap.size:=⟨_,rfl⟩
 have hnew:∀W:World,W.heap=w.heap.push (.cells R.toArray 50)→W.heap[gb]?=some (.cells R.toArray 50 (0,0)):=fun W hW=>by rw[hW,hgb];simp
 have hpast:∀W:World,W.heap=w.heap.push (.cells R.toArray 50)→∀k,k<w.heap.size→W.heap[k]?=w.heap[k]?:=fun W hW k hk=>by rw[hW,ybH hk];simp[hk]
 have hcpA:∀(W:World),W.heap=w.heap.push (.cells R.toArray 50)→∀ty dc,(Builtin.copy_ #[22,22] ty #[.slice (some ⟨gb,i*10,none⟩) (n+1-i) dc,.slice (some ⟨vb,vo,none⟩) 1 vc]).run Tryz.prog W=.ok (goInt 1) (W.setRow gb M1.toArray):=fun W hW ty dc=>by
  have hmin:Nat.min 1 (n+1-i)=1:=by show min _ _=_;omega
  have:=a02 (P:=Tryz.prog) (w:=W) (sT:=22) (ty:=ty) (dCap:=dc) (sCap:=vc) (dLen:=n+1-i) (sLen:=1) (o:=i*10) (a:=⟨vb,vo,none⟩) Tryz.underlying22 hi0 hsz (g:=gb) (t:=50) (L:=R) (hnew W hW) (cs:=vs) (by rw[hmin];omega)
   (fun j v hj=>by
    rw[Addr.add_lit];unfold World.cell?;rw[show W.heap[(⟨vb,vo+j,none⟩:Addr).block]?=w.heap[vb]? from hpast W hW vb hvw];exact hvs j v hj) (by omega) h2
  rw[hmin,←hM1]at this;exact this
 have hcpB:∀(W W0:World),W0.heap=w.heap.push (.cells R.toArray 50)→W.heap=(W0.setRow gb M1.toArray).heap→∀ty dc sc,(Builtin.copy_ #[22,22] ty #[.slice (some ⟨gb,(i+1)*10,none⟩) (n-i) dc,.slice (some ⟨b,i*10,none⟩) (n-i) sc]).run Tryz.prog W=.ok (goInt ((n-i:Nat):Int)) (W.setRow gb (Go.splice M1 ((i+1)*10) C1).toArray):=fun W W0 hW0 hW ty dc sc=>by
  have hmin:Nat.min (n-i) (n-i)=n-i:=by show min _ _=_;omega
  have:=a02 (P:=Tryz.prog) (w:=W) (sT:=22) (ty:=ty) (dCap:=dc) (sCap:=sc) (dLen:=n-i) (sLen:=n-i) (o:=(i+1)*10) (a:=⟨b,i*10,none⟩) Tryz.underlying22 hi0 hsz (g:=gb) (t:=50) (L:=M1) (by rw[hW];exact setRow_heap _ _ _ _ _ _ (hnew W0 hW0)) (cs:=C1) (by rw[hmin];exact hC1l)
   (fun j v hj=>by
    rw[Addr.add_lit];unfold World.cell?;have e:W.heap[(⟨b,i*10+j,none⟩:Addr).block]?=w.heap[b]?:=by
     show W.heap[b]?=_
     rw[hW,setRow_other _ _ _ _ (by omega),hpast W0 hW0 b hbw]
    rw[e,hb];rw[hC1,yaD]at hj;split at hj
    ·simpa using hj
    ·cases hj) (by omega) (by rw[hC1];exact h1)
  rw[hmin]at this;exact this
 have hw1:IntKind.i64.wrap ((i:Int)+1)=(i:Int)+1:=by rw[IntKind.wrap_i64];omega
 have hb1:(0:Int)≤(i:Int)+1:=by omega
 have hin:i≤n:=by omega
 have htn:((i:Int)+1).toNat=i+1:=by omega
 have hb3:(i:Int)≤(n:Int):=by omega
 have hGi:¬(G=i):=by omega
 have hGim:¬(G=i+1):=by omega
 have hci:¬(c=i):=by omega
 have hmixed:Tryz.prog.follows .mixedOrders=true:=kr;have mixed:=hmixed;have hfin:∀W W0:World,W0.heap=w.heap.push (.cells R.toArray 50)→W.heap=(W0.setRow gb M1.toArray).heap→(W.setRow gb (Go.splice M1 ((i+1)*10) C1).toArray).heap=w.heap.push (.cells (Go.splice M1 ((i+1)*10) C1).toArray 50):=fun W W0 hW0 hW=>by
  have h1:W.heap[gb]?=some (.cells M1.toArray 50 (0,0)):=by rw[hW];exact setRow_heap _ _ _ _ _ _ (hnew W0 hW0)
  have hsz0:W.heap.size=w.heap.size+1:=by rw[hW,setRow_size,hW0];simp
  apply Array.ext_getElem?;intro k;by_cases hk:k=gb
  ·subst hk;rw[setRow_heap _ _ _ _ _ _ h1,hgb];simp
  ·rw[setRow_other _ _ _ _ hk];by_cases hk2:k<w.heap.size
   ·rw[hW,setRow_other _ _ _ _ hk,hpast W0 hW0 k hk2,ybH hk2];simp[hk2]
   ·rw[ybq (by omega),ybq (by simp;omega)]
 have hMM:Go.splice (Go.splice R (i*10) vs) ((i+1)*10) C1=Go.splice M1 ((i+1)*10) C1:=by rw[hM1]
 subst hgb;have hcpA':=hcpA ((w.alloc (.cells R.toArray 50)).drew) rfl;clear hkk hcpA hik hold hG hR hRe hC1 hM1 hC1l hM1l h1 h2 hvs hL hTl
 go_enter Tryz.func126,Tryz.ntmps126
 go_wp2_with (at_builtin;refine a03 rfl _ _ _ _ rfl _ _ rfl rfl (hrz _) ?_)
 go_region_law_o (refine a3y rfl _ _ 22 22 rfl (.slice (some ⟨w.heap.size,(i+1)*10,none⟩) (n-i) (G-(i+1))) (.slice (some ⟨b,i*10,none⟩) (n-i) (c-i)) (by simp[Act.eval,Act.put]) (by simp[Act.eval,Act.put]) (hcpB (((w.alloc (.cells R.toArray 50)).drew.setRow w.heap.size M1.toArray).drew) (w.drew.alloc (.cells R.toArray 50)) rfl rfl 3 (G-(i+1)) (c-i)) ?_)
 go_wp2
 go_ret
 refine ⟨G,R,rfl,hge,hRl,hRt,?_,rfl,rfl,rfl⟩;rw[hMM];exact hfin _ (w.drew.alloc (.cells R.toArray 50)) rfl rfl
end
section
theorem a69:∃i0 z,Tryz.prog.info? 76=some i0∧i0.zero=some z∧z.cells.size=6∧i0.size=6∧i0.bytes≤128:=by
 have h:(match Tryz.prog.info? 76 with|some i=>(match i.zero with|some z=>Nat.beq z.cells.size 6&&Nat.beq i.size 6&&Nat.ble i.bytes 128|none=>false)|none=>false)=true:=kr;split at h
 ·rename_i i hi;split at h
  ·rename_i z hz;simp only[yae]at h;exact ⟨i,z,hi,hz,ybd h.1.1,ybd h.1.2,ya6 h.2⟩
  ·cases h
 ·cases h
set_option maxHeartbeats 4000000 in
set_option maxRecDepth 100000 in
theorem b19 {w:World} {b n c i vb vo vc:Nat} {L vs:List Value} {t:TypeId} (hi:i<n) (hroom:n+1≤c) (hlim:n+1≤1073741824) (hvb:vb≠b)
 (hb:w.heap[b]?=some (.cells L.toArray t (0,0))) (hL:L.length=c*6) (hvl:vs.length=6)
 (hvs:∀j v,vs[j]?=some v→w.cell? ⟨vb,vo+j,none⟩=some v) (h1:∀v∈(L.drop (i*6)).take ((n-i)*6),v.oneCell'=true) (h2:∀v∈vs,v.oneCell'=true) :
 Calls Tryz.prog 190 #[.slice (some ⟨b,0,none⟩) n c,.int .i64 i,.slice (some ⟨vb,vo,none⟩) 1 vc] w fun e w'=>
  e=.returned (.slice (some ⟨b,0,none⟩) (n+1) c)∧w'=(w.drew.setRow b (Go.splice L ((i+1)*6) ((L.drop (i*6)).take ((n-i)*6))).toArray).setRow b (Go.splice (Go.splice L ((i+1)*6) ((L.drop (i*6)).take ((n-i)*6))) (i*6) vs).toArray:=by
 obtain ⟨i0,z0,hi0,hz0,hzs,hsz,hby⟩:=a69;have hz2:¬((i:Int)=(n:Int)):=by omega
 have hva:∃va ta fa,w.heap[vb]?=some (.cells va ta fa)∧0<va.size:=by
  have h:=hvs 0 _ (yac (by omega));unfold World.cell? at h;split at h
  ·rename_i c0 t0 f0 hc0;exact ⟨c0,t0,f0,hc0,by have:=(yak.1 h).1;omega⟩
  ·cases h
 obtain ⟨va,ta,fa,hva,hva0⟩:=hva;have hov:∀lb cb,(callFunc 221 #[.slice (some ⟨vb,vo,none⟩) 1 vc,.slice (some ⟨b,(i+1)*6,none⟩) lb cb]).run Tryz.prog w=.ok (.value (.bool false)) w:=fun lb cb=>by
  rw[run_callFunc_extern Tryz.func221 kr kr kr (e:=Extern.SlicesOverlaps.overlaps #[23,23] #[4]) kr,
   a4l Tryz.underlying23 hi0 (a:=⟨vb,vo,none⟩) (b:=⟨b,(i+1)*6,none⟩) hvb hva hva0 hb (by simp only[ybx];omega)]
  rfl
 have hLn:(n+1)*6≤L.length:=by rw[hL];exact yaq _ hroom
 obtain ⟨C1,hC1⟩:∃C1,C1=(L.drop (i*6)).take ((n-i)*6):=⟨_,rfl⟩
 have hC1l:C1.length=(n-i)*6:=by rw[hC1];simp;omega
 obtain ⟨M1,hM1⟩:∃M1,M1=Go.splice L ((i+1)*6) C1:=⟨_,rfl⟩
 have hM1l:M1.length=L.length:=by rw[hM1];exact length_splice _ _ _ (by omega)
 rw[←hC1,←hM1];have hcp1:∀ty dc sc,(Builtin.copy_ #[23,23] ty #[.slice (some ⟨b,(i+1)*6,none⟩) (n-i) dc,.slice (some ⟨b,i*6,none⟩) (n+1-i) sc]).run Tryz.prog w.drew=.ok (goInt ((n-i:Nat):Int)) (w.drew.setRow b M1.toArray):=fun ty dc sc=>by
  have hmin:Nat.min (n+1-i) (n-i)=n-i:=by show min _ _=_;omega
  have:=a02 (P:=Tryz.prog) (w:=w.drew) (sT:=23) (ty:=ty) (dCap:=dc) (sCap:=sc) (dLen:=n-i) (sLen:=n+1-i) (o:=(i+1)*6) (a:=⟨b,i*6,none⟩) Tryz.underlying23 hi0 hsz hb (cs:=C1) (by rw[hmin];exact hC1l)
   (fun j v hj=>by
    rw[Addr.add_lit];show w.cell? _=_
    simp only[World.cell?,hb];rw[hC1,yaD]at hj;split at hj
    ·simpa using hj
    ·cases hj) (by omega) (by rw[hC1];exact h1)
  rw[hmin,←hM1]at this;exact this
 have hcp2:∀(W:World),W=(w.drew.setRow b M1.toArray)→∀ty dc,(Builtin.copy_ #[23,23] ty #[.slice (some ⟨b,i*6,none⟩) (n+1-i) dc,.slice (some ⟨vb,vo,none⟩) 1 vc]).run Tryz.prog W=.ok (goInt 1) (W.setRow b (Go.splice M1 (i*6) vs).toArray):=fun W hW ty dc=>by
  have hmin:Nat.min 1 (n+1-i)=1:=by show min _ _=_;omega
  have:=a02 (P:=Tryz.prog) (w:=W) (sT:=23) (ty:=ty) (dCap:=dc) (sCap:=vc) (dLen:=n+1-i) (sLen:=1) (o:=i*6) (a:=⟨vb,vo,none⟩) Tryz.underlying23 hi0 hsz (g:=b) (t:=t) (L:=M1) (by rw[hW];exact setRow_heap _ _ _ _ _ _ hb) (cs:=vs) (by rw[hmin];omega)
   (fun j v hj=>by
    rw[Addr.add_lit,hW,cell_setRow_other _ _ _ _ hvb];exact hvs j v hj) (by omega) h2
  rw[hmin]at this;exact this
 have hw1:IntKind.i64.wrap ((i:Int)+1)=(i:Int)+1:=by rw[IntKind.wrap_i64];omega
 have hb1:(0:Int)≤(i:Int)+1:=by omega
 have hin:i≤n:=by omega
 have htn:((i:Int)+1).toNat=i+1:=by omega
 have hb2:¬(c=i+1):=by omega
 have hb3:(i:Int)≤(n:Int)+1:=by omega
 have hb4:¬(c=i):=by omega
 have mixed:Tryz.prog.follows .mixedOrders=true:=kr;clear hC1 hM1 hC1l hM1l h1 h2 hvs hL
 go_enter Tryz.func190,Tryz.ntmps190
 go_wp2_with (simp only[hov])
 go_region_law_o (refine a3y rfl _ _ 23 23 rfl _ _ (by simp[Act.eval,Act.put]) (by simp[Act.eval,Act.put]) (hcp1 _ _ _) ?_)
 go_wp2_with (at_builtin;refine b6t rfl _ _ 23 23 rfl _ _ rfl rfl (hcp2 _ rfl _ _) ?_)
 go_ret
 exact ⟨rfl,rfl⟩
theorem b1h {i0:TypeInfo} {k c:Nat} (h:c<k) (hk:k≤1073741824) (hby:i0.bytes≤128):Builtin.nextslicecap k c*i0.bytes≤281474976710656:=
 growslice_fits h (ybm (yb5 hk hby) (by decide))
set_option maxHeartbeats 4000000 in
set_option maxRecDepth 100000 in
theorem b4a {w:World} {b n c vb vo vc:Nat} {L vs:List Value} {t:TypeId} (hroom:n+1≤c) (hlim:n+1≤1073741824)
 (hb:w.heap[b]?=some (.cells L.toArray t (0,0))) (hL:L.length=c*6) (hvl:vs.length=6)
 (hvs:∀j v,vs[j]?=some v→w.cell? ⟨vb,vo+j,none⟩=some v) (h2:∀v∈vs,v.oneCell'=true) :
 Calls Tryz.prog 190 #[.slice (some ⟨b,0,none⟩) n c,.int .i64 n,.slice (some ⟨vb,vo,none⟩) 1 vc] w fun e w'=>
  e=.returned (.slice (some ⟨b,0,none⟩) (n+1) c)∧w'=w.setRow b (Go.splice L (n*6) vs).toArray:=by
 obtain ⟨i0,z0,hi0,hz0,hzs,hsz,hby⟩:=a69;have hLn:(n+1)*6≤L.length:=by rw[hL];exact yaq _ hroom
 have hf:=run_firstCells_some (P:=Tryz.prog) w i0.size 1 ⟨vb,vo,none⟩ 1 vc vs (by omega) (fun j v hj=>by rw[Addr.add_lit];exact hvs j v hj);have hap:∀ty,(Builtin.append_ #[23,23] ty #[.slice (some ⟨b,0,none⟩) n c,.slice (some ⟨vb,vo,none⟩) 1 vc]).run Tryz.prog w=.ok (.slice (some ⟨b,0,none⟩) (n+1) c) (w.setRow b (Go.splice L (n*6) vs).toArray):=fun ty=>by
  have:=a15 (P:=Tryz.prog) (w:=w) (ty:=ty) (ts:=#[23,23]) rfl rfl Tryz.underlying23 Tryz.underlying23 hi0 hf hroom hb (by simp only[ybx];rw[hsz];omega) h2;rw[hsz]at this;simpa[Go.splice]using this
 go_enter Tryz.func190,Tryz.ntmps190
 go_wp2_with (at_builtin;refine a03 rfl _ _ _ _ rfl _ _ rfl rfl (hap _) ?_)
 all_goals (go_ret;exact ⟨rfl,rfl⟩)
set_option maxHeartbeats 4000000 in
set_option maxRecDepth 100000 in
theorem b7c {w:World} {base:Option Addr} {n c vb vo vc:Nat} {olds vs:List Value} (hnc:n≤c) (hroom:c<n+1) (hlim:n+1≤1073741824) (hvl:vs.length=6)
 (hnil:base=none→n=0) (hol:olds.length=n*6) (hos:∀a,base=some a→∀j v,olds[j]?=some v→w.cell? (a.add j)=some v)
 (hvs:∀j v,vs[j]?=some v→w.cell? ⟨vb,vo+j,none⟩=some v) :
 Calls Tryz.prog 190 #[.slice base n c,.int .i64 n,.slice (some ⟨vb,vo,none⟩) 1 vc] w fun e w'=>
  ∃cap zs,e=.returned (.slice (some ⟨w.heap.size,0,none⟩) (n+1) cap)∧w'=w.drew.alloc (.cells (olds++(vs++zs)).toArray 76)∧n+1≤cap∧zs.length=(cap-(n+1))*6:=by
 obtain ⟨i0,z0,hi0,hz0,hzs,hsz,hby⟩:=a69;have hf:=run_firstCells_some (P:=Tryz.prog) w.drew i0.size 1 ⟨vb,vo,none⟩ 1 vc vs (by omega) (fun j v hj=>by rw[Addr.add_lit];exact hvs j v hj);have hold:(Builtin.firstCells i0.size n (.slice base n c)).run Tryz.prog w.drew=.ok olds.toArray w.drew:=by
  cases base with
  |none=>
   have h0:=hnil rfl;subst h0;rw[ybu.1 (by omega:olds.length=0)];exact run_firstCells_none w.drew _ 0 0 c
  |some a=>exact run_firstCells_some w.drew _ n a n c olds (by rw[hsz];omega) (fun j v hj=>hos a rfl j v hj)
 have hap:∀ty,(Builtin.append_ #[23,23] ty #[.slice base n c,.slice (some ⟨vb,vo,none⟩) 1 vc]).run Tryz.prog w=_:=fun ty=>
  a2x (P:=Tryz.prog) (w:=w) (ty:=ty) (ts:=#[23,23]) rfl rfl Tryz.underlying23 Tryz.underlying23 hi0 hz0 hf hold hroom (by omega) (b1h hroom hlim hby)
 have hge:=a2e w (n+1) c 76;obtain ⟨G,hG⟩:∃G,G=grownCap w (n+1) c 76:=⟨_,rfl⟩
 obtain ⟨zs,hzs'⟩:∃zs,zs=(Builtin.zeroCells z0.cells (G-(n+1))).toList:=⟨_,rfl⟩
 rw[←hG]at hap hge;rw[←hzs']at hap;have hzl:zs.length=(G-(n+1))*6:=by rw[hzs',yaZ,size_zeroCells,hzs]
 clear hG hzs'
 go_enter Tryz.func190,Tryz.ntmps190
 cases base with
 |none=>
  have h0:=hnil rfl;subst h0
  go_wp2_with (at_builtin;refine a03 rfl _ _ _ _ rfl _ _ rfl rfl (hap _) ?_)
  all_goals (go_ret;first|exact ⟨_,_,rfl,rfl,hge,hzl⟩|exact ⟨_,rfl,_,rfl,hge,hzl⟩)
 |some a=>
  obtain ⟨ab,ao,asp⟩:=a
  go_wp2_with (at_builtin;refine a03 rfl _ _ _ _ rfl _ _ rfl rfl (hap _) ?_)
  all_goals (go_ret;first|exact ⟨_,_,rfl,rfl,hge,hzl⟩|exact ⟨_,rfl,_,rfl,hge,hzl⟩)
set_option maxHeartbeats 4000000 in
set_option maxRecDepth 100000 in
theorem b39 {w:World} {b n c i vb vo vc:Nat} {L vs:List Value} {t:TypeId} (hi:i<n) (hnc:n≤c) (hroom:c<n+1) (hlim:n+1≤1073741824) (hvb:vb≠b)
 (hb:w.heap[b]?=some (.cells L.toArray t (0,0))) (hL:L.length=c*6) (hvl:vs.length=6)
 (hvs:∀j v,vs[j]?=some v→w.cell? ⟨vb,vo+j,none⟩=some v) (h1:∀v∈(L.drop (i*6)).take ((n-i)*6),v.oneCell'=true) (h2:∀v∈vs,v.oneCell'=true) :
 Calls Tryz.prog 190 #[.slice (some ⟨b,0,none⟩) n c,.int .i64 i,.slice (some ⟨vb,vo,none⟩) 1 vc] w fun e w'=>
  ∃cap row,e=.returned (.slice (some ⟨w.heap.size,0,none⟩) (n+1) cap)∧n+1≤cap∧row.length=cap*6∧row.take (i*6)=L.take (i*6)∧
   w'.heap=(w.heap.push (.cells (Go.splice (Go.splice row (i*6) vs) ((i+1)*6) ((L.drop (i*6)).take ((n-i)*6))).toArray 76))∧w'.os=w.os∧w'.output=w.output∧w'.tape=w.tape:=by
 obtain ⟨i0,z0,hi0,hz0,hzs,hsz,hby⟩:=a69;have hz2:¬((i:Int)=(n:Int)):=by omega
 have hz3:(c:Int)<(n:Int)+1:=by omega
 have hLn:n*6≤L.length:=by rw[hL];exact yaq _ hnc
 have hbw:b<w.heap.size:=(yak.1 hb).1;have hvw:vb<w.heap.size:=by
  have h:=hvs 0 _ (yac (by omega));unfold World.cell? at h;split at h
  ·rename_i c0 t0 f0 hc0;exact (yak.1 hc0).1
  ·cases h
 have hkk:(n:Int)+1-(i:Int)=((n+1-i:Nat):Int):=by omega
 have hik:i+(n+1-i)=n+1:=by omega
 have hTl:(L.take (i*6)).length=i*6:=by simp;omega
 have hold:(Builtin.firstCells i0.size i (.slice (some ⟨b,0,none⟩) i c)).run Tryz.prog w.drew=.ok (L.take (i*6)).toArray w.drew:=by
  refine run_firstCells_some w.drew _ i ⟨b,0,none⟩ i c (L.take (i*6)) (by rw[hsz];exact hTl) (fun j v hj=>?_);rw[Addr.add_lit,yaF];show w.cell? _=_
  simp only[World.cell?,hb];rw[yaD]at hj;split at hj
  ·simpa using hj
  ·cases hj
 have hrz:∀ty,(Builtin.append_ #[23,3] ty #[.slice (some ⟨b,0,none⟩) i c,.int .i64 ((n:Int)+1-(i:Int))]).run Tryz.prog w =
  .ok (.slice (some ⟨w.heap.size,0,none⟩) (n+1) (grownCap w (n+1) c 76)) (w.drew.alloc (.cells ((L.take (i*6)).toArray++Builtin.zeroCells z0.cells (n+1-i)++Builtin.zeroCells z0.cells (grownCap w (n+1) c 76-(n+1))) 76)):=fun ty=>by
  have h:=Lib.run_append_grow_zeros w 23 3 ty 76 i0 _ .i64 .i64 Tryz.underlying23 Tryz.underlying3 hi0 hz0 (some ⟨b,0,none⟩) i c _ hold (n+1-i) (by omega) (by omega) (by omega) (by omega)
   (ybm (yb5 (show n+1-i≤1073741824 by omega) hby) (by decide)) (by rw[hik];exact b1h hroom hlim hby)
  rw[hik]at h;rw[hkk];exact h
 have hge:=a2e w (n+1) c 76;obtain ⟨G,hG⟩:∃G,G=grownCap w (n+1) c 76:=⟨_,rfl⟩
 rw[←hG]at hrz hge;have hG63:G≤9223372036854775807:=by
  have:=grownCap_le_maxLen w (n+1) c 76 (by unfold maxLen;omega);rw[←hG]at this;unfold maxLen at this;omega
 obtain ⟨R,hR⟩:∃R:List Value,R=L.take (i*6)++((Builtin.zeroCells z0.cells (n+1-i)).toList++(Builtin.zeroCells z0.cells (G-(n+1))).toList):=⟨_,rfl⟩
 have hRl:R.length=G*6:=by
  rw[hR];simp only[yaU,yaZ,size_zeroCells,hzs,hTl];rw[←ya0,←ya0];congr 1;omega
 have hRt:R.take (i*6)=L.take (i*6):=by rw[hR,List.take_append_of_le_length (by omega),yb6 (by omega)]
 have hRe:(L.take (i*6)).toArray++Builtin.zeroCells z0.cells (n+1-i)++Builtin.zeroCells z0.cells (G-(n+1))=R.toArray:=by
  rw[hR];apply Array.ext';simp
 rw[hRe]at hrz;obtain ⟨C1,hC1⟩:∃C1,C1=(L.drop (i*6)).take ((n-i)*6):=⟨_,rfl⟩
 have hC1l:C1.length=(n-i)*6:=by rw[hC1];simp;omega
 have hGn:(n+1)*6≤R.length:=by rw[hRl];exact yaq _ hge
 obtain ⟨M1,hM1⟩:∃M1,M1=Go.splice R (i*6) vs:=⟨_,rfl⟩
 have hM1l:M1.length=R.length:=by rw[hM1];exact length_splice _ _ _ (by omega)
 rw[←hC1];obtain ⟨gb,hgb⟩:∃gb,gb=w.heap.size:=⟨_,rfl⟩
 have hnew:∀W:World,W.heap=w.heap.push (.cells R.toArray 76)→W.heap[gb]?=some (.cells R.toArray 76 (0,0)):=fun W hW=>by rw[hW,hgb];simp
 have hpast:∀W:World,W.heap=w.heap.push (.cells R.toArray 76)→∀k,k<w.heap.size→W.heap[k]?=w.heap[k]?:=fun W hW k hk=>by rw[hW,ybH hk];simp[hk]
 have hcpA:∀(W:World),W.heap=w.heap.push (.cells R.toArray 76)→∀ty dc,(Builtin.copy_ #[23,23] ty #[.slice (some ⟨gb,i*6,none⟩) (n+1-i) dc,.slice (some ⟨vb,vo,none⟩) 1 vc]).run Tryz.prog W=.ok (goInt 1) (W.setRow gb M1.toArray):=fun W hW ty dc=>by
  have hmin:Nat.min 1 (n+1-i)=1:=by show min _ _=_;omega
  have:=a02 (P:=Tryz.prog) (w:=W) (sT:=23) (ty:=ty) (dCap:=dc) (sCap:=vc) (dLen:=n+1-i) (sLen:=1) (o:=i*6) (a:=⟨vb,vo,none⟩) Tryz.underlying23 hi0 hsz (g:=gb) (t:=76) (L:=R) (hnew W hW) (cs:=vs) (by rw[hmin];omega)
   (fun j v hj=>by
    rw[Addr.add_lit];unfold World.cell?;rw[show W.heap[(⟨vb,vo+j,none⟩:Addr).block]?=w.heap[vb]? from hpast W hW vb hvw];exact hvs j v hj) (by omega) h2
  rw[hmin,←hM1]at this;exact this
 have hcpB:∀(W W0:World),W0.heap=w.heap.push (.cells R.toArray 76)→W.heap=(W0.setRow gb M1.toArray).heap→∀ty dc sc,(Builtin.copy_ #[23,23] ty #[.slice (some ⟨gb,(i+1)*6,none⟩) (n-i) dc,.slice (some ⟨b,i*6,none⟩) (n-i) sc]).run Tryz.prog W=.ok (goInt ((n-i:Nat):Int)) (W.setRow gb (Go.splice M1 ((i+1)*6) C1).toArray):=fun W W0 hW0 hW ty dc sc=>by
  have hmin:Nat.min (n-i) (n-i)=n-i:=by show min _ _=_;omega
  have:=a02 (P:=Tryz.prog) (w:=W) (sT:=23) (ty:=ty) (dCap:=dc) (sCap:=sc) (dLen:=n-i) (sLen:=n-i) (o:=(i+1)*6) (a:=⟨b,i*6,none⟩) Tryz.underlying23 hi0 hsz (g:=gb) (t:=76) (L:=M1) (by rw[hW];exact setRow_heap _ _ _ _ _ _ (hnew W0 hW0)) (cs:=C1) (by rw[hmin];exact hC1l)
   (fun j v hj=>by
    rw[Addr.add_lit];unfold World.cell?;have e:W.heap[(⟨b,i*6+j,none⟩:Addr).block]?=w.heap[b]?:=by
     show W.heap[b]?=_
     rw[hW,setRow_other _ _ _ _ (by omega),hpast W0 hW0 b hbw]
    rw[e,hb];rw[hC1,yaD]at hj;split at hj
    ·simpa using hj
    ·cases hj) (by omega) (by rw[hC1];exact h1)
  rw[hmin]at this;exact this
 have hw1:IntKind.i64.wrap ((i:Int)+1)=(i:Int)+1:=by rw[IntKind.wrap_i64];omega
 have hb1:(0:Int)≤(i:Int)+1:=by omega
 have hin:i≤n:=by omega
 have htn:((i:Int)+1).toNat=i+1:=by omega
 have hb3:(i:Int)≤(n:Int):=by omega
 have hGi:¬(G=i):=by omega
 have hGim:¬(G=i+1):=by omega
 have hci:¬(c=i):=by omega
 have hmixed:Tryz.prog.follows .mixedOrders=true:=kr;have mixed:=hmixed;have hfin:∀W W0:World,W0.heap=w.heap.push (.cells R.toArray 76)→W.heap=(W0.setRow gb M1.toArray).heap→(W.setRow gb (Go.splice M1 ((i+1)*6) C1).toArray).heap=w.heap.push (.cells (Go.splice M1 ((i+1)*6) C1).toArray 76):=fun W W0 hW0 hW=>by
  have h1:W.heap[gb]?=some (.cells M1.toArray 76 (0,0)):=by rw[hW];exact setRow_heap _ _ _ _ _ _ (hnew W0 hW0)
  have hsz0:W.heap.size=w.heap.size+1:=by rw[hW,setRow_size,hW0];simp
  apply Array.ext_getElem?;intro k;by_cases hk:k=gb
  ·subst hk;rw[setRow_heap _ _ _ _ _ _ h1,hgb];simp
  ·rw[setRow_other _ _ _ _ hk];by_cases hk2:k<w.heap.size
   ·rw[hW,setRow_other _ _ _ _ hk,hpast W0 hW0 k hk2,ybH hk2];simp[hk2]
   ·rw[ybq (by omega),ybq (by simp;omega)]
 have hMM:Go.splice (Go.splice R (i*6) vs) ((i+1)*6) C1=Go.splice M1 ((i+1)*6) C1:=by rw[hM1]
 subst hgb;have hcpA':=hcpA ((w.alloc (.cells R.toArray 76)).drew) rfl;clear hkk hcpA hik hold hG hR hRe hC1 hM1 hC1l hM1l h1 h2 hvs hL hTl
 go_enter Tryz.func190,Tryz.ntmps190
 go_wp2_with (at_builtin;refine a03 rfl _ _ _ _ rfl _ _ rfl rfl (hrz _) ?_)
 go_region_law_o (refine a3y rfl _ _ 23 23 rfl (.slice (some ⟨w.heap.size,(i+1)*6,none⟩) (n-i) (G-(i+1))) (.slice (some ⟨b,i*6,none⟩) (n-i) (c-i)) (by simp[Act.eval,Act.put]) (by simp[Act.eval,Act.put]) (hcpB (((w.alloc (.cells R.toArray 76)).drew.setRow w.heap.size M1.toArray).drew) (w.drew.alloc (.cells R.toArray 76)) rfl rfl 3 (G-(i+1)) (c-i)) ?_)
 go_wp2
 go_ret
 refine ⟨G,R,rfl,hge,hRl,hRt,?_,rfl,rfl,rfl⟩;rw[hMM];exact hfin _ (w.drew.alloc (.cells R.toArray 76)) rfl rfl
end
section
theorem b0f:∃i0 z,Tryz.prog.info? 52=some i0∧i0.zero=some z∧z.cells.size=6∧i0.size=6∧i0.bytes≤128:=by
 have h:(match Tryz.prog.info? 52 with|some i=>(match i.zero with|some z=>Nat.beq z.cells.size 6&&Nat.beq i.size 6&&Nat.ble i.bytes 128|none=>false)|none=>false)=true:=kr;split at h
 ·rename_i i hi;split at h
  ·rename_i z hz;simp only[yae]at h;exact ⟨i,z,hi,hz,ybd h.1.1,ybd h.1.2,ya6 h.2⟩
  ·cases h
 ·cases h
set_option maxHeartbeats 4000000 in
set_option maxRecDepth 100000 in
theorem b7b {w:World} {b n c i vb vo vc:Nat} {L vs:List Value} {t:TypeId} (hi:i<n) (hroom:n+1≤c) (hlim:n+1≤1073741824) (hvb:vb≠b)
 (hb:w.heap[b]?=some (.cells L.toArray t (0,0))) (hL:L.length=c*6) (hvl:vs.length=6)
 (hvs:∀j v,vs[j]?=some v→w.cell? ⟨vb,vo+j,none⟩=some v) (h1:∀v∈(L.drop (i*6)).take ((n-i)*6),v.oneCell'=true) (h2:∀v∈vs,v.oneCell'=true) :
 Calls Tryz.prog 133 #[.slice (some ⟨b,0,none⟩) n c,.int .i64 i,.slice (some ⟨vb,vo,none⟩) 1 vc] w fun e w'=>
  e=.returned (.slice (some ⟨b,0,none⟩) (n+1) c)∧w'=(w.drew.setRow b (Go.splice L ((i+1)*6) ((L.drop (i*6)).take ((n-i)*6))).toArray).setRow b (Go.splice (Go.splice L ((i+1)*6) ((L.drop (i*6)).take ((n-i)*6))) (i*6) vs).toArray:=by
 obtain ⟨i0,z0,hi0,hz0,hzs,hsz,hby⟩:=b0f;have hz2:¬((i:Int)=(n:Int)):=by omega
 have hva:∃va ta fa,w.heap[vb]?=some (.cells va ta fa)∧0<va.size:=by
  have h:=hvs 0 _ (yac (by omega));unfold World.cell? at h;split at h
  ·rename_i c0 t0 f0 hc0;exact ⟨c0,t0,f0,hc0,by have:=(yak.1 h).1;omega⟩
  ·cases h
 obtain ⟨va,ta,fa,hva,hva0⟩:=hva;have hov:∀lb cb,(callFunc 196 #[.slice (some ⟨vb,vo,none⟩) 1 vc,.slice (some ⟨b,(i+1)*6,none⟩) lb cb]).run Tryz.prog w=.ok (.value (.bool false)) w:=fun lb cb=>by
  rw[run_callFunc_extern Tryz.func196 kr kr kr (e:=Extern.SlicesOverlaps.overlaps #[24,24] #[4]) kr,
   a4l Tryz.underlying24 hi0 (a:=⟨vb,vo,none⟩) (b:=⟨b,(i+1)*6,none⟩) hvb hva hva0 hb (by simp only[ybx];omega)]
  rfl
 have hLn:(n+1)*6≤L.length:=by rw[hL];exact yaq _ hroom
 obtain ⟨C1,hC1⟩:∃C1,C1=(L.drop (i*6)).take ((n-i)*6):=⟨_,rfl⟩
 have hC1l:C1.length=(n-i)*6:=by rw[hC1];simp;omega
 obtain ⟨M1,hM1⟩:∃M1,M1=Go.splice L ((i+1)*6) C1:=⟨_,rfl⟩
 have hM1l:M1.length=L.length:=by rw[hM1];exact length_splice _ _ _ (by omega)
 rw[←hC1,←hM1];have hcp1:∀ty dc sc,(Builtin.copy_ #[24,24] ty #[.slice (some ⟨b,(i+1)*6,none⟩) (n-i) dc,.slice (some ⟨b,i*6,none⟩) (n+1-i) sc]).run Tryz.prog w.drew=.ok (goInt ((n-i:Nat):Int)) (w.drew.setRow b M1.toArray):=fun ty dc sc=>by
  have hmin:Nat.min (n+1-i) (n-i)=n-i:=by show min _ _=_;omega
  have:=a02 (P:=Tryz.prog) (w:=w.drew) (sT:=24) (ty:=ty) (dCap:=dc) (sCap:=sc) (dLen:=n-i) (sLen:=n+1-i) (o:=(i+1)*6) (a:=⟨b,i*6,none⟩) Tryz.underlying24 hi0 hsz hb (cs:=C1) (by rw[hmin];exact hC1l)
   (fun j v hj=>by
    rw[Addr.add_lit];show w.cell? _=_
    simp only[World.cell?,hb];rw[hC1,yaD]at hj;split at hj
    ·simpa using hj
    ·cases hj) (by omega) (by rw[hC1];exact h1)
  rw[hmin,←hM1]at this;exact this
 have hcp2:∀(W:World),W=(w.drew.setRow b M1.toArray)→∀ty dc,(Builtin.copy_ #[24,24] ty #[.slice (some ⟨b,i*6,none⟩) (n+1-i) dc,.slice (some ⟨vb,vo,none⟩) 1 vc]).run Tryz.prog W=.ok (goInt 1) (W.setRow b (Go.splice M1 (i*6) vs).toArray):=fun W hW ty dc=>by
  have hmin:Nat.min 1 (n+1-i)=1:=by show min _ _=_;omega
  have:=a02 (P:=Tryz.prog) (w:=W) (sT:=24) (ty:=ty) (dCap:=dc) (sCap:=vc) (dLen:=n+1-i) (sLen:=1) (o:=i*6) (a:=⟨vb,vo,none⟩) Tryz.underlying24 hi0 hsz (g:=b) (t:=t) (L:=M1) (by rw[hW];exact setRow_heap _ _ _ _ _ _ hb) (cs:=vs) (by rw[hmin];omega)
   (fun j v hj=>by
    rw[Addr.add_lit,hW,cell_setRow_other _ _ _ _ hvb];exact hvs j v hj) (by omega) h2
  rw[hmin]at this;exact this
 have hw1:IntKind.i64.wrap ((i:Int)+1)=(i:Int)+1:=by rw[IntKind.wrap_i64];omega
 have hb1:(0:Int)≤(i:Int)+1:=by omega
 have hin:i≤n:=by omega
 have htn:((i:Int)+1).toNat=i+1:=by omega
 have hb2:¬(c=i+1):=by omega
 have hb3:(i:Int)≤(n:Int)+1:=by omega
 have hb4:¬(c=i):=by omega
 have mixed:Tryz.prog.follows .mixedOrders=true:=kr;clear hC1 hM1 hC1l hM1l h1 h2 hvs hL
 go_enter Tryz.func133,Tryz.ntmps133
 go_wp2_with (simp only[hov])
 go_region_law_o (refine a3y rfl _ _ 24 24 rfl _ _ (by simp[Act.eval,Act.put]) (by simp[Act.eval,Act.put]) (hcp1 _ _ _) ?_)
 go_wp2_with (at_builtin;refine b6t rfl _ _ 24 24 rfl _ _ rfl rfl (hcp2 _ rfl _ _) ?_)
 go_ret
 exact ⟨rfl,rfl⟩
theorem b7s {i0:TypeInfo} {k c:Nat} (h:c<k) (hk:k≤1073741824) (hby:i0.bytes≤128):Builtin.nextslicecap k c*i0.bytes≤281474976710656:=
 growslice_fits h (ybm (yb5 hk hby) (by decide))
set_option maxHeartbeats 4000000 in
set_option maxRecDepth 100000 in
theorem c1i {w:World} {b n c vb vo vc:Nat} {L vs:List Value} {t:TypeId} (hroom:n+1≤c) (hlim:n+1≤1073741824)
 (hb:w.heap[b]?=some (.cells L.toArray t (0,0))) (hL:L.length=c*6) (hvl:vs.length=6)
 (hvs:∀j v,vs[j]?=some v→w.cell? ⟨vb,vo+j,none⟩=some v) (h2:∀v∈vs,v.oneCell'=true) :
 Calls Tryz.prog 133 #[.slice (some ⟨b,0,none⟩) n c,.int .i64 n,.slice (some ⟨vb,vo,none⟩) 1 vc] w fun e w'=>
  e=.returned (.slice (some ⟨b,0,none⟩) (n+1) c)∧w'=w.setRow b (Go.splice L (n*6) vs).toArray:=by
 obtain ⟨i0,z0,hi0,hz0,hzs,hsz,hby⟩:=b0f;have hLn:(n+1)*6≤L.length:=by rw[hL];exact yaq _ hroom
 have hf:=run_firstCells_some (P:=Tryz.prog) w i0.size 1 ⟨vb,vo,none⟩ 1 vc vs (by omega) (fun j v hj=>by rw[Addr.add_lit];exact hvs j v hj);have hap:∀ty,(Builtin.append_ #[24,24] ty #[.slice (some ⟨b,0,none⟩) n c,.slice (some ⟨vb,vo,none⟩) 1 vc]).run Tryz.prog w=.ok (.slice (some ⟨b,0,none⟩) (n+1) c) (w.setRow b (Go.splice L (n*6) vs).toArray):=fun ty=>by
  have:=a15 (P:=Tryz.prog) (w:=w) (ty:=ty) (ts:=#[24,24]) rfl rfl Tryz.underlying24 Tryz.underlying24 hi0 hf hroom hb (by simp only[ybx];rw[hsz];omega) h2;rw[hsz]at this;simpa[Go.splice]using this
 go_enter Tryz.func133,Tryz.ntmps133
 go_wp2_with (at_builtin;refine a03 rfl _ _ _ _ rfl _ _ rfl rfl (hap _) ?_)
 all_goals (go_ret;exact ⟨rfl,rfl⟩)
set_option maxHeartbeats 4000000 in
set_option maxRecDepth 100000 in
theorem c4e {w:World} {base:Option Addr} {n c vb vo vc:Nat} {olds vs:List Value} (hnc:n≤c) (hroom:c<n+1) (hlim:n+1≤1073741824) (hvl:vs.length=6)
 (hnil:base=none→n=0) (hol:olds.length=n*6) (hos:∀a,base=some a→∀j v,olds[j]?=some v→w.cell? (a.add j)=some v)
 (hvs:∀j v,vs[j]?=some v→w.cell? ⟨vb,vo+j,none⟩=some v) :
 Calls Tryz.prog 133 #[.slice base n c,.int .i64 n,.slice (some ⟨vb,vo,none⟩) 1 vc] w fun e w'=>
  ∃cap zs,e=.returned (.slice (some ⟨w.heap.size,0,none⟩) (n+1) cap)∧w'=w.drew.alloc (.cells (olds++(vs++zs)).toArray 52)∧n+1≤cap∧zs.length=(cap-(n+1))*6:=by
 obtain ⟨i0,z0,hi0,hz0,hzs,hsz,hby⟩:=b0f;have hf:=run_firstCells_some (P:=Tryz.prog) w.drew i0.size 1 ⟨vb,vo,none⟩ 1 vc vs (by omega) (fun j v hj=>by rw[Addr.add_lit];exact hvs j v hj);have hold:(Builtin.firstCells i0.size n (.slice base n c)).run Tryz.prog w.drew=.ok olds.toArray w.drew:=by
  cases base with
  |none=>
   have h0:=hnil rfl;subst h0;rw[ybu.1 (by omega:olds.length=0)];exact run_firstCells_none w.drew _ 0 0 c
  |some a=>exact run_firstCells_some w.drew _ n a n c olds (by rw[hsz];omega) (fun j v hj=>hos a rfl j v hj)
 have hap:∀ty,(Builtin.append_ #[24,24] ty #[.slice base n c,.slice (some ⟨vb,vo,none⟩) 1 vc]).run Tryz.prog w=_:=fun ty=>
  a2x (P:=Tryz.prog) (w:=w) (ty:=ty) (ts:=#[24,24]) rfl rfl Tryz.underlying24 Tryz.underlying24 hi0 hz0 hf hold hroom (by omega) (b7s hroom hlim hby)
 have hge:=a2e w (n+1) c 52;obtain ⟨G,hG⟩:∃G,G=grownCap w (n+1) c 52:=⟨_,rfl⟩
 obtain ⟨zs,hzs'⟩:∃zs,zs=(Builtin.zeroCells z0.cells (G-(n+1))).toList:=⟨_,rfl⟩
 rw[←hG]at hap hge;rw[←hzs']at hap;have hzl:zs.length=(G-(n+1))*6:=by rw[hzs',yaZ,size_zeroCells,hzs]
 clear hG hzs'
 go_enter Tryz.func133,Tryz.ntmps133
 cases base with
 |none=>
  have h0:=hnil rfl;subst h0
  go_wp2_with (at_builtin;refine a03 rfl _ _ _ _ rfl _ _ rfl rfl (hap _) ?_)
  all_goals (go_ret;first|exact ⟨_,_,rfl,rfl,hge,hzl⟩|exact ⟨_,rfl,_,rfl,hge,hzl⟩)
 |some a=>
  obtain ⟨ab,ao,asp⟩:=a
  go_wp2_with (at_builtin;refine a03 rfl _ _ _ _ rfl _ _ rfl rfl (hap _) ?_)
  all_goals (go_ret;first|exact ⟨_,_,rfl,rfl,hge,hzl⟩|exact ⟨_,rfl,_,rfl,hge,hzl⟩)
set_option maxHeartbeats 4000000 in
set_option maxRecDepth 100000 in
theorem c1h {w:World} {b n c i vb vo vc:Nat} {L vs:List Value} {t:TypeId} (hi:i<n) (hnc:n≤c) (hroom:c<n+1) (hlim:n+1≤1073741824) (hvb:vb≠b)
 (hb:w.heap[b]?=some (.cells L.toArray t (0,0))) (hL:L.length=c*6) (hvl:vs.length=6)
 (hvs:∀j v,vs[j]?=some v→w.cell? ⟨vb,vo+j,none⟩=some v) (h1:∀v∈(L.drop (i*6)).take ((n-i)*6),v.oneCell'=true) (h2:∀v∈vs,v.oneCell'=true) :
 Calls Tryz.prog 133 #[.slice (some ⟨b,0,none⟩) n c,.int .i64 i,.slice (some ⟨vb,vo,none⟩) 1 vc] w fun e w'=>
  ∃cap row,e=.returned (.slice (some ⟨w.heap.size,0,none⟩) (n+1) cap)∧n+1≤cap∧row.length=cap*6∧row.take (i*6)=L.take (i*6)∧
   w'.heap=(w.heap.push (.cells (Go.splice (Go.splice row (i*6) vs) ((i+1)*6) ((L.drop (i*6)).take ((n-i)*6))).toArray 52))∧w'.os=w.os∧w'.output=w.output∧w'.tape=w.tape:=by
 obtain ⟨i0,z0,hi0,hz0,hzs,hsz,hby⟩:=b0f;have hz2:¬((i:Int)=(n:Int)):=by omega
 have hz3:(c:Int)<(n:Int)+1:=by omega
 have hLn:n*6≤L.length:=by rw[hL];exact yaq _ hnc
 have hbw:b<w.heap.size:=(yak.1 hb).1;have hvw:vb<w.heap.size:=by
  have h:=hvs 0 _ (yac (by omega));unfold World.cell? at h;split at h
  ·rename_i c0 t0 f0 hc0;exact (yak.1 hc0).1
  ·cases h
 have hkk:(n:Int)+1-(i:Int)=((n+1-i:Nat):Int):=by omega
 have hik:i+(n+1-i)=n+1:=by omega
 have hTl:(L.take (i*6)).length=i*6:=by simp;omega
 have hold:(Builtin.firstCells i0.size i (.slice (some ⟨b,0,none⟩) i c)).run Tryz.prog w.drew=.ok (L.take (i*6)).toArray w.drew:=by
  refine run_firstCells_some w.drew _ i ⟨b,0,none⟩ i c (L.take (i*6)) (by rw[hsz];exact hTl) (fun j v hj=>?_);rw[Addr.add_lit,yaF];show w.cell? _=_
  simp only[World.cell?,hb];rw[yaD]at hj;split at hj
  ·simpa using hj
  ·cases hj
 have hrz:∀ty,(Builtin.append_ #[24,3] ty #[.slice (some ⟨b,0,none⟩) i c,.int .i64 ((n:Int)+1-(i:Int))]).run Tryz.prog w =
  .ok (.slice (some ⟨w.heap.size,0,none⟩) (n+1) (grownCap w (n+1) c 52)) (w.drew.alloc (.cells ((L.take (i*6)).toArray++Builtin.zeroCells z0.cells (n+1-i)++Builtin.zeroCells z0.cells (grownCap w (n+1) c 52-(n+1))) 52)):=fun ty=>by
  have h:=Lib.run_append_grow_zeros w 24 3 ty 52 i0 _ .i64 .i64 Tryz.underlying24 Tryz.underlying3 hi0 hz0 (some ⟨b,0,none⟩) i c _ hold (n+1-i) (by omega) (by omega) (by omega) (by omega)
   (ybm (yb5 (show n+1-i≤1073741824 by omega) hby) (by decide)) (by rw[hik];exact b7s hroom hlim hby)
  rw[hik]at h;rw[hkk];exact h
 have hge:=a2e w (n+1) c 52;obtain ⟨G,hG⟩:∃G,G=grownCap w (n+1) c 52:=⟨_,rfl⟩
 rw[←hG]at hrz hge;have hG63:G≤9223372036854775807:=by
  have:=grownCap_le_maxLen w (n+1) c 52 (by unfold maxLen;omega);rw[←hG]at this;unfold maxLen at this;omega
 obtain ⟨R,hR⟩:∃R:List Value,R=L.take (i*6)++((Builtin.zeroCells z0.cells (n+1-i)).toList++(Builtin.zeroCells z0.cells (G-(n+1))).toList):=⟨_,rfl⟩
 have hRl:R.length=G*6:=by
  rw[hR];simp only[yaU,yaZ,size_zeroCells,hzs,hTl];rw[←ya0,←ya0];congr 1;omega
 have hRt:R.take (i*6)=L.take (i*6):=by rw[hR,List.take_append_of_le_length (by omega),yb6 (by omega)]
 have hRe:(L.take (i*6)).toArray++Builtin.zeroCells z0.cells (n+1-i)++Builtin.zeroCells z0.cells (G-(n+1))=R.toArray:=by
  rw[hR];apply Array.ext';simp
 rw[hRe]at hrz;obtain ⟨C1,hC1⟩:∃C1,C1=(L.drop (i*6)).take ((n-i)*6):=⟨_,rfl⟩
 have hC1l:C1.length=(n-i)*6:=by rw[hC1];simp;omega
 have hGn:(n+1)*6≤R.length:=by rw[hRl];exact yaq _ hge
 obtain ⟨M1,hM1⟩:∃M1,M1=Go.splice R (i*6) vs:=⟨_,rfl⟩
 have hM1l:M1.length=R.length:=by rw[hM1];exact length_splice _ _ _ (by omega)
 rw[←hC1];obtain ⟨gb,hgb⟩:∃gb,gb=w.heap.size:=⟨_,rfl⟩
 have hnew:∀W:World,W.heap=w.heap.push (.cells R.toArray 52)→W.heap[gb]?=some (.cells R.toArray 52 (0,0)):=fun W hW=>by rw[hW,hgb];simp
 have hpast:∀W:World,W.heap=w.heap.push (.cells R.toArray 52)→∀k,k<w.heap.size→W.heap[k]?=w.heap[k]?:=fun W hW k hk=>by rw[hW,ybH hk];simp[hk]
 have hcpA:∀(W:World),W.heap=w.heap.push (.cells R.toArray 52)→∀ty dc,(Builtin.copy_ #[24,24] ty #[.slice (some ⟨gb,i*6,none⟩) (n+1-i) dc,.slice (some ⟨vb,vo,none⟩) 1 vc]).run Tryz.prog W=.ok (goInt 1) (W.setRow gb M1.toArray):=fun W hW ty dc=>by
  have hmin:Nat.min 1 (n+1-i)=1:=by show min _ _=_;omega
  have:=a02 (P:=Tryz.prog) (w:=W) (sT:=24) (ty:=ty) (dCap:=dc) (sCap:=vc) (dLen:=n+1-i) (sLen:=1) (o:=i*6) (a:=⟨vb,vo,none⟩) Tryz.underlying24 hi0 hsz (g:=gb) (t:=52) (L:=R) (hnew W hW) (cs:=vs) (by rw[hmin];omega)
   (fun j v hj=>by
    rw[Addr.add_lit];unfold World.cell?;rw[show W.heap[(⟨vb,vo+j,none⟩:Addr).block]?=w.heap[vb]? from hpast W hW vb hvw];exact hvs j v hj) (by omega) h2
  rw[hmin,←hM1]at this;exact this
 have hcpB:∀(W W0:World),W0.heap=w.heap.push (.cells R.toArray 52)→W.heap=(W0.setRow gb M1.toArray).heap→∀ty dc sc,(Builtin.copy_ #[24,24] ty #[.slice (some ⟨gb,(i+1)*6,none⟩) (n-i) dc,.slice (some ⟨b,i*6,none⟩) (n-i) sc]).run Tryz.prog W=.ok (goInt ((n-i:Nat):Int)) (W.setRow gb (Go.splice M1 ((i+1)*6) C1).toArray):=fun W W0 hW0 hW ty dc sc=>by
  have hmin:Nat.min (n-i) (n-i)=n-i:=by show min _ _=_;omega
  have:=a02 (P:=Tryz.prog) (w:=W) (sT:=24) (ty:=ty) (dCap:=dc) (sCap:=sc) (dLen:=n-i) (sLen:=n-i) (o:=(i+1)*6) (a:=⟨b,i*6,none⟩) Tryz.underlying24 hi0 hsz (g:=gb) (t:=52) (L:=M1) (by rw[hW];exact setRow_heap _ _ _ _ _ _ (hnew W0 hW0)) (cs:=C1) (by rw[hmin];exact hC1l)
   (fun j v hj=>by
    rw[Addr.add_lit];unfold World.cell?;have e:W.heap[(⟨b,i*6+j,none⟩:Addr).block]?=w.heap[b]?:=by
     show W.heap[b]?=_
     rw[hW,setRow_other _ _ _ _ (by omega),hpast W0 hW0 b hbw]
    rw[e,hb];rw[hC1,yaD]at hj;split at hj
    ·simpa using hj
    ·cases hj) (by omega) (by rw[hC1];exact h1)
  rw[hmin]at this;exact this
 have hw1:IntKind.i64.wrap ((i:Int)+1)=(i:Int)+1:=by rw[IntKind.wrap_i64];omega
 have hb1:(0:Int)≤(i:Int)+1:=by omega
 have hin:i≤n:=by omega
 have htn:((i:Int)+1).toNat=i+1:=by omega
 have hb3:(i:Int)≤(n:Int):=by omega
 have hGi:¬(G=i):=by omega
 have hGim:¬(G=i+1):=by omega
 have hci:¬(c=i):=by omega
 have hmixed:Tryz.prog.follows .mixedOrders=true:=kr;have mixed:=hmixed;have hfin:∀W W0:World,W0.heap=w.heap.push (.cells R.toArray 52)→W.heap=(W0.setRow gb M1.toArray).heap→(W.setRow gb (Go.splice M1 ((i+1)*6) C1).toArray).heap=w.heap.push (.cells (Go.splice M1 ((i+1)*6) C1).toArray 52):=fun W W0 hW0 hW=>by
  have h1:W.heap[gb]?=some (.cells M1.toArray 52 (0,0)):=by rw[hW];exact setRow_heap _ _ _ _ _ _ (hnew W0 hW0)
  have hsz0:W.heap.size=w.heap.size+1:=by rw[hW,setRow_size,hW0];simp
  apply Array.ext_getElem?;intro k;by_cases hk:k=gb
  ·subst hk;rw[setRow_heap _ _ _ _ _ _ h1,hgb];simp
  ·rw[setRow_other _ _ _ _ hk];by_cases hk2:k<w.heap.size
   ·rw[hW,setRow_other _ _ _ _ hk,hpast W0 hW0 k hk2,ybH hk2];simp[hk2]
   ·rw[ybq (by omega),ybq (by simp;omega)]
 have hMM:Go.splice (Go.splice R (i*6) vs) ((i+1)*6) C1=Go.splice M1 ((i+1)*6) C1:=by rw[hM1]
 subst hgb;have hcpA':=hcpA ((w.alloc (.cells R.toArray 52)).drew) rfl;clear hkk hcpA hik hold hG hR hRe hC1 hM1 hC1l hM1l h1 h2 hvs hL hTl
 go_enter Tryz.func133,Tryz.ntmps133
 go_wp2_with (at_builtin;refine a03 rfl _ _ _ _ rfl _ _ rfl rfl (hrz _) ?_)
 go_region_law_o (refine a3y rfl _ _ 24 24 rfl (.slice (some ⟨w.heap.size,(i+1)*6,none⟩) (n-i) (G-(i+1))) (.slice (some ⟨b,i*6,none⟩) (n-i) (c-i)) (by simp[Act.eval,Act.put]) (by simp[Act.eval,Act.put]) (hcpB (((w.alloc (.cells R.toArray 52)).drew.setRow w.heap.size M1.toArray).drew) (w.drew.alloc (.cells R.toArray 52)) rfl rfl 3 (G-(i+1)) (c-i)) ?_)
 go_wp2
 go_ret
 refine ⟨G,R,rfl,hge,hRl,hRt,?_,rfl,rfl,rfl⟩;rw[hMM];exact hfin _ (w.drew.alloc (.cells R.toArray 52)) rfl rfl
end
section
theorem d5m:∃i0 z,Tryz.prog.info? 64=some i0∧i0.zero=some z∧z.cells.size=11∧i0.size=11∧∀v∈z.cells,v.oneCell'=true:=by
 have h:(match Tryz.prog.info? 64 with|some i=>(match i.zero with|some z=>Nat.beq z.cells.size 11&&Nat.beq i.size 11&&z.cells.toList.all (·.oneCell')|none=>false)|none=>false)=true:=kr;split at h
 ·rename_i i hi;split at h
  ·rename_i z hz;simp only[yae]at h;exact ⟨i,z,hi,hz,ybd h.1.1,ybd h.1.2,fun v hv=>yam.1 h.2 v (by simpa using hv)⟩
  ·cases h
 ·cases h
set_option maxHeartbeats 4000000 in
set_option maxRecDepth 100000 in
theorem c0w {w:World} {base:Option Addr} {n c i:Nat} (hnc:n≤c) (hi:i≤n) :
 Calls Tryz.prog 198 #[.slice base n c,.int .i64 i,.int .i64 i] w fun e w'=>e=.returned (.slice base n c)∧w'=w:=by
 cases base with
 |none=>
  go_enter Tryz.func198,Tryz.ntmps198
  go_wp2
  all_goals (go_ret;exact ⟨rfl,rfl⟩)
 |some a=>
  obtain ⟨ab,ao,asp⟩:=a
  go_enter Tryz.func198,Tryz.ntmps198
  go_wp2
  all_goals (go_ret;exact ⟨rfl,rfl⟩)
set_option maxHeartbeats 4000000 in
set_option maxRecDepth 100000 in
theorem c0x {w:World} {b n c i j:Nat} {L:List Value} {t:TypeId} (hij:i<j) (hj:j≤n) (hnc:n≤c)
 (hb:w.heap[b]?=some (.cells L.toArray t (0,0))) (hL:L.length=c*11) (h1:∀v∈(L.drop (j*11)).take ((n-j)*11),v.oneCell'=true) :
 Calls Tryz.prog 198 #[.slice (some ⟨b,0,none⟩) n c,.int .i64 i,.int .i64 j] w fun e w'=>
  e=.returned (.slice (some ⟨b,0,none⟩) (i+(n-j)) c)∧∃(M0:Array Value) (zs:List Value),zs.length=(j-i)*11∧w'=(w.drew.setRow b M0).setRow b (Go.splice (Go.splice L (i*11) ((L.drop (j*11)).take ((n-j)*11))) ((i+(n-j))*11) zs).toArray:=by
 obtain ⟨i0,z0,hi0,hz0,hzs,hsz,hz1⟩:=d5m;have hLn:n*11≤L.length:=by rw[hL];exact yaq _ hnc
 obtain ⟨C1,hC1⟩:∃C1,C1=(L.drop (j*11)).take ((n-j)*11):=⟨_,rfl⟩
 have hC1l:C1.length=(n-j)*11:=by rw[hC1];simp;omega
 obtain ⟨M1,hM1⟩:∃M1,M1=Go.splice L (i*11) C1:=⟨_,rfl⟩
 have hM1l:M1.length=L.length:=by rw[hM1];exact length_splice _ _ _ (by omega)
 rw[←hC1,←hM1];obtain ⟨A,hA,hsrc⟩:∃A:Addr,(if c=j then some (⟨b,0,none⟩:Addr) else some ⟨b,j*11,none⟩)=some A∧∀q v,C1[q]?=some v→w.drew.cell? (A.add q)=some v:=by
  by_cases h:c=j
  ·refine ⟨⟨b,0,none⟩,by simp[h],fun q v hq=>?_⟩;have:=(zL hq)
   omega
  ·refine ⟨⟨b,j*11,none⟩,by simp[h],fun q v hq=>?_⟩;rw[Addr.add_lit];show w.cell? _=_
   simp only[World.cell?,hb];rw[hC1,yaD]at hq;split at hq
   ·simpa using hq
   ·cases hq
 have hf:∀xc,(Builtin.firstCells i0.size (n-j) (.slice (some A) (n-j) xc)).run Tryz.prog w.drew=.ok C1.toArray w.drew:=fun xc=>run_firstCells_some (P:=Tryz.prog) w.drew i0.size (n-j) A (n-j) xc C1 (by rw[hsz];exact hC1l) hsrc
 have hone:∀v∈C1,v.oneCell'=true:=by rw[hC1];exact h1
 have hap:∀ty xc,(Builtin.append_ #[25,25] ty #[.slice (some ⟨b,0,none⟩) i c,.slice (some A) (n-j) xc]).run Tryz.prog w.drew=.ok (.slice (some ⟨b,0,none⟩) (i+(n-j)) c) (w.drew.setRow b M1.toArray):=fun ty xc=>by
  have:=a15 (P:=Tryz.prog) (w:=w.drew) (ty:=ty) (ts:=#[25,25]) rfl rfl Tryz.underlying25 Tryz.underlying25 hi0 (hf xc) (sLen:=i) (sCap:=c) (by omega) hb (by simp only[ybx];rw[hsz];omega) hone;rw[hsz]at this;rw[hM1];simpa[Go.splice]using this
 obtain ⟨zs,hzs'⟩:∃zs,zs=(Builtin.zeroCells z0.cells (j-i)).toList:=⟨_,rfl⟩
 have hzl:zs.length=(j-i)*11:=by rw[hzs',yaZ,Go.size_zeroCells,hzs]
 have hcl:∀ty cc,(Builtin.clear_ #[25] ty #[.slice (some ⟨b,(i+(n-j))*11,none⟩) (n-(i+(n-j))) cc]).run Tryz.prog (w.drew.setRow b M1.toArray)=.ok (.tuple #[]) ((w.drew.setRow b M1.toArray).setRow b (Go.splice M1 ((i+(n-j))*11) zs).toArray):=fun ty cc=>by
  have e:n-(i+(n-j))=j-i:=by omega
  rw[e,hzs'];exact b6a (P:=Tryz.prog) (w:=w.drew.setRow b M1.toArray) Tryz.underlying25 hi0 hz0 (by omega) (setRow_heap _ _ _ _ _ _ hb) (by rw[hzs];omega) hz1
 have hic:i≤c:=by omega
 have hjc:j≤c:=by omega
 have mixed:Tryz.prog.follows .mixedOrders=true:=kr;clear hC1 hM1 hC1l hM1l h1 hL hf hone hzs'
 go_enter Tryz.func198,Tryz.ntmps198
 go_wp2_with fail
 go_region_law_o (refine b9y rfl (.tmp 22) (.tmp 25) 25 25 rfl (.slice (some ⟨b,0,none⟩) i c) (.slice (some A) (n-j) (c-j)) (by simp[Act.eval,Act.put]) (by simp[Act.eval,Act.put]) (hap _ _) ?_)
 go_wp2
 go_ret
 exact ⟨rfl,_,zs,hzl,rfl⟩
end
end Go.Proofs.YtcebdbdfgkahkaaGreatDoor
