/- WeedPlans: a part of the proof of the given statement, which is proved without conditions. -/
import Derived.Test.YtpaidiaknfhclaaGreatDoorP3
import Derived.KernelRfl
import Derived.Test.YtpaidiaknfhclaaGreatDoorProg
import Derived.Shelf.RegionOpenPlain
import Derived.WalkKit
import Derived.Lib.Walk
import Derived.Lib.AppendZerosOnto
import Derived.Lib.AppendZeros
import Derived.Laws.Externs
import Derived.Laws.CopyOwn
import Derived.Deep.RegionLaw
set_option linter.all false
namespace Go.Proofs.YtpaidiaknfhclaaGreatDoor
set_option maxRecDepth 100000
open Ev
open Go (IntKind)
def qag (today:Int):Option Circ:=
 some (⟨(if 109572<(if today<0 then 0 else today) then 109572 else (if today<0 then 0 else today)),[],[],[],[],[],[],⟨⟨0,[]⟩,⟨0,[]⟩,⟨0,[]⟩,⟨0,[]⟩⟩,[],1,1,false⟩:Circ)
def qd (x:Item) (v:Int):Option Bool:=
 some (x.ID==v)
def z4v {γ0:Type} (p:γ0→Item→Option Bool):((List Item)×γ0×Int×Int×Unit)→Option (((List Item)×γ0×Int×Int×Unit)⊕((Unit)⊕(Int×Unit))):=fun (s,g,v,v1,_)=>
 bif decide (v1<v) then match getI s v1 with|some x =>(match p g x with|some r =>bif r then some (.inr (.inr (v1,()))) else some (.inl (s,g,v,wr .i64 (v1+1),()))|none =>none)|none =>none else some (.inr (.inl (())))
def qa {γ0:Type} (p:γ0→Item→Option Bool) (s:List Item) (g:γ0):Option Int:=
 match zah (z4v p) (s,g,(s.length:Int),0,()) with|some (.inl (_)) =>some (-1)|some (.inr (v,_)) =>some v|none =>none
def qc (c:Circ) (item:Int):Option Int:=
 match qa (fun g x0=>qd x0 g.2.1) c.Items ((),(item,())) with|some r1 =>some r1|none =>none
def qcy (branch:Int):Option Custody:=
 some (⟨1,branch,0,0⟩:Custody)
def qcx (z:Item) (v:Item):Option Bool:=
 some (decide (v.ID<z.ID))
def qcl (s:List Item):Option (List Item):=
 bif decide (([]:List Item).length+s.length≤LIM) then some (([])++s) else none
def qbc (n:Int) (low:Int) (high:Int):Option Bool:=
 let k (v:Bool):Option Bool:=some v;bif decide (low≤n) then k (decide (n≤high)) else k false
def qd0 (x:Item):Option Bool:=
 match qbc x.ID 1 9999 with|some r1 =>let k21 (v:Bool):Option Bool:=let k20 (v6:Bool):Option Bool:=let k19 (v9:Bool):Option Bool:=let k18 (v12:Bool):Option Bool:=let k17 (v13:Bool):Option Bool:=let k (v16:Bool):Option Bool:=some v16;bif v13 then match qch x.Call with|some r15 =>k r15|none =>none else k false;bif v12 then k17 (decide ((x.Call.length:Int)≤200)) else k17 false;bif v9 then match qbc x.Price 0 100000000 with|some r11 =>k18 r11|none =>none else k18 false;bif v6 then match qbc x.Kind 1 9 with|some r8 =>k19 r8|none =>none else k19 false;bif v then match qbc x.Branch 1 4 with|some r5 =>k20 r5|none =>none else k20 false;bif r1 then match qbc x.Record 1 9999 with|some r3 =>k21 r3|none =>none else k21 false|none =>none
def qbs (n:Int) (least:Int) (most:Int):Option Bool:=
 let k (v:Bool):Option Bool:=some v;bif decide (least≤n) then k (decide (n≤most)) else k false
def qdl (c:Custody):Option Bool:=
 match qbs c.State 1 12 with|some r1 =>(let k23 (v:Bool):Option Bool:=bif v then some false else let k22 (v7:Bool):Option Bool:=let k19 (v18:Bool):Option Bool:=some v18;bif v7 then match qbs c.Who 1 9999 with|some r9 =>bif r9 then k19 (c.To==0) else k19 false|none =>none else bif c.State==6 then match qbs c.Who 0 9999 with|some r12 =>let k (v15:Bool):Option Bool:=bif v15 then k19 (!(c.To==c.Branch)) else k19 false;bif r12 then match qbs c.To 1 4 with|some r14 =>k r14|none =>none else k false|none =>none else let k21 (v20:Bool):Option Bool:=some v20;bif c.Who==0 then k21 (c.To==0) else k21 false;bif c.State==4 then k22 (c.State==4) else bif c.State==5 then k22 (c.State==5) else bif c.State==8 then k22 (c.State==8) else bif c.State==9 then k22 (c.State==9) else k22 (c.State==10);bif !r1 then k23 true else match qbs c.Branch 1 4 with|some r3 =>k23 (!r3)|none =>none)|none =>none
def qcm (state:Int) (kind:Int):Option Bool:=
 match qbs state 1 12 with|some r1 =>let k5 (v:Bool):Option Bool:=let k (v4:Bool):Option Bool:=some v4;bif v then match getI zbx state with|some x =>bif decide (kind<0) then none else k ((wr .u16 (BitVec.ofInt 16 (x.fdiv (2 ^ (min kind.toNat 16))) &&& BitVec.ofInt 16 1).toNat)==1)|none =>none else k false;bif r1 then match qbs kind 1 15 with|some r3 =>k5 r3|none =>none else k5 false|none =>none
def qb8 (c:Custody) (ok:Bool):Option (Custody×Int):=
 bif !ok then some ((⟨0,0,0,0⟩:Custody),1) else some (c,0)
def qdc (c:Custody) (m:Move):Option (Custody×Int):=
 match qb8 (⟨6,c.Branch,m.Who,m.Branch⟩:Custody) (!(m.Branch==c.Branch)) with|some (r1,r2) =>some (r1,r2)|none =>none
def qd1 (c:Custody) (m:Move):Option (Custody×Int):=
 match qdl c with|some r1 =>(let k95 (v:Bool):Option (Custody×Int):=let k94 (v6:Bool):Option (Custody×Int):=let k93 (v9:Bool):Option (Custody×Int):=let k92 (v12:Bool):Option (Custody×Int):=let k91 (v15:Bool):Option (Custody×Int):=bif v15 then some ((⟨0,0,0,0⟩:Custody),1) else match qcm c.State m.Kind with|some r17 =>bif !r17 then some ((⟨0,0,0,0⟩:Custody),12) else let k90 (v18:Bool):Option (Custody×Int):=let k89 (v19:Bool):Option (Custody×Int):=bif v19 then some ((⟨0,0,0,0⟩:Custody),16) else let k88 (v22:Bool):Option (Custody×Int):=let k84 (state79:Int) (ok80:Bool):Option (Custody×Int):=match qb8 (⟨state79,m.Branch,m.Who,0⟩:Custody) ok80 with|some (r82,r83) =>some (r82,r83)|none =>none;let k87 (v85:Int) (v86:Custody):Option (Custody×Int):=some (v86,v85);bif v22 then k84 2 (m.Who==0) else bif m.Kind==7 then bif m.Who==0 then k84 2 (m.Branch==c.To) else k84 2 false else bif m.Kind==6 then match qdc c m with|some (r25,r26) =>k87 r26 r25|none =>none else bif m.Kind==3 then bif m.Branch==c.Branch then k84 4 (!(m.Who==0)) else k84 4 false else bif m.Kind==5 then bif m.Branch==c.Branch then k84 5 (!(m.Who==0)) else k84 5 false else bif m.Kind==10 then bif m.Branch==c.Branch then k84 8 (!(m.Who==0)) else k84 8 false else bif m.Kind==2 then bif m.Branch==c.Branch then k84 3 (m.Who==0) else k84 3 false else bif m.Kind==8 then bif m.Branch==c.Branch then k84 7 (m.Who==0) else k84 7 false else bif m.Kind==11 then let k (v32:Bool):Option (Custody×Int):=match qb8 (⟨9,c.Branch,c.Who,0⟩:Custody) v32 with|some (r34,r35) =>k87 r35 r34|none =>none;bif m.Branch==c.Branch then k (m.Who==0) else k false else bif m.Kind==12 then let k40 (v36:Bool):Option (Custody×Int):=match qb8 (⟨10,c.Branch,c.Who,0⟩:Custody) v36 with|some (r38,r39) =>k87 r39 r38|none =>none;bif m.Branch==c.Branch then k40 (m.Who==0) else k40 false else bif m.Kind==13 then bif m.Branch==c.Branch then k84 11 (m.Who==0) else k84 11 false else bif m.Kind==15 then bif m.Branch==c.Branch then k84 12 (m.Who==0) else k84 12 false else k84 0 false;bif m.Kind==1 then k88 (m.Kind==1) else bif m.Kind==4 then k88 (m.Kind==4) else bif m.Kind==9 then k88 (m.Kind==9) else k88 (m.Kind==14);bif v18 then k89 (!(m.Who==c.Who)) else k89 false;bif m.Kind==3 then k90 (c.State==5) else k90 false|none =>none;bif v12 then k91 true else match qbs m.Who 0 9999 with|some r14 =>k91 (!r14)|none =>none;bif v9 then k92 true else match qbs m.Branch 1 4 with|some r11 =>k92 (!r11)|none =>none;bif v6 then k93 true else match qbs m.Kind 1 15 with|some r8 =>k93 (!r8)|none =>none;bif v then k94 true else match qbs m.Item 1 9999 with|some r5 =>k94 (!r5)|none =>none;bif !r1 then k95 true else match qbs m.Day 0 109572 with|some r3 =>k95 (!r3)|none =>none)|none =>none
def zagp:(Int×(List Move)×Int×Int×Custody×Custody×Unit)→Option ((Int×(List Move)×Int×Int×Custody×Custody×Unit)⊕((Custody×Custody×Unit)⊕(Int×Int×Custody×Unit))):=fun (item,v,v4,v5,v6,c,_)=>
 bif decide (v5<v4) then match getI v v5 with|some x =>(bif !(x.Item==item) then some (.inl (item,v,v4,wr .i64 (v5+1),v6,c,())) else match qd1 c x with|some (r7,r8) =>bif !(r8==0) then some (.inr (.inr (v5,r8,(⟨0,0,0,0⟩:Custody),()))) else some (.inl (item,v,v4,wr .i64 (v5+1),v6,r7,()))|none =>none)|none =>none else some (.inr (.inl (v6,c,())))
def qam (branch:Int) (l:List Move) (item:Int):Option (Custody×Int×Int):=
 match qbs branch 1 4 with|some r1 =>(bif !r1 then some ((⟨0,0,0,0⟩:Custody),(-1),1) else match qcy branch with|some r3 =>(match zah zagp (item,l,(l.length:Int),0,(⟨0,0,0,0⟩:Custody),r3,()) with|some (.inl (v,c,_)) =>some (c,(-1),0)|some (.inr (v9,v10,v11,_)) =>some (v11,v9,v10)|none =>none)|none =>none)|none =>none
def zaw7:((List Item)×Int×Int×Circ×Unit)→Option (((List Item)×Int×Int×Circ×Unit)⊕((Circ×Unit)⊕(Bool×Unit))):=fun (v,v1,v2,c,_)=>
 bif decide (v2<v1) then match getI v v2 with|some x =>(match qd0 x with|some r3 =>let k (v6:Bool):Option (((List Item)×Int×Int×Circ×Unit)⊕((Circ×Unit)⊕(Bool×Unit))):=bif v6 then some (.inr (.inr (false,()))) else some (.inl (v,v1,wr .i64 (v2+1),c,()));bif !r3 then k true else bif decide (0<v2) then match getI c.Items (wr .i64 (v2-1)) with|some x4 =>k (decide (x.ID≤x4.ID))|none =>none else k false|none =>none)|none =>none else some (.inr (.inl (c,())))
def zag8:((List Move)×Int×Int×Circ×Unit)→Option (((List Move)×Int×Int×Circ×Unit)⊕((Circ×Unit)⊕(Bool×Unit))):=fun (v,v8,v9,c,_)=>
 bif decide (v9<v8) then match getI v v9 with|some x =>(match qc c x.Item with|some r10 =>bif decide (r10<0) then some (.inr (.inr (false,()))) else some (.inl (v,v8,wr .i64 (v9+1),c,()))|none =>none)|none =>none else some (.inr (.inl (c,())))
def zag9:((List Item)×Int×Int×Circ×Unit)→Option (((List Item)×Int×Int×Circ×Unit)⊕((Unit)⊕(Bool×Unit))):=fun (v,v12,v13,c,_)=>
 bif decide (v13<v12) then match getI v v13 with|some x =>(match qam x.Branch c.Moves x.ID with|some (r14,r15,r16) =>let k (v17:Bool):Option (((List Item)×Int×Int×Circ×Unit)⊕((Unit)⊕(Bool×Unit))):=bif v17 then some (.inr (.inr (false,()))) else some (.inl (v,v12,wr .i64 (v13+1),c,()));bif !(r16==0) then k true else k (!(zbs r14 x.Custody))|none =>none)|none =>none else some (.inr (.inl (())))
def qf (c:Circ):Option Bool:=
 let k (v:Bool):Option Bool:=bif v then some false else match zah zaw7 (c.Items,(c.Items.length:Int),0,c,()) with|some (.inl (c7,_)) =>(match zah zag8 (c7.Moves,(c7.Moves.length:Int),0,c7,()) with|some (.inl (c11,_)) =>(match zah zag9 (c11.Items,(c11.Items.length:Int),0,c11,()) with|some (.inl (_)) =>some true|some (.inr (v18,_)) =>some v18|none =>none)|some (.inr (v19,_)) =>some v19|none =>none)|some (.inr (v20,_)) =>some v20|none =>none;bif decide (64<(c.Items.length:Int)) then k true else k (decide (2000<(c.Moves.length:Int)))
def qb2 (p:Patron):Option Int:=
 let k17 (v:Bool):Option Int:=let k16 (v1:Bool):Option Int:=let k15 (v2:Bool):Option Int:=let k14 (v13:Int):Option Int:=some v13;bif v2 then k14 1 else let k12 (v3:Bool):Option Int:=bif v3 then k14 2 else let k10 (v5:Bool):Option Int:=let k (v8:Bool):Option Int:=bif v8 then k14 3 else bif decide (200<(p.Name.length:Int)) then k14 4 else some 0;bif v5 then k true else match qdp p.Name with|some r7 =>k (!(r7==p.Name))|none =>none;bif p.Name==([]) then k10 true else match qch p.Name with|some r4 =>k10 (!r4)|none =>none;bif decide (p.Until<0) then k12 true else k12 (decide (109572<p.Until));bif v1 then k15 true else k15 (decide (4<p.Branch));bif v then k16 true else k16 (decide (p.Branch<1));bif decide (p.Kind<1) then k17 true else k17 (decide (9<p.Kind))
def zagn:(Int×(List Patron)×Int×Int×Unit)→Option ((Int×(List Patron)×Int×Int×Unit)⊕((Unit)⊕(Int×Unit))):=fun (last,v,v1,v2,_)=>
 bif decide (v2<v1) then match getI v v2 with|some x =>let k6 (v3:Bool):Option ((Int×(List Patron)×Int×Int×Unit)⊕((Unit)⊕(Int×Unit))):=let k (v4:Int):Option ((Int×(List Patron)×Int×Int×Unit)⊕((Unit)⊕(Int×Unit))):=some (.inr (.inr (v4,())));bif v3 then k 2 else bif decide (x.ID≤last) then k 7 else match qb2 x with|some r5 =>bif !(r5==0) then some (.inr (.inr (r5,()))) else some (.inl (x.ID,v,v1,wr .i64 (v2+1),()))|none =>none;bif decide (x.ID<1) then k6 true else k6 (decide (9999<x.ID))|none =>none else some (.inr (.inl (())))
def qaj (l:List Patron):Option Int:=
 bif decide (32<(l.length:Int)) then some 13 else match zah zagn (0,l,(l.length:Int),0,()) with|some (.inl (_)) =>some 0|some (.inr (v,_)) =>some v|none =>none
def qer (n:Int):Option Bool:=
 let k (v:Bool):Option Bool:=some v;bif decide (1≤n) then k (decide (n≤9999)) else k false
def qen (n:Int):Option Bool:=
 let k (v:Bool):Option Bool:=some v;bif decide (0≤n) then k (decide (n≤109572)) else k false
def zago:((List Loan)×(List Loan)×Int×Int×Unit)→Option (((List Loan)×(List Loan)×Int×Int×Unit)⊕((Unit)⊕(Int×Unit))):=fun (l,v,v1,v2,_)=>
 bif decide (v2<v1) then match getI v v2 with|some x =>let k25 (v4:Bool):Option (((List Loan)×(List Loan)×Int×Int×Unit)⊕((Unit)⊕(Int×Unit))):=let k24 (v23:Int):Option (((List Loan)×(List Loan)×Int×Int×Unit)⊕((Unit)⊕(Int×Unit))):=some (.inr (.inr (v23,())));bif v4 then k24 7 else match qer x.Item with|some r5 =>(let k22 (v8:Bool):Option (((List Loan)×(List Loan)×Int×Int×Unit)⊕((Unit)⊕(Int×Unit))):=let k21 (v11:Bool):Option (((List Loan)×(List Loan)×Int×Int×Unit)⊕((Unit)⊕(Int×Unit))):=let k20 (v14:Bool):Option (((List Loan)×(List Loan)×Int×Int×Unit)⊕((Unit)⊕(Int×Unit))):=let k19 (v15:Bool):Option (((List Loan)×(List Loan)×Int×Int×Unit)⊕((Unit)⊕(Int×Unit))):=let k18 (v16:Bool):Option (((List Loan)×(List Loan)×Int×Int×Unit)⊕((Unit)⊕(Int×Unit))):=let k (v17:Bool):Option (((List Loan)×(List Loan)×Int×Int×Unit)⊕((Unit)⊕(Int×Unit))):=bif v17 then k24 2 else some (.inl (l,v,v1,wr .i64 (v2+1),()));bif v16 then k true else k (decide (10<x.Renewals));bif v15 then k18 true else k18 (decide (x.Renewals<0));bif v14 then k19 true else k19 (decide (x.Due<x.Out));bif v11 then k20 true else match qen x.Due with|some r13 =>k20 (!r13)|none =>none;bif v8 then k21 true else match qen x.Out with|some r10 =>k21 (!r10)|none =>none;bif !r5 then k22 true else match qer x.Patron with|some r7 =>k22 (!r7)|none =>none)|none =>none;bif decide (0<v2) then match getI l (wr .i64 (v2-1)) with|some x3 =>k25 (decide (x.Item≤x3.Item))|none =>none else k25 false|none =>none else some (.inr (.inl (())))
def qal (l:List Loan):Option Int:=
 bif decide (64<(l.length:Int)) then some 13 else match zah zago (l,l,(l.length:Int),0,()) with|some (.inl (_)) =>some 0|some (.inr (v,_)) =>some v|none =>none
def qb6 (n:Int) (low:Int) (high:Int):Option Bool:=
 let k (v:Bool):Option Bool:=some v;bif decide (low≤n) then k (decide (n≤high)) else k false
def qek (n:Int):Option Bool:=
 match qb6 n 0 109572 with|some r1 =>some r1|none =>none
def qdq (h:Hold):Option Int:=
 match qb6 h.ID 1 99999 with|some r1 =>(let k41 (v:Bool):Option Int:=let k40 (v6:Bool):Option Int:=let k39 (v9:Bool):Option Int:=let k38 (v37:Int):Option Int:=some v37;bif v9 then k38 2 else match qb6 h.Pickup 1 4 with|some r11 =>(let k36 (v14:Bool):Option Int:=let k35 (v17:Bool):Option Int:=let k34 (v20:Bool):Option Int:=let k33 (v23:Bool):Option Int:=let k32 (v26:Bool):Option Int:=bif v26 then k38 2 else match qb6 h.State 1 3 with|some r28 =>bif !r28 then k38 1 else let k (v29:Bool):Option Int:=bif v29 then k38 12 else some 0;bif !((decide (0<h.Got))==(!(h.State==1))) then k true else k (!((decide (0<h.Until))==(h.State==3)))|none =>none;bif v23 then k32 true else match qb6 h.Rank 0 9 with|some r25 =>k32 (!r25)|none =>none;bif v20 then k33 true else match qek h.Asleep with|some r22 =>k33 (!r22)|none =>none;bif v17 then k34 true else match qek h.Until with|some r19 =>k34 (!r19)|none =>none;bif v14 then k35 true else match qb6 h.Got 0 9999 with|some r16 =>k35 (!r16)|none =>none;bif !r11 then k36 true else match qek h.Placed with|some r13 =>k36 (!r13)|none =>none)|none =>none;bif v6 then k39 true else match qb6 h.Item 0 9999 with|some r8 =>k39 (!r8)|none =>none;bif v then k40 true else match qb6 h.Record 1 9999 with|some r5 =>k40 (!r5)|none =>none;bif !r1 then k41 true else match qb6 h.Patron 1 9999 with|some r3 =>k41 (!r3)|none =>none)|none =>none
def qcf (a:Hold) (b:Hold):Option Bool:=
 let k (v:Bool):Option Bool:=some v;bif a.Patron==b.Patron then k (a.Record==b.Record) else k false
def zapg {γ0:Type} (p:γ0→Hold→Hold→Option Bool):((List Hold)×γ0×Int×Int×Int×Int×Int×Unit)→Option (((List Hold)×γ0×Int×Int×Int×Int×Int×Unit)⊕(((List Hold)×γ0×Int×Int×Unit)⊕(Bool×Unit))):=fun (l,g,i,v,v2,v3,v4,_)=>
 bif decide (v4<v3) then match getI l v4 with|some x =>(match getI l i with|some x5 =>(match p g x x5 with|some r =>bif r then some (.inr (.inr (true,()))) else some (.inl (l,g,i,v,v2,v3,wr .i64 (v4+1),()))|none =>none)|none =>none)|none =>none else some (.inr (.inl (l,g,v,v2,())))
def zapf {γ0:Type} (p:γ0→Hold→Hold→Option Bool):((List Hold)×γ0×Int×Int×Unit)→Option (((List Hold)×γ0×Int×Int×Unit)⊕((Unit)⊕(Bool×Unit))):=fun (l,g,v,v1,_)=>
 bif decide (v1<v) then match zah (zapg p) (l,g,v1,v,v1,v1,0,()) with|some (.inl (l6,g7,v8,v9,_)) =>some (.inl (l6,g7,v8,wr .i64 (v9+1),()))|some (.inr (v10,_)) =>some (.inr (.inr (v10,())))|none =>none else some (.inr (.inl (())))
def qe {γ0:Type} (p:γ0→Hold→Hold→Option Bool) (l:List Hold) (g:γ0):Option Bool:=
 match zah (zapf p) (l,g,(l.length:Int),0,()) with|some (.inl (_)) =>some false|some (.inr (v,_)) =>some v|none =>none
def qdn (a:Hold) (b:Hold):Option Bool:=
 let k (v:Bool):Option Bool:=some v;bif a.Got==b.Got then k (decide (0<a.Got)) else k false
def zaxc:((List Hold)×(List Hold)×Int×Int×Unit)→Option (((List Hold)×(List Hold)×Int×Int×Unit)⊕(((List Hold)×Unit)⊕(Int×Unit))):=fun (l,v,v1,v2,_)=>
 bif decide (v2<v1) then match getI v v2 with|some x =>let k (v4:Bool):Option (((List Hold)×(List Hold)×Int×Int×Unit)⊕(((List Hold)×Unit)⊕(Int×Unit))):=bif v4 then some (.inr (.inr (7,()))) else match qdq x with|some r5 =>bif !(r5==0) then some (.inr (.inr (r5,()))) else some (.inl (l,v,v1,wr .i64 (v2+1),()))|none =>none;bif decide (0<v2) then match getI l (wr .i64 (v2-1)) with|some x3 =>k (decide (x.ID≤x3.ID))|none =>none else k false|none =>none else some (.inr (.inl (l,())))
def qh (l:List Hold):Option Int:=
 bif decide (64<(l.length:Int)) then some 13 else match zah zaxc (l,l,(l.length:Int),0,()) with|some (.inl (l6,_)) =>(match qe (fun g x0 x1=>qcf x0 x1) l6 ((),()) with|some r7 =>(bif r7 then some 7 else match qe (fun g x0 x1=>qdn x0 x1) l6 ((),()) with|some r9 =>bif r9 then some 7 else some 0|none =>none)|none =>none)|some (.inr (v,_)) =>some v|none =>none
def qex (n:Int):Option Bool:=
 let k (v:Bool):Option Bool:=some v;bif decide (1≤n) then k (decide (n≤9999)) else k false
def qd6 (n:Int):Option Bool:=
 let k (v:Bool):Option Bool:=some v;bif decide (0≤n) then k (decide (n≤109572)) else k false
def qb9 (x:Charge):Option Int:=
 let k22 (v:Bool):Option Int:=let k21 (v2:Bool):Option Int:=let k20 (v5:Bool):Option Int:=let k19 (v8:Bool):Option Int:=let k18 (v17:Int):Option Int:=some v17;bif v8 then k18 2 else let k16 (v9:Bool):Option Int:=bif v9 then k18 1 else let k14 (v10:Bool):Option Int:=let k13 (v11:Bool):Option Int:=let k (v12:Bool):Option Int:=bif v12 then k18 2 else some 0;bif v11 then k true else k (decide (x.Amount≤x.Paid));bif v10 then k13 true else k13 (decide (x.Paid<0));bif decide (x.Amount<1) then k14 true else k14 (decide (100000000<x.Amount));bif decide (x.Kind<1) then k16 true else k16 (decide (3<x.Kind));bif v5 then k19 true else match qd6 x.Day with|some r7 =>k19 (!r7)|none =>none;bif v2 then k20 true else match qex x.Item with|some r4 =>k20 (!r4)|none =>none;bif v then k21 true else match qex x.Patron with|some r1 =>k21 (!r1)|none =>none;bif decide (x.ID<1) then k22 true else k22 (decide (99999<x.ID))
def zagq:((List Charge)×(List Charge)×Int×Int×Unit)→Option (((List Charge)×(List Charge)×Int×Int×Unit)⊕((Unit)⊕(Int×Unit))):=fun (l,v,v1,v2,_)=>
 bif decide (v2<v1) then match getI v v2 with|some x =>let k (v4:Bool):Option (((List Charge)×(List Charge)×Int×Int×Unit)⊕((Unit)⊕(Int×Unit))):=bif v4 then some (.inr (.inr (7,()))) else match qb9 x with|some r5 =>bif !(r5==0) then some (.inr (.inr (r5,()))) else some (.inl (l,v,v1,wr .i64 (v2+1),()))|none =>none;bif decide (0<v2) then match getI l (wr .i64 (v2-1)) with|some x3 =>k (decide (x.ID≤x3.ID))|none =>none else k false|none =>none else some (.inr (.inl (())))
def qap (l:List Charge):Option Int:=
 bif decide (128<(l.length:Int)) then some 13 else match zah zagq (l,l,(l.length:Int),0,()) with|some (.inl (_)) =>some 0|some (.inr (v,_)) =>some v|none =>none
def qbx (n:Int) (least:Int) (most:Int):Option Bool:=
 let k (v:Bool):Option Bool:=some v;bif decide (least≤n) then k (decide (n≤most)) else k false
def qc7 (r:Rule):Option Bool:=
 match qbx r.Patron 0 9 with|some r2 =>let k48 (v:Bool):Option Bool:=let k47 (v7:Bool):Option Bool:=let k46 (v10:Bool):Option Bool:=let k45 (v13:Bool):Option Bool:=let k44 (v16:Bool):Option Bool:=let k43 (v19:Bool):Option Bool:=let k42 (v22:Bool):Option Bool:=let k41 (v25:Bool):Option Bool:=let k40 (v28:Bool):Option Bool:=let k39 (v31:Bool):Option Bool:=let k38 (v34:Bool):Option Bool:=let k (v37:Bool):Option Bool:=some v37;bif v34 then match qbx r.Rank 0 9 with|some r36 =>k r36|none =>none else k false;bif v31 then match qbx r.Fixed 0 109572 with|some r33 =>k38 r33|none =>none else k38 false;bif v28 then match qbx r.Recall 1 60 with|some r30 =>k39 r30|none =>none else k39 false;bif v25 then match qbx r.Shelf 1 60 with|some r27 =>k40 r27|none =>none else k40 false;bif v22 then match qbx r.Loans 0 99 with|some r24 =>k41 r24|none =>none else k41 false;bif v19 then match qbx r.MaxFine 0 100000000 with|some r21 =>k42 r21|none =>none else k42 false;bif v16 then match qbx r.Grace 0 30 with|some r18 =>k43 r18|none =>none else k43 false;bif v13 then match qbx r.Fine 0 1000 with|some r15 =>k44 r15|none =>none else k44 false;bif v10 then match qbx r.Renewals 0 10 with|some r12 =>k45 r12|none =>none else k45 false;bif v7 then match qbx r.Days 0 365 with|some r9 =>k46 r9|none =>none else k46 false;bif v then match qbx r.Branch 0 4 with|some r6 =>k47 r6|none =>none else k47 false;bif r2 then match qbx r.Item 0 9 with|some r4 =>k48 r4|none =>none else k48 false|none =>none
def qcn (o:Rule) (v:Rule):Option Bool:=
 let k3 (v1:Bool):Option Bool:=let k (v2:Bool):Option Bool:=some v2;bif v1 then k (o.Branch==v.Branch) else k false;bif o.Patron==v.Patron then k3 (o.Item==v.Item) else k3 false
def zagw {γ0:Type} (p:γ0→Rule→Option Bool):((List Rule)×γ0×Int×Int×Unit)→Option (((List Rule)×γ0×Int×Int×Unit)⊕((Unit)⊕(Int×Unit))):=fun (s,g,v,v1,_)=>
 bif decide (v1<v) then match getI s v1 with|some x =>(match p g x with|some r =>bif r then some (.inr (.inr (v1,()))) else some (.inl (s,g,v,wr .i64 (v1+1),()))|none =>none)|none =>none else some (.inr (.inl (())))
def qay {γ0:Type} (p:γ0→Rule→Option Bool) (s:List Rule) (g:γ0):Option Int:=
 match zah (zagw p) (s,g,(s.length:Int),0,()) with|some (.inl (_)) =>some (-1)|some (.inr (v,_)) =>some v|none =>none
def qes {γ0:Type} (p:γ0→Rule→Option Bool) (s:List Rule) (g:γ0):Option Bool:=
 match qay p s g with|some r1 =>some (decide (0≤r1))|none =>none
def zaxn:((List Rule)×(List Rule)×Int×Int×Unit)→Option (((List Rule)×(List Rule)×Int×Int×Unit)⊕((Unit)⊕(Int×Unit))):=fun (l,v,v1,v2,_)=>
 bif decide (v2<v1) then match getI v v2 with|some x =>(match qc7 x with|some r3 =>bif !r3 then some (.inr (.inr (2,()))) else bif decide (0≤(0:Int))&&(decide ((0:Int)≤v2)&&decide (v2≤(l.length:Int))) then match qes (fun g x0=>qcn x0 g.2.1) ((l.take v2.toNat).drop (0:Int).toNat) ((),(x,())) with|some r5 =>bif r5 then some (.inr (.inr (7,()))) else some (.inl (l,v,v1,wr .i64 (v2+1),()))|none =>none else none|none =>none)|none =>none else some (.inr (.inl (())))
def qv (l:List Rule):Option Int:=
 bif decide (32<(l.length:Int)) then some 13 else match zah zaxn (l,l,(l.length:Int),0,()) with|some (.inl (_)) =>some 0|some (.inr (v,_)) =>some v|none =>none
def qc6 (d:Int):Option Bool:=
 let k (v:Bool):Option Bool:=some v;bif decide (0≤d) then k (decide (d≤109572)) else k false
def qc3 (d:Int):Option Bool:=
 match qc6 d with|some r1 =>some (!r1)|none =>none
def zagx {γ0:Type} (p:γ0→Int→Option Bool):((List Int)×γ0×Int×Int×Unit)→Option (((List Int)×γ0×Int×Int×Unit)⊕((Unit)⊕(Int×Unit))):=fun (s,g,v,v1,_)=>
 bif decide (v1<v) then match getI s v1 with|some x =>(match p g x with|some r =>bif r then some (.inr (.inr (v1,()))) else some (.inl (s,g,v,wr .i64 (v1+1),()))|none =>none)|none =>none else some (.inr (.inl (())))
def qaz {γ0:Type} (p:γ0→Int→Option Bool) (s:List Int) (g:γ0):Option Int:=
 match zah (zagx p) (s,g,(s.length:Int),0,()) with|some (.inl (_)) =>some (-1)|some (.inr (v,_)) =>some v|none =>none
def qet {γ0:Type} (p:γ0→Int→Option Bool) (s:List Int) (g:γ0):Option Bool:=
 match qaz p s g with|some r1 =>some (decide (0≤r1))|none =>none
def zaxm:((List Int)×Int×Int×Calendar×Unit)→Option (((List Int)×Int×Int×Calendar×Unit)⊕((Unit)⊕(Int×Unit))):=fun (v,v4,v5,c,_)=>
 bif decide (v5<v4) then match getI v v5 with|some x =>let k (v7:Bool):Option (((List Int)×Int×Int×Calendar×Unit)⊕((Unit)⊕(Int×Unit))):=bif v7 then some (.inr (.inr (7,()))) else some (.inl (v,v4,wr .i64 (v5+1),c,()));bif decide (0<v5) then match getI c.Closed (wr .i64 (v5-1)) with|some x6 =>k (decide (x≤x6))|none =>none else k false|none =>none else some (.inr (.inl (())))
def qt (c:Calendar):Option Int:=
 let k9 (v:Bool):Option Int:=let k (v3:Int):Option Int:=some v3;bif v then k 1 else bif decide (64<(c.Closed.length:Int)) then k 13 else match qet (fun g x0=>qc3 x0) c.Closed ((),()) with|some r1 =>(bif r1 then k 2 else match zah zaxm (c.Closed,(c.Closed.length:Int),0,c,()) with|some (.inl (_)) =>some 0|some (.inr (v8,_)) =>some v8|none =>none)|none =>none;bif decide (c.Week<0) then k9 true else k9 (decide (127≤c.Week))
def zaxl:((V4 Calendar)×Int×Circ×Unit)→Option (((V4 Calendar)×Int×Circ×Unit)⊕((Circ×Unit)⊕(Bool×Unit))):=fun (v,v13,c,_)=>
 bif decide (v13<4) then let k (v14:Int) (v15:List Int):Option (((V4 Calendar)×Int×Circ×Unit)⊕((Circ×Unit)⊕(Bool×Unit))):=match qt (⟨v14,v15⟩:Calendar) with|some r16 =>bif !(r16==0) then some (.inr (.inr (false,()))) else some (.inl (v,wr .i64 (v13+1),c,()))|none =>none;bif v13==0 then k v.x0.Week v.x0.Closed else bif v13==1 then k v.x1.Week v.x1.Closed else bif v13==2 then k v.x2.Week v.x2.Closed else bif v13==3 then k v.x3.Week v.x3.Closed else none else some (.inr (.inl (c,())))
def zahb:((List Hold)×Int×Int×Circ×Unit)→Option (((List Hold)×Int×Int×Circ×Unit)⊕((Circ×Unit)⊕(Bool×Unit))):=fun (v,v23,v24,c,_)=>
 bif decide (v24<v23) then match getI v v24 with|some x =>bif decide (c.NextHold≤x.ID) then some (.inr (.inr (false,()))) else some (.inl (v,v23,wr .i64 (v24+1),c,()))|none =>none else some (.inr (.inl (c,())))
def zahc:((List Charge)×Int×Int×Circ×Unit)→Option (((List Charge)×Int×Int×Circ×Unit)⊕((Unit)⊕(Bool×Unit))):=fun (v,v26,v27,c,_)=>
 bif decide (v27<v26) then match getI v v27 with|some x =>bif decide (c.NextCharge≤x.ID) then some (.inr (.inr (false,()))) else some (.inl (v,v26,wr .i64 (v27+1),c,()))|none =>none else some (.inr (.inl (())))
def qq (c:Circ):Option Bool:=
 match qaj c.Patrons with|some r1 =>(let k34 (v:Bool):Option Bool:=let k33 (v6:Bool):Option Bool:=let k32 (v9:Bool):Option Bool:=let k31 (v12:Bool):Option Bool:=bif v12 then some false else match zah zaxl (c.Cals,0,c,()) with|some (.inl (c17,_)) =>(match qbc c17.NextHold 1 100000 with|some r19 =>(let k (v22:Bool):Option Bool:=bif v22 then some false else match zah zahb (c17.Holds,(c17.Holds.length:Int),0,c17,()) with|some (.inl (c25,_)) =>(match zah zahc (c25.Charges,(c25.Charges.length:Int),0,c25,()) with|some (.inl (_)) =>some true|some (.inr (v28,_)) =>some v28|none =>none)|some (.inr (v29,_)) =>some v29|none =>none;bif !r19 then k true else match qbc c17.NextCharge 1 100000 with|some r21 =>k (!r21)|none =>none)|none =>none)|some (.inr (v30,_)) =>some v30|none =>none;bif v9 then k31 true else match qv c.Rules with|some r11 =>k31 (!(r11==0))|none =>none;bif v6 then k32 true else match qap c.Charges with|some r8 =>k32 (!(r8==0))|none =>none;bif v then k33 true else match qh c.Holds with|some r5 =>k33 (!(r5==0))|none =>none;bif !(r1==0) then k34 true else match qal c.Loans with|some r3 =>k34 (!(r3==0))|none =>none)|none =>none
def qc5 (p:Patron) (v:Int):Option Bool:=
 some (p.ID==v)
def zapj {γ0:Type} (p:γ0→Patron→Option Bool):((List Patron)×γ0×Int×Int×Unit)→Option (((List Patron)×γ0×Int×Int×Unit)⊕((Unit)⊕(Int×Unit))):=fun (s,g,v,v1,_)=>
 bif decide (v1<v) then match getI s v1 with|some x =>(match p g x with|some r =>bif r then some (.inr (.inr (v1,()))) else some (.inl (s,g,v,wr .i64 (v1+1),()))|none =>none)|none =>none else some (.inr (.inl (())))
def qm {γ0:Type} (p:γ0→Patron→Option Bool) (s:List Patron) (g:γ0):Option Int:=
 match zah (zapj p) (s,g,(s.length:Int),0,()) with|some (.inl (_)) =>some (-1)|some (.inr (v,_)) =>some v|none =>none
def qa2 (l:List Patron) (vid:Int):Option Int:=
 match qm (fun g x0=>qc5 x0 g.2.1) l ((),(vid,())) with|some r1 =>some r1|none =>none
def qcq (l:List Patron) (vid:Int):Option (Patron×Bool):=
 match qa2 l vid with|some r1 =>(bif decide (r1<0) then some ((⟨0,0,0,0,false,[]⟩:Patron),false) else match getI l r1 with|some x =>some (x,true)|none =>none)|none =>none
def qca (vid:Int) (v:Circ):Option Bool:=
 match qcq v.Patrons vid with|some (r1,r2) =>some r2|none =>none
def zaxa:((List Loan)×Int×Int×Circ×Unit)→Option (((List Loan)×Int×Int×Circ×Unit)⊕((Circ×Unit)⊕(Bool×Unit))):=fun (v,v1,v2,c,_)=>
 bif decide (v2<v1) then match getI v v2 with|some x =>(match qca x.Patron c with|some r3 =>(let k (v6:Bool):Option (((List Loan)×Int×Int×Circ×Unit)⊕((Circ×Unit)⊕(Bool×Unit))):=bif v6 then some (.inr (.inr (false,()))) else some (.inl (v,v1,wr .i64 (v2+1),c,()));bif !r3 then k true else match qc c x.Item with|some r5 =>k (decide (r5<0))|none =>none)|none =>none)|none =>none else some (.inr (.inl (c,())))
def zaxb:((List Hold)×Int×Int×Circ×Unit)→Option (((List Hold)×Int×Int×Circ×Unit)⊕((Circ×Unit)⊕(Bool×Unit))):=fun (v,v8,v9,c,_)=>
 bif decide (v9<v8) then match getI v v9 with|some x =>(match qca x.Patron c with|some r10 =>bif !r10 then some (.inr (.inr (false,()))) else some (.inl (v,v8,wr .i64 (v9+1),c,()))|none =>none)|none =>none else some (.inr (.inl (c,())))
def zaha:((List Charge)×Int×Int×Circ×Unit)→Option (((List Charge)×Int×Int×Circ×Unit)⊕((Unit)⊕(Bool×Unit))):=fun (v,v12,v13,c,_)=>
 bif decide (v13<v12) then match getI v v13 with|some x =>(match qca x.Patron c with|some r14 =>bif !r14 then some (.inr (.inr (false,()))) else some (.inl (v,v12,wr .i64 (v13+1),c,()))|none =>none)|none =>none else some (.inr (.inl (())))
def qg (c:Circ):Option Bool:=
 match zah zaxa (c.Loans,(c.Loans.length:Int),0,c,()) with|some (.inl (c7,_)) =>(match zah zaxb (c7.Holds,(c7.Holds.length:Int),0,c7,()) with|some (.inl (c11,_)) =>(match zah zaha (c11.Charges,(c11.Charges.length:Int),0,c11,()) with|some (.inl (_)) =>some true|some (.inr (v,_)) =>some v|none =>none)|some (.inr (v15,_)) =>some v15|none =>none)|some (.inr (v16,_)) =>some v16|none =>none
def qaq (item:Int):Option (Int×Unit):=
 some (item,())
def qcc (n:Loan) (v:Int):Option Bool:=
 some (n.Item==v)
def zapi {γ0:Type} (p:γ0→Loan→Option Bool):((List Loan)×γ0×Int×Int×Unit)→Option (((List Loan)×γ0×Int×Int×Unit)⊕((Unit)⊕(Int×Unit))):=fun (s,g,v,v1,_)=>
 bif decide (v1<v) then match getI s v1 with|some x =>(match p g x with|some r =>bif r then some (.inr (.inr (v1,()))) else some (.inl (s,g,v,wr .i64 (v1+1),()))|none =>none)|none =>none else some (.inr (.inl (())))
def qk {γ0:Type} (p:γ0→Loan→Option Bool) (s:List Loan) (g:γ0):Option Int:=
 match zah (zapi p) (s,g,(s.length:Int),0,()) with|some (.inl (_)) =>some (-1)|some (.inr (v,_)) =>some v|none =>none
def qb1 {γ0:Type} (p:γ0→Loan→Option Bool) (l:List Loan) (g:γ0):Option (Loan×Int):=
 match qk p l g with|some r1 =>(bif decide (r1<0) then some ((⟨0,0,0,0,0,false⟩:Loan),(-1)) else match getI l r1 with|some x =>some (x,r1)|none =>none)|none =>none
def qb4 (l:List Loan) (item:Int):Option (Loan×Bool):=
 match qaq item with|some r1 =>(match qb1 (fun g x0=>qcc x0 g.2.1) l ((),(r1.1,())) with|some (r3,r4) =>some (r3,decide (0≤r4))|none =>none)|none =>none
def zag2:((List Item)×Int×Int×Circ×Unit)→Option (((List Item)×Int×Int×Circ×Unit)⊕((Unit)⊕(Bool×Unit))):=fun (v,v1,v2,c,_)=>
 bif decide (v2<v1) then match getI v v2 with|some x =>(match qb4 c.Loans x.ID with|some (r3,r4) =>let k10 (v5:Bool):Option (((List Item)×Int×Int×Circ×Unit)⊕((Unit)⊕(Bool×Unit))):=let k9 (v6:Bool):Option (((List Item)×Int×Int×Circ×Unit)⊕((Unit)⊕(Bool×Unit))):=let k (v8:Bool):Option (((List Item)×Int×Int×Circ×Unit)⊕((Unit)⊕(Bool×Unit))):=bif v8 then some (.inr (.inr (false,()))) else some (.inl (v,v1,wr .i64 (v2+1),c,()));bif !(r4==v6) then k true else bif r4 then k (!(r3.Patron==x.Custody.Who)) else k false;bif v5 then k9 true else k9 (x.Custody.State==10);bif x.Custody.State==4 then k10 true else k10 (x.Custody.State==9)|none =>none)|none =>none else some (.inr (.inl (())))
def qbq (c:Circ):Option Bool:=
 match zah zag2 (c.Items,(c.Items.length:Int),0,c,()) with|some (.inl (_)) =>some true|some (.inr (v,_)) =>some v|none =>none
def qcz (h:Hold) (v:Int):Option Bool:=
 some (h.Got==v)
def zjh {γ0:Type} (p:γ0→Hold→Option Bool):((List Hold)×γ0×Int×Int×Unit)→Option (((List Hold)×γ0×Int×Int×Unit)⊕((Unit)⊕(Int×Unit))):=fun (s,g,v,v1,_)=>
 bif decide (v1<v) then match getI s v1 with|some x =>(match p g x with|some r =>bif r then some (.inr (.inr (v1,()))) else some (.inl (s,g,v,wr .i64 (v1+1),()))|none =>none)|none =>none else some (.inr (.inl (())))
def qb {γ0:Type} (p:γ0→Hold→Option Bool) (s:List Hold) (g:γ0):Option Int:=
 match zah (zjh p) (s,g,(s.length:Int),0,()) with|some (.inl (_)) =>some (-1)|some (.inr (v,_)) =>some v|none =>none
def qan (c:Circ) (item:Int):Option (Hold×Bool):=
 match qb (fun g x0=>qcz x0 g.2.1) c.Holds ((),(item,())) with|some r1 =>(bif decide (r1<0) then some ((⟨0,0,0,0,0,0,0,0,0,0,0⟩:Hold),false) else match getI c.Holds r1 with|some x =>some (x,true)|none =>none)|none =>none
def zagj:((List Hold)×Int×Int×Circ×Unit)→Option (((List Hold)×Int×Int×Circ×Unit)⊕((Circ×Unit)⊕(Bool×Unit))):=fun (v,v1,v2,c,_)=>
 bif decide (v2<v1) then match getI v v2 with|some x =>(bif x.State==1 then some (.inl (v,v1,wr .i64 (v2+1),c,())) else match qc c x.Got with|some r3 =>(let k9 (v5:Bool):Option (((List Hold)×Int×Int×Circ×Unit)⊕((Circ×Unit)⊕(Bool×Unit))):=bif v5 then some (.inr (.inr (false,()))) else match getI c.Items r3 with|some x6 =>let k (want:Int) (want7:Int) (want8:Int):Option (((List Hold)×Int×Int×Circ×Unit)⊕((Circ×Unit)⊕(Bool×Unit))):=bif !(zbs x6.Custody (⟨want,want7,x.Patron,want8⟩:Custody)) then some (.inr (.inr (false,()))) else some (.inl (v,v1,wr .i64 (v2+1),c,()));bif x.State==2 then k 6 x6.Custody.Branch x.Pickup else k 5 x.Pickup 0|none =>none;bif decide (r3<0) then k9 true else match getI c.Items r3 with|some x4 =>k9 (!(x4.Record==x.Record))|none =>none)|none =>none)|none =>none else some (.inr (.inl (c,())))
def z4w:((List Item)×Int×Int×Circ×Unit)→Option (((List Item)×Int×Int×Circ×Unit)⊕((Unit)⊕(Bool×Unit))):=fun (v,v11,v12,c,_)=>
 bif decide (v12<v11) then match getI v v12 with|some x =>(match qan c x.ID with|some (r13,r14) =>let k (v16:Bool):Option (((List Item)×Int×Int×Circ×Unit)⊕((Unit)⊕(Bool×Unit))):=bif v16 then some (.inr (.inr (false,()))) else some (.inl (v,v11,wr .i64 (v12+1),c,()));bif x.Custody.State==5 then bif !r14 then k true else k (!(r13.State==3)) else k false|none =>none)|none =>none else some (.inr (.inl (())))
def qac (c:Circ):Option Bool:=
 match zah zagj (c.Holds,(c.Holds.length:Int),0,c,()) with|some (.inl (c10,_)) =>(match zah z4w (c10.Items,(c10.Items.length:Int),0,c10,()) with|some (.inl (_)) =>some true|some (.inr (v,_)) =>some v|none =>none)|some (.inr (v17,_)) =>some v17|none =>none
def qfh (c:Circ):Option Bool:=
 match qbc c.Today 0 109572 with|some r1 =>let k19 (v:Bool):Option Bool:=let k18 (v6:Bool):Option Bool:=let k17 (v9:Bool):Option Bool:=let k16 (v12:Bool):Option Bool:=let k (v15:Bool):Option Bool:=some v15;bif v12 then match qac c with|some r14 =>k r14|none =>none else k false;bif v9 then match qbq c with|some r11 =>k16 r11|none =>none else k16 false;bif v6 then match qg c with|some r8 =>k17 r8|none =>none else k17 false;bif v then match qq c with|some r5 =>k18 r5|none =>none else k18 false;bif r1 then match qf c with|some r3 =>k19 r3|none =>none else k19 false|none =>none
def q9 (c:Circ) (x:Item):Option (Circ×Int):=
 match qc c x.ID with|some r1 =>(bif decide (0≤r1) then some ((⟨0,[],[],[],[],[],[],⟨⟨0,[]⟩,⟨0,[]⟩,⟨0,[]⟩,⟨0,[]⟩⟩,[],0,0,false⟩:Circ),7) else bif decide (64≤(c.Items.length:Int)) then some ((⟨0,[],[],[],[],[],[],⟨⟨0,[]⟩,⟨0,[]⟩,⟨0,[]⟩,⟨0,[]⟩⟩,[],0,0,false⟩:Circ),13) else match qcy x.Branch with|some r3 =>(match qa (fun g x0=>qcx x0 g.2.1) c.Items ((),(x,())) with|some r5 =>let k (i:Int):Option (Circ×Int):=match qcl c.Items with|some l =>(match qdw l i ([(⟨x.ID,x.Record,x.Branch,x.Kind,x.Price,x.Call,r3⟩:Item)]) with|some l8 =>(match qfh (⟨c.Today,l8,c.Patrons,c.Loans,c.Holds,c.Charges,c.Rules,c.Cals,c.Moves,c.NextHold,c.NextCharge,c.Local⟩:Circ) with|some r10 =>bif !r10 then some ((⟨0,[],[],[],[],[],[],⟨⟨0,[]⟩,⟨0,[]⟩,⟨0,[]⟩,⟨0,[]⟩⟩,[],0,0,false⟩:Circ),1) else some ((⟨c.Today,l8,c.Patrons,c.Loans,c.Holds,c.Charges,c.Rules,c.Cals,c.Moves,c.NextHold,c.NextCharge,c.Local⟩:Circ),0)|none =>none)|none =>none)|none =>none;bif decide (r5<0) then k (c.Items.length:Int) else k r5|none =>none)|none =>none)|none =>none
def qc9 (x:Patron) (v:Patron):Option Bool:=
 some (decide (v.ID<x.ID))
def qdu (s:List Patron):Option (List Patron):=
 bif decide (([]:List Patron).length+s.length≤LIM) then some (([])++s) else none
def qdz (l:List Patron):Option ((List Patron)×Int):=
 match qaj l with|some r1 =>bif !(r1==0) then some ([],r1) else some (l,0)|none =>none
def qbz (l:List Patron) (p:Patron):Option ((List Patron)×Int):=
 match qa2 l p.ID with|some r1 =>(bif decide (0≤r1) then some ([],7) else match qm (fun g x0=>qc9 x0 g.2.1) l ((),(p,())) with|some r3 =>let k (i:Int):Option ((List Patron)×Int):=match qdu l with|some l5 =>(match qdt l5 i ([p]) with|some l7 =>(match qdz l7 with|some (r9,r10) =>some (r9,r10)|none =>none)|none =>none)|none =>none;bif decide (r3<0) then k (l.length:Int) else k r3|none =>none)|none =>none
def qdk (c:Circ) (p:Patron):Option (Circ×Int):=
 match qbz c.Patrons p with|some (r1,r2) =>bif !(r2==0) then some ((⟨0,[],[],[],[],[],[],⟨⟨0,[]⟩,⟨0,[]⟩,⟨0,[]⟩,⟨0,[]⟩⟩,[],0,0,false⟩:Circ),r2) else some ((⟨c.Today,c.Items,r1,c.Loans,c.Holds,c.Charges,c.Rules,c.Cals,c.Moves,c.NextHold,c.NextCharge,c.Local⟩:Circ),0)|none =>none
def qda:Option Circ:=
 match qag 100 with|some r1 =>(match q9 (⟨r1.Today,r1.Items,r1.Patrons,r1.Loans,r1.Holds,r1.Charges,[(⟨0,0,0,14,1,10,0,500,2,5,7,0,0⟩:Rule)],r1.Cals,r1.Moves,r1.NextHold,r1.NextCharge,r1.Local⟩:Circ) (⟨1,5,1,1,2000,[],⟨0,0,0,0⟩⟩:Item) with|some (r3,r4) =>(match qdk r3 (⟨7,1,1,5000,false,[65,110,110]⟩:Patron) with|some (r6,r7) =>(match qdk r6 (⟨8,1,1,5000,false,[66,111,98]⟩:Patron) with|some (r9,r10) =>some r9|none =>none)|none =>none)|none =>none)|none =>none
def qci (c:Circ):Option Circ_desk:=
 some (⟨c,0⟩:Circ_desk)
def qu (e:Int) (d:Circ_desk):Option (Unit×Circ_desk):=
 let k (v:Int):Option (Unit×Circ_desk):=some ((),(⟨d.c,v⟩:Circ_desk));bif d.err==0 then k e else k d.err
def qcv (vid:Int) (d:Circ_desk):Option (Int×Circ_desk):=
 match qc d.c vid with|some r1 =>let k (v3:Circ_desk):Option (Int×Circ_desk):=some (r1,v3);bif decide (r1<0) then match qu 9 d with|some (_,v) =>k v|none =>none else k d|none =>none
def qdh (s:List Move):Option (List Move):=
 bif decide (([]:List Move).length+s.length≤LIM) then some (([])++s) else none
def qa8 (i:Int) (kind:Int) (branch:Int) (who:Int) (d:Circ_desk):Option (Unit×Circ_desk):=
 bif !(d.err==0) then some ((),d) else match getI d.c.Items i with|some x =>(match getI d.c.Items i with|some x1 =>(match qd1 x1.Custody (⟨d.c.Today,x.ID,kind,branch,who⟩:Move) with|some (r2,r3) =>let k10 (v:Bool):Option (Unit×Circ_desk):=let k (e:Int):Option (Unit×Circ_desk):=bif !(e==0) then match qu e d with|some (_,v5) =>some ((),v5)|none =>none else match qcl d.c.Items with|some l =>(match getI l i with|some _ =>(match l[i.toNat]? with|some x7 =>(match qdh d.c.Moves with|some l9 =>bif decide (l9.length+([(⟨d.c.Today,x.ID,kind,branch,who⟩:Move)]:List Move).length≤LIM) then some ((),(⟨⟨d.c.Today,l.set i.toNat (⟨x7.ID,x7.Record,x7.Branch,x7.Kind,x7.Price,x7.Call,r2⟩:Item),d.c.Patrons,d.c.Loans,d.c.Holds,d.c.Charges,d.c.Rules,d.c.Cals,l9++([(⟨d.c.Today,x.ID,kind,branch,who⟩:Move)]:List Move),d.c.NextHold,d.c.NextCharge,d.c.Local⟩,d.err⟩:Circ_desk)) else none|none =>none)|none =>none)|none =>none)|none =>none;bif v then k 13 else k r3;bif r3==0 then k10 (decide (2000≤(d.c.Moves.length:Int))) else k10 false|none =>none)|none =>none)|none =>none
def qb3 (a:Hold) (b:Hold):Option Int:=
 some (wr .i64 (b.Rank-a.Rank))
def zaxk {γ0:Type} (p:γ0→Hold→Hold→Option Int):(Int×Int×γ0×Int×Int×(List Hold)×Unit)→Option ((Int×Int×γ0×Int×Int×(List Hold)×Unit)⊕((Int×Int×γ0×Int×(List Hold)×Unit))):=fun (a,b,g,i,j,l,_)=>
 let k (v:Bool):Option ((Int×Int×γ0×Int×Int×(List Hold)×Unit)⊕((Int×Int×γ0×Int×(List Hold)×Unit))):=bif v then match getI l (wr .i64 (j-1)) with|some _ =>(match l[(wr .i64 (j-1)).toNat]? with|some x2 =>(match getI l j with|some _ =>(match l[j.toNat]? with|some x3 =>(match getI l j with|some _ =>(match l[j.toNat]? with|some x4 =>(match getI (l.set j.toNat x2) (wr .i64 (j-1)) with|some _ =>(match (l.set j.toNat x2)[(wr .i64 (j-1)).toNat]? with|some x5 =>some (.inl (a,b,g,i,wr .i64 (j-1),(l.set j.toNat x2).set (wr .i64 (j-1)).toNat x3,()))|none =>none)|none =>none)|none =>none)|none =>none)|none =>none)|none =>none)|none =>none)|none =>none else some (.inr ((a,b,g,i,l,())));bif decide (a<j) then match getI l j with|some _ =>(match l[j.toNat]? with|some x =>(match getI l (wr .i64 (j-1)) with|some _ =>(match l[(wr .i64 (j-1)).toNat]? with|some x1 =>(match p g x x1 with|some r =>k (decide (r<0))|none =>none)|none =>none)|none =>none)|none =>none)|none =>none else k false
def zaxj {γ0:Type} (p:γ0→Hold→Hold→Option Int):(Int×Int×γ0×Int×(List Hold)×Unit)→Option ((Int×Int×γ0×Int×(List Hold)×Unit)⊕(((List Hold)×Unit))):=fun (a,b,g,i,l,_)=>
 bif decide (i<b) then match zah (zaxk p) (a,b,g,i,i,l,()) with|some ((a6,b7,g8,i9,l10,_)) =>some (.inl (a6,b7,g8,wr .i64 (i9+1),l10,()))|none =>none else some (.inr ((l,())))
def qp {γ0:Type} (p:γ0→Hold→Hold→Option Int) (data:List Hold) (a:Int) (b:Int) (g:γ0):Option (List Hold):=
 match zah (zaxj p) (a,b,g,wr .i64 (a+1),data,()) with|some ((l,_)) =>some l|none =>none
def zaxg {γ0:Type} (p:γ0→Hold→Hold→Option Int):(Int×γ0×Int×Int×Int×(List Hold)×Unit)→Option ((Int×γ0×Int×Int×Int×(List Hold)×Unit)⊕((Int×γ0×Int×Int×(List Hold)×Unit))):=fun (n,g,blockSize,a,b,l,_)=>
 bif decide (b≤n) then match qp p l a b g with|some l1 =>some (.inl (n,g,blockSize,b,wr .i64 (b+blockSize),l1,()))|none =>none else some (.inr ((n,g,blockSize,a,l,())))
def zaxi {γ0:Type} (p:γ0→Hold→Hold→Option Int):(Int×γ0×Int×Int×Int×(List Hold)×Unit)→Option ((Int×γ0×Int×Int×Int×(List Hold)×Unit)⊕((Int×γ0×Int×Int×(List Hold)×Unit))):=fun (n,g,blockSize,a,b,l,_)=>
 bif decide (b≤n) then match qc2 p l a (wr .i64 (a+blockSize)) b g with|some l5 =>some (.inl (n,g,blockSize,b,wr .i64 (b+(wr .i64 (2*blockSize))),l5,()))|none =>none else some (.inr ((n,g,blockSize,a,l,())))
def zaxh {γ0:Type} (p:γ0→Hold→Hold→Option Int):(Int×γ0×Int×(List Hold)×Unit)→Option ((Int×γ0×Int×(List Hold)×Unit)⊕(((List Hold)×Unit))):=fun (n,g,blockSize,l,_)=>
 bif decide (blockSize<n) then match zah (zaxi p) (n,g,blockSize,0,wr .i64 (2*blockSize),l,()) with|some ((n6,g7,blockSize8,a,l9,_)) =>let k (l11:List Hold):Option ((Int×γ0×Int×(List Hold)×Unit)⊕(((List Hold)×Unit))):=some (.inl (n6,g7,wr .i64 (blockSize8*2),l11,()));bif decide (wr .i64 (a+blockSize8)<n6) then match qc2 p l9 a (wr .i64 (a+blockSize8)) n6 g7 with|some l10 =>k l10|none =>none else k l9|none =>none else some (.inr ((l,())))
def qn {γ0:Type} (p:γ0→Hold→Hold→Option Int) (data:List Hold) (n:Int) (g:γ0):Option (List Hold):=
 match zah (zaxg p) (n,g,20,0,20,data,()) with|some ((n2,g3,blockSize,a,l,_)) =>(match qp p l a n2 g3 with|some l4 =>(match zah (zaxh p) (n2,g3,blockSize,l4,()) with|some ((l12,_)) =>some l12|none =>none)|none =>none)|none =>none
def qds {γ0:Type} (p:γ0→Hold→Hold→Option Int) (x:List Hold) (g:γ0):Option (List Hold):=
 match qn p x (x.length:Int) g with|some l =>some l|none =>none
def zaxd:(Int×Int×(List Hold)×Int×Int×(List Hold)×Unit)→Option ((Int×Int×(List Hold)×Int×Int×(List Hold)×Unit)⊕(((List Hold)×Unit))):=fun (record,day,v,v1,v2,l,_)=>
 bif decide (v2<v1) then match getI v v2 with|some x =>let k5 (v3:Bool):Option ((Int×Int×(List Hold)×Int×Int×(List Hold)×Unit)⊕(((List Hold)×Unit))):=let k (v4:Bool):Option ((Int×Int×(List Hold)×Int×Int×(List Hold)×Unit)⊕(((List Hold)×Unit))):=bif v4 then bif decide (l.length+([x]:List Hold).length≤LIM) then some (.inl (record,day,v,v1,wr .i64 (v2+1),l++([x]:List Hold),())) else none else some (.inl (record,day,v,v1,wr .i64 (v2+1),l,()));bif v3 then k (decide (x.Asleep≤day)) else k false;bif x.Record==record then k5 (x.State==1) else k5 false|none =>none else some (.inr ((l,())))
def qj (l:List Hold) (record:Int) (day:Int):Option (List Hold):=
 match zah zaxd (record,day,l,(l.length:Int),0,([]:List Hold),()) with|some ((l6,_)) =>(match qds (fun g x0 x1=>qb3 x0 x1) l6 ((),()) with|some l7 =>some l7|none =>none)|none =>none
def zag0:(Int×Bool×Int×(List Hold)×Int×Int×Item×Unit)→Option ((Int×Bool×Int×(List Hold)×Int×Int×Item×Unit)⊕((Int×Unit)⊕(Int×Unit))):=fun (branch,vlocal,first,v,v2,v3,x,_)=>
 bif decide (v3<v2) then match getI v v3 with|some x4 =>let k9 (v5:Bool):Option ((Int×Bool×Int×(List Hold)×Int×Int×Item×Unit)⊕((Int×Unit)⊕(Int×Unit))):=bif v5 then some (.inl (branch,vlocal,first,v,v2,wr .i64 (v3+1),x,())) else let k8 (v6:Bool):Option ((Int×Bool×Int×(List Hold)×Int×Int×Item×Unit)⊕((Int×Unit)⊕(Int×Unit))):=bif v6 then some (.inr (.inr (x4.ID,()))) else let k (first7:Int):Option ((Int×Bool×Int×(List Hold)×Int×Int×Item×Unit)⊕((Int×Unit)⊕(Int×Unit))):=some (.inl (branch,vlocal,first7,v,v2,wr .i64 (v3+1),x,()));bif first==0 then k x4.ID else k first;bif !vlocal then k8 true else k8 (x4.Pickup==branch);bif !(x4.Item==0) then k9 (!(x4.Item==x.ID)) else k9 false|none =>none else some (.inr (.inl (first,())))
def qbg (l:List Hold) (x:Item) (branch:Int) (day:Int) (vlocal:Bool):Option Int:=
 match qj l x.Record day with|some r1 =>(match zah zag0 (branch,vlocal,0,r1,(r1.length:Int),0,x,()) with|some (.inl (first,_)) =>some first|some (.inr (v,_)) =>some v|none =>none)|none =>none
def qel (c:Circ) (x:Item):Option Int:=
 match qbg c.Holds x x.Custody.Branch c.Today c.Local with|some r1 =>some r1|none =>none
def qd4 (h:Hold) (v:Int):Option Bool:=
 some (h.ID==v)
def qbf (l:List Hold) (vid:Int):Option Int:=
 match qb (fun g x0=>qd4 x0 g.2.1) l ((),(vid,())) with|some r1 =>some r1|none =>none
def qep (l:List Hold) (vid:Int):Option (Hold×Bool):=
 match qbf l vid with|some r1 =>bif decide (0≤r1) then match getI l r1 with|some x =>some (x,true)|none =>none else some ((⟨0,0,0,0,0,0,0,0,0,0,0⟩:Hold),false)|none =>none
def qcw (i:Int) (kind:Int) (d:Circ_desk):Option (Unit×Circ_desk):=
 let k (v1:Circ_desk):Option (Unit×Circ_desk):=some ((),v1);bif d.err==0 then match getI d.c.Items i with|some x =>(match qa8 i kind x.Custody.Branch 0 d with|some (_,v) =>k v|none =>none)|none =>none else k d
def qef (key:Int) (n:Int):Option Bool:=
 let k (v:Bool):Option Bool:=some v;bif key==0 then k true else k (key==n)
def qb5 (r:Rule) (patron:Int) (item:Int) (branch:Int):Option Bool:=
 match qef r.Patron patron with|some r2 =>let k8 (v:Bool):Option Bool:=let k (v7:Bool):Option Bool:=some v7;bif v then match qef r.Branch branch with|some r6 =>k r6|none =>none else k false;bif r2 then match qef r.Item item with|some r4 =>k8 r4|none =>none else k8 false|none =>none
def zagi:(Int×Int×Int×(List Int)×Unit)→Option ((Int×Int×Int×(List Int)×Unit)⊕((Int×Unit))):=fun (n,v,v1,l,_)=>
 bif decide (v1<v) then match getI l v1 with|some _ =>(match l[v1.toNat]? with|some x =>let k (n2:Int):Option ((Int×Int×Int×(List Int)×Unit)⊕((Int×Unit))):=some (.inl (n2,v,wr .i64 (v1+1),l,()));bif !(x==0) then k (wr .i64 ((wr .i64 (n*2))+1)) else k (wr .i64 (n*2))|none =>none)|none =>none else some (.inr ((n,())))
def qa9 (r:Rule):Option Int:=
 match zah zagi (0,(([r.Patron,r.Item,r.Branch]).length:Int),0,[r.Patron,r.Item,r.Branch],()) with|some ((n,_)) =>some n|none =>none
def zagf:((List Rule)×Int×Int×Int×Int×(List Rule)×Int×Int×Unit)→Option (((List Rule)×Int×Int×Int×Int×(List Rule)×Int×Int×Unit)⊕((Int×Unit))):=fun (l,patron,item,branch,vat,v,v1,v2,_)=>
 bif decide (v2<v1) then match getI v v2 with|some x =>(match qb5 x patron item branch with|some r3 =>let k12 (v10:Bool):Option (((List Rule)×Int×Int×Int×Int×(List Rule)×Int×Int×Unit)⊕((Int×Unit))):=let k (vat11:Int):Option (((List Rule)×Int×Int×Int×Int×(List Rule)×Int×Int×Unit)⊕((Int×Unit))):=some (.inl (l,patron,item,branch,vat11,v,v1,wr .i64 (v2+1),()));bif v10 then k v2 else k vat;bif r3 then bif decide (vat<0) then k12 true else match qa9 x with|some r5 =>(match getI l vat with|some x6 =>(match qa9 x6 with|some r8 =>k12 (decide (r8<r5))|none =>none)|none =>none)|none =>none else k12 false|none =>none)|none =>none else some (.inr ((vat,())))
def qa3 (l:List Rule) (patron:Int) (item:Int) (branch:Int):Option Int:=
 match zah zagf (l,patron,item,branch,(-1),l,(l.length:Int),0,()) with|some ((vat,_)) =>some vat|none =>none
def qd3 (l:List Rule) (patron:Int) (item:Int) (branch:Int):Option (Rule×Bool):=
 match qa3 l patron item branch with|some r1 =>(bif decide (r1<0) then some ((⟨0,0,0,0,0,0,0,0,0,0,0,0,0⟩:Rule),false) else match getI l r1 with|some x =>some (x,true)|none =>none)|none =>none
def qc0 (c:Circ) (vid:Int) (x:Item):Option (Rule×Bool):=
 match qcq c.Patrons vid with|some (r1,r2) =>(bif !r2 then some ((⟨0,0,0,0,0,0,0,0,0,0,0,0,0⟩:Rule),false) else match qd3 c.Rules r1.Kind x.Kind x.Branch with|some (r4,r5) =>some (r4,r5)|none =>none)|none =>none
def qc1 (c:Circ) (branch:Int):Option Calendar:=
 match qbc branch 1 4 with|some r1 =>bif !r1 then some (⟨0,[]⟩:Calendar) else let k (v:Int) (v2:List Int):Option Calendar:=some (⟨v,v2⟩:Calendar);bif (wr .i64 (branch-1))==0 then k c.Cals.x0.Week c.Cals.x0.Closed else bif (wr .i64 (branch-1))==1 then k c.Cals.x1.Week c.Cals.x1.Closed else bif (wr .i64 (branch-1))==2 then k c.Cals.x2.Week c.Cals.x2.Closed else bif (wr .i64 (branch-1))==3 then k c.Cals.x3.Week c.Cals.x3.Closed else none|none =>none
def qdm (x:Int):Option Bool:=
 some (!(x==x))
def qey (x:Int) (y:Int):Option Bool:=
 match qdm x with|some r1 =>let k5 (v:Bool):Option Bool:=let k (v4:Bool):Option Bool:=some v4;bif v then k true else k (decide (x<y));bif r1 then match qdm y with|some r3 =>k5 (!r3)|none =>none else k5 false|none =>none
def qec (x:Int):Option Bool:=
 some (!(x==x))
def zags:((List Int)×Int×Int×Int×Int×Unit)→Option (((List Int)×Int×Int×Int×Int×Unit)⊕(((List Int)×Int×Int×Int×Unit))):=fun (x,target,n,i,j,_)=>
 bif decide (i<j) then match getI x (wr .i64 ((wr .u64 (wr .i64 (i+j))).fdiv (2 ^ 1))) with|some x1 =>(match qey x1 target with|some r2 =>let k (i3:Int) (j4:Int):Option (((List Int)×Int×Int×Int×Int×Unit)⊕(((List Int)×Int×Int×Int×Unit))):=some (.inl (x,target,n,i3,j4,()));bif r2 then k (wr .i64 ((wr .i64 ((wr .u64 (wr .i64 (i+j))).fdiv (2 ^ 1)))+1)) j else k i (wr .i64 ((wr .u64 (wr .i64 (i+j))).fdiv (2 ^ 1)))|none =>none)|none =>none else some (.inr ((x,target,n,i,())))
def qas (x:List Int) (target:Int):Option (Int×Bool):=
 match zah zags (x,target,(x.length:Int),0,(x.length:Int),()) with|some ((x5,target6,n,i,_)) =>let k (v13:Bool):Option (Int×Bool):=some (i,v13);bif decide (i<n) then match getI x5 i with|some x7 =>(bif x7==target6 then k true else match getI x5 i with|some x8 =>(match qec x8 with|some r9 =>bif r9 then match qec target6 with|some r11 =>k r11|none =>none else k false|none =>none)|none =>none)|none =>none else k false|none =>none
def zagr:(Int×Calendar×(V7 Bool)×(V7 Bool)×Unit)→Option ((Int×Calendar×(V7 Bool)×(V7 Bool)×Unit)⊕(((V7 Bool)×(V7 Bool)×Unit))):=fun (v,c,v1,vopen,_)=>
 bif decide (v<7) then bif decide (v<0) then none else bif v==0 then some (.inl (wr .i64 (v+1),c,v1,(⟨(wr .i64 (BitVec.ofInt 64 (c.Week.fdiv (2 ^ (min v.toNat 64))) &&& BitVec.ofInt 64 1).toNat)==0,vopen.x1,vopen.x2,vopen.x3,vopen.x4,vopen.x5,vopen.x6⟩:V7 Bool),())) else bif v==1 then some (.inl (wr .i64 (v+1),c,v1,(⟨vopen.x0,(wr .i64 (BitVec.ofInt 64 (c.Week.fdiv (2 ^ (min v.toNat 64))) &&& BitVec.ofInt 64 1).toNat)==0,vopen.x2,vopen.x3,vopen.x4,vopen.x5,vopen.x6⟩:V7 Bool),())) else bif v==2 then some (.inl (wr .i64 (v+1),c,v1,(⟨vopen.x0,vopen.x1,(wr .i64 (BitVec.ofInt 64 (c.Week.fdiv (2 ^ (min v.toNat 64))) &&& BitVec.ofInt 64 1).toNat)==0,vopen.x3,vopen.x4,vopen.x5,vopen.x6⟩:V7 Bool),())) else bif v==3 then some (.inl (wr .i64 (v+1),c,v1,(⟨vopen.x0,vopen.x1,vopen.x2,(wr .i64 (BitVec.ofInt 64 (c.Week.fdiv (2 ^ (min v.toNat 64))) &&& BitVec.ofInt 64 1).toNat)==0,vopen.x4,vopen.x5,vopen.x6⟩:V7 Bool),())) else bif v==4 then some (.inl (wr .i64 (v+1),c,v1,(⟨vopen.x0,vopen.x1,vopen.x2,vopen.x3,(wr .i64 (BitVec.ofInt 64 (c.Week.fdiv (2 ^ (min v.toNat 64))) &&& BitVec.ofInt 64 1).toNat)==0,vopen.x5,vopen.x6⟩:V7 Bool),())) else bif v==5 then some (.inl (wr .i64 (v+1),c,v1,(⟨vopen.x0,vopen.x1,vopen.x2,vopen.x3,vopen.x4,(wr .i64 (BitVec.ofInt 64 (c.Week.fdiv (2 ^ (min v.toNat 64))) &&& BitVec.ofInt 64 1).toNat)==0,vopen.x6⟩:V7 Bool),())) else bif v==6 then some (.inl (wr .i64 (v+1),c,v1,(⟨vopen.x0,vopen.x1,vopen.x2,vopen.x3,vopen.x4,vopen.x5,(wr .i64 (BitVec.ofInt 64 (c.Week.fdiv (2 ^ (min v.toNat 64))) &&& BitVec.ofInt 64 1).toNat)==0⟩:V7 Bool),())) else none else some (.inr ((v1,vopen,())))
def qar (c:Calendar):Option (V7 Bool):=
 match zah zagr (0,c,(⟨false,false,false,false,false,false,false⟩:V7 Bool),(⟨false,false,false,false,false,false,false⟩:V7 Bool),()) with|some ((v,vopen,_)) =>some vopen|none =>none
def qfg (day:Int):Option Bool:=
 let k (v:Bool):Option Bool:=some v;bif decide (0≤day) then k (decide (day≤109572)) else k false
def qdb (day:Int):Option Int:=
 match qfg day with|some r1 =>bif !r1 then some (-1) else some (day.tmod 7)|none =>none
def qce (c:Calendar) (day:Int):Option Bool:=
 match qc6 day with|some r1 =>(bif !r1 then some false else match qas c.Closed day with|some (r3,r4) =>let k (v9:Bool):Option Bool:=some v9;bif !r4 then match qar c with|some r6 =>(match qdb day with|some r8 =>bif r8==0 then k r6.x0 else bif r8==1 then k r6.x1 else bif r8==2 then k r6.x2 else bif r8==3 then k r6.x3 else bif r8==4 then k r6.x4 else bif r8==5 then k r6.x5 else bif r8==6 then k r6.x6 else none|none =>none)|none =>none else k false|none =>none)|none =>none
def zaxo:(Int×Calendar×Unit)→Option ((Int×Calendar×Unit)⊕((Unit)⊕(Int×Int×Unit))):=fun (d,c,_)=>
 bif decide (d≤109572) then match qce c d with|some r1 =>bif r1 then some (.inr (.inr (d,0,()))) else some (.inl (wr .i64 (d+1),c,()))|none =>none else some (.inr (.inl (())))
def qw (c:Calendar) (day:Int):Option (Int×Int):=
 match zah zaxo ((if day<0 then 0 else day),c,()) with|some (.inl (_)) =>some (0,2)|some (.inr (v,v2,_)) =>some (v,v2)|none =>none
def zage:(Int×Int×Int×Calendar×Unit)→Option ((Int×Int×Int×Calendar×Unit)⊕((Int×Unit)⊕(Int×Int×Unit))):=fun (d,v,v5,c,_)=>
 bif decide (v5<v) then match qw c (wr .i64 (d+1)) with|some (r6,r7) =>bif !(r7==0) then some (.inr (.inr (0,r7,()))) else some (.inl (r6,v,wr .i64 (v5+1),c,()))|none =>none else some (.inr (.inl (d,())))
def qa1 (c:Calendar) (day:Int) (n:Int):Option (Int×Int):=
 let k (v:Bool):Option (Int×Int):=bif v then some (0,1) else match qc6 day with|some r1 =>(bif !r1 then some (0,2) else bif n==0 then match qw c day with|some (r3,r4) =>some (r3,r4)|none =>none else match zah zage (day,n,0,c,()) with|some (.inl (d,_)) =>some (d,0)|some (.inr (v8,v9,_)) =>some (v8,v9)|none =>none)|none =>none;bif decide (n<0) then k true else k (decide (1000<n))
def qfc (branch:Int) (n:Int) (d:Circ_desk):Option (Int×Circ_desk):=
 match qc1 d.c branch with|some r1 =>(match qa1 r1 d.c.Today n with|some (r3,r4) =>let k (v6:Circ_desk):Option (Int×Circ_desk):=some (r3,v6);bif !(r4==0) then match qu r4 d with|some (_,v) =>k v|none =>none else k d|none =>none)|none =>none
def qco (o:Hold) (v:Int) (v1:Int):Option Bool:=
 let k (v2:Bool):Option Bool:=some v2;bif o.Got==v then k (!(o.ID==v1)) else k false
def qb0 {γ0:Type} (p:γ0→Hold→Option Bool) (s:List Hold) (g:γ0):Option Bool:=
 match qb p s g with|some r1 =>some (decide (0≤r1))|none =>none
def qea (s:List Hold):Option (List Hold):=
 bif decide (([]:List Hold).length+s.length≤LIM) then some (([])++s) else none
def qeo (l:List Hold) (i:Int) (h:Hold):Option (List Hold):=
 match qea l with|some l1 =>(match getI l1 i with|some _ =>(match l1[i.toNat]? with|some x =>some (l1.set i.toNat h)|none =>none)|none =>none)|none =>none
def qav (l:List Hold) (vid:Int) (item:Int) (state:Int) (vuntil:Int):Option ((List Hold)×Int):=
 match qbf l vid with|some r1 =>bif decide (r1<0) then some ([],9) else let k18 (v:Bool):Option ((List Hold)×Int):=match qb6 item 1 9999 with|some r5 =>let k17 (v8:Bool):Option ((List Hold)×Int):=bif v8 then some ([],1) else match getI l r1 with|some x =>let k16 (v11:Bool):Option ((List Hold)×Int):=bif v11 then some ([],12) else match qb0 (fun g x0=>qco x0 g.2.1 g.2.2.1) l ((),(item,vid,())) with|some r13 =>(bif r13 then some ([],7) else match qeo l r1 (⟨x.ID,x.Patron,x.Record,x.Item,x.Pickup,x.Placed,state,item,vuntil,x.Asleep,x.Rank⟩:Hold) with|some r15 =>some (r15,0)|none =>none)|none =>none;bif !(x.State==1) then let k (v9:Bool):Option ((List Hold)×Int):=bif v9 then k16 true else k16 (!(state==3));bif !(x.State==2) then k true else k (!(x.Got==item)) else k16 false|none =>none;bif !r5 then k17 true else bif !v then bif !(state==2) then k17 true else k17 (!(vuntil==0)) else k17 false|none =>none;bif state==3 then match qb6 vuntil 1 109572 with|some r3 =>k18 r3|none =>none else k18 false|none =>none
def qcu (l:List Hold) (e:Int) (d:Circ_desk):Option (Unit×Circ_desk):=
 let k3 (v1:Circ_desk):Option (Unit×Circ_desk):=let k (v2:List Hold):Option (Unit×Circ_desk):=some ((),(⟨⟨v1.c.Today,v1.c.Items,v1.c.Patrons,v1.c.Loans,v2,v1.c.Charges,v1.c.Rules,v1.c.Cals,v1.c.Moves,v1.c.NextHold,v1.c.NextCharge,v1.c.Local⟩,v1.err⟩:Circ_desk));bif v1.err==0 then k l else k v1.c.Holds;bif !(e==0) then match qu e d with|some (_,v) =>k3 v|none =>none else k3 d
def qdj (i:Int) (h:Hold) (d:Circ_desk):Option (Unit×Circ_desk):=
 bif !(d.err==0) then some ((),d) else match getI d.c.Items i with|some x =>(match qc0 d.c h.Patron x with|some (r1,r2) =>let k13 (days:Int):Option (Unit×Circ_desk):=match qa8 i 5 x.Custody.Branch h.Patron d with|some (_,v) =>(match qfc x.Custody.Branch days v with|some (r5,v6) =>let k (v12:Circ_desk):Option (Unit×Circ_desk):=some ((),v12);bif v6.err==0 then match qav v6.c.Holds h.ID x.ID 3 r5 with|some (r8,r9) =>(match qcu r8 r9 v6 with|some (_,v11) =>k v11|none =>none)|none =>none else k v6|none =>none)|none =>none;bif r2 then k13 r1.Shelf else k13 7|none =>none)|none =>none
def qeb (i:Int) (d:Circ_desk):Option (Unit×Circ_desk):=
 bif !(d.err==0) then some ((),d) else match getI d.c.Items i with|some x =>(match qel d.c x with|some r1 =>(match qep d.c.Holds r1 with|some (r3,r4) =>let k25 (v:Bool):Option (Unit×Circ_desk):=let k24 (v23:Circ_desk):Option (Unit×Circ_desk):=some ((),v23);bif v then match qa8 i 6 x.Branch 0 d with|some (_,v6) =>k24 v6|none =>none else let k (v7:Bool):Option (Unit×Circ_desk):=bif v7 then match qcw i 2 d with|some (_,v9) =>k24 v9|none =>none else bif !r4 then k24 d else bif r3.Pickup==x.Custody.Branch then match qdj i r3 d with|some (_,v11) =>k24 v11|none =>none else match qa8 i 6 r3.Pickup r3.Patron d with|some (_,v13) =>bif v13.err==0 then match qav v13.c.Holds r1 x.ID 2 0 with|some (r15,r16) =>(match qcu r15 r16 v13 with|some (_,v18) =>k24 v18|none =>none)|none =>none else k24 v13|none =>none;bif !r4 then k (!(x.Custody.State==3)) else k false;bif !r4 then k25 (!(x.Branch==x.Custody.Branch)) else k25 false|none =>none)|none =>none)|none =>none
def qa0 (d:Circ_desk):Option ((Circ×Int)×Circ_desk):=
 bif !(d.err==0) then some (((⟨0,[],[],[],[],[],[],⟨⟨0,[]⟩,⟨0,[]⟩,⟨0,[]⟩,⟨0,[]⟩⟩,[],0,0,false⟩:Circ),d.err),d) else some ((d.c,0),d)
def qcg (c:Circ) (item:Int) (branch:Int):Option (Circ×Int):=
 match qci c with|some d =>(match qcv item d with|some (r2,v) =>let k (v7:Circ_desk):Option (Circ×Int):=match qa0 v7 with|some ((r9,r10),v11) =>some (r9,r10)|none =>none;bif decide (0≤r2) then match qa8 r2 1 branch 0 v with|some (_,v4) =>(match qeb r2 v4 with|some (_,v6) =>k v6|none =>none)|none =>none else k v|none =>none)|none =>none
def zag1:(Int×Int×(List Charge)×Int×Int×Unit)→Option ((Int×Int×(List Charge)×Int×Int×Unit)⊕((Int×Unit))):=fun (patron,vsum,v,v1,v2,_)=>
 bif decide (v2<v1) then match getI v v2 with|some x =>let k (vsum3:Int):Option ((Int×Int×(List Charge)×Int×Int×Unit)⊕((Int×Unit))):=some (.inl (patron,vsum3,v,v1,wr .i64 (v2+1),()));bif x.Patron==patron then k (wr .i64 (vsum+(wr .i64 (x.Amount-x.Paid)))) else k vsum|none =>none else some (.inr ((vsum,())))
def qbh (l:List Charge) (patron:Int):Option Int:=
 match zah zag1 (patron,0,l,(l.length:Int),0,()) with|some ((vsum,_)) =>some vsum|none =>none
def zagm:(Int×(List Loan)×Int×Int×(List Loan)×Unit)→Option ((Int×(List Loan)×Int×Int×(List Loan)×Unit)⊕(((List Loan)×Unit))):=fun (patron,v,v1,v2,l,_)=>
 bif decide (v2<v1) then match getI v v2 with|some x =>bif x.Patron==patron then bif decide (l.length+([x]:List Loan).length≤LIM) then some (.inl (patron,v,v1,wr .i64 (v2+1),l++([x]:List Loan),())) else none else some (.inl (patron,v,v1,wr .i64 (v2+1),l,()))|none =>none else some (.inr ((l,())))
def qai (l:List Loan) (patron:Int):Option (List Loan):=
 match zah zagm (patron,l,(l.length:Int),0,([]:List Loan),()) with|some ((l3,_)) =>some l3|none =>none
def zagg:(Int×Int×(List Loan)×Int×Int×Unit)→Option ((Int×Int×(List Loan)×Int×Int×Unit)⊕((Int×Unit))):=fun (day,n,v,v2,v3,_)=>
 bif decide (v3<v2) then match getI v v3 with|some x =>let k (n4:Int):Option ((Int×Int×(List Loan)×Int×Int×Unit)⊕((Int×Unit))):=some (.inl (day,n4,v,v2,wr .i64 (v3+1),()));bif decide (x.Due<day) then k (wr .i64 (n+1)) else k n|none =>none else some (.inr ((n,())))
def qa5 (l:List Loan) (patron:Int) (day:Int):Option Int:=
 match qai l patron with|some r1 =>(match zah zagg (day,0,r1,(r1.length:Int),0,()) with|some ((n,_)) =>some n|none =>none)|none =>none
def zagl:(Int×Int×(List Int)×(List Bool)×Unit)→Option ((Int×Int×(List Int)×(List Bool)×Unit)⊕(((List Int)×Unit))):=fun (v,v1,l,l2,_)=>
 bif decide (v1<v) then match getI l2 v1 with|some _ =>(match l2[v1.toNat]? with|some x =>bif x then bif decide (l.length+([wr .i64 (v1+1)]:List Int).length≤LIM) then some (.inl (v,wr .i64 (v1+1),l++([wr .i64 (v1+1)]:List Int),l2,())) else none else some (.inl (v,wr .i64 (v1+1),l,l2,()))|none =>none)|none =>none else some (.inr ((l,())))
def qah (p:Patron) (day:Int) (owed:Int) (late:Int):Option (List Int):=
 match zah zagl ((([p.Stopped,decide (p.Until<day),decide (1000<owed),decide (2<late)]).length:Int),0,([]:List Int),[p.Stopped,decide (p.Until<day),decide (1000<owed),decide (2<late)],()) with|some ((l,_)) =>some l|none =>none
def qfe (c:Circ) (p:Patron):Option Bool:=
 match qbh c.Charges p.ID with|some r1 =>(match qa5 c.Loans p.ID c.Today with|some r3 =>(match qah p c.Today r1 r3 with|some r5 =>some (decide (0<(r5.length:Int)))|none =>none)|none =>none)|none =>none
def zag3:(Int×Calendar×Unit)→Option ((Int×Calendar×Unit)⊕((Unit)⊕(Int×Int×Unit))):=fun (d,c,_)=>
 bif decide (0≤d) then match qce c d with|some r1 =>bif r1 then some (.inr (.inr (d,0,()))) else some (.inl (wr .i64 (d-1),c,()))|none =>none else some (.inr (.inl (())))
def qbr (c:Calendar) (day:Int):Option (Int×Int):=
 match zah zag3 ((if 109572<day then 109572 else day),c,()) with|some (.inl (_)) =>some (0,2)|some (.inr (v,v2,_)) =>some (v,v2)|none =>none
def qd5 (r:Rule) (c:Calendar) (day:Int) (vuntil:Int):Option (Int×Int):=
 match qbx day 0 109572 with|some r2 =>(let k17 (v:Bool):Option (Int×Int):=bif v then some (0,2) else let k16 (last:Int):Option (Int×Int):=let k15 (v5:Bool):Option (Int×Int):=bif v5 then some (0,15) else match qw c (if last<wr .i64 (day+r.Days) then last else wr .i64 (day+r.Days)) with|some (r7,r8) =>let k14 (v9:Bool):Option (Int×Int):=bif v9 then some (r7,0) else match qbr c last with|some (r11,r12) =>let k (v13:Bool):Option (Int×Int):=bif v13 then some (0,15) else some (r11,0);bif !(r12==0) then k true else k (decide (r11≤day))|none =>none;bif r8==0 then k14 (decide (r7≤last)) else k14 false|none =>none;bif r.Days==0 then k15 true else k15 (decide (last≤day));bif decide (0<r.Fixed) then k16 (if r.Fixed<vuntil then r.Fixed else vuntil) else k16 vuntil;bif !r2 then k17 true else match qbx vuntil 0 109572 with|some r4 =>k17 (!r4)|none =>none)|none =>none
def qeh (c:Circ) (x:Item) (p:Patron) (branch:Int):Option (Int×Int):=
 let k26 (v:Bool):Option (Int×Int):=let k4 (v3:Int):Option (Int×Int):=some (0,v3);bif v then k4 12 else bif !(x.Custody.Branch==branch) then k4 1 else let k (v1:Bool):Option (Int×Int):=bif v1 then k4 16 else let k25 (_:Unit):Option (Int×Int):=match qfe c p with|some r12 =>(bif r12 then some (0,14) else match qc0 c p.ID x with|some (r14,r15) =>(let k24 (v18:Bool):Option (Int×Int):=bif v18 then some (0,15) else match qc1 c branch with|some r20 =>(match qd5 r14 r20 c.Today p.Until with|some (r22,r23) =>some (r22,r23)|none =>none)|none =>none;bif !r15 then k24 true else match qai c.Loans p.ID with|some r17 =>k24 (decide (r14.Loans≤(r17.length:Int)))|none =>none)|none =>none)|none =>none;bif x.Custody.State==3 then match qel c x with|some r5 =>(match qep c.Holds r5 with|some (r7,r8) =>let k10 (v9:Bool):Option (Int×Int):=bif v9 then some (0,16) else k25 ();bif r8 then k10 (!(r7.Patron==p.ID)) else k10 false|none =>none)|none =>none else k25 ();bif x.Custody.State==5 then k (!(x.Custody.Who==p.ID)) else k false;bif !(x.Custody.State==3) then k26 (!(x.Custody.State==5)) else k26 false
def qcr (x:Loan) (v:Loan):Option Bool:=
 some (decide (v.Item<x.Item))
def qd9 (s:List Loan):Option (List Loan):=
 bif decide (([]:List Loan).length+s.length≤LIM) then some (([])++s) else none
def qd2 (l:List Loan):Option ((List Loan)×Int):=
 match qal l with|some r1 =>bif !(r1==0) then some ([],r1) else some (l,0)|none =>none
def qbu (l:List Loan) (n:Loan):Option ((List Loan)×Int):=
 match qaq n.Item with|some r1 =>(match qb1 (fun g x0=>qcc x0 g.2.1) l ((),(r1.1,())) with|some (r3,r4) =>(bif decide (0≤r4) then some ([],7) else match qb1 (fun g x0=>qcr x0 g.2.1) l ((),(n,())) with|some (r6,r7) =>let k (i:Int):Option ((List Loan)×Int):=match qd9 l with|some l9 =>(match qdv l9 i ([n]) with|some l11 =>(match qd2 l11 with|some (r13,r14) =>some (r13,r14)|none =>none)|none =>none)|none =>none;bif decide (r7<0) then k (l.length:Int) else k r7|none =>none)|none =>none)|none =>none
def qct (l:List Loan) (e:Int) (d:Circ_desk):Option (Unit×Circ_desk):=
 let k3 (v1:Circ_desk):Option (Unit×Circ_desk):=let k (v2:List Loan):Option (Unit×Circ_desk):=some ((),(⟨⟨v1.c.Today,v1.c.Items,v1.c.Patrons,v2,v1.c.Holds,v1.c.Charges,v1.c.Rules,v1.c.Cals,v1.c.Moves,v1.c.NextHold,v1.c.NextCharge,v1.c.Local⟩,v1.err⟩:Circ_desk));bif v1.err==0 then k l else k v1.c.Loans;bif !(e==0) then match qu e d with|some (_,v) =>k3 v|none =>none else k3 d
def qei (l:List Hold) (vid:Int):Option ((List Hold)×Hold×Int):=
 match qbf l vid with|some r1 =>(bif decide (r1<0) then some ([],(⟨0,0,0,0,0,0,0,0,0,0,0⟩:Hold),9) else match qea l with|some l3 =>(match qdy l3 r1 (wr .i64 (r1+1)) with|some l5 =>(match getI l r1 with|some x =>some (l5,x,0)|none =>none)|none =>none)|none =>none)|none =>none
def qeu (vid:Int) (d:Circ_desk):Option (Unit×Circ_desk):=
 let k (v5:Circ_desk):Option (Unit×Circ_desk):=some ((),v5);bif d.err==0 then match qei d.c.Holds vid with|some (r1,r2,r3) =>(match qcu r1 r3 d with|some (_,v) =>k v|none =>none)|none =>none else k d
def qcd (n:Int) (d:Circ_desk):Option ((Circ×Int×Int)×Circ_desk):=
 bif !(d.err==0) then some (((⟨0,[],[],[],[],[],[],⟨⟨0,[]⟩,⟨0,[]⟩,⟨0,[]⟩,⟨0,[]⟩⟩,[],0,0,false⟩:Circ),0,d.err),d) else some ((d.c,n,0),d)
def qem (h:Hold) (x:Item):Option Bool:=
 let k (v1:Bool):Option Bool:=some v1;bif h.Record==x.Record then bif h.Item==0 then k true else k (h.Item==x.ID) else k false
def qde (h:Hold) (v:Int) (v1:Item):Option Bool:=
 let k5 (v2:Bool):Option Bool:=let k (v4:Bool):Option Bool:=some v4;bif v2 then match qem h v1 with|some r3 =>k r3|none =>none else k false;bif h.Patron==v then k5 (h.State==1) else k5 false
def qbi (c:Circ) (item:Int) (vid:Int) (branch:Int):Option (Circ×Int×Int):=
 match qci c with|some d =>(match qcv item d with|some (r2,v) =>(match qcq c.Patrons vid with|some (r4,r5) =>let k40 (v8:Circ_desk):Option (Circ×Int×Int):=bif !(v8.err==0) then some ((⟨0,[],[],[],[],[],[],⟨⟨0,[]⟩,⟨0,[]⟩,⟨0,[]⟩,⟨0,[]⟩⟩,[],0,0,false⟩:Circ),0,v8.err) else match getI c.Items r2 with|some x =>(match qeh c x r4 branch with|some (r10,r11) =>(bif !(r11==0) then some ((⟨0,[],[],[],[],[],[],⟨⟨0,[]⟩,⟨0,[]⟩,⟨0,[]⟩,⟨0,[]⟩⟩,[],0,0,false⟩:Circ),0,r11) else match qa8 r2 3 branch vid v8 with|some (_,v13) =>(match qbu c.Loans (⟨item,vid,c.Today,r10,0,false⟩:Loan) with|some (r15,r16) =>(match qct r15 r16 v13 with|some (_,v18) =>(match qan c item with|some (r20,r21) =>(bif r21 then match qeu r20.ID v18 with|some (_,v23) =>(match qcd r10 v23 with|some ((r25,r26,r27),v28) =>some (r25,r26,r27)|none =>none)|none =>none else match qb (fun g x0=>qde x0 g.2.1 g.2.2.1) c.Holds ((),(vid,x,())) with|some r30 =>let k (v34:Circ_desk):Option (Circ×Int×Int):=match qcd r10 v34 with|some ((r36,r37,r38),v39) =>some (r36,r37,r38)|none =>none;bif decide (0≤r30) then match getI c.Holds r30 with|some x31 =>(match qeu x31.ID v18 with|some (_,v33) =>k v33|none =>none)|none =>none else k v18|none =>none)|none =>none)|none =>none)|none =>none)|none =>none)|none =>none)|none =>none;bif !r5 then match qu 9 v with|some (_,v7) =>k40 v7|none =>none else k40 v|none =>none)|none =>none)|none =>none
def qfa (l:List Loan) (i:Int):Option (List Loan):=
 match qd9 l with|some l1 =>(match qdx l1 i (wr .i64 (i+1)) with|some l3 =>some l3|none =>none)|none =>none
def qdr (l:List Loan) (item:Int):Option ((List Loan)×Loan×Int):=
 match qaq item with|some r1 =>(match qb1 (fun g x0=>qcc x0 g.2.1) l ((),(r1.1,())) with|some (r3,r4) =>(bif decide (r4<0) then some ([],(⟨0,0,0,0,0,false⟩:Loan),9) else match qfa l r4 with|some r6 =>some (r6,r3,0)|none =>none)|none =>none)|none =>none
def qeg (day:Int) (weekday:Int):Option Int:=
 match qdb 0 with|some r1 =>bif decide (day<(wr .i64 ((wr .i64 (weekday-r1))+7)).tmod 7) then some 0 else some (wr .i64 ((wr .i64 ((wr .i64 (day-((wr .i64 ((wr .i64 (weekday-r1))+7)).tmod 7))).tdiv 7))+1))|none =>none
def zagk:(Int×Int×Int×(V7 Bool)×Int×Calendar×(V7 Bool)×Unit)→Option ((Int×Int×Int×(V7 Bool)×Int×Calendar×(V7 Bool)×Unit)⊕((Int×Int×Int×Calendar×(V7 Bool)×Unit))):=fun (vfrom,vto,n,v,v2,c,vopen,_)=>
 bif decide (v2<7) then let k8 (v3:Bool):Option ((Int×Int×Int×(V7 Bool)×Int×Calendar×(V7 Bool)×Unit)⊕((Int×Int×Int×Calendar×(V7 Bool)×Unit))):=let k (n7:Int):Option ((Int×Int×Int×(V7 Bool)×Int×Calendar×(V7 Bool)×Unit)⊕((Int×Int×Int×Calendar×(V7 Bool)×Unit))):=some (.inl (vfrom,vto,n7,v,wr .i64 (v2+1),c,vopen,()));bif v3 then match qeg vto v2 with|some r4 =>(match qeg (wr .i64 (vfrom-1)) v2 with|some r6 =>k (wr .i64 (n+(wr .i64 (r4-r6))))|none =>none)|none =>none else k n;bif v2==0 then k8 v.x0 else bif v2==1 then k8 v.x1 else bif v2==2 then k8 v.x2 else bif v2==3 then k8 v.x3 else bif v2==4 then k8 v.x4 else bif v2==5 then k8 v.x5 else bif v2==6 then k8 v.x6 else none else some (.inr ((vfrom,vto,n,c,vopen,())))
def z4x:(Int×Int×Int×(List Int)×Int×Int×(V7 Bool)×Unit)→Option ((Int×Int×Int×(List Int)×Int×Int×(V7 Bool)×Unit)⊕((Int×Unit))):=fun (vfrom,vto,n,v,v12,v13,vopen,_)=>
 bif decide (v13<v12) then match getI v v13 with|some x =>let k20 (v14:Bool):Option ((Int×Int×Int×(List Int)×Int×Int×(V7 Bool)×Unit)⊕((Int×Unit))):=let k19 (v17:Bool):Option ((Int×Int×Int×(List Int)×Int×Int×(V7 Bool)×Unit)⊕((Int×Unit))):=let k (n18:Int):Option ((Int×Int×Int×(List Int)×Int×Int×(V7 Bool)×Unit)⊕((Int×Unit))):=some (.inl (vfrom,vto,n18,v,v12,wr .i64 (v13+1),vopen,()));bif v17 then k (wr .i64 (n-1)) else k n;bif v14 then match qdb x with|some r15 =>bif r15==0 then k19 vopen.x0 else bif r15==1 then k19 vopen.x1 else bif r15==2 then k19 vopen.x2 else bif r15==3 then k19 vopen.x3 else bif r15==4 then k19 vopen.x4 else bif r15==5 then k19 vopen.x5 else bif r15==6 then k19 vopen.x6 else none|none =>none else k19 false;bif decide (vfrom≤x) then k20 (decide (x≤vto)) else k20 false|none =>none else some (.inr ((n,())))
def qad (c:Calendar) (vfrom:Int) (vto:Int):Option Int:=
 bif decide ((if 109572<vto then 109572 else vto)<(if vfrom<0 then 0 else vfrom)) then some 0 else match qar c with|some r1 =>(match zah zagk ((if vfrom<0 then 0 else vfrom),(if 109572<vto then 109572 else vto),0,r1,0,c,r1,()) with|some ((vfrom9,vto10,n,c11,vopen,_)) =>(match zah z4x (vfrom9,vto10,n,c11.Closed,(c11.Closed.length:Int),0,vopen,()) with|some ((n21,_)) =>some n21|none =>none)|none =>none)|none =>none
def qfl (r:Rule) (c:Calendar) (due:Int) (back:Int):Option Int:=
 match qt c with|some r2 =>(let k10 (v:Bool):Option Int:=let k (v7:Bool):Option Int:=bif v7 then some 0 else match qad c (wr .i64 (due+1)) back with|some r9 =>bif decide (r9≤r.Grace) then some 0 else some (if r.MaxFine<wr .i64 (r9*r.Fine) then r.MaxFine else wr .i64 (r9*r.Fine))|none =>none;bif v then k true else match qd6 back with|some r6 =>k (!r6)|none =>none;bif !(r2==0) then k10 true else match qd6 due with|some r4 =>k10 (!r4)|none =>none)|none =>none
def qdf (l:List Charge) (c:Charge):Option ((List Charge)×Int):=
 bif decide (l.length≤LIM) then bif decide (l.length+([c]:List Charge).length≤LIM) then match qap (l++([c]:List Charge)) with|some r1 =>bif !(r1==0) then some ([],r1) else some (l++([c]:List Charge),0)|none =>none else none else none
def qfb (vid:Int) (item:Int) (kind:Int) (amount:Int) (d:Circ_desk):Option (Unit×Circ_desk):=
 bif !(d.err==0) then some ((),d) else bif decide (99999<d.c.NextCharge) then match qu 13 d with|some (_,v) =>some ((),v)|none =>none else match qdf d.c.Charges (⟨d.c.NextCharge,vid,item,d.c.Today,kind,amount,0⟩:Charge) with|some (r2,r3) =>bif !(r3==0) then match qu r3 d with|some (_,v5) =>some ((),v5)|none =>none else some ((),(⟨⟨d.c.Today,d.c.Items,d.c.Patrons,d.c.Loans,d.c.Holds,r2,d.c.Rules,d.c.Cals,d.c.Moves,d.c.NextHold,wr .i64 (d.c.NextCharge+1),d.c.Local⟩,d.err⟩:Circ_desk))|none =>none
def qc8 (x:Charge) (v:Int) (v1:Int) (v2:Int):Option Bool:=
 let k6 (v3:Bool):Option Bool:=let k (v5:Bool):Option Bool:=some v5;bif v3 then bif v2==0 then k true else k (x.Kind==v2) else k false;bif x.Patron==v then k6 (x.Item==v1) else k6 false
def zagt {γ0:Type} (p:γ0→Charge→Option Bool):(γ0×Int×Int×(List Charge)×Int×Int×(List Charge)×Unit)→Option ((γ0×Int×Int×(List Charge)×Int×Int×(List Charge)×Unit)⊕((Int×Int×(List Charge)×Unit))):=fun (g,paid,n,v,v1,v2,l,_)=>
 bif decide (v2<v1) then match getI v v2 with|some x =>(match p g x with|some r =>bif r then some (.inl (g,wr .i64 (paid+x.Paid),wr .i64 (n+1),v,v1,wr .i64 (v2+1),l,())) else bif decide (l.length+([x]:List Charge).length≤LIM) then some (.inl (g,paid,n,v,v1,wr .i64 (v2+1),l++([x]:List Charge),())) else none|none =>none)|none =>none else some (.inr ((paid,n,l,())))
def qau {γ0:Type} (p:γ0→Charge→Option Bool) (l:List Charge) (g:γ0):Option ((List Charge)×Int×Int):=
 match zah (zagt p) (g,0,0,l,(l.length:Int),0,([]:List Charge),()) with|some ((paid,n,l3,_)) =>some (l3,paid,n)|none =>none
def qby (l:List Charge) (patron:Int) (item:Int) (kind:Int):Option ((List Charge)×Int):=
 match qau (fun g x0=>qc8 x0 g.2.1 g.2.2.1 g.2.2.2.1) l ((),(patron,item,kind,())) with|some (r1,r2,r3) =>some (r1,r2)|none =>none
def qe9 (i:Int) (branch:Int) (d:Circ_desk):Option (Unit×Circ_desk):=
 match getI d.c.Items i with|some x =>(match qa8 i 4 branch 0 d with|some (_,v) =>(bif !(v.err==0) then some ((),v) else match qdr v.c.Loans x.ID with|some (r2,r3,r4) =>(match qct r2 r4 v with|some (_,v6) =>(match qc0 v6.c r3.Patron x with|some (r8,r9) =>let k (v17:Circ_desk):Option (Unit×Circ_desk):=match qby v17.c.Charges r3.Patron x.ID 2 with|some (r19,r20) =>some ((),(⟨⟨v17.c.Today,v17.c.Items,v17.c.Patrons,v17.c.Loans,v17.c.Holds,r19,v17.c.Rules,v17.c.Cals,v17.c.Moves,v17.c.NextHold,v17.c.NextCharge,v17.c.Local⟩,v17.err⟩:Circ_desk))|none =>none;bif r9 then match qc1 v6.c branch with|some r11 =>(match qfl r8 r11 r3.Due v6.c.Today with|some r13 =>bif !(r13==0) then match qfb r3.Patron x.ID 1 r13 v6 with|some (_,v15) =>k v15|none =>none else k v6|none =>none)|none =>none else k v6|none =>none)|none =>none)|none =>none)|none =>none)|none =>none
def qe5 (c:Circ) (item:Int) (branch:Int):Option (Circ×Int×Int):=
 match qci c with|some d =>(match qcv item d with|some (r2,v) =>(bif decide (r2<0) then match qcd 0 v with|some ((r4,r5,r6),v7) =>some (r4,r5,r6)|none =>none else match getI c.Items r2 with|some x =>let k43 (v9:Bool):Option (Circ×Int×Int):=let k42 (v23:Circ_desk):Option (Circ×Int×Int):=match qan v23.c item with|some (r25,r26) =>let k41 (v27:Bool):Option (Circ×Int×Int):=let k (v32:Circ_desk):Option (Circ×Int×Int):=match qan v32.c item with|some (r34,r35) =>(match qcd r34.ID v32 with|some ((r37,r38,r39),v40) =>some (r37,r38,r39)|none =>none)|none =>none;bif v27 then match qdj r2 r25 v23 with|some (_,v29) =>k v29|none =>none else match qeb r2 v23 with|some (_,v31) =>k v31|none =>none;bif r26 then k41 (r25.State==2) else k41 false|none =>none;bif v9 then match qe9 r2 branch v with|some (_,v11) =>k42 v11|none =>none else bif x.Custody.State==8 then match qa8 r2 4 branch 0 v with|some (_,v13) =>k42 v13|none =>none else bif x.Custody.State==11 then match qa8 r2 14 branch 0 v with|some (_,v15) =>k42 v15|none =>none else bif x.Custody.State==6 then match qa8 r2 7 branch 0 v with|some (_,v17) =>k42 v17|none =>none else match qu 12 v with|some (_,v19) =>k42 v19|none =>none;bif x.Custody.State==4 then k43 (x.Custody.State==4) else bif x.Custody.State==9 then k43 (x.Custody.State==9) else k43 (x.Custody.State==10)|none =>none)|none =>none)|none =>none
def zagy:(Bool×Int×Circ×Circ×Unit)→Option ((Bool×Int×Circ×Circ×Unit)⊕((Bool×Circ×Circ×Unit))):=fun (ok,i,v,c,_)=>
 bif decide (i≤3) then match qcg c i 1 with|some (r8,r9) =>let k (v10:Bool):Option ((Bool×Int×Circ×Circ×Unit)⊕((Bool×Circ×Circ×Unit))):=some (.inl (v10,wr .i64 (i+1),v,r8,()));bif ok then k (r9==0) else k false|none =>none else some (.inr ((ok,v,c,())))
def qbb:Option (Circ×Bool):=
 match qda with|some r1 =>(match q9 r1 (⟨2,5,1,1,0,[],⟨0,0,0,0⟩⟩:Item) with|some (r3,r4) =>(match q9 r3 (⟨3,6,1,1,0,[],⟨0,0,0,0⟩⟩:Item) with|some (r6,r7) =>let k23 (v:Bool):Option (Circ×Bool):=match zah zagy (v,1,(⟨0,[],[],[],[],[],[],⟨⟨0,[]⟩,⟨0,[]⟩,⟨0,[]⟩,⟨0,[]⟩⟩,[],0,0,false⟩:Circ),r6,()) with|some ((ok,v11,c,_)) =>(match qbi (⟨110,c.Items,c.Patrons,c.Loans,c.Holds,c.Charges,c.Rules,c.Cals,c.Moves,c.NextHold,c.NextCharge,c.Local⟩:Circ) 2 7 1 with|some (r13,r14,r15) =>let k22 (v16:Bool):Option (Circ×Bool):=match qe5 (⟨120,r13.Items,r13.Patrons,r13.Loans,r13.Holds,r13.Charges,r13.Rules,r13.Cals,r13.Moves,r13.NextHold,r13.NextCharge,r13.Local⟩:Circ) 2 1 with|some (r18,r19,r20) =>let k (v21:Bool):Option (Circ×Bool):=some ((⟨300,r18.Items,r18.Patrons,r18.Loans,r18.Holds,r18.Charges,r18.Rules,r18.Cals,r18.Moves,r18.NextHold,r18.NextCharge,r18.Local⟩:Circ),v21);bif v16 then k (r20==0) else k false|none =>none;bif ok then k22 (r15==0) else k22 false|none =>none)|none =>none;bif r4==0 then k23 (r7==0) else k23 false|none =>none)|none =>none)|none =>none
def zlh:(Int×Int×Int×(List Move)×Int×Int×Unit)→Option ((Int×Int×Int×(List Move)×Int×Int×Unit)⊕((Int×Int×Unit))):=fun (item,loans,last,v,v1,v2,_)=>
 bif decide (v2<v1) then match getI v v2 with|some x =>bif !(x.Item==item) then some (.inl (item,loans,last,v,v1,wr .i64 (v2+1),())) else let k7 (loans5:Int) (last6:Int):Option ((Int×Int×Int×(List Move)×Int×Int×Unit)⊕((Int×Int×Unit))):=some (.inl (item,loans5,last6,v,v1,wr .i64 (v2+1),()));bif x.Kind==3 then k7 (wr .i64 (loans+1)) (if last<x.Day then x.Day else last) else let k (v3:Bool):Option ((Int×Int×Int×(List Move)×Int×Int×Unit)⊕((Int×Int×Unit))):=bif v3 then k7 loans (if last<x.Day then x.Day else last) else k7 loans last;bif x.Kind==1 then k (x.Kind==1) else k (x.Kind==4)|none =>none else some (.inr ((loans,last,())))
def qa4 (c:Circ) (item:Int):Option (Int×Int):=
 match zah zlh (item,0,(-1),c.Moves,(c.Moves.length:Int),0,()) with|some ((loans,last,_)) =>some (loans,last)|none =>none
def zlm:(Int×Int×(List Item)×Int×Int×Unit)→Option ((Int×Int×(List Item)×Int×Int×Unit)⊕((Int×Unit))):=fun (record,n,v,v1,v2,_)=>
 bif decide (v2<v1) then match getI v v2 with|some x =>let k5 (v3:Bool):Option ((Int×Int×(List Item)×Int×Int×Unit)⊕((Int×Unit))):=let k (n4:Int):Option ((Int×Int×(List Item)×Int×Int×Unit)⊕((Int×Unit))):=some (.inl (record,n4,v,v1,wr .i64 (v2+1),()));bif v3 then k (wr .i64 (n+1)) else k n;bif x.Record==record then k5 (!(x.Custody.State==12)) else k5 false|none =>none else some (.inr ((n,())))
def qat (c:Circ) (record:Int):Option Int:=
 match zah zlm (record,0,c.Items,(c.Items.length:Int),0,()) with|some ((n,_)) =>some n|none =>none
def qck (h:Hold) (v:Item):Option Bool:=
 let k (v1:Bool):Option Bool:=some v1;bif h.Record==v.Record then k true else k (h.Item==v.ID)
def qed (x:Int) (y:Int):Option Int:=
 match qdm x with|some r1 =>(match qdm y with|some r3 =>let k (v:Int):Option Int:=some v;bif r1 then bif r3 then k 0 else k (-1) else bif r3 then some 1 else bif decide (x<y) then some (-1) else bif decide (y<x) then some 1 else some 0|none =>none)|none =>none
def zagz:(Int×(List Int)×Int×Int×Unit)→Option ((Int×(List Int)×Int×Int×Unit)⊕((Int×Unit)⊕(Int×Unit))):=fun (zero,v,v1,v2,_)=>
 bif decide (v2<v1) then match getI v v2 with|some x =>bif !(x==zero) then some (.inr (.inr (x,()))) else some (.inl (zero,v,v1,wr .i64 (v2+1),()))|none =>none else some (.inr (.inl (zero,())))
def qbd (vals:List Int):Option Int:=
 match zah zagz (0,vals,(vals.length:Int),0,()) with|some (.inl (zero,_)) =>some zero|some (.inr (v,_)) =>some v|none =>none
def qd8 (a:Weed_candidate) (b:Weed_candidate):Option Int:=
 match qed a.loans b.loans with|some r1 =>(match qed a.last b.last with|some r3 =>(match qed a.id_ b.id_ with|some r5 =>(match qbd ([r1,r3,r5]) with|some r7 =>some r7|none =>none)|none =>none)|none =>none)|none =>none
def zyk:(Int×Int×(List Item)×Int×Int×Circ×(List Weed_candidate)×Unit)→Option ((Int×Int×(List Item)×Int×Int×Circ×(List Weed_candidate)×Unit)⊕(((List Weed_candidate)×Unit))):=fun (days,loans,v,v1,v2,c,l,_)=>
 bif decide (v2<v1) then match getI v v2 with|some x =>(match qb0 (fun g x0=>qck x0 g.2.1) c.Holds ((),(x,())) with|some r3 =>(match qa4 c x.ID with|some (r5,r6) =>let k11 (v7:Bool):Option ((Int×Int×(List Item)×Int×Int×Circ×(List Weed_candidate)×Unit)⊕(((List Weed_candidate)×Unit))):=let k10 (v8:Bool):Option ((Int×Int×(List Item)×Int×Int×Circ×(List Weed_candidate)×Unit)⊕(((List Weed_candidate)×Unit))):=let k (v9:Bool):Option ((Int×Int×(List Item)×Int×Int×Circ×(List Weed_candidate)×Unit)⊕(((List Weed_candidate)×Unit))):=bif v9 then bif decide (l.length+([(⟨x.ID,x.Record,r5,r6⟩:Weed_candidate)]:List Weed_candidate).length≤LIM) then some (.inl (days,loans,v,v1,wr .i64 (v2+1),c,l++([(⟨x.ID,x.Record,r5,r6⟩:Weed_candidate)]:List Weed_candidate),())) else none else some (.inl (days,loans,v,v1,wr .i64 (v2+1),c,l,()));bif v8 then k (!r3) else k false;bif v7 then k10 (decide (days<wr .i64 (c.Today-r6))) else k10 false;bif x.Custody.State==3 then k11 (decide (r5≤loans)) else k11 false|none =>none)|none =>none)|none =>none else some (.inr ((l,())))
def qi (c:Circ) (days:Int) (loans:Int):Option (List Weed_candidate):=
 match zah zyk (days,loans,c.Items,(c.Items.length:Int),0,c,([]:List Weed_candidate),()) with|some ((l,_)) =>(match qdg (fun g x0 x1=>qd8 x0 x1) l ((),()) with|some l12 =>some l12|none =>none)|none =>none
def zagh:((List Weed_candidate)×Int×Int×(List Int)×Unit)→Option (((List Weed_candidate)×Int×Int×(List Int)×Unit)⊕(((List Int)×Unit))):=fun (v,v2,v3,l,_)=>
 bif decide (v3<v2) then match getI v v3 with|some x =>bif decide (l.length+([x.id_]:List Int).length≤LIM) then some (.inl (v,v2,wr .i64 (v3+1),l++([x.id_]:List Int),())) else none|none =>none else some (.inr ((l,())))
def qa7 (c:Circ) (days:Int) (loans:Int):Option (List Int):=
 match qi c days loans with|some r1 =>(match zah zagh (r1,(r1.length:Int),0,([]:List Int),()) with|some ((l,_)) =>some l|none =>none)|none =>none
def zlk:((List Int)×(List Int)×Int×Unit)→Option (((List Int)×(List Int)×Int×Unit)⊕((Unit)⊕(Bool×Unit))):=fun (a,b,i,_)=>
 bif decide (i<(a.length:Int)) then match getI a i with|some x =>(match getI b i with|some x1 =>bif !(x==x1) then some (.inr (.inr (false,()))) else some (.inl (a,b,wr .i64 (i+1),()))|none =>none)|none =>none else some (.inr (.inl (())))
def qak (a:List Int) (b:List Int):Option Bool:=
 bif !((a.length:Int)==(b.length:Int)) then some false else match zah zlk (a,b,0,()) with|some (.inl (_)) =>some true|some (.inr (v,_)) =>some v|none =>none
def qc4 (x:Item) (v:Int):Option Bool:=
 some (x.ID==v)
def qcj {γ0:Type} (p:γ0→Item→Option Bool) (s:List Item) (g:γ0):Option Bool:=
 match qa p s g with|some r1 =>some (decide (0≤r1))|none =>none
def qdo (x:Item) (record:Int):Option Bool:=
 let k (v:Bool):Option Bool:=some v;bif x.Record==record then k (!(x.Custody.State==12)) else k false
def qdd (y:Item) (v:Item):Option Bool:=
 let k (v2:Bool):Option Bool:=some v2;bif !(y.ID==v.ID) then match qdo y v.Record with|some r1 =>k r1|none =>none else k false
def qcp (h:Hold) (v:Item) (v1:Bool):Option Bool:=
 let k (v3:Bool):Option Bool:=some v3;bif h.Item==v.ID then k true else bif v1 then k (h.Record==v.Record) else k false
def qae (c:Circ) (x:Item):Option Bool:=
 match qcj (fun g x0=>qdd x0 g.2.1) c.Items ((),(x,())) with|some r1 =>(match qdo x x.Record with|some r3 =>let k (v:Bool):Option Bool:=match qb0 (fun g x0=>qcp x0 g.2.1 g.2.2.1) c.Holds ((),(x,v,())) with|some r5 =>some r5|none =>none;bif r3 then k (!r1) else k false|none =>none)|none =>none
def qew (c:Circ) (item:Int):Option (Circ×Int):=
 match qci c with|some d =>(match qcv item d with|some (r2,v) =>let k26 (v5:Bool):Option (Circ×Int):=let k25 (v8:Circ_desk):Option (Circ×Int):=match qcw r2 15 v8 with|some (_,v10) =>(match qb4 c.Loans item with|some (r12,r13) =>let k (v20:Circ_desk):Option (Circ×Int):=match qa0 v20 with|some ((r22,r23),v24) =>some (r22,r23)|none =>none;bif r13 then match qdr c.Loans item with|some (r15,r16,r17) =>(match qct r15 r17 v10 with|some (_,v19) =>k v19|none =>none)|none =>none else k v10|none =>none)|none =>none;bif v5 then match qu 10 v with|some (_,v7) =>k25 v7|none =>none else k25 v;bif decide (0≤r2) then match getI c.Items r2 with|some x =>(match qae c x with|some r4 =>k26 r4|none =>none)|none =>none else k26 false|none =>none)|none =>none
def zaxe:((List Int)×(List Int)×Int×Int×Circ×Circ×Unit)→Option (((List Int)×(List Int)×Int×Int×Circ×Circ×Unit)⊕(((List Int)×Circ×Circ×Unit)⊕((List Int)×Int×Circ×Unit))):=fun (l,v,v1,v2,c,v3,_)=>
 bif decide (v2<v1) then match getI v v2 with|some x =>(match qcj (fun g x0=>qc4 x0 g.2.1) c.Items ((),(x,())) with|some r4 =>bif !r4 then some (.inr (.inr ([],9,(⟨0,[],[],[],[],[],[],⟨⟨0,[]⟩,⟨0,[]⟩,⟨0,[]⟩,⟨0,[]⟩⟩,[],0,0,false⟩:Circ),()))) else some (.inl (l,v,v1,wr .i64 (v2+1),c,v3,()))|none =>none)|none =>none else some (.inr (.inl (l,c,v3,())))
def zaxf:((List Int)×Int×Int×Circ×Circ×(List Int)×Unit)→Option (((List Int)×Int×Int×Circ×Circ×(List Int)×Unit)⊕((Circ×Circ×(List Int)×Unit))):=fun (v,v7,v8,c,v9,l,_)=>
 bif decide (v8<v7) then match getI v v8 with|some x =>(match qew c x with|some (r10,r11) =>bif r11==0 then bif decide (l.length+([x]:List Int).length≤LIM) then some (.inl (v,v7,wr .i64 (v8+1),r10,v9,l++([x]:List Int),())) else none else some (.inl (v,v7,wr .i64 (v8+1),c,v9,l,()))|none =>none)|none =>none else some (.inr ((c,v9,l,())))
def ql (c:Circ) (l:List Int):Option (Circ×(List Int)×Int):=
 match zah zaxe (l,l,(l.length:Int),0,c,(⟨0,[],[],[],[],[],[],⟨⟨0,[]⟩,⟨0,[]⟩,⟨0,[]⟩,⟨0,[]⟩⟩,[],0,0,false⟩:Circ),()) with|some (.inl (l5,c6,v,_)) =>(match zah zaxf (l5,(l5.length:Int),0,c6,v,([]:List Int),()) with|some ((c12,v13,l14,_)) =>some (c12,l14,0)|none =>none)|some (.inr (v15,v16,v17,_)) =>some (v17,v15,v16)|none =>none
def zlq:(Int×(List Weed_candidate)×Int×Int×Circ×(List Int)×(List MapI)×Unit)→Option ((Int×(List Weed_candidate)×Int×Int×Circ×(List Int)×(List MapI)×Unit)⊕(((List Int)×Unit))):=fun (most,v,v2,v3,c,l,l4,_)=>
 bif decide (v3<v2) then match getI v v3 with|some x =>let k (v6:Bool):Option ((Int×(List Weed_candidate)×Int×Int×Circ×(List Int)×(List MapI)×Unit)⊕(((List Int)×Unit))):=bif v6 then bif decide (l.length+([x.id_]:List Int).length≤LIM) then some (.inl (most,v,v2,wr .i64 (v3+1),c,l++([x.id_]:List Int),setM MapI.key x.record (⟨x.record,wr .i64 ((zr8 MapI.key MapI.val l4 x.record)+1)⟩:MapI) l4,())) else none else some (.inl (most,v,v2,wr .i64 (v3+1),c,l,l4,()));bif decide ((l.length:Int)<most) then match qat c x.record with|some r5 =>k (decide (1<wr .i64 (r5-(zr8 MapI.key MapI.val l4 x.record))))|none =>none else k false|none =>none else some (.inr ((l,())))
def qbe (c:Circ) (days:Int) (loans:Int) (most:Int):Option (List Int):=
 match qi c days loans with|some r1 =>(match zah zlq (most,r1,(r1.length:Int),0,c,([]:List Int),([]:List MapI),()) with|some ((l,_)) =>some l|none =>none)|none =>none
def qff:Option Bool:=
 match qbb with|some (r1,r2) =>(match qa4 r1 2 with|some (r4,r5) =>let k53 (v:Bool):Option Bool:=let k52 (v6:Bool):Option Bool:=let k51 (v9:Bool):Option Bool:=let k50 (v14:Bool):Option Bool:=let k49 (v19:Bool):Option Bool:=let k48 (v24:Bool):Option Bool:=bif v24 then some false else match ql r1 ([1,3]) with|some (r26,r27,r28) =>(match ql r1 ([1,9]) with|some (r30,r31,r32) =>(match qbe r1 50 1 5 with|some r34 =>(match qak r34 ([1]) with|some r36 =>let k47 (v37:Bool):Option Bool:=let k46 (v40:Bool):Option Bool:=let k45 (v43:Bool):Option Bool:=let k (v44:Bool):Option Bool:=some v44;bif v43 then k (r32==9) else k false;bif v40 then match qat r26 5 with|some r42 =>k45 (r42==1)|none =>none else k45 false;bif v37 then match qak r27 ([1,3]) with|some r39 =>k46 r39|none =>none else k46 false;bif r36 then k47 (r28==0) else k47 false|none =>none)|none =>none)|none =>none)|none =>none;bif v19 then k48 true else match qa7 r1 50 0 with|some r21 =>(match qak r21 ([1,3]) with|some r23 =>k48 (!r23)|none =>none)|none =>none;bif v14 then k49 true else match qa7 r1 190 1 with|some r16 =>(match qak r16 ([1,3]) with|some r18 =>k49 (!r18)|none =>none)|none =>none;bif v9 then k50 true else match qa7 r1 50 1 with|some r11 =>(match qak r11 ([1,3,2]) with|some r13 =>k50 (!r13)|none =>none)|none =>none;bif v6 then k51 true else match qat r1 5 with|some r8 =>k51 (!(r8==2))|none =>none;bif v then k52 true else k52 (!(r5==120));bif !r2 then k53 true else k53 (!(r4==1))|none =>none)|none =>none
def zyn:(Int×Circ×Unit)→Option ((Int×Circ×Unit)⊕((Circ×Unit)⊕(Bool×Unit))):=fun (i,c,_)=>
 bif decide (i<(c.Items.length:Int)) then match getI c.Items i with|some x =>bif decide (300<(x.Call.length:Int)) then some (.inr (.inr (false,()))) else some (.inl (wr .i64 (i+1),c,()))|none =>none else some (.inr (.inl (c,())))
def zyo:(Int×Circ×Unit)→Option ((Int×Circ×Unit)⊕((Circ×Unit)⊕(Bool×Unit))):=fun (i,c,_)=>
 bif decide (i<(c.Patrons.length:Int)) then match getI c.Patrons i with|some x =>bif decide (300<(x.Name.length:Int)) then some (.inr (.inr (false,()))) else some (.inl (wr .i64 (i+1),c,()))|none =>none else some (.inr (.inl (c,())))
def zhe:(Int×Circ×Unit)→Option ((Int×Circ×Unit)⊕((Unit)⊕(Bool×Unit))):=fun (i,c,_)=>
 bif decide (i<4) then let k (v:Int) (v8:List Int):Option ((Int×Circ×Unit)⊕((Unit)⊕(Bool×Unit))):=bif decide (20<(v8.length:Int)) then some (.inr (.inr (false,()))) else some (.inl (wr .i64 (i+1),c,()));bif i==0 then k c.Cals.x0.Week c.Cals.x0.Closed else bif i==1 then k c.Cals.x1.Week c.Cals.x1.Closed else bif i==2 then k c.Cals.x2.Week c.Cals.x2.Closed else bif i==3 then k c.Cals.x3.Week c.Cals.x3.Closed else none else some (.inr (.inl (())))
def qr (c:Circ):Option Bool:=
 let k16 (v:Bool):Option Bool:=let k15 (v1:Bool):Option Bool:=let k14 (v2:Bool):Option Bool:=let k13 (v3:Bool):Option Bool:=let k12 (v4:Bool):Option Bool:=let k (v5:Bool):Option Bool:=bif v5 then some false else match zah zyn (0,c,()) with|some (.inl (c6,_)) =>(match zah zyo (0,c6,()) with|some (.inl (c7,_)) =>(match zah zhe (0,c7,()) with|some (.inl (_)) =>some true|some (.inr (v9,_)) =>some v9|none =>none)|some (.inr (v10,_)) =>some v10|none =>none)|some (.inr (v11,_)) =>some v11|none =>none;bif v4 then k true else k (decide (200<(c.Moves.length:Int)));bif v3 then k12 true else k12 (decide (10<(c.Rules.length:Int)));bif v2 then k13 true else k13 (decide (30<(c.Charges.length:Int)));bif v1 then k14 true else k14 (decide (12<(c.Loans.length:Int)));bif v then k15 true else k15 (decide (12<(c.Holds.length:Int)));bif decide (10<(c.Items.length:Int)) then k16 true else k16 (decide (8<(c.Patrons.length:Int)))
def qcb (s:List UInt8) (i:Int):Option (Int×Int):=
 match getI s i with|some b =>let k35 (v:Bool):Option (Int×Int):=bif v then some (wr .i64 (b.toNat:Int),1) else let k34 (v1:Bool):Option (Int×Int):=let k33 (v2:Bool):Option (Int×Int):=let k32 (v4:Bool):Option (Int×Int):=let k31 (v6:Bool):Option (Int×Int):=let k (v8:Int) (v9:Int):Option (Int×Int):=some (v8,v9);bif v6 then match getI s (wr .i64 (i+1)) with|some b7 =>bif decide (160≤wr .i64 ((wr .i64 ((wr .i64 ((wr .i64 ((wr .i64 (b.toNat:Int))-192))*64))+(wr .i64 (b7.toNat:Int))))-128)) then k (wr .i64 ((wr .i64 ((wr .i64 ((wr .i64 ((wr .i64 (b.toNat:Int))-192))*64))+(wr .i64 (b7.toNat:Int))))-128)) 2 else k 0 0|none =>none else let k30 (v10:Bool):Option (Int×Int):=let k29 (v11:Bool):Option (Int×Int):=let k28 (v13:Bool):Option (Int×Int):=let k27 (v15:Bool):Option (Int×Int):=let k26 (v17:Bool):Option (Int×Int):=let k25 (v19:Bool):Option (Int×Int):=bif v19 then match getI s (wr .i64 (i+1)) with|some b20 =>(match getI s (wr .i64 (i+2)) with|some b21 =>let k24 (v23:Bool):Option (Int×Int):=bif v23 then some (wr .i64 ((wr .i64 ((wr .i64 ((wr .i64 ((wr .i64 ((wr .i64 (b.toNat:Int))-224))*4096))+(wr .i64 ((wr .i64 ((wr .i64 (b20.toNat:Int))-128))*64))))+(wr .i64 (b21.toNat:Int))))-128),3) else some (0,0);bif decide (2048≤wr .i64 ((wr .i64 ((wr .i64 ((wr .i64 ((wr .i64 ((wr .i64 (b.toNat:Int))-224))*4096))+(wr .i64 ((wr .i64 ((wr .i64 (b20.toNat:Int))-128))*64))))+(wr .i64 (b21.toNat:Int))))-128)) then bif decide (wr .i64 ((wr .i64 ((wr .i64 ((wr .i64 ((wr .i64 ((wr .i64 (b.toNat:Int))-224))*4096))+(wr .i64 ((wr .i64 ((wr .i64 (b20.toNat:Int))-128))*64))))+(wr .i64 (b21.toNat:Int))))-128)<55296) then k24 true else k24 (decide (57343<wr .i64 ((wr .i64 ((wr .i64 ((wr .i64 ((wr .i64 ((wr .i64 (b.toNat:Int))-224))*4096))+(wr .i64 ((wr .i64 ((wr .i64 (b20.toNat:Int))-128))*64))))+(wr .i64 (b21.toNat:Int))))-128))) else k24 false|none =>none)|none =>none else some (0,0);bif v17 then match getI s (wr .i64 (i+2)) with|some b18 =>k25 (decide ((b18.toNat:Int)<192))|none =>none else k25 false;bif v15 then match getI s (wr .i64 (i+2)) with|some b16 =>k26 (decide (128≤(b16.toNat:Int)))|none =>none else k26 false;bif v13 then match getI s (wr .i64 (i+1)) with|some b14 =>k27 (decide ((b14.toNat:Int)<192))|none =>none else k27 false;bif v11 then match getI s (wr .i64 (i+1)) with|some b12 =>k28 (decide (128≤(b12.toNat:Int)))|none =>none else k28 false;bif v10 then k29 (decide (wr .i64 (i+2)<(s.length:Int))) else k29 false;bif decide (224≤wr .i64 (b.toNat:Int)) then k30 (decide (wr .i64 (b.toNat:Int)<240)) else k30 false;bif v4 then match getI s (wr .i64 (i+1)) with|some b5 =>k31 (decide ((b5.toNat:Int)<192))|none =>none else k31 false;bif v2 then match getI s (wr .i64 (i+1)) with|some b3 =>k32 (decide (128≤(b3.toNat:Int)))|none =>none else k32 false;bif v1 then k33 (decide (wr .i64 (i+1)<(s.length:Int))) else k33 false;bif decide (194≤wr .i64 (b.toNat:Int)) then k34 (decide (wr .i64 (b.toNat:Int)<224)) else k34 false;bif decide (32≤wr .i64 (b.toNat:Int)) then k35 (decide (wr .i64 (b.toNat:Int)<127)) else k35 false|none =>none
def zln:((List UInt8)×Int×Unit)→Option (((List UInt8)×Int×Unit)⊕((Unit)⊕(Bool×Unit))):=fun (s,i,_)=>
 bif decide (i<(s.length:Int)) then match qcb s i with|some (r1,r2) =>bif r2==0 then some (.inr (.inr (false,()))) else some (.inl (s,wr .i64 (i+r2),()))|none =>none else some (.inr (.inl (())))
def qaw (s:List UInt8):Option Bool:=
 match zah zln (s,0,()) with|some (.inl (_)) =>some true|some (.inr (v,_)) =>some v|none =>none
def qe7 (s:List UInt8) (i:Int):Option Int:=
 match qcb s i with|some (r1,r2) =>some (if r2<1 then 1 else r2)|none =>none
def qe4 (c:Int):Option Bool:=
 let k (v:Bool):Option Bool:=some v;bif c==32 then k true else k (c==160)
def zlu:((List UInt8)×(List UInt8)×Bool×Int×Unit)→Option (((List UInt8)×(List UInt8)×Bool×Int×Unit)⊕(((List UInt8)×Unit))):=fun (s,vout,gap,i,_)=>
 bif decide (i<(s.length:Int)) then match qcb s i with|some (r1,r2) =>(match qe7 s i with|some r4 =>(match qe4 r1 with|some r6 =>let k11 (vout9:List UInt8) (gap10:Bool):Option (((List UInt8)×(List UInt8)×Bool×Int×Unit)⊕(((List UInt8)×Unit))):=some (.inl (s,vout9,gap10,wr .i64 (i+r4),()));bif r6 then k11 vout true else let k8 (v:Bool):Option (((List UInt8)×(List UInt8)×Bool×Int×Unit)⊕(((List UInt8)×Unit))):=let k (vout7:List UInt8):Option (((List UInt8)×(List UInt8)×Bool×Int×Unit)⊕(((List UInt8)×Unit))):=bif decide (0≤(i:Int))&&(decide ((i:Int)≤wr .i64 (i+r4))&&decide (wr .i64 (i+r4)≤(s.length:Int))) then bif decide (vout7.length+((s.take (wr .i64 (i+r4)).toNat).drop (i:Int).toNat).length≤LIM) then k11 (vout7++((s.take (wr .i64 (i+r4)).toNat).drop (i:Int).toNat)) false else none else none;bif v then bif decide (vout.length+([32]).length≤LIM) then k (vout++([32])) else none else k vout;bif gap then k8 (!(vout==([]))) else k8 false|none =>none)|none =>none)|none =>none else some (.inr ((vout,())))
def qbp (s:List UInt8):Option (List UInt8):=
 match zah zlu (s,[],false,0,()) with|some ((vout,_)) =>some vout|none =>none
def zjk:((List Patron)×Int×Unit)→Option (((List Patron)×Int×Unit)⊕((Unit)⊕(Int×Unit))):=fun (l,i,_)=>
 bif decide (i<(l.length:Int)) then match getI l i with|some x =>let k18 (v:Bool):Option (((List Patron)×Int×Unit)⊕((Unit)⊕(Int×Unit))):=bif v then some (.inr (.inr (2,()))) else let k17 (v2:Bool):Option (((List Patron)×Int×Unit)⊕((Unit)⊕(Int×Unit))):=bif v2 then some (.inr (.inr (7,()))) else let k16 (v3:Bool):Option (((List Patron)×Int×Unit)⊕((Unit)⊕(Int×Unit))):=let k15 (v4:Bool):Option (((List Patron)×Int×Unit)⊕((Unit)⊕(Int×Unit))):=let k14 (v5:Bool):Option (((List Patron)×Int×Unit)⊕((Unit)⊕(Int×Unit))):=bif v5 then some (.inr (.inr (1,()))) else let k13 (v6:Bool):Option (((List Patron)×Int×Unit)⊕((Unit)⊕(Int×Unit))):=bif v6 then some (.inr (.inr (2,()))) else let k12 (v8:Bool):Option (((List Patron)×Int×Unit)⊕((Unit)⊕(Int×Unit))):=let k (v11:Bool):Option (((List Patron)×Int×Unit)⊕((Unit)⊕(Int×Unit))):=bif v11 then some (.inr (.inr (3,()))) else bif decide (200<(x.Name.length:Int)) then some (.inr (.inr (4,()))) else some (.inl (l,wr .i64 (i+1),()));bif v8 then k true else match qbp x.Name with|some r10 =>k (!(r10==x.Name))|none =>none;bif x.Name==([]) then k12 true else match qaw x.Name with|some r7 =>k12 (!r7)|none =>none;bif decide (x.Until<0) then k13 true else k13 (decide (109572<x.Until));bif v4 then k14 true else k14 (decide (4<x.Branch));bif v3 then k15 true else k15 (decide (x.Branch<1));bif decide (x.Kind<1) then k16 true else k16 (decide (9<x.Kind));bif decide (0<i) then match getI l (wr .i64 (i-1)) with|some x1 =>k17 (decide (x.ID≤x1.ID))|none =>none else k17 false;bif decide (x.ID<1) then k18 true else k18 (decide (9999<x.ID))|none =>none else some (.inr (.inl (())))
def qbo (l:List Patron):Option Int:=
 bif decide (32<(l.length:Int)) then some 13 else match zah zjk (l,0,()) with|some (.inl (_)) =>some 0|some (.inr (v,_)) =>some v|none =>none
def zji:((List Loan)×Int×Unit)→Option (((List Loan)×Int×Unit)⊕((Unit)⊕(Int×Unit))):=fun (l,i,_)=>
 bif decide (i<(l.length:Int)) then match getI l i with|some x =>let k21 (v:Bool):Option (((List Loan)×Int×Unit)⊕((Unit)⊕(Int×Unit))):=bif v then some (.inr (.inr (7,()))) else let k20 (v2:Bool):Option (((List Loan)×Int×Unit)⊕((Unit)⊕(Int×Unit))):=let k19 (v3:Bool):Option (((List Loan)×Int×Unit)⊕((Unit)⊕(Int×Unit))):=let k18 (v4:Bool):Option (((List Loan)×Int×Unit)⊕((Unit)⊕(Int×Unit))):=let k17 (v5:Bool):Option (((List Loan)×Int×Unit)⊕((Unit)⊕(Int×Unit))):=let k16 (v6:Bool):Option (((List Loan)×Int×Unit)⊕((Unit)⊕(Int×Unit))):=let k15 (v7:Bool):Option (((List Loan)×Int×Unit)⊕((Unit)⊕(Int×Unit))):=let k14 (v8:Bool):Option (((List Loan)×Int×Unit)⊕((Unit)⊕(Int×Unit))):=let k13 (v9:Bool):Option (((List Loan)×Int×Unit)⊕((Unit)⊕(Int×Unit))):=let k12 (v10:Bool):Option (((List Loan)×Int×Unit)⊕((Unit)⊕(Int×Unit))):=let k (v11:Bool):Option (((List Loan)×Int×Unit)⊕((Unit)⊕(Int×Unit))):=bif v11 then some (.inr (.inr (2,()))) else some (.inl (l,wr .i64 (i+1),()));bif v10 then k true else k (decide (10<x.Renewals));bif v9 then k12 true else k12 (decide (x.Renewals<0));bif v8 then k13 true else k13 (decide (x.Due<x.Out));bif v7 then k14 true else k14 (decide (109572<x.Due));bif v6 then k15 true else k15 (decide (x.Due<0));bif v5 then k16 true else k16 (decide (109572<x.Out));bif v4 then k17 true else k17 (decide (x.Out<0));bif v3 then k18 true else k18 (decide (9999<x.Patron));bif v2 then k19 true else k19 (decide (x.Patron<1));bif decide (x.Item<1) then k20 true else k20 (decide (9999<x.Item));bif decide (0<i) then match getI l (wr .i64 (i-1)) with|some x1 =>k21 (decide (x.Item≤x1.Item))|none =>none else k21 false|none =>none else some (.inr (.inl (())))
def qbm (l:List Loan):Option Int:=
 bif decide (64<(l.length:Int)) then some 13 else match zah zji (l,0,()) with|some (.inl (_)) =>some 0|some (.inr (v,_)) =>some v|none =>none
def qd7 (n:Int):Option Bool:=
 let k (v:Bool):Option Bool:=some v;bif decide (1≤n) then k (decide (n≤9999)) else k false
def qeq (n:Int):Option Bool:=
 let k (v:Bool):Option Bool:=some v;bif decide (0≤n) then k (decide (n≤109572)) else k false
def qe1 (h:Hold):Option Int:=
 let k41 (v:Bool):Option Int:=let k40 (v2:Bool):Option Int:=let k39 (v5:Bool):Option Int:=let k38 (v9:Bool):Option Int:=let k37 (v10:Bool):Option Int:=let k36 (v11:Bool):Option Int:=let k35 (v14:Bool):Option Int:=let k34 (v18:Bool):Option Int:=let k33 (v21:Bool):Option Int:=let k32 (v24:Bool):Option Int:=let k31 (v25:Bool):Option Int:=let k30 (v26:Bool):Option Int:=bif v26 then some 2 else let k29 (v27:Bool):Option Int:=bif v27 then some 1 else let k (v28:Bool):Option Int:=bif v28 then some 12 else some 0;bif !((decide (0<h.Got))==(!(h.State==1))) then k true else k (!((decide (0<h.Until))==(h.State==3)));bif decide (h.State<1) then k29 true else k29 (decide (3<h.State));bif v25 then k30 true else k30 (decide (9<h.Rank));bif v24 then k31 true else k31 (decide (h.Rank<0));bif v21 then k32 true else match qeq h.Asleep with|some r23 =>k32 (!r23)|none =>none;bif v18 then k33 true else match qeq h.Until with|some r20 =>k33 (!r20)|none =>none;bif v14 then k34 true else bif !(h.Got==0) then match qd7 h.Got with|some r16 =>k34 (!r16)|none =>none else k34 false;bif v11 then k35 true else match qeq h.Placed with|some r13 =>k35 (!r13)|none =>none;bif v10 then k36 true else k36 (decide (4<h.Pickup));bif v9 then k37 true else k37 (decide (h.Pickup<1));bif v5 then k38 true else bif !(h.Item==0) then match qd7 h.Item with|some r7 =>k38 (!r7)|none =>none else k38 false;bif v2 then k39 true else match qd7 h.Record with|some r4 =>k39 (!r4)|none =>none;bif v then k40 true else match qd7 h.Patron with|some r1 =>k40 (!r1)|none =>none;bif decide (h.ID<1) then k41 true else k41 (decide (99999<h.ID))
def zsi:((List Hold)×Int×Unit)→Option (((List Hold)×Int×Unit)⊕(((List Hold)×Unit)⊕(Int×Unit))):=fun (l,i,_)=>
 bif decide (i<(l.length:Int)) then let k (v:Bool):Option (((List Hold)×Int×Unit)⊕(((List Hold)×Unit)⊕(Int×Unit))):=bif v then some (.inr (.inr (7,()))) else match getI l i with|some x2 =>(match qe1 x2 with|some r3 =>bif !(r3==0) then some (.inr (.inr (r3,()))) else some (.inl (l,wr .i64 (i+1),()))|none =>none)|none =>none;bif decide (0<i) then match getI l i with|some x =>(match getI l (wr .i64 (i-1)) with|some x1 =>k (decide (x.ID≤x1.ID))|none =>none)|none =>none else k false else some (.inr (.inl (l,())))
def zjn:((List Hold)×Int×Int×Unit)→Option (((List Hold)×Int×Int×Unit)⊕(((List Hold)×Int×Unit)⊕(Int×Unit))):=fun (l,i,k,_)=>
 bif decide (k<i) then match getI l i with|some x =>(match getI l k with|some x5 =>let k14 (v:Bool):Option (((List Hold)×Int×Int×Unit)⊕(((List Hold)×Int×Unit)⊕(Int×Unit))):=let k13 (v12:Bool):Option (((List Hold)×Int×Int×Unit)⊕(((List Hold)×Int×Unit)⊕(Int×Unit))):=bif v12 then some (.inr (.inr (7,()))) else some (.inl (l,i,wr .i64 (k+1),()));bif v then k13 true else match getI l i with|some x8 =>bif decide (0<x8.Got) then match getI l i with|some x9 =>(match getI l k with|some x10 =>k13 (x9.Got==x10.Got)|none =>none)|none =>none else k13 false|none =>none;bif x.Patron==x5.Patron then match getI l i with|some x6 =>(match getI l k with|some x7 =>k14 (x6.Record==x7.Record)|none =>none)|none =>none else k14 false|none =>none)|none =>none else some (.inr (.inl (l,i,())))
def zlz:((List Hold)×Int×Unit)→Option (((List Hold)×Int×Unit)⊕((Unit)⊕(Int×Unit))):=fun (l,i,_)=>
 bif decide (i<(l.length:Int)) then match zah zjn (l,i,0,()) with|some (.inl (l15,i16,_)) =>some (.inl (l15,wr .i64 (i16+1),()))|some (.inr (v,_)) =>some (.inr (.inr (v,())))|none =>none else some (.inr (.inl (())))
def qo (l:List Hold):Option Int:=
 bif decide (64<(l.length:Int)) then some 13 else match zah zsi (l,0,()) with|some (.inl (l4,_)) =>(match zah zlz (l4,0,()) with|some (.inl (_)) =>some 0|some (.inr (v,_)) =>some v|none =>none)|some (.inr (v17,_)) =>some v17|none =>none
def qe8 (n:Int):Option Bool:=
 let k (v:Bool):Option Bool:=some v;bif decide (0≤n) then k (decide (n≤109572)) else k false
def zjj:((List Charge)×Int×Unit)→Option (((List Charge)×Int×Unit)⊕((Unit)⊕(Int×Unit))):=fun (l,i,_)=>
 bif decide (i<(l.length:Int)) then match getI l i with|some x =>let k22 (v:Bool):Option (((List Charge)×Int×Unit)⊕((Unit)⊕(Int×Unit))):=bif v then some (.inr (.inr (7,()))) else let k21 (v2:Bool):Option (((List Charge)×Int×Unit)⊕((Unit)⊕(Int×Unit))):=let k20 (v3:Bool):Option (((List Charge)×Int×Unit)⊕((Unit)⊕(Int×Unit))):=let k19 (v4:Bool):Option (((List Charge)×Int×Unit)⊕((Unit)⊕(Int×Unit))):=let k18 (v5:Bool):Option (((List Charge)×Int×Unit)⊕((Unit)⊕(Int×Unit))):=let k17 (v6:Bool):Option (((List Charge)×Int×Unit)⊕((Unit)⊕(Int×Unit))):=let k16 (v8:Bool):Option (((List Charge)×Int×Unit)⊕((Unit)⊕(Int×Unit))):=bif v8 then some (.inr (.inr (2,()))) else let k15 (v9:Bool):Option (((List Charge)×Int×Unit)⊕((Unit)⊕(Int×Unit))):=bif v9 then some (.inr (.inr (1,()))) else let k14 (v10:Bool):Option (((List Charge)×Int×Unit)⊕((Unit)⊕(Int×Unit))):=let k13 (v11:Bool):Option (((List Charge)×Int×Unit)⊕((Unit)⊕(Int×Unit))):=let k (v12:Bool):Option (((List Charge)×Int×Unit)⊕((Unit)⊕(Int×Unit))):=bif v12 then some (.inr (.inr (2,()))) else some (.inl (l,wr .i64 (i+1),()));bif v11 then k true else k (decide (x.Amount≤x.Paid));bif v10 then k13 true else k13 (decide (x.Paid<0));bif decide (x.Amount<1) then k14 true else k14 (decide (100000000<x.Amount));bif decide (x.Kind<1) then k15 true else k15 (decide (3<x.Kind));bif v6 then k16 true else match qe8 x.Day with|some r7 =>k16 (!r7)|none =>none;bif v5 then k17 true else k17 (decide (9999<x.Item));bif v4 then k18 true else k18 (decide (x.Item<1));bif v3 then k19 true else k19 (decide (9999<x.Patron));bif v2 then k20 true else k20 (decide (x.Patron<1));bif decide (x.ID<1) then k21 true else k21 (decide (99999<x.ID));bif decide (0<i) then match getI l (wr .i64 (i-1)) with|some x1 =>k22 (decide (x.ID≤x1.ID))|none =>none else k22 false|none =>none else some (.inr (.inl (())))
def qbn (l:List Charge):Option Int:=
 bif decide (128<(l.length:Int)) then some 13 else match zah zjj (l,0,()) with|some (.inl (_)) =>some 0|some (.inr (v,_)) =>some v|none =>none
def qb7 (n:Int) (low:Int) (high:Int):Option Bool:=
 let k (v:Bool):Option Bool:=some v;bif decide (low≤n) then k (decide (n≤high)) else k false
def qev (r:Rule):Option Bool:=
 match qb7 r.Patron 0 9 with|some r2 =>let k48 (v:Bool):Option Bool:=let k47 (v7:Bool):Option Bool:=match qb7 r.Days 0 365 with|some r9 =>let k46 (v12:Bool):Option Bool:=let k45 (v15:Bool):Option Bool:=match qb7 r.Fine 0 1000 with|some r17 =>let k44 (v20:Bool):Option Bool:=let k43 (v23:Bool):Option Bool:=let k42 (v24:Bool):Option Bool:=let k41 (v25:Bool):Option Bool:=let k40 (v28:Bool):Option Bool:=let k39 (v31:Bool):Option Bool:=let k38 (v34:Bool):Option Bool:=let k (v37:Bool):Option Bool:=some v37;bif v34 then match qb7 r.Rank 0 9 with|some r36 =>k r36|none =>none else k false;bif v31 then match qb7 r.Fixed 0 109572 with|some r33 =>k38 r33|none =>none else k38 false;bif v28 then match qb7 r.Recall 1 60 with|some r30 =>k39 r30|none =>none else k39 false;bif v25 then match qb7 r.Shelf 1 60 with|some r27 =>k40 r27|none =>none else k40 false;bif v24 then k41 v23 else k41 false;bif v7 then k42 v15 else k42 false;bif v20 then match qb7 r.MaxFine 0 100000000 with|some r22 =>k43 r22|none =>none else k43 false;bif r17 then match qb7 r.Grace 0 30 with|some r19 =>k44 r19|none =>none else k44 false|none =>none;bif v12 then match qb7 r.Loans 0 99 with|some r14 =>k45 r14|none =>none else k45 false;bif r9 then match qb7 r.Renewals 0 10 with|some r11 =>k46 r11|none =>none else k46 false|none =>none;bif v then match qb7 r.Branch 0 4 with|some r6 =>k47 r6|none =>none else k47 false;bif r2 then match qb7 r.Item 0 9 with|some r4 =>k48 r4|none =>none else k48 false|none =>none
def zsj:((List Rule)×Int×Int×Unit)→Option (((List Rule)×Int×Int×Unit)⊕(((List Rule)×Int×Unit)⊕(Int×Unit))):=fun (l,i,k,_)=>
 bif decide (k<i) then match getI l k with|some x =>(match getI l i with|some x2 =>let k9 (v:Bool):Option (((List Rule)×Int×Int×Unit)⊕(((List Rule)×Int×Unit)⊕(Int×Unit))):=let k8 (v7:Bool):Option (((List Rule)×Int×Int×Unit)⊕(((List Rule)×Int×Unit)⊕(Int×Unit))):=bif v7 then some (.inr (.inr (7,()))) else some (.inl (l,i,wr .i64 (k+1),()));bif v then match getI l k with|some x5 =>(match getI l i with|some x6 =>k8 (x5.Branch==x6.Branch)|none =>none)|none =>none else k8 false;bif x.Patron==x2.Patron then match getI l k with|some x3 =>(match getI l i with|some x4 =>k9 (x3.Item==x4.Item)|none =>none)|none =>none else k9 false|none =>none)|none =>none else some (.inr (.inl (l,i,())))
def zyp:((List Rule)×Int×Unit)→Option (((List Rule)×Int×Unit)⊕((Unit)⊕(Int×Unit))):=fun (l,i,_)=>
 bif decide (i<(l.length:Int)) then match getI l i with|some x =>(match qev x with|some r1 =>(bif !r1 then some (.inr (.inr (2,()))) else match zah zsj (l,i,0,()) with|some (.inl (l10,i11,_)) =>some (.inl (l10,wr .i64 (i11+1),()))|some (.inr (v,_)) =>some (.inr (.inr (v,())))|none =>none)|none =>none)|none =>none else some (.inr (.inl (())))
def qs (l:List Rule):Option Int:=
 bif decide (32<(l.length:Int)) then some 13 else match zah zyp (l,0,()) with|some (.inl (_)) =>some 0|some (.inr (v,_)) =>some v|none =>none
def zje:(Int×Calendar×Unit)→Option ((Int×Calendar×Unit)⊕((Calendar×Unit)⊕(Int×Unit))):=fun (i,c,_)=>
 bif decide (i<(c.Closed.length:Int)) then match getI c.Closed i with|some x =>(let k (v:Bool):Option ((Int×Calendar×Unit)⊕((Calendar×Unit)⊕(Int×Unit))):=bif v then some (.inr (.inr (2,()))) else some (.inl (wr .i64 (i+1),c,()));bif decide (x<0) then k true else match getI c.Closed i with|some x1 =>k (decide (109572<x1))|none =>none)|none =>none else some (.inr (.inl (c,())))
def zfw:(Int×Calendar×Unit)→Option ((Int×Calendar×Unit)⊕((Unit)⊕(Int×Unit))):=fun (i,c,_)=>
 bif decide (i<(c.Closed.length:Int)) then match getI c.Closed i with|some x =>(match getI c.Closed (wr .i64 (i-1)) with|some x3 =>bif decide (x≤x3) then some (.inr (.inr (7,()))) else some (.inl (wr .i64 (i+1),c,()))|none =>none)|none =>none else some (.inr (.inl (())))
def qaa (c:Calendar):Option Int:=
 let k (v:Bool):Option Int:=bif v then some 1 else bif decide (64<(c.Closed.length:Int)) then some 13 else match zah zje (0,c,()) with|some (.inl (c2,_)) =>(match zah zfw (1,c2,()) with|some (.inl (_)) =>some 0|some (.inr (v4,_)) =>some v4|none =>none)|some (.inr (v5,_)) =>some v5|none =>none;bif decide (c.Week<0) then k true else k (decide (126<c.Week))
def zlx:((List Patron)×Int×Int×Unit)→Option (((List Patron)×Int×Int×Unit)⊕((Unit)⊕(Int×Unit))):=fun (l,vid,i,_)=>
 bif decide (i<(l.length:Int)) then match getI l i with|some x =>bif x.ID==vid then some (.inr (.inr (i,()))) else some (.inl (l,vid,wr .i64 (i+1),()))|none =>none else some (.inr (.inl (())))
def qbw (l:List Patron) (vid:Int):Option Int:=
 match zah zlx (l,vid,0,()) with|some (.inl (_)) =>some (-1)|some (.inr (v,_)) =>some v|none =>none
def qcs (l:List Patron) (vid:Int):Option (Patron×Bool):=
 match qbw l vid with|some r1 =>(bif decide (r1<0) then some ((⟨0,0,0,0,false,[]⟩:Patron),false) else match getI l r1 with|some x =>some (x,true)|none =>none)|none =>none
def qe2 (branch:Int):Option Custody:=
 some (⟨1,branch,0,0⟩:Custody)
def qfd (state:Int):Option Bool:=
 let k6 (v:Bool):Option Bool:=let k5 (v1:Bool):Option Bool:=let k4 (v2:Bool):Option Bool:=let k (v3:Bool):Option Bool:=some v3;bif v2 then k true else k (state==10);bif v1 then k4 true else k4 (state==9);bif v then k5 true else k5 (state==8);bif state==4 then k6 true else k6 (state==5)
def qfj (c:Custody):Option Bool:=
 let k17 (v:Bool):Option Bool:=let k16 (v1:Bool):Option Bool:=let k15 (v2:Bool):Option Bool:=bif v2 then some false else let k10 (v9:Bool):Option Bool:=some v9;bif c.State==6 then let k8 (v3:Bool):Option Bool:=let k7 (v4:Bool):Option Bool:=let k (v5:Bool):Option Bool:=bif v5 then k10 (!(c.To==c.Branch)) else k10 false;bif v4 then k (decide (c.To≤4)) else k false;bif v3 then k7 (decide (1≤c.To)) else k7 false;bif decide (0≤c.Who) then k8 (decide (c.Who≤9999)) else k8 false else bif !(c.To==0) then some false else match qfd c.State with|some r11 =>let k14 (v13:Bool):Option Bool:=some v13;bif r11 then bif decide (1≤c.Who) then k14 (decide (c.Who≤9999)) else k14 false else some (c.Who==0)|none =>none;bif v1 then k15 true else k15 (decide (4<c.Branch));bif v then k16 true else k16 (decide (c.Branch<1));bif decide (c.State<1) then k17 true else k17 (decide (12<c.State))
def qej (m:Move):Option Bool:=
 let k16 (v:Bool):Option Bool:=let k15 (v1:Bool):Option Bool:=let k14 (v2:Bool):Option Bool:=let k13 (v3:Bool):Option Bool:=let k12 (v4:Bool):Option Bool:=let k11 (v5:Bool):Option Bool:=let k10 (v6:Bool):Option Bool:=let k9 (v7:Bool):Option Bool:=let k (v8:Bool):Option Bool:=some v8;bif v7 then k (decide (m.Who≤9999)) else k false;bif v6 then k9 (decide (0≤m.Who)) else k9 false;bif v5 then k10 (decide (m.Branch≤4)) else k10 false;bif v4 then k11 (decide (1≤m.Branch)) else k11 false;bif v3 then k12 (decide (m.Kind≤15)) else k12 false;bif v2 then k13 (decide (1≤m.Kind)) else k13 false;bif v1 then k14 (decide (m.Item≤9999)) else k14 false;bif v then k15 (decide (1≤m.Item)) else k15 false;bif decide (0≤m.Day) then k16 (decide (m.Day≤109572)) else k16 false
def qe0 (kind:Int):Option (List Int):=
 bif kind==1 then some ([1]) else bif kind==2 then some ([2,5]) else bif kind==3 then some ([3,5]) else bif kind==4 then some ([4,8,9,10]) else let k (v:Bool):Option (List Int):=bif v then some ([2,3]) else bif kind==6 then some ([2,3,5]) else bif kind==7 then some ([6]) else bif kind==9 then some ([7]) else bif kind==10 then some ([3]) else bif kind==11 then some ([4]) else bif kind==12 then some ([4,9]) else bif kind==13 then some ([2,3,5,6,7]) else bif kind==14 then some ([11]) else bif kind==15 then some ([1,2,3,11,10]) else some ([]);bif kind==5 then k (kind==5) else k (kind==8)
def zlv:(Int×(List Int)×Int×Unit)→Option ((Int×(List Int)×Int×Unit)⊕((Unit)⊕(Bool×Unit))):=fun (state,l,i,_)=>
 bif decide (i<(l.length:Int)) then match getI l i with|some x =>bif x==state then some (.inr (.inr (true,()))) else some (.inl (state,l,wr .i64 (i+1),()))|none =>none else some (.inr (.inl (())))
def qbt (state:Int) (kind:Int):Option Bool:=
 match qe0 kind with|some r1 =>(match zah zlv (state,r1,0,()) with|some (.inl (_)) =>some false|some (.inr (v,_)) =>some v|none =>none)|none =>none
def qfm (c:Custody) (m:Move):Option Bool:=
 let k14 (v2:Bool):Option Bool:=let k11 (v10:Bool):Option Bool:=some v10;bif v2 then k11 (m.Who==0) else bif m.Kind==7 then bif m.Who==0 then k11 (m.Branch==c.To) else k11 false else bif m.Kind==6 then k11 (!(m.Branch==c.Branch)) else let k (v5:Bool):Option Bool:=bif v5 then bif m.Branch==c.Branch then k11 (decide (1≤m.Who)) else k11 false else let k13 (v12:Bool):Option Bool:=some v12;bif m.Branch==c.Branch then k13 (m.Who==0) else k13 false;bif m.Kind==3 then k (m.Kind==3) else bif m.Kind==5 then k (m.Kind==5) else k (m.Kind==10);bif m.Kind==1 then k14 (m.Kind==1) else bif m.Kind==4 then k14 (m.Kind==4) else bif m.Kind==9 then k14 (m.Kind==9) else k14 (m.Kind==14)
def qfi (kind:Int):Option Int:=
 let k13 (v3:Bool):Option Int:=let k (v12:Int):Option Int:=some v12;bif v3 then k 2 else bif kind==2 then k 3 else bif kind==3 then k 4 else bif kind==5 then k 5 else bif kind==6 then k 6 else bif kind==8 then k 7 else bif kind==10 then k 8 else bif kind==11 then k 9 else bif kind==12 then k 10 else bif kind==13 then k 11 else some 12;bif kind==1 then k13 (kind==1) else bif kind==4 then k13 (kind==4) else bif kind==7 then k13 (kind==7) else bif kind==9 then k13 (kind==9) else k13 (kind==14)
def qe3 (c:Custody) (m:Move):Option (Custody×Int):=
 match qfj c with|some r1 =>(let k26 (v:Bool):Option (Custody×Int):=bif v then some ((⟨0,0,0,0⟩:Custody),1) else match qbt c.State m.Kind with|some r5 =>bif !r5 then some ((⟨0,0,0,0⟩:Custody),12) else let k25 (v6:Bool):Option (Custody×Int):=let k24 (v7:Bool):Option (Custody×Int):=bif v7 then some ((⟨0,0,0,0⟩:Custody),16) else match qfm c m with|some r9 =>(bif !r9 then some ((⟨0,0,0,0⟩:Custody),1) else match qfi m.Kind with|some r11 =>let k23 (vout20:Int) (vout21:Int) (vout22:Int):Option (Custody×Int):=some ((⟨r11,vout20,vout21,vout22⟩:Custody),0);bif r11==2 then k23 m.Branch 0 0 else let k19 (v13:Bool):Option (Custody×Int):=bif v13 then k23 c.Branch m.Who 0 else bif r11==6 then k23 c.Branch m.Who m.Branch else let k (v14:Bool):Option (Custody×Int):=bif v14 then k23 c.Branch c.Who 0 else k23 c.Branch 0 0;bif r11==9 then k (r11==9) else k (r11==10);bif r11==4 then k19 (r11==4) else bif r11==5 then k19 (r11==5) else k19 (r11==8)|none =>none)|none =>none;bif v6 then k24 (!(m.Who==c.Who)) else k24 false;bif m.Kind==3 then k25 (c.State==5) else k25 false|none =>none;bif !r1 then k26 true else match qej m with|some r3 =>k26 (!r3)|none =>none)|none =>none
def zlt:((List Move)×Int×Int×Custody×Custody×Unit)→Option (((List Move)×Int×Int×Custody×Custody×Unit)⊕((Custody×Custody×Unit)⊕(Int×Int×Custody×Unit))):=fun (l,item,i,v,c,_)=>
 bif decide (i<(l.length:Int)) then match getI l i with|some x =>(bif !(x.Item==item) then some (.inl (l,item,wr .i64 (i+1),v,c,())) else match getI l i with|some x2 =>(match qe3 c x2 with|some (r3,r4) =>bif !(r4==0) then some (.inr (.inr (i,r4,(⟨0,0,0,0⟩:Custody),()))) else some (.inl (l,item,wr .i64 (i+1),v,r3,()))|none =>none)|none =>none)|none =>none else some (.inr (.inl (v,c,())))
def qbl (branch:Int) (l:List Move) (item:Int):Option (Custody×Int×Int):=
 let k (v:Bool):Option (Custody×Int×Int):=bif v then some ((⟨0,0,0,0⟩:Custody),(-1),1) else match qe2 branch with|some r1 =>(match zah zlt (l,item,0,(⟨0,0,0,0⟩:Custody),r1,()) with|some (.inl (v5,c,_)) =>some (c,(-1),0)|some (.inr (v6,v7,v8,_)) =>some (v8,v6,v7)|none =>none)|none =>none;bif decide (branch<1) then k true else k (decide (4<branch))
def zll:(Int×Int×Circ×Unit)→Option ((Int×Int×Circ×Unit)⊕((Unit)⊕(Int×Unit))):=fun (item,i,c,_)=>
 bif decide (i<(c.Items.length:Int)) then match getI c.Items i with|some x =>bif x.ID==item then some (.inr (.inr (i,()))) else some (.inl (item,wr .i64 (i+1),c,()))|none =>none else some (.inr (.inl (())))
def qao (c:Circ) (item:Int):Option Int:=
 match zah zll (item,0,c,()) with|some (.inl (_)) =>some (-1)|some (.inr (v,_)) =>some v|none =>none
def zsl:(Int×Circ×Unit)→Option ((Int×Circ×Unit)⊕((Circ×Unit)⊕(Bool×Unit))):=fun (i,c,_)=>
 bif decide (i<(c.Items.length:Int)) then match getI c.Items i with|some x =>let k29 (v:Bool):Option ((Int×Circ×Unit)⊕((Circ×Unit)⊕(Bool×Unit))):=let k28 (v3:Bool):Option ((Int×Circ×Unit)⊕((Circ×Unit)⊕(Bool×Unit))):=let k27 (v4:Bool):Option ((Int×Circ×Unit)⊕((Circ×Unit)⊕(Bool×Unit))):=let k26 (v5:Bool):Option ((Int×Circ×Unit)⊕((Circ×Unit)⊕(Bool×Unit))):=let k25 (v6:Bool):Option ((Int×Circ×Unit)⊕((Circ×Unit)⊕(Bool×Unit))):=let k24 (v7:Bool):Option ((Int×Circ×Unit)⊕((Circ×Unit)⊕(Bool×Unit))):=bif v7 then some (.inr (.inr (false,()))) else let k23 (v8:Bool):Option ((Int×Circ×Unit)⊕((Circ×Unit)⊕(Bool×Unit))):=let k22 (v9:Bool):Option ((Int×Circ×Unit)⊕((Circ×Unit)⊕(Bool×Unit))):=let k21 (v10:Bool):Option ((Int×Circ×Unit)⊕((Circ×Unit)⊕(Bool×Unit))):=let k20 (v11:Bool):Option ((Int×Circ×Unit)⊕((Circ×Unit)⊕(Bool×Unit))):=let k19 (v13:Bool):Option ((Int×Circ×Unit)⊕((Circ×Unit)⊕(Bool×Unit))):=bif v13 then some (.inr (.inr (false,()))) else match qbl x.Branch c.Moves x.ID with|some (r15,r16,r17) =>let k (v18:Bool):Option ((Int×Circ×Unit)⊕((Circ×Unit)⊕(Bool×Unit))):=bif v18 then some (.inr (.inr (false,()))) else some (.inl (wr .i64 (i+1),c,()));bif !(r17==0) then k true else k (!(zbs r15 x.Custody))|none =>none;bif v11 then k19 true else match qaw x.Call with|some r12 =>k19 (!r12)|none =>none;bif v10 then k20 true else k20 (decide (200<(x.Call.length:Int)));bif v9 then k21 true else k21 (decide (100000000<x.Price));bif v8 then k22 true else k22 (decide (x.Price<0));bif decide (x.Kind<1) then k23 true else k23 (decide (9<x.Kind));bif v6 then k24 true else k24 (decide (4<x.Branch));bif v5 then k25 true else k25 (decide (x.Branch<1));bif v4 then k26 true else k26 (decide (9999<x.Record));bif v3 then k27 true else k27 (decide (x.Record<1));bif v then k28 true else bif decide (0<i) then match getI c.Items (wr .i64 (i-1)) with|some x1 =>k28 (decide (x.ID≤x1.ID))|none =>none else k28 false;bif decide (x.ID<1) then k29 true else k29 (decide (9999<x.ID))|none =>none else some (.inr (.inl (c,())))
def zjo:(Int×Circ×Unit)→Option ((Int×Circ×Unit)⊕((Unit)⊕(Bool×Unit))):=fun (i,c,_)=>
 bif decide (i<(c.Moves.length:Int)) then match getI c.Moves i with|some x =>(match qao c x.Item with|some r31 =>bif decide (r31<0) then some (.inr (.inr (false,()))) else some (.inl (wr .i64 (i+1),c,()))|none =>none)|none =>none else some (.inr (.inl (())))
def qz (c:Circ):Option Bool:=
 let k (v:Bool):Option Bool:=bif v then some false else match zah zsl (0,c,()) with|some (.inl (c30,_)) =>(match zah zjo (0,c30,()) with|some (.inl (_)) =>some true|some (.inr (v32,_)) =>some v32|none =>none)|some (.inr (v33,_)) =>some v33|none =>none;bif decide (64<(c.Items.length:Int)) then k true else k (decide (2000<(c.Moves.length:Int)))
def qee (u:Custody):Option Bool:=
 let k2 (v:Bool):Option Bool:=let k (v1:Bool):Option Bool:=some v1;bif v then k true else k (u.State==10);bif u.State==4 then k2 true else k2 (u.State==9)
def zlw:((List Loan)×Int×Int×Unit)→Option (((List Loan)×Int×Int×Unit)⊕((Unit)⊕(Int×Unit))):=fun (l,item,i,_)=>
 bif decide (i<(l.length:Int)) then match getI l i with|some x =>bif x.Item==item then some (.inr (.inr (i,()))) else some (.inl (l,item,wr .i64 (i+1),()))|none =>none else some (.inr (.inl (())))
def qbv (l:List Loan) (item:Int):Option Int:=
 match zah zlw (l,item,0,()) with|some (.inl (_)) =>some (-1)|some (.inr (v,_)) =>some v|none =>none
def qe6 (l:List Loan) (item:Int):Option (Loan×Bool):=
 match qbv l item with|some r1 =>(bif decide (r1<0) then some ((⟨0,0,0,0,0,false⟩:Loan),false) else match getI l r1 with|some x =>some (x,true)|none =>none)|none =>none
def zsk:(Int×Circ×Unit)→Option ((Int×Circ×Unit)⊕((Circ×Unit)⊕(Bool×Unit))):=fun (i,c,_)=>
 bif decide (i<(c.Loans.length:Int)) then match getI c.Loans i with|some x =>(match qao c x.Item with|some r1 =>(match qcs c.Patrons x.Patron with|some (r3,r4) =>let k12 (v:Bool):Option ((Int×Circ×Unit)⊕((Circ×Unit)⊕(Bool×Unit))):=let k11 (v8:Bool):Option ((Int×Circ×Unit)⊕((Circ×Unit)⊕(Bool×Unit))):=let k (v10:Bool):Option ((Int×Circ×Unit)⊕((Circ×Unit)⊕(Bool×Unit))):=bif v10 then some (.inr (.inr (false,()))) else some (.inl (wr .i64 (i+1),c,()));bif v8 then k true else match getI c.Items r1 with|some x9 =>k (!(x9.Custody.Who==x.Patron))|none =>none;bif v then k11 true else match getI c.Items r1 with|some x5 =>(match qee x5.Custody with|some r7 =>k11 (!r7)|none =>none)|none =>none;bif decide (r1<0) then k12 true else k12 (!r4)|none =>none)|none =>none)|none =>none else some (.inr (.inl (c,())))
def zl1:(Int×Circ×Unit)→Option ((Int×Circ×Unit)⊕((Unit)⊕(Bool×Unit))):=fun (i,c,_)=>
 bif decide (i<(c.Items.length:Int)) then match getI c.Items i with|some x =>(match qe6 c.Loans x.ID with|some (r14,r15) =>(match getI c.Items i with|some x16 =>(match qee x16.Custody with|some r18 =>bif !(r15==r18) then some (.inr (.inr (false,()))) else some (.inl (wr .i64 (i+1),c,()))|none =>none)|none =>none)|none =>none)|none =>none else some (.inr (.inl (())))
def qy (c:Circ):Option Bool:=
 match zah zsk (0,c,()) with|some (.inl (c13,_)) =>(match zah zl1 (0,c13,()) with|some (.inl (_)) =>some true|some (.inr (v,_)) =>some v|none =>none)|some (.inr (v19,_)) =>some v19|none =>none
def zls:(Int×Int×Circ×Hold×Unit)→Option ((Int×Int×Circ×Hold×Unit)⊕((Hold×Unit)⊕(Bool×Hold×Unit))):=fun (item,i,c,v,_)=>
 bif decide (i<(c.Holds.length:Int)) then match getI c.Holds i with|some x =>bif x.Got==item then match getI c.Holds i with|some x1 =>some (.inr (.inr (true,x1,())))|none =>none else some (.inl (item,wr .i64 (i+1),c,v,()))|none =>none else some (.inr (.inl (v,())))
def qbk (c:Circ) (item:Int):Option (Hold×Bool):=
 match zah zls (item,0,c,(⟨0,0,0,0,0,0,0,0,0,0,0⟩:Hold),()) with|some (.inl (v,_)) =>some ((⟨0,0,0,0,0,0,0,0,0,0,0⟩:Hold),false)|some (.inr (v2,v3,_)) =>some (v3,v2)|none =>none
def zse:(Int×Circ×Unit)→Option ((Int×Circ×Unit)⊕((Circ×Unit)⊕(Bool×Unit))):=fun (i,c,_)=>
 bif decide (i<(c.Holds.length:Int)) then match getI c.Holds i with|some x =>(match qcs c.Patrons x.Patron with|some (r1,r2) =>let k18 (v:Bool):Option ((Int×Circ×Unit)⊕((Circ×Unit)⊕(Bool×Unit))):=bif v then some (.inr (.inr (false,()))) else bif x.State==1 then some (.inl (wr .i64 (i+1),c,())) else match qao c x.Got with|some r4 =>(let k17 (v6:Bool):Option ((Int×Circ×Unit)⊕((Circ×Unit)⊕(Bool×Unit))):=bif v6 then some (.inr (.inr (false,()))) else match getI c.Items r4 with|some x7 =>let k16 (v10:Bool):Option ((Int×Circ×Unit)⊕((Circ×Unit)⊕(Bool×Unit))):=bif v10 then some (.inr (.inr (false,()))) else let k15 (v14:Bool):Option ((Int×Circ×Unit)⊕((Circ×Unit)⊕(Bool×Unit))):=bif v14 then some (.inr (.inr (false,()))) else some (.inl (wr .i64 (i+1),c,()));bif x.State==2 then let k13 (v11:Bool):Option ((Int×Circ×Unit)⊕((Circ×Unit)⊕(Bool×Unit))):=bif v11 then k15 true else k15 (!(x7.Custody.Who==x.Patron));bif !(x7.Custody.State==6) then k13 true else k13 (!(x7.Custody.To==x.Pickup)) else k15 false;bif x.State==3 then let k (v8:Bool):Option ((Int×Circ×Unit)⊕((Circ×Unit)⊕(Bool×Unit))):=bif v8 then k16 true else k16 (!(x7.Custody.Who==x.Patron));bif !(x7.Custody.State==5) then k true else k (!(x7.Custody.Branch==x.Pickup)) else k16 false|none =>none;bif decide (r4<0) then k17 true else match getI c.Items r4 with|some x5 =>k17 (!(x5.Record==x.Record))|none =>none)|none =>none;bif !r2 then k18 true else k18 (decide (c.NextHold≤x.ID))|none =>none)|none =>none else some (.inr (.inl (c,())))
def zlg:(Int×Circ×Unit)→Option ((Int×Circ×Unit)⊕((Unit)⊕(Bool×Unit))):=fun (i,c,_)=>
 bif decide (i<(c.Items.length:Int)) then match getI c.Items i with|some x =>(bif !(x.Custody.State==5) then some (.inl (wr .i64 (i+1),c,())) else match getI c.Items i with|some x20 =>(match qbk c x20.ID with|some (r21,r22) =>let k (v:Bool):Option ((Int×Circ×Unit)⊕((Unit)⊕(Bool×Unit))):=bif v then some (.inr (.inr (false,()))) else some (.inl (wr .i64 (i+1),c,()));bif !r22 then k true else k (!(r21.State==3))|none =>none)|none =>none)|none =>none else some (.inr (.inl (())))
def q8 (c:Circ):Option Bool:=
 match zah zse (0,c,()) with|some (.inl (c19,_)) =>(match zah zlg (0,c19,()) with|some (.inl (_)) =>some true|some (.inr (v,_)) =>some v|none =>none)|some (.inr (v23,_)) =>some v23|none =>none
def zhd:(Int×Circ×Unit)→Option ((Int×Circ×Unit)⊕((Circ×Unit)⊕(Bool×Unit))):=fun (i,c,_)=>
 bif decide (i<4) then let k (v:Int) (v18:List Int):Option ((Int×Circ×Unit)⊕((Circ×Unit)⊕(Bool×Unit))):=match qaa (⟨v,v18⟩:Calendar) with|some r19 =>bif !(r19==0) then some (.inr (.inr (false,()))) else some (.inl (wr .i64 (i+1),c,()))|none =>none;bif i==0 then k c.Cals.x0.Week c.Cals.x0.Closed else bif i==1 then k c.Cals.x1.Week c.Cals.x1.Closed else bif i==2 then k c.Cals.x2.Week c.Cals.x2.Closed else bif i==3 then k c.Cals.x3.Week c.Cals.x3.Closed else none else some (.inr (.inl (c,())))
def zfx:(Int×Circ×Unit)→Option ((Int×Circ×Unit)⊕((Circ×Unit)⊕(Bool×Unit))):=fun (i,c,_)=>
 bif decide (i<(c.Charges.length:Int)) then match getI c.Charges i with|some x =>(match qcs c.Patrons x.Patron with|some (r21,r22) =>(let k (v:Bool):Option ((Int×Circ×Unit)⊕((Circ×Unit)⊕(Bool×Unit))):=bif v then some (.inr (.inr (false,()))) else some (.inl (wr .i64 (i+1),c,()));bif !r22 then k true else match getI c.Charges i with|some x23 =>k (decide (c.NextCharge≤x23.ID))|none =>none)|none =>none)|none =>none else some (.inr (.inl (c,())))
def qaf (c:Circ):Option Bool:=
 let k44 (v:Bool):Option Bool:=let k43 (v1:Bool):Option Bool:=let k42 (v2:Bool):Option Bool:=let k41 (v3:Bool):Option Bool:=let k40 (v4:Bool):Option Bool:=bif v4 then some false else match qbo c.Patrons with|some r5 =>(let k39 (v8:Bool):Option Bool:=let k38 (v11:Bool):Option Bool:=let k37 (v14:Bool):Option Bool:=let k36 (v17:Bool):Option Bool:=bif v17 then some false else match zah zhd (0,c,()) with|some (.inl (c20,_)) =>(match zah zfx (0,c20,()) with|some (.inl (c24,_)) =>(match qz c24 with|some r26 =>let k33 (v29:Bool):Option Bool:=let k (v32:Bool):Option Bool:=some v32;bif v29 then match q8 c24 with|some r31 =>k r31|none =>none else k false;bif r26 then match qy c24 with|some r28 =>k33 r28|none =>none else k33 false|none =>none)|some (.inr (v34,_)) =>some v34|none =>none)|some (.inr (v35,_)) =>some v35|none =>none;bif v14 then k36 true else match qs c.Rules with|some r16 =>k36 (!(r16==0))|none =>none;bif v11 then k37 true else match qbn c.Charges with|some r13 =>k37 (!(r13==0))|none =>none;bif v8 then k38 true else match qo c.Holds with|some r10 =>k38 (!(r10==0))|none =>none;bif !(r5==0) then k39 true else match qbm c.Loans with|some r7 =>k39 (!(r7==0))|none =>none)|none =>none;bif v3 then k40 true else k40 (decide (100000<c.NextCharge));bif v2 then k41 true else k41 (decide (c.NextCharge<1));bif v1 then k42 true else k42 (decide (100000<c.NextHold));bif v then k43 true else k43 (decide (c.NextHold<1));bif decide (c.Today<0) then k44 true else k44 (decide (109572<c.Today))
def qfk (c:Circ):Option Bool:=
 match qr c with|some r1 =>let k (v:Bool):Option Bool:=some v;bif r1 then match qaf c with|some r3 =>k r3|none =>none else k false|none =>none
def zlo:(Int×Int×Int×Int×Circ×Unit)→Option ((Int×Int×Int×Int×Circ×Unit)⊕((Int×Int×Unit))):=fun (item,n,last,i,c,_)=>
 bif decide (i<(c.Moves.length:Int)) then match getI c.Moves i with|some x =>let k7 (v2:Bool):Option ((Int×Int×Int×Int×Circ×Unit)⊕((Int×Int×Unit))):=bif v2 then some (.inl (item,n,last,wr .i64 (i+1),c,())) else let k6 (n3:Int):Option ((Int×Int×Int×Int×Circ×Unit)⊕((Int×Int×Unit))):=let k5 (last4:Int):Option ((Int×Int×Int×Int×Circ×Unit)⊕((Int×Int×Unit))):=some (.inl (item,n3,last4,wr .i64 (i+1),c,()));bif decide (last<x.Day) then k5 x.Day else k5 last;bif x.Kind==3 then k6 (wr .i64 (n+1)) else k6 n;bif !(x.Item==item) then k7 true else let k (v:Bool):Option ((Int×Int×Int×Int×Circ×Unit)⊕((Int×Int×Unit))):=bif v then k7 (!(x.Kind==4)) else k7 false;bif !(x.Kind==1) then k (!(x.Kind==3)) else k false|none =>none else some (.inr ((n,last,())))
def qax (c:Circ) (item:Int):Option (Int×Int):=
 match zah zlo (item,0,(-1),0,c,()) with|some ((n,last,_)) =>some (n,last)|none =>none
def zli:(Int×Int×Int×Circ×Item×Unit)→Option ((Int×Int×Int×Circ×Item×Unit)⊕((Int×Int×Circ×Item×Unit)⊕(Bool×Unit))):=fun (days,loans,i,c,x,_)=>
 bif decide (i<(c.Holds.length:Int)) then match getI c.Holds i with|some x1 =>(let k (v:Bool):Option ((Int×Int×Int×Circ×Item×Unit)⊕((Int×Int×Circ×Item×Unit)⊕(Bool×Unit))):=bif v then some (.inr (.inr (false,()))) else some (.inl (days,loans,wr .i64 (i+1),c,x,()));bif x1.Record==x.Record then k true else match getI c.Holds i with|some x2 =>k (x2.Item==x.ID)|none =>none)|none =>none else some (.inr (.inl (days,loans,c,x,())))
def qa6 (c:Circ) (x:Item) (days:Int) (loans:Int):Option Bool:=
 bif !(x.Custody.State==3) then some false else match zah zli (days,loans,0,c,x,()) with|some (.inl (days3,loans4,c5,x6,_)) =>(match qax c5 x6.ID with|some (r7,r8) =>let k (v:Bool):Option Bool:=some v;bif decide (r7≤loans4) then k (decide (days3<wr .i64 (c5.Today-r8))) else k false|none =>none)|some (.inr (v9,_)) =>some v9|none =>none
def qez (c:Circ) (a:Int) (b:Int):Option Bool:=
 match qax c a with|some (r1,r2) =>(match qax c b with|some (r4,r5) =>bif !(r1==r4) then some (decide (r1<r4)) else bif !(r2==r5) then some (decide (r2<r5)) else some (decide (a<b))|none =>none)|none =>none
def zl0:(Int×Int×(List Int)×Int×Int×Bool×Int×Circ×(List Int)×Unit)→Option ((Int×Int×(List Int)×Int×Int×Bool×Int×Circ×(List Int)×Unit)⊕((Int×Int×Int×Int×Bool×Circ×(List Int)×Unit))):=fun (days,loans,vout,i,vid,done,k,c,l,_)=>
 bif decide (k<(vout.length:Int)) then let k6 (v:Bool):Option ((Int×Int×(List Int)×Int×Int×Bool×Int×Circ×(List Int)×Unit)⊕((Int×Int×Int×Int×Bool×Circ×(List Int)×Unit))):=bif v then bif decide (l.length+([vid]:List Int).length≤LIM) then match getI vout k with|some x4 =>bif decide ((l++([vid]:List Int)).length+([x4]:List Int).length≤LIM) then some (.inl (days,loans,vout,i,vid,true,wr .i64 (k+1),c,(l++([vid]:List Int))++([x4]:List Int),())) else none|none =>none else none else match getI vout k with|some x5 =>bif decide (l.length+([x5]:List Int).length≤LIM) then some (.inl (days,loans,vout,i,vid,done,wr .i64 (k+1),c,l++([x5]:List Int),())) else none|none =>none;bif !done then match getI vout k with|some x =>(match qez c vid x with|some r3 =>k6 r3|none =>none)|none =>none else k6 false else some (.inr ((days,loans,i,vid,done,c,l,())))
def zyq:(Int×Int×(List Int)×Int×Circ×Unit)→Option ((Int×Int×(List Int)×Int×Circ×Unit)⊕(((List Int)×Unit))):=fun (days,loans,vout,i,c,_)=>
 bif decide (i<(c.Items.length:Int)) then match getI c.Items i with|some x =>(match qa6 c x days loans with|some r1 =>(bif !r1 then some (.inl (days,loans,vout,wr .i64 (i+1),c,())) else match getI c.Items i with|some x2 =>(match zah zl0 (days,loans,vout,i,x2.ID,false,0,c,([]:List Int),()) with|some ((days7,loans8,i9,vid,done,c10,l,_)) =>bif !done then bif decide (l.length+([vid]:List Int).length≤LIM) then some (.inl (days7,loans8,l++([vid]:List Int),wr .i64 (i9+1),c10,())) else none else some (.inl (days7,loans8,l,wr .i64 (i9+1),c10,()))|none =>none)|none =>none)|none =>none)|none =>none else some (.inr ((vout,())))
def qx (c:Circ) (days:Int) (loans:Int):Option (List Int):=
 match zah zyq (days,loans,([]:List Int),0,c,()) with|some ((vout,_)) =>some vout|none =>none
def zlp:(Int×Int×Circ×Unit)→Option ((Int×Int×Circ×Unit)⊕((Unit)⊕(Int×Unit))):=fun (item,i,c,_)=>
 bif decide (i<(c.Items.length:Int)) then match getI c.Items i with|some x =>bif x.ID==item then match getI c.Items i with|some x1 =>some (.inr (.inr (x1.Record,())))|none =>none else some (.inl (item,wr .i64 (i+1),c,()))|none =>none else some (.inr (.inl (())))
def qba (c:Circ) (item:Int):Option Int:=
 match zah zlp (item,0,c,()) with|some (.inl (_)) =>some 0|some (.inr (v,_)) =>some v|none =>none
def zlr:(Int×Int×Int×Circ×Unit)→Option ((Int×Int×Int×Circ×Unit)⊕((Int×Unit))):=fun (record,n,i,c,_)=>
 bif decide (i<(c.Items.length:Int)) then match getI c.Items i with|some x =>let k3 (v:Bool):Option ((Int×Int×Int×Circ×Unit)⊕((Int×Unit))):=let k (n2:Int):Option ((Int×Int×Int×Circ×Unit)⊕((Int×Unit))):=some (.inl (record,n2,wr .i64 (i+1),c,()));bif v then k (wr .i64 (n+1)) else k n;bif x.Record==record then match getI c.Items i with|some x1 =>k3 (!(x1.Custody.State==12))|none =>none else k3 false|none =>none else some (.inr ((n,())))
def qbj (c:Circ) (record:Int):Option Int:=
 match zah zlr (record,0,0,c,()) with|some ((n,_)) =>some n|none =>none
def zjf:(Int×(List Int)×Int×Int×Int×Int×Circ×(List Int)×Unit)→Option ((Int×(List Int)×Int×Int×Int×Int×Circ×(List Int)×Unit)⊕((Int×(List Int)×Int×Int×Circ×(List Int)×Unit))):=fun (most,l,i,record,left,k,c,l6,_)=>
 bif decide (k<(l6.length:Int)) then match getI l6 k with|some _ =>(match l6[k.toNat]? with|some x =>(match qba c x with|some r7 =>let k9 (left8:Int):Option ((Int×(List Int)×Int×Int×Int×Int×Circ×(List Int)×Unit)⊕((Int×(List Int)×Int×Int×Circ×(List Int)×Unit))):=some (.inl (most,l,i,record,left8,wr .i64 (k+1),c,l6,()));bif r7==record then k9 (wr .i64 (left-1)) else k9 left|none =>none)|none =>none)|none =>none else some (.inr ((most,l,i,left,c,l6,())))
def zlj:(Int×(List Int)×Int×Circ×(List Int)×Unit)→Option ((Int×(List Int)×Int×Circ×(List Int)×Unit)⊕(((List Int)×Unit))):=fun (most,l,i,c,l2,_)=>
 let k (v:Bool):Option ((Int×(List Int)×Int×Circ×(List Int)×Unit)⊕(((List Int)×Unit))):=bif v then match getI l i with|some x =>(match qba c x with|some r3 =>(match qbj c r3 with|some r5 =>(match zah zjf (most,l,i,r3,r5,0,c,l2,()) with|some ((most10,l11,i12,left,c13,l14,_)) =>bif decide (2≤left) then match getI l11 i12 with|some x15 =>bif decide (l14.length+([x15]:List Int).length≤LIM) then some (.inl (most10,l11,wr .i64 (i12+1),c13,l14++([x15]:List Int),())) else none|none =>none else some (.inl (most10,l11,wr .i64 (i12+1),c13,l14,()))|none =>none)|none =>none)|none =>none)|none =>none else some (.inr ((l2,())));bif decide (i<(l.length:Int)) then k (decide ((l2.length:Int)<most)) else k false
def qab (c:Circ) (days:Int) (loans:Int) (most:Int):Option (List Int):=
 match qx c days loans with|some r1 =>(match zah zlj (most,r1,0,c,([]:List Int),()) with|some ((l,_)) =>some l|none =>none)|none =>none
def qdi (c:Circ) (days:Int) (loans:Int) (most:Int):Option Bool:=
 match qff with|some r1 =>let k (v10:Bool):Option Bool:=some v10;bif r1 then match qfk c with|some r3 =>(bif !r3 then k true else match qbe c days loans most with|some r5 =>(match qab c days loans most with|some r7 =>(match qak r5 r7 with|some r9 =>k r9|none =>none)|none =>none)|none =>none)|none =>none else k false|none =>none
end Go.Proofs.YtpaidiaknfhclaaGreatDoor
namespace Go.Proofs.YtpaidiaknfhclaaGreatDoor
set_option maxRecDepth 100000
open Ev
open Go (IntKind)
open Go
theorem zn9:CCOk zax:=CCOk.iso (CCOk.cons (zai.int _) (CCOk.cons (zai.int _) (CCOk.cons (zai.int _) (CCOk.cons (zai.int _) CCOk.nil)))) (fun _=>rfl)
theorem zob:CCOk za0:=CCOk.iso (CCOk.cons (zai.int _) (CCOk.cons (zai.int _) (CCOk.cons (zai.int _) (CCOk.cons (zai.int _) (CCOk.cons (zai.int _) (CCOk.cons zai.str (CCOk.cons (zai.int _) (CCOk.cons (zai.int _) (CCOk.cons (zai.int _) (CCOk.cons (zai.int _) CCOk.nil)))))))))) (fun _=>rfl)
theorem zh8:CCOk zba:=CCOk.iso (CCOk.cons (zai.int _) (CCOk.cons (zai.int _) (CCOk.cons (zai.int _) (CCOk.cons (zai.int _) (CCOk.cons zai.bool (CCOk.cons zai.str CCOk.nil)))))) (fun _=>rfl)
theorem zoc:CCOk zcq:=CCOk.iso (CCOk.cons (zai.int _) (CCOk.cons (zai.int _) (CCOk.cons (zai.int _) (CCOk.cons (zai.int _) (CCOk.cons (zai.int _) (CCOk.cons zai.bool CCOk.nil)))))) (fun _=>rfl)
theorem zoa:CCOk zbk:=CCOk.iso (CCOk.cons (zai.int _) (CCOk.cons (zai.int _) (CCOk.cons (zai.int _) (CCOk.cons (zai.int _) (CCOk.cons (zai.int _) (CCOk.cons (zai.int _) (CCOk.cons (zai.int _) (CCOk.cons (zai.int _) (CCOk.cons (zai.int _) (CCOk.cons (zai.int _) (CCOk.cons (zai.int _) CCOk.nil))))))))))) (fun _=>rfl)
theorem zh7:CCOk zdi:=CCOk.iso (CCOk.cons (zai.int _) (CCOk.cons (zai.int _) (CCOk.cons (zai.int _) (CCOk.cons (zai.int _) (CCOk.cons (zai.int _) (CCOk.cons (zai.int _) (CCOk.cons (zai.int _) CCOk.nil))))))) (fun _=>rfl)
theorem zof:CCOk zc8:=CCOk.iso (CCOk.cons (zai.int _) (CCOk.cons (zai.int _) (CCOk.cons (zai.int _) (CCOk.cons (zai.int _) (CCOk.cons (zai.int _) (CCOk.cons (zai.int _) (CCOk.cons (zai.int _) (CCOk.cons (zai.int _) (CCOk.cons (zai.int _) (CCOk.cons (zai.int _) (CCOk.cons (zai.int _) (CCOk.cons (zai.int _) (CCOk.cons (zai.int _) CCOk.nil))))))))))))) (fun _=>rfl)
theorem zmn:CCOk zaw:=CCOk.iso (CCOk.cons (zai.int _) (CCOk.cons (zai.lst _) CCOk.nil)) (fun _=>rfl)
theorem zoe:CCOk zgw:=CCOk.iso (CCOk.cons (zai.int _) (CCOk.cons (zai.int _) (CCOk.cons (zai.int _) (CCOk.cons (zai.int _) (CCOk.cons (zai.int _) CCOk.nil))))) (fun _=>rfl)
theorem z0c:CCOk zaj:=CCOk.iso (CCOk.cons (zai.int _) (CCOk.cons (zai.lst _) (CCOk.cons (zai.lst _) (CCOk.cons (zai.lst _) (CCOk.cons (zai.lst _) (CCOk.cons (zai.lst _) (CCOk.cons (zai.lst _) (CCOk.cons (zai.int _) (CCOk.cons (zai.lst _) (CCOk.cons (zai.int _) (CCOk.cons (zai.lst _) (CCOk.cons (zai.int _) (CCOk.cons (zai.lst _) (CCOk.cons (zai.int _) (CCOk.cons (zai.lst _) (CCOk.cons (zai.lst _) (CCOk.cons (zai.int _) (CCOk.cons (zai.int _) (CCOk.cons zai.bool CCOk.nil))))))))))))))))))) (fun _=>rfl)
theorem zj8:CCOk zav:=CCOk.iso (CCOk.cons (zai.int _) (CCOk.cons (zai.lst _) (CCOk.cons (zai.lst _) (CCOk.cons (zai.lst _) (CCOk.cons (zai.lst _) (CCOk.cons (zai.lst _) (CCOk.cons (zai.lst _) (CCOk.cons (zai.int _) (CCOk.cons (zai.lst _) (CCOk.cons (zai.int _) (CCOk.cons (zai.lst _) (CCOk.cons (zai.int _) (CCOk.cons (zai.lst _) (CCOk.cons (zai.int _) (CCOk.cons (zai.lst _) (CCOk.cons (zai.lst _) (CCOk.cons (zai.int _) (CCOk.cons (zai.int _) (CCOk.cons zai.bool (CCOk.cons (zai.int _) CCOk.nil)))))))))))))))))))) (fun _=>rfl)
theorem zdj:CCOk zbm:=CCOk.iso (CCOk.cons (zai.int _) (CCOk.cons (zai.int _) (CCOk.cons (zai.int _) (CCOk.cons (zai.int _) CCOk.nil)))) (fun _=>rfl)
theorem zod:CCOk zq5:=CCOk.iso (CCOk.cons (zai.int _) (CCOk.cons (zai.int _) CCOk.nil)) (fun _=>rfl)
theorem zc1:CCOk zb9:=CCOk.iso (CCOk.cons (zai.int _) (CCOk.cons (zai.int _) CCOk.nil)) (fun _=>rfl)
theorem zhj:CCOk zdz:=CCOk.iso (CCOk.cons (zai.int _) (CCOk.cons (zai.lst _) (CCOk.cons (zai.int _) (CCOk.cons (zai.lst _) (CCOk.cons (zai.int _) (CCOk.cons (zai.lst _) (CCOk.cons (zai.int _) (CCOk.cons (zai.lst _) CCOk.nil)))))))) (fun _=>rfl)
theorem zog:CCOk zbl:=CCOk.iso (CCOk.cons zai.bool (CCOk.cons zai.bool (CCOk.cons zai.bool (CCOk.cons zai.bool (CCOk.cons zai.bool (CCOk.cons zai.bool (CCOk.cons zai.bool CCOk.nil))))))) (fun _=>rfl)
instance:CCC zax:=⟨zn9⟩
instance:CCC za0:=⟨zob⟩
instance:CCC zba:=⟨zh8⟩
instance:CCC zcq:=⟨zoc⟩
instance:CCC zbk:=⟨zoa⟩
instance:CCC zdi:=⟨zh7⟩
instance:CCC zc8:=⟨zof⟩
instance:CCC zaw:=⟨zmn⟩
instance:CCC zgw:=⟨zoe⟩
instance:CCC zaj:=⟨z0c⟩
instance:CCC zav:=⟨zj8⟩
instance:CCC zbm:=⟨zdj⟩
instance:CCC zq5:=⟨zod⟩
instance:CCC zb9:=⟨zc1⟩
instance:CCC zdz:=⟨zhj⟩
instance:CCC zbl:=⟨zog⟩
end Go.Proofs.YtpaidiaknfhclaaGreatDoor
namespace Go.Proofs.YtpaidiaknfhclaaGreatDoor
set_option maxRecDepth 100000
open Ev
open Go (IntKind)
abbrev zb1:ZC (Int×Unit):=Zc Zi Zn
abbrev zahd:ZD (Circ):=(Cod.agg zaj)
abbrev zap4 {R:Type}:Sm R:=semP zb1 zahd (fun a=>qag a.1)
abbrev zatp:ZC (Item×Int×Unit):=Zc (Cod.agg za0) (Zc (Cod.cptr (CC.one Zi)) Zn)
abbrev zau:ZD (Bool):=Zb
abbrev zahz {R:Type}:Sm R:=semP zatp zau (fun a=>qd a.1 a.2.1)
abbrev zayj:ZC ((List Item)×((Unit)×(Int×Unit))×Unit):=Zc (Zl .kItem) (Zc (Cod.fnc 127 (Zn) (Zc (Cod.cptr (CC.one Zi)) Zn)) Zn)
abbrev za1:ZD (Int):=Zi
abbrev zax3 {R:Type}:Sm R:=semP zayj za1 (fun a=>qa (fun g x0=>qd x0 g.2.1) a.1 a.2.1)
def zais {R:Type}:Nat→Sm R:=cl 127 zahz c0
abbrev z2w:=mkld [] [] [0,1,7,8] [] [] (Zs 0 (Zl .kItem) (Zs 1 (Cod.fnc 127 (Zn) (Zc (Cod.cptr (CC.one Zi)) Zn)) (Zs 7 Zi (Zs 8 Zi Zz)))) (z4v (fun g x0=>qd x0 g.2.1)) (.xs 0 [] [] [] Zz (.r [4] [] [] (Zs 4 Zi Zz)))
def zvw {R:Type}:Lp Kd El R:=lp 2 z2w.sem l0
abbrev zh0:ZC (Circ×Int×Unit):=Zc (Cod.agg zaj) (Zc Zi Zn)
abbrev zwb {R:Type}:Sm R:=semP zh0 za1 (fun a=>qc a.1 a.2.1)
abbrev zahl:ZD (Custody):=(Cod.agg zax)
abbrev z68 {R:Type}:Sm R:=semP zb1 zahl (fun a=>qcy a.1)
abbrev zadz:ZC (Item×Item×Unit):=Zc (Cod.agg za0) (Zc (Cod.cptr za0) Zn)
abbrev z67 {R:Type}:Sm R:=semP zadz zau (fun a=>qcx a.1 a.2.1)
abbrev z8l:ZC ((List Item)×((Unit)×(Item×Unit))×Unit):=Zc (Zl .kItem) (Zc (Cod.fnc 101 (Zn) (Zc (Cod.cptr za0) Zn)) Zn)
abbrev z5o {R:Type}:Sm R:=semP z8l za1 (fun a=>qa (fun g x0=>qcx x0 g.2.1) a.1 a.2.1)
def zwr {R:Type}:Nat→Sm R:=cl 101 z67 c0
abbrev zk1:=mkld [] [] [0,1,7,8] [] [] (Zs 0 (Zl .kItem) (Zs 1 (Cod.fnc 101 (Zn) (Zc (Cod.cptr za0) Zn)) (Zs 7 Zi (Zs 8 Zi Zz)))) (z4v (fun g x0=>qcx x0 g.2.1)) (.xs 0 [] [] [] Zz (.r [4] [] [] (Zs 4 Zi Zz)))
def zit {R:Type}:Lp Kd El R:=lp 2 zk1.sem l0
abbrev zati:ZC ((List Item)×Unit):=Zc (Zl .kItem) Zn
abbrev zahj:ZD ((List Item)):=(Zl .kItem)
abbrev zaq2 {R:Type}:Sm R:=semP zati zahj (fun a=>qcl a.1)
abbrev zzi:ZC ((List Item)×Int×(List Item)×Unit):=Zc (Zl .kItem) (Zc Zi (Zc (Zl .kItem) Zn))
abbrev zaht:ZD ((List Item)):=zahj
def zagb (a:(List Item)×Int×(List Item)×Unit):Option ((List Item)):=qdw a.1 a.2.1 a.2.2.1
abbrev zay5 {R:Type}:Sm R:=semP zzi zaht zagb
abbrev zny:ZC (Int×Int×Int×Unit):=Zc Zi (Zc Zi (Zc Zi Zn))
abbrev z6f {R:Type}:Sm R:=semP zny zau (fun a=>qbc a.1 a.2.1 a.2.2.1)
abbrev zko:ZC ((List UInt8)×Unit):=Zc Cod.str Zn
abbrev zahi:ZD (Bool):=zau
def zaf5 (a:(List UInt8)×Unit):Option (Bool):=qch a.1
abbrev zay1 {R:Type}:Sm R:=semP zko zahi zaf5
abbrev zatq:ZC (Item×Unit):=Zc (Cod.agg za0) Zn
abbrev z7a {R:Type}:Sm R:=semP zatq zau (fun a=>qd0 a.1)
abbrev z6o {R:Type}:Sm R:=semP zny zau (fun a=>qbs a.1 a.2.1 a.2.2.1)
abbrev zze:ZC (Custody×Unit):=Zc (Cod.agg zax) Zn
abbrev zarn {R:Type}:Sm R:=semP zze zau (fun a=>qdl a.1)
abbrev zkp:ZC (Int×Int×Unit):=Zc Zi (Zc Zi Zn)
abbrev zaq3 {R:Type}:Sm R:=semP zkp zau (fun a=>qcm a.1 a.2.1)
abbrev zas3:ZC (Custody×Bool×Unit):=Zc (Cod.agg zax) (Zc Zb Zn)
abbrev zv8:ZD (Custody×Int):=(Cod.tup2 (Zc (Cod.agg zax) (Zc Zi Zn)))
abbrev zaqh {R:Type}:Sm R:=semP zas3 zv8 (fun a=>qb8 a.1 a.2.1)
abbrev ztf:ZC (Custody×Move×Unit):=Zc (Cod.agg zax) (Zc (Cod.agg zgw) Zn)
abbrev zarg {R:Type}:Sm R:=semP ztf zv8 (fun a=>qdc a.1 a.2.1)
abbrev z7b {R:Type}:Sm R:=semP ztf zv8 (fun a=>qd1 a.1 a.2.1)
abbrev zadt:ZC (Int×(List Move)×Int×Unit):=Zc Zi (Zc (Zl .kMove) (Zc Zi Zn))
abbrev zahe:ZD (Custody×Int×Int):=(Cod.tup3 (Zc (Cod.agg zax) (Zc Zi (Zc Zi Zn))))
abbrev z5v {R:Type}:Sm R:=semP zadt zahe (fun a=>qam a.1 a.2.1 a.2.2.1)
def z9g {R:Type}:Nat→Sm R:=cl 100 z68 (cl 128 z6o (cl 129 z7b c0))
abbrev zun:=mkld [] [] [2,6,9,20,21,22] [6,9] [] (Zs 2 Zi (Zp 6 6 (Zp 9 9 (Zs 20 (Zl .kMove) (Zs 21 Zi (Zs 22 Zi (Zx 6 zax (Zx 9 zax Zz)))))))) zagp (.xs 0 [6,9] [6,9] [] (Zp 6 6 (Zp 9 9 (Zx 6 zax (Zx 9 zax Zz)))) (.r [7,8] [6] [6] (Zp 6 6 (Zs 7 Zi (Zs 8 Zi (Zx 6 zax Zz))))))
def zpm {R:Type}:Lp Kd El R:=lp 5 zun.sem l0
abbrev zgu:ZC (Circ×Unit):=Zc (Cod.agg zaj) Zn
abbrev zax5 {R:Type}:Sm R:=semP zgu zau (fun a=>qf a.1)
def zaiv {R:Type}:Nat→Sm R:=cl 76 z7a (cl 77 zwb (cl 78 z5v c0))
abbrev z23:=mkld [] [] [1,23,24,25] [1] [] (Zp 1 1 (Zs 23 (Zl .kItem) (Zs 24 Zi (Zs 25 Zi (Zx 1 zaj Zz))))) zaw7 (.xs 0 [1] [1] [] (Zp 1 1 (Zx 1 zaj Zz)) (.r [2] [] [] (Zs 2 Zb Zz)))
abbrev zvg:=mkld [] [] [1,51,52,53] [1] [] (Zp 1 1 (Zs 51 (Zl .kMove) (Zs 52 Zi (Zs 53 Zi (Zx 1 zaj Zz))))) zag8 (.xs 2 [1] [1] [] (Zp 1 1 (Zx 1 zaj Zz)) (.r [2] [] [] (Zs 2 Zb Zz)))
abbrev zvh:=mkld [] [] [1,64,65,66] [1] [] (Zp 1 1 (Zs 64 (Zl .kItem) (Zs 65 Zi (Zs 66 Zi (Zx 1 zaj Zz))))) zag9 (.xs 4 [] [] [] Zz (.r [2] [] [] (Zs 2 Zb Zz)))
def zhq {R:Type}:Lp Kd El R:=lp 16 zvh.sem (lp 10 zvg.sem (lp 4 z23.sem l0))
abbrev zzf:ZC ((List UInt8)×Unit):=zko
abbrev z5d:ZD ((List UInt8)):=Cod.str
def zaf8 (a:(List UInt8)×Unit):Option ((List UInt8)):=qdp a.1
abbrev zay2 {R:Type}:Sm R:=semP zzf z5d zaf8
abbrev zas1:ZC (Patron×Unit):=Zc (Cod.agg zba) Zn
abbrev z54 {R:Type}:Sm R:=semP zas1 za1 (fun a=>qb2 a.1)
abbrev zs9:ZC ((List Patron)×Unit):=Zc (Zl .kPatron) Zn
abbrev z5t {R:Type}:Sm R:=semP zs9 za1 (fun a=>qaj a.1)
def z9d {R:Type}:Nat→Sm R:=cl 130 z54 c0
abbrev zuk:=mkld [] [] [3,10,11,12] [] [] (Zs 3 Zi (Zs 10 (Zl .kPatron) (Zs 11 Zi (Zs 12 Zi Zz)))) zagn (.xs 0 [] [] [] Zz (.r [2] [] [] (Zs 2 Zi Zz)))
def zpj {R:Type}:Lp Kd El R:=lp 5 zuk.sem l0
abbrev z7x {R:Type}:Sm R:=semP zb1 zau (fun a=>qer a.1)
abbrev z7w {R:Type}:Sm R:=semP zb1 zau (fun a=>qen a.1)
abbrev zta:ZC ((List Loan)×Unit):=Zc (Zl .kLoan) Zn
abbrev z5u {R:Type}:Sm R:=semP zta za1 (fun a=>qal a.1)
def z9f {R:Type}:Nat→Sm R:=cl 131 z7x (cl 132 z7w c0)
abbrev zum:=mkld [] [] [0,8,9,10] [] [] (Zs 0 (Zl .kLoan) (Zs 8 (Zl .kLoan) (Zs 9 Zi (Zs 10 Zi Zz)))) zago (.xs 0 [] [] [] Zz (.r [2] [] [] (Zs 2 Zi Zz)))
def zpl {R:Type}:Lp Kd El R:=lp 4 zum.sem l0
abbrev zaqf {R:Type}:Sm R:=semP zny zau (fun a=>qb6 a.1 a.2.1 a.2.2.1)
abbrev zar1 {R:Type}:Sm R:=semP zb1 zau (fun a=>qek a.1)
abbrev zad4:ZC (Hold×Unit):=Zc (Cod.agg zbk) Zn
abbrev z7i {R:Type}:Sm R:=semP zad4 za1 (fun a=>qdq a.1)
abbrev zza:ZC (Hold×Hold×Unit):=Zc (Cod.agg zbk) (Zc (Cod.agg zbk) Zn)
abbrev z6y {R:Type}:Sm R:=semP zza zau (fun a=>qcf a.1 a.2.1)
abbrev zaty:ZC ((List Hold)×((Unit)×(Unit))×Unit):=Zc (Zl .kHold) (Zc (Cod.fnc 135 (Zn) (Zn)) Zn)
abbrev zah0 {R:Type}:Sm R:=semP zaty zau (fun a=>qe (fun g x0 x1=>qcf x0 x1) a.1 a.2.1)
def zaiu {R:Type}:Nat→Sm R:=cl 135 z6y c0
abbrev z2z:=mkld [] [] [0,1,5,8,9,12,13] [] [] (Zs 0 (Zl .kHold) (Zs 1 (Cod.fnc 135 (Zn) (Zn)) (Zs 5 Zi (Zs 8 Zi (Zs 9 Zi (Zs 12 Zi (Zs 13 Zi Zz))))))) (zapg (fun g x0 x1=>qcf x0 x1)) (.xs 2 [0,1,8,9] [] [] (Zs 0 (Zl .kHold) (Zs 1 (Cod.fnc 135 (Zn) (Zn)) (Zs 8 Zi (Zs 9 Zi Zz)))) (.r [4] [] [] (Zs 4 Zb Zz)))
abbrev z2y:=mkld [] [] [0,1,8,9] [] [] (Zs 0 (Zl .kHold) (Zs 1 (Cod.fnc 135 (Zn) (Zn)) (Zs 8 Zi (Zs 9 Zi Zz)))) (zapf (fun g x0 x1=>qcf x0 x1)) (.xs 0 [] [] [] Zz (.r [4] [] [] (Zs 4 Zb Zz)))
def zne {R:Type}:Lp Kd El R:=lp 2 z2y.sem (lp 5 z2z.sem l0)
abbrev z7h {R:Type}:Sm R:=semP zza zau (fun a=>qdn a.1 a.2.1)
abbrev ztg:ZC ((List Hold)×((Unit)×(Unit))×Unit):=Zc (Zl .kHold) (Zc (Cod.fnc 136 (Zn) (Zn)) Zn)
abbrev zqp {R:Type}:Sm R:=semP ztg zau (fun a=>qe (fun g x0 x1=>qdn x0 x1) a.1 a.2.1)
def zwz {R:Type}:Nat→Sm R:=cl 136 z7h c0
abbrev zla:=mkld [] [] [0,1,5,8,9,12,13] [] [] (Zs 0 (Zl .kHold) (Zs 1 (Cod.fnc 136 (Zn) (Zn)) (Zs 5 Zi (Zs 8 Zi (Zs 9 Zi (Zs 12 Zi (Zs 13 Zi Zz))))))) (zapg (fun g x0 x1=>qdn x0 x1)) (.xs 2 [0,1,8,9] [] [] (Zs 0 (Zl .kHold) (Zs 1 (Cod.fnc 136 (Zn) (Zn)) (Zs 8 Zi (Zs 9 Zi Zz)))) (.r [4] [] [] (Zs 4 Zb Zz)))
abbrev zk9:=mkld [] [] [0,1,8,9] [] [] (Zs 0 (Zl .kHold) (Zs 1 (Cod.fnc 136 (Zn) (Zn)) (Zs 8 Zi (Zs 9 Zi Zz)))) (zapf (fun g x0 x1=>qdn x0 x1)) (.xs 0 [] [] [] Zz (.r [4] [] [] (Zs 4 Zb Zz)))
def zfu {R:Type}:Lp Kd El R:=lp 2 zk9.sem (lp 5 zla.sem l0)
abbrev zaig:ZC ((List Hold)×Unit):=Zc (Zl .kHold) Zn
abbrev zah1 {R:Type}:Sm R:=semP zaig za1 (fun a=>qh a.1)
def zaix {R:Type}:Nat→Sm R:=cl 133 z7i (cl 134 (si zaty zah0 (si ztg zqp s0)) c0)
abbrev z27:=mkld [] [] [0,9,10,11] [] [] (Zs 0 (Zl .kHold) (Zs 9 (Zl .kHold) (Zs 10 Zi (Zs 11 Zi Zz)))) zaxc (.xs 0 [0] [] [] (Zs 0 (Zl .kHold) Zz) (.r [2] [] [] (Zs 2 Zi Zz)))
def zvy {R:Type}:Lp Kd El R:=lp 4 z27.sem l0
abbrev zar8 {R:Type}:Sm R:=semP zb1 zau (fun a=>qex a.1)
abbrev zarc {R:Type}:Sm R:=semP zb1 zau (fun a=>qd6 a.1)
abbrev zas4:ZC (Charge×Unit):=Zc (Cod.agg zdi) Zn
abbrev z58 {R:Type}:Sm R:=semP zas4 za1 (fun a=>qb9 a.1)
abbrev zadu:ZC ((List Charge)×Unit):=Zc (Zl .kCharge) Zn
abbrev z5x {R:Type}:Sm R:=semP zadu za1 (fun a=>qap a.1)
def z9i {R:Type}:Nat→Sm R:=cl 137 z58 c0
abbrev zup:=mkld [] [] [0,9,10,11] [] [] (Zs 0 (Zl .kCharge) (Zs 9 (Zl .kCharge) (Zs 10 Zi (Zs 11 Zi Zz)))) zagq (.xs 0 [] [] [] Zz (.r [2] [] [] (Zs 2 Zi Zz)))
def zpo {R:Type}:Lp Kd El R:=lp 4 zup.sem l0
abbrev zaqu {R:Type}:Sm R:=semP zny zau (fun a=>qbx a.1 a.2.1 a.2.2.1)
abbrev zy8:ZC (Rule×Unit):=Zc (Cod.agg zc8) Zn
abbrev z6t {R:Type}:Sm R:=semP zy8 zau (fun a=>qc7 a.1)
abbrev zatj:ZC (Rule×Rule×Unit):=Zc (Cod.agg zc8) (Zc (Cod.cptr zc8) Zn)
abbrev z62 {R:Type}:Sm R:=semP zatj zau (fun a=>qcn a.1 a.2.1)
abbrev zadv:ZC ((List Rule)×((Unit)×(Rule×Unit))×Unit):=Zc (Zl .kRule) (Zc (Cod.fnc 139 (Zn) (Zc (Cod.cptr zc8) Zn)) Zn)
abbrev zaqb {R:Type}:Sm R:=semP zadv za1 (fun a=>qay (fun g x0=>qcn x0 g.2.1) a.1 a.2.1)
def z9p {R:Type}:Nat→Sm R:=cl 139 z62 c0
abbrev zuw:=mkld [] [] [0,1,7,8] [] [] (Zs 0 (Zl .kRule) (Zs 1 (Cod.fnc 139 (Zn) (Zc (Cod.cptr zc8) Zn)) (Zs 7 Zi (Zs 8 Zi Zz)))) (zagw (fun g x0=>qcn x0 g.2.1)) (.xs 0 [] [] [] Zz (.r [4] [] [] (Zs 4 Zi Zz)))
def zpv {R:Type}:Lp Kd El R:=lp 2 zuw.sem l0
abbrev z7y {R:Type}:Sm R:=semP zadv zau (fun a=>qes (fun g x0=>qcn x0 g.2.1) a.1 a.2.1)
abbrev zat4:ZC ((List Rule)×Unit):=Zc (Zl .kRule) Zn
abbrev zah7 {R:Type}:Sm R:=semP zat4 za1 (fun a=>qv a.1)
def zaja {R:Type}:Nat→Sm R:=cl 138 z6t (cl 140 z7y c0)
abbrev z3q:=mkld [] [] [0,9,10,11] [] [] (Zs 0 (Zl .kRule) (Zs 9 (Zl .kRule) (Zs 10 Zi (Zs 11 Zi Zz)))) zaxn (.xs 0 [] [] [] Zz (.r [2] [] [] (Zs 2 Zi Zz)))
def zv4 {R:Type}:Lp Kd El R:=lp 4 z3q.sem l0
abbrev z6s {R:Type}:Sm R:=semP zb1 zau (fun a=>qc6 a.1)
abbrev z6p {R:Type}:Sm R:=semP zb1 zau (fun a=>qc3 a.1)
abbrev zadw:ZC ((List Int)×((Unit)×(Unit))×Unit):=Zc (Zl .ki64) (Zc (Cod.fnc 142 (Zn) (Zn)) Zn)
abbrev zaqc {R:Type}:Sm R:=semP zadw za1 (fun a=>qaz (fun g x0=>qc3 x0) a.1 a.2.1)
def z9q {R:Type}:Nat→Sm R:=cl 142 z6p c0
abbrev zux:=mkld [] [] [0,1,7,8] [] [] (Zs 0 (Zl .ki64) (Zs 1 (Cod.fnc 142 (Zn) (Zn)) (Zs 7 Zi (Zs 8 Zi Zz)))) (zagx (fun g x0=>qc3 x0)) (.xs 0 [] [] [] Zz (.r [4] [] [] (Zs 4 Zi Zz)))
def zpw {R:Type}:Lp Kd El R:=lp 2 zux.sem l0
abbrev z7z {R:Type}:Sm R:=semP zadw zau (fun a=>qet (fun g x0=>qc3 x0) a.1 a.2.1)
abbrev zaii:ZC (Calendar×Unit):=Zc (Cod.agg zaw) Zn
abbrev zah6 {R:Type}:Sm R:=semP zaii za1 (fun a=>qt a.1)
def zai9 {R:Type}:Nat→Sm R:=cl 141 z7z c0
abbrev z3p:=mkld [] [] [1,24,25,26] [1] [] (Zp 1 1 (Zs 24 (Zl .ki64) (Zs 25 Zi (Zs 26 Zi (Zx 1 zaw Zz))))) zaxm (.xs 1 [] [] [] Zz (.r [2] [] [] (Zs 2 Zi Zz)))
def zv3 {R:Type}:Lp Kd El R:=lp 8 z3p.sem l0
abbrev zayb {R:Type}:Sm R:=semP zgu zau (fun a=>qq a.1)
def zai6 {R:Type}:Nat→Sm R:=cl 36 z6f (cl 79 z5t (cl 80 z5u (cl 81 zah1 (cl 82 z5x (cl 83 zah7 (cl 84 zah6 c0))))))
abbrev z3k:=mkld [] [] [1,38,39] [1] [] (Zp 1 1 (Zs 38 (Cod.agg zdz) (Zs 39 Zi (Zx 1 zaj Zz)))) zaxl (.xs 0 [1] [1] [] (Zp 1 1 (Zx 1 zaj Zz)) (.r [2] [] [] (Zs 2 Zb Zz)))
abbrev zvl:=mkld [] [] [1,57,58,59] [1] [] (Zp 1 1 (Zs 57 (Zl .kHold) (Zs 58 Zi (Zs 59 Zi (Zx 1 zaj Zz))))) zahb (.xs 2 [1] [1] [] (Zp 1 1 (Zx 1 zaj Zz)) (.r [2] [] [] (Zs 2 Zb Zz)))
abbrev zvm:=mkld [] [] [1,70,71,72] [1] [] (Zp 1 1 (Zs 70 (Zl .kCharge) (Zs 71 Zi (Zs 72 Zi (Zx 1 zaj Zz))))) zahc (.xs 4 [] [] [] Zz (.r [2] [] [] (Zs 2 Zb Zz)))
def zhu {R:Type}:Lp Kd El R:=lp 18 zvm.sem (lp 12 zvl.sem (lp 4 z3k.sem l0))
abbrev zatc:ZC (Patron×Int×Unit):=Zc (Cod.agg zba) (Zc (Cod.cptr (CC.one Zi)) Zn)
abbrev z6r {R:Type}:Sm R:=semP zatc zau (fun a=>qc5 a.1 a.2.1)
abbrev zaym:ZC ((List Patron)×((Unit)×(Int×Unit))×Unit):=Zc (Zl .kPatron) (Zc (Cod.fnc 207 (Zn) (Zc (Cod.cptr (CC.one Zi)) Zn)) Zn)
abbrev zax9 {R:Type}:Sm R:=semP zaym za1 (fun a=>qm (fun g x0=>qc5 x0 g.2.1) a.1 a.2.1)
def zai2 {R:Type}:Nat→Sm R:=cl 207 z6r c0
abbrev z3d:=mkld [] [] [0,1,7,8] [] [] (Zs 0 (Zl .kPatron) (Zs 1 (Cod.fnc 207 (Zn) (Zc (Cod.cptr (CC.one Zi)) Zn)) (Zs 7 Zi (Zs 8 Zi Zz)))) (zapj (fun g x0=>qc5 x0 g.2.1)) (.xs 0 [] [] [] Zz (.r [4] [] [] (Zs 4 Zi Zz)))
def zv2 {R:Type}:Lp Kd El R:=lp 2 z3d.sem l0
abbrev zs6:ZC ((List Patron)×Int×Unit):=Zc (Zl .kPatron) (Zc Zi Zn)
abbrev zapu {R:Type}:Sm R:=semP zs6 za1 (fun a=>qa2 a.1 a.2.1)
abbrev zahk:ZD (Patron×Bool):=(Cod.tup2 (Zc (Cod.agg zba) (Zc Zb Zn)))
abbrev zaq4 {R:Type}:Sm R:=semP zs6 zahk (fun a=>qcq a.1 a.2.1)
abbrev zatf:ZC (Int×Circ×Unit):=Zc Zi (Zc (Cod.cptr zaj) Zn)
abbrev z6w {R:Type}:Sm R:=semP zatf zau (fun a=>qca a.1 a.2.1)
abbrev zax6 {R:Type}:Sm R:=semP zgu zau (fun a=>qg a.1)
def zaiw {R:Type}:Nat→Sm R:=cl 77 zwb (cl 85 z6w c0)
abbrev z24:=mkld [] [] [1,3,12,13,14] [1] [] (Zp 1 1 (FC.clo 3 85 [] [1] (Zs 12 (Zl .kLoan) (Zs 13 Zi (Zs 14 Zi (Zx 1 zaj Zz)))))) zaxa (.xs 0 [1,3] [1] [] (Zp 1 1 (FC.clo 3 85 [] [1] (Zx 1 zaj Zz))) (.r [2] [] [] (Zs 2 Zb Zz)))
abbrev z26:=mkld [] [] [1,3,32,33,34] [1] [] (Zp 1 1 (FC.clo 3 85 [] [1] (Zs 32 (Zl .kHold) (Zs 33 Zi (Zs 34 Zi (Zx 1 zaj Zz)))))) zaxb (.xs 2 [1,3] [1] [] (Zp 1 1 (FC.clo 3 85 [] [1] (Zx 1 zaj Zz))) (.r [2] [] [] (Zs 2 Zb Zz)))
abbrev zvi:=mkld [] [] [3,45,46,47] [1] [] (FC.clo 3 85 [] [1] (Zs 45 (Zl .kCharge) (Zs 46 Zi (Zs 47 Zi (Zx 1 zaj Zz))))) zaha (.xs 4 [] [] [] Zz (.r [2] [] [] (Zs 2 Zb Zz)))
def zhr {R:Type}:Lp Kd El R:=lp 15 zvi.sem (lp 9 z26.sem (lp 3 z24.sem l0))
abbrev zaxp:ZD ((Int×Unit)):=(Cod.clo 186 (Zc (Cod.cptr (CC.one Zi)) Zn))
abbrev zap7 {R:Type}:Sm R:=semP zb1 zaxp (fun a=>qaq a.1)
abbrev zatg:ZC (Loan×Int×Unit):=Zc (Cod.agg zcq) (Zc (Cod.cptr (CC.one Zi)) Zn)
abbrev z6x {R:Type}:Sm R:=semP zatg zau (fun a=>qcc a.1 a.2.1)
abbrev zaih:ZC ((List Loan)×((Unit)×(Int×Unit))×Unit):=Zc (Zl .kLoan) (Zc (Cod.fnc 186 (Zn) (Zc (Cod.cptr (CC.one Zi)) Zn)) Zn)
abbrev zax7 {R:Type}:Sm R:=semP zaih za1 (fun a=>qk (fun g x0=>qcc x0 g.2.1) a.1 a.2.1)
def zai0 {R:Type}:Nat→Sm R:=cl 186 z6x c0
abbrev z3a:=mkld [] [] [0,1,7,8] [] [] (Zs 0 (Zl .kLoan) (Zs 1 (Cod.fnc 186 (Zn) (Zc (Cod.cptr (CC.one Zi)) Zn)) (Zs 7 Zi (Zs 8 Zi Zz)))) (zapi (fun g x0=>qcc x0 g.2.1)) (.xs 0 [] [] [] Zz (.r [4] [] [] (Zs 4 Zi Zz)))
def zv1 {R:Type}:Lp Kd El R:=lp 2 z3a.sem l0
abbrev zahf:ZD (Loan×Int):=(Cod.tup2 (Zc (Cod.agg zcq) (Zc Zi Zn)))
abbrev zaqe {R:Type}:Sm R:=semP zaih zahf (fun a=>qb1 (fun g x0=>qcc x0 g.2.1) a.1 a.2.1)
abbrev zkm:ZC ((List Loan)×Int×Unit):=Zc (Zl .kLoan) (Zc Zi Zn)
abbrev zahg:ZD (Loan×Bool):=(Cod.tup2 (Zc (Cod.agg zcq) (Zc Zb Zn)))
abbrev z56 {R:Type}:Sm R:=semP zkm zahg (fun a=>qb4 a.1 a.2.1)
abbrev zaqo {R:Type}:Sm R:=semP zgu zau (fun a=>qbq a.1)
def z94 {R:Type}:Nat→Sm R:=cl 69 z56 c0
abbrev zvb:=mkld [] [] [1,9,10,11] [1] [] (Zp 1 1 (Zs 9 (Zl .kItem) (Zs 10 Zi (Zs 11 Zi (Zx 1 zaj Zz))))) zag2 (.xs 0 [] [] [] Zz (.r [2] [] [] (Zs 2 Zb Zz)))
def zqa {R:Type}:Lp Kd El R:=lp 2 zvb.sem l0
abbrev zad0:ZC (Hold×Int×Unit):=Zc (Cod.agg zbk) (Zc (Cod.cptr (CC.one Zi)) Zn)
abbrev z69 {R:Type}:Sm R:=semP zad0 zau (fun a=>qcz a.1 a.2.1)
abbrev zayk:ZC ((List Hold)×((Unit)×(Int×Unit))×Unit):=Zc (Zl .kHold) (Zc (Cod.fnc 145 (Zn) (Zc (Cod.cptr (CC.one Zi)) Zn)) Zn)
abbrev zax4 {R:Type}:Sm R:=semP zayk za1 (fun a=>qb (fun g x0=>qcz x0 g.2.1) a.1 a.2.1)
def zait {R:Type}:Nat→Sm R:=cl 145 z69 c0
abbrev z2x:=mkld [] [] [0,1,7,8] [] [] (Zs 0 (Zl .kHold) (Zs 1 (Cod.fnc 145 (Zn) (Zc (Cod.cptr (CC.one Zi)) Zn)) (Zs 7 Zi (Zs 8 Zi Zz)))) (zjh (fun g x0=>qcz x0 g.2.1)) (.xs 0 [] [] [] Zz (.r [4] [] [] (Zs 4 Zi Zz)))
def zvx {R:Type}:Lp Kd El R:=lp 2 z2x.sem l0
abbrev z5b:ZD (Hold×Bool):=(Cod.tup2 (Zc (Cod.agg zbk) (Zc Zb Zn)))
abbrev z5w {R:Type}:Sm R:=semP zh0 z5b (fun a=>qan a.1 a.2.1)
abbrev zap0 {R:Type}:Sm R:=semP zgu zau (fun a=>qac a.1)
def z88 {R:Type}:Nat→Sm R:=cl 77 zwb (cl 87 z5w c0)
abbrev zuf:=mkld [] [] [1,13,14,15] [1] [] (Zp 1 1 (Zs 13 (Zl .kHold) (Zs 14 Zi (Zs 15 Zi (Zx 1 zaj Zz))))) zagj (.xs 0 [1] [1] [] (Zp 1 1 (Zx 1 zaj Zz)) (.r [2] [] [] (Zs 2 Zb Zz)))
abbrev zo3:=mkld [] [] [1,65,66,67] [1] [] (Zp 1 1 (Zs 65 (Zl .kItem) (Zs 66 Zi (Zs 67 Zi (Zx 1 zaj Zz))))) z4w (.xs 2 [] [] [] Zz (.r [2] [] [] (Zs 2 Zb Zz)))
def ziy {R:Type}:Lp Kd El R:=lp 16 zo3.sem (lp 2 zuf.sem l0)
abbrev zasg {R:Type}:Sm R:=semP zgu zau (fun a=>qfh a.1)
abbrev zaif:ZC (Circ×Item×Unit):=Zc (Cod.agg zaj) (Zc (Cod.agg za0) Zn)
abbrev z5a:ZD (Circ×Int):=(Cod.tup2 (Zc (Cod.agg zaj) (Zc Zi Zn)))
abbrev zahy {R:Type}:Sm R:=semP zaif z5a (fun a=>q9 a.1 a.2.1)
abbrev zate:ZC (Patron×Patron×Unit):=Zc (Cod.agg zba) (Zc (Cod.cptr zba) Zn)
abbrev z6v {R:Type}:Sm R:=semP zate zau (fun a=>qc9 a.1 a.2.1)
abbrev z8o:ZC ((List Patron)×((Unit)×(Patron×Unit))×Unit):=Zc (Zl .kPatron) (Zc (Cod.fnc 208 (Zn) (Zc (Cod.cptr zba) Zn)) Zn)
abbrev z8b {R:Type}:Sm R:=semP z8o za1 (fun a=>qm (fun g x0=>qc9 x0 g.2.1) a.1 a.2.1)
def zw1 {R:Type}:Nat→Sm R:=cl 208 z6v c0
abbrev zlc:=mkld [] [] [0,1,7,8] [] [] (Zs 0 (Zl .kPatron) (Zs 1 (Cod.fnc 208 (Zn) (Zc (Cod.cptr zba) Zn)) (Zs 7 Zi (Zs 8 Zi Zz)))) (zapj (fun g x0=>qc9 x0 g.2.1)) (.xs 0 [] [] [] Zz (.r [4] [] [] (Zs 4 Zi Zz)))
def zi7 {R:Type}:Lp Kd El R:=lp 2 zlc.sem l0
abbrev zahr:ZD ((List Patron)):=(Zl .kPatron)
abbrev zarr {R:Type}:Sm R:=semP zs9 zahr (fun a=>qdu a.1)
abbrev zzg:ZC ((List Patron)×Int×(List Patron)×Unit):=Zc (Zl .kPatron) (Zc Zi (Zc (Zl .kPatron) Zn))
abbrev zahq:ZD ((List Patron)):=zahr
def zaf9 (a:(List Patron)×Int×(List Patron)×Unit):Option ((List Patron)):=qdt a.1 a.2.1 a.2.2.1
abbrev zay3 {R:Type}:Sm R:=semP zzg zahq zaf9
abbrev zahw:ZD ((List Patron)×Int):=(Cod.tup2 (Zc (Zl .kPatron) (Zc Zi Zn)))
abbrev zars {R:Type}:Sm R:=semP zs9 zahw (fun a=>qdz a.1)
abbrev zata:ZC ((List Patron)×Patron×Unit):=Zc (Zl .kPatron) (Zc (Cod.agg zba) Zn)
abbrev zaqw {R:Type}:Sm R:=semP zata zahw (fun a=>qbz a.1 a.2.1)
abbrev zad3:ZC (Circ×Patron×Unit):=Zc (Cod.agg zaj) (Zc (Cod.agg zba) Zn)
abbrev zarm {R:Type}:Sm R:=semP zad3 z5a (fun a=>qdk a.1 a.2.1)
abbrev zzc:ZC (Unit):=Zn
abbrev z7d {R:Type}:Sm R:=semP zzc zahd (fun a=>qda)
abbrev zaxw:ZC (Circ_desk):=zav
abbrev zaq1 {R:Type}:Sm R:=semN zgu zaxw (fun a=>qci a.1)
abbrev zzl:ZC (Unit×Int×Unit):=Zc (Cod.ptrc 100000) (Zc Zi Zn)
abbrev zkf:ZD (Unit):=Cod.unit
abbrev zayd {R:Type}:Sm R:=semM zzl (BC.one zav) zkf (fun a b=>qu a.2.1 b)
abbrev zaq7 {R:Type}:Sm R:=semM zzl (BC.one zav) za1 (fun a b=>qcv a.2.1 b)
abbrev zatu:ZC ((List Move)×Unit):=Zc (Zl .kMove) Zn
abbrev zaxx:ZD ((List Move)):=(Zl .kMove)
abbrev zarj {R:Type}:Sm R:=semP zatu zaxx (fun a=>qdh a.1)
abbrev zads:ZC (Unit×Int×Int×Int×Int×Unit):=Zc (Cod.ptrc 100000) (Zc Zi (Zc Zi (Zc Zi (Zc Zi Zn))))
abbrev zapy {R:Type}:Sm R:=semM zads (BC.one zav) zkf (fun a b=>qa8 a.2.1 a.2.2.1 a.2.2.2.1 a.2.2.2.2.1 b)
abbrev zsv {R:Type}:Sm R:=semP zza za1 (fun a=>qb3 a.1 a.2.1)
abbrev zayo:ZC ((List Hold)×Int×Int×((Unit)×(Unit))×Unit):=Zc (Zl .kHold) (Zc Zi (Zc Zi (Zc (Cod.fnc 260 (Zn) (Zn)) Zn)))
abbrev zadc:ZD (List Hold):=(Zl .kHold)
abbrev zah4 {R:Type}:Sm R:=semP zayo zadc (fun a=>qp (fun g x0 x1=>qb3 x0 x1) a.1 a.2.1 a.2.2.1 a.2.2.2.1)
def zai5 {R:Type}:Nat→Sm R:=cl 260 zsv c0
abbrev z3j:=mkld [] [] [0,1,2,3,8,9] [] [99999] (FC.arr 0 99999 (Zs 1 Zi (Zs 2 Zi (Zs 3 (Cod.fnc 260 (Zn) (Zn)) (Zs 8 Zi (Zs 9 Zi (FC.own 99999 Kd.kHold false Zz))))))) (zaxk (fun g x0 x1=>qb3 x0 x1)) (.x 2 [0,1,2,3,8] [] [99999] (FC.arr 0 99999 (Zs 1 Zi (Zs 2 Zi (Zs 3 (Cod.fnc 260 (Zn) (Zn)) (Zs 8 Zi (FC.own 99999 Kd.kHold false Zz)))))))
abbrev z3i:=mkld [] [] [0,1,2,3,8] [] [99999] (FC.arr 0 99999 (Zs 1 Zi (Zs 2 Zi (Zs 3 (Cod.fnc 260 (Zn) (Zn)) (Zs 8 Zi (FC.own 99999 Kd.kHold false Zz)))))) (zaxj (fun g x0 x1=>qb3 x0 x1)) (.x 0 [] [] [99999] (FC.own 99999 Kd.kHold false Zz))
def zng {R:Type}:Lp Kd El R:=lp 1 z3i.sem (lp 4 z3j.sem l0)
abbrev zadx:ZC ((List Hold)×Int×Int×Int×((Unit)×(Unit))×Unit):=Zc (Zl .kHold) (Zc Zi (Zc Zi (Zc Zi (Zc (Cod.fnc 260 (Zn) (Zn)) Zn))))
abbrev zahh:ZD (List Hold):=zadc
def zaf4 (a:(List Hold)×Int×Int×Int×((Unit)×(Unit))×Unit):Option (List Hold):=qc2 (fun g x0 x1=>qb3 x0 x1) a.1 a.2.1 a.2.2.1 a.2.2.2.1 a.2.2.2.2.1
abbrev zaqz {R:Type}:Sm R:=semP zadx zahh zaf4
abbrev zayn:ZC ((List Hold)×Int×((Unit)×(Unit))×Unit):=Zc (Zl .kHold) (Zc Zi (Zc (Cod.fnc 260 (Zn) (Zn)) Zn))
abbrev zaya {R:Type}:Sm R:=semP zayn zadc (fun a=>qn (fun g x0 x1=>qb3 x0 x1) a.1 a.2.1 a.2.2.1)
def zai3 {R:Type}:Nat→Sm R:=cl 260 zsv (cl 275 zah4 (cl 276 zaqz c0))
abbrev z3e:=mkld [] [] [0,1,2,6,7,8] [] [99999] (FC.arr 0 99999 (Zs 1 Zi (Zs 2 (Cod.fnc 260 (Zn) (Zn)) (Zs 6 Zi (Zs 7 Zi (Zs 8 Zi (FC.own 99999 Kd.kHold false Zz))))))) (zaxg (fun g x0 x1=>qb3 x0 x1)) (.x 0 [0,1,2,6,7] [] [99999] (FC.arr 0 99999 (Zs 1 Zi (Zs 2 (Cod.fnc 260 (Zn) (Zn)) (Zs 6 Zi (Zs 7 Zi (FC.own 99999 Kd.kHold false Zz)))))))
abbrev z3g:=mkld [] [] [0,1,2,6,7,8] [] [99999] (FC.arr 0 99999 (Zs 1 Zi (Zs 2 (Cod.fnc 260 (Zn) (Zn)) (Zs 6 Zi (Zs 7 Zi (Zs 8 Zi (FC.own 99999 Kd.kHold false Zz))))))) (zaxi (fun g x0 x1=>qb3 x0 x1)) (.x 4 [0,1,2,6,7] [] [99999] (FC.arr 0 99999 (Zs 1 Zi (Zs 2 (Cod.fnc 260 (Zn) (Zn)) (Zs 6 Zi (Zs 7 Zi (FC.own 99999 Kd.kHold false Zz)))))))
abbrev z3f:=mkld [] [] [0,1,2,6] [] [99999] (FC.arr 0 99999 (Zs 1 Zi (Zs 2 (Cod.fnc 260 (Zn) (Zn)) (Zs 6 Zi (FC.own 99999 Kd.kHold false Zz))))) (zaxh (fun g x0 x1=>qb3 x0 x1)) (.x 2 [] [] [99999] (FC.own 99999 Kd.kHold false Zz))
def zhs {R:Type}:Lp Kd El R:=lp 7 z3f.sem (lp 9 z3g.sem (lp 2 z3e.sem l0))
abbrev zatx:ZC ((List Hold)×((Unit)×(Unit))×Unit):=Zc (Zl .kHold) (Zc (Cod.fnc 260 (Zn) (Zn)) Zn)
abbrev z7j {R:Type}:Sm R:=semP zatx zadc (fun a=>qds (fun g x0 x1=>qb3 x0 x1) a.1 a.2.1)
abbrev zat3:ZC ((List Hold)×Int×Int×Unit):=Zc (Zl .kHold) (Zc Zi (Zc Zi Zn))
abbrev zadb:ZD ((List Hold)):=(Zl .kHold)
abbrev zah2 {R:Type}:Sm R:=semP zat3 zadb (fun a=>qj a.1 a.2.1 a.2.2.1)
def zaiz {R:Type}:Nat→Sm R:=cl 259 z7j c0
abbrev z29:=mkld [(7,7,Kd.kHold)] [] [1,2,7,10,11,12] [] [7] (Zs 1 Zi (Zs 2 Zi (FC.arr 7 7 (Zs 10 (Zl .kHold) (Zs 11 Zi (Zs 12 Zi (FC.own 7 Kd.kHold false Zz))))))) zaxd (.x 0 [7] [] [7] (FC.arr 7 7 (FC.own 7 Kd.kHold false Zz)))
def zv0 {R:Type}:Lp Kd El R:=lp 3 z29.sem l0
abbrev zas6:ZC ((List Hold)×Item×Int×Int×Bool×Unit):=Zc (Zl .kHold) (Zc (Cod.agg za0) (Zc Zi (Zc Zi (Zc Zb Zn))))
abbrev zaqm {R:Type}:Sm R:=semP zas6 za1 (fun a=>qbg a.1 a.2.1 a.2.2.1 a.2.2.2.1 a.2.2.2.2.1)
def z9v {R:Type}:Nat→Sm R:=cl 246 zah2 c0
abbrev zu2:=mkld [] [] [2,4,6,11,18,19,20] [6] [] (Zs 2 Zi (Zs 4 Zb (Zp 6 6 (Zs 11 Zi (Zs 18 (Zl .kHold) (Zs 19 Zi (Zs 20 Zi (Zx 6 za0 Zz)))))))) zag0 (.xs 0 [11] [] [] (Zs 11 Zi Zz) (.r [10] [] [] (Zs 10 Zi Zz)))
def zp1 {R:Type}:Lp Kd El R:=lp 3 zu2.sem l0
abbrev zar2 {R:Type}:Sm R:=semP zaif za1 (fun a=>qel a.1 a.2.1)
abbrev z7c {R:Type}:Sm R:=semP zad0 zau (fun a=>qd4 a.1 a.2.1)
abbrev z8m:ZC ((List Hold)×((Unit)×(Int×Unit))×Unit):=Zc (Zl .kHold) (Zc (Cod.fnc 247 (Zn) (Zc (Cod.cptr (CC.one Zi)) Zn)) Zn)
abbrev z59 {R:Type}:Sm R:=semP z8m za1 (fun a=>qb (fun g x0=>qd4 x0 g.2.1) a.1 a.2.1)
def zwu {R:Type}:Nat→Sm R:=cl 247 z7c c0
abbrev zk4:=mkld [] [] [0,1,7,8] [] [] (Zs 0 (Zl .kHold) (Zs 1 (Cod.fnc 247 (Zn) (Zc (Cod.cptr (CC.one Zi)) Zn)) (Zs 7 Zi (Zs 8 Zi Zz)))) (zjh (fun g x0=>qd4 x0 g.2.1)) (.xs 0 [] [] [] Zz (.r [4] [] [] (Zs 4 Zi Zz)))
def zi1 {R:Type}:Lp Kd El R:=lp 2 zk4.sem l0
abbrev zy7:ZC ((List Hold)×Int×Unit):=Zc (Zl .kHold) (Zc Zi Zn)
abbrev zaql {R:Type}:Sm R:=semP zy7 za1 (fun a=>qbf a.1 a.2.1)
abbrev zar5 {R:Type}:Sm R:=semP zy7 z5b (fun a=>qep a.1 a.2.1)
abbrev zzb:ZC (Unit×Int×Int×Unit):=Zc (Cod.ptrc 100000) (Zc Zi (Zc Zi Zn))
abbrev zaq8 {R:Type}:Sm R:=semM zzb (BC.one zav) zkf (fun a b=>qcw a.2.1 a.2.2.1 b)
abbrev zarx {R:Type}:Sm R:=semP zkp zau (fun a=>qef a.1 a.2.1)
abbrev zas2:ZC (Rule×Int×Int×Int×Unit):=Zc (Cod.agg zc8) (Zc Zi (Zc Zi (Zc Zi Zn)))
abbrev z57 {R:Type}:Sm R:=semP zas2 zau (fun a=>qb5 a.1 a.2.1 a.2.2.1 a.2.2.2.1)
abbrev z5n {R:Type}:Sm R:=semP zy8 za1 (fun a=>qa9 a.1)
def z85 {R:Type}:Nat→Sm R:=c0
abbrev zub:=mkld [] [] [3,12,13,14] [] [12] (Zs 3 Zi (FC.arr 12 12 (Zs 13 Zi (Zs 14 Zi (FC.own 12 Kd.ki64 false Zz))))) zagi (.x 0 [3] [] [] (Zs 3 Zi Zz))
def zpg {R:Type}:Lp Kd El R:=lp 3 zub.sem l0
abbrev zadq:ZC ((List Rule)×Int×Int×Int×Unit):=Zc (Zl .kRule) (Zc Zi (Zc Zi (Zc Zi Zn)))
abbrev zapv {R:Type}:Sm R:=semP zadq za1 (fun a=>qa3 a.1 a.2.1 a.2.2.1 a.2.2.2.1)
def z80 {R:Type}:Nat→Sm R:=cl 261 z57 (cl 262 z5n c0)
abbrev zt6:=mkld [] [] [0,1,2,3,9,12,13,14] [] [] (Zs 0 (Zl .kRule) (Zs 1 Zi (Zs 2 Zi (Zs 3 Zi (Zs 9 Zi (Zs 12 (Zl .kRule) (Zs 13 Zi (Zs 14 Zi Zz)))))))) zagf (.x 0 [9] [] [] (Zs 9 Zi Zz))
def zpb {R:Type}:Lp Kd El R:=lp 3 zt6.sem l0
abbrev zahn:ZD (Rule×Bool):=(Cod.tup2 (Zc (Cod.agg zc8) (Zc Zb Zn)))
abbrev zara {R:Type}:Sm R:=semP zadq zahn (fun a=>qd3 a.1 a.2.1 a.2.2.1 a.2.2.2.1)
abbrev zatb:ZC (Circ×Int×Item×Unit):=Zc (Cod.agg zaj) (Zc Zi (Zc (Cod.agg za0) Zn))
abbrev zaqx {R:Type}:Sm R:=semP zatb zahn (fun a=>qc0 a.1 a.2.1 a.2.2.1)
abbrev zaxv:ZD (Calendar):=(Cod.agg zaw)
abbrev zaqy {R:Type}:Sm R:=semP zh0 zaxv (fun a=>qc1 a.1 a.2.1)
abbrev zaro {R:Type}:Sm R:=semP zb1 zau (fun a=>qdm a.1)
abbrev z74 {R:Type}:Sm R:=semP zkp zau (fun a=>qey a.1 a.2.1)
abbrev z7t {R:Type}:Sm R:=semP zb1 zau (fun a=>qec a.1)
abbrev zasy:ZC ((List Int)×Int×Unit):=Zc (Zl .ki64) (Zc Zi Zn)
abbrev zaxr:ZD (Int×Bool):=(Cod.tup2 (Zc Zi (Zc Zb Zn)))
abbrev zap8 {R:Type}:Sm R:=semP zasy zaxr (fun a=>qas a.1 a.2.1)
def z9k {R:Type}:Nat→Sm R:=cl 271 z74 (cl 272 z7t c0)
abbrev zur:=mkld [] [] [0,1,6,7,8] [] [] (Zs 0 (Zl .ki64) (Zs 1 Zi (Zs 6 Zi (Zs 7 Zi (Zs 8 Zi Zz))))) zags (.x 0 [0,1,6,7] [] [] (Zs 0 (Zl .ki64) (Zs 1 Zi (Zs 6 Zi (Zs 7 Zi Zz)))))
def zpq {R:Type}:Lp Kd El R:=lp 3 zur.sem l0
abbrev zaxq:ZD ((V7 Bool)):=(Cod.agg zbl)
abbrev z5y {R:Type}:Sm R:=semP zaii zaxq (fun a=>qar a.1)
def z9j {R:Type}:Nat→Sm R:=c0
abbrev zuq:=mkld [] [] [1,2,3,5] [1,2,3] [] (Zp 1 1 (Zp 2 2 (Zp 3 3 (Zs 5 Zi (Zx 1 zaw (Zx 2 zbl (Zx 3 zbl Zz))))))) zagr (.x 0 [2,3] [2,3] [] (Zp 2 2 (Zp 3 3 (Zx 2 zbl (Zx 3 zbl Zz)))))
def zpp {R:Type}:Lp Kd El R:=lp 3 zuq.sem l0
abbrev zasf {R:Type}:Sm R:=semP zb1 zau (fun a=>qfg a.1)
abbrev z7e {R:Type}:Sm R:=semP zb1 za1 (fun a=>qdb a.1)
abbrev zy9:ZC (Calendar×Int×Unit):=Zc (Cod.agg zaw) (Zc Zi Zn)
abbrev zsx {R:Type}:Sm R:=semP zy9 zau (fun a=>qce a.1 a.2.1)
abbrev zql:ZD (Int×Int):=(Cod.tup2 (Zc Zi (Zc Zi Zn)))
abbrev zah8 {R:Type}:Sm R:=semP zy9 zql (fun a=>qw a.1 a.2.1)
def zajb {R:Type}:Nat→Sm R:=cl 249 zsx c0
abbrev z3r:=mkld [] [] [2,6] [2] [] (Zp 2 2 (Zs 6 Zi (Zx 2 zaw Zz))) zaxo (.xs 0 [] [] [] Zz (.r [4,5] [] [] (Zs 4 Zi (Zs 5 Zi Zz))))
def zv5 {R:Type}:Lp Kd El R:=lp 2 z3r.sem l0
abbrev zadp:ZC (Calendar×Int×Int×Unit):=Zc (Cod.agg zaw) (Zc Zi (Zc Zi Zn))
abbrev zapt {R:Type}:Sm R:=semP zadp zql (fun a=>qa1 a.1 a.2.1 a.2.2.1)
def z8z {R:Type}:Nat→Sm R:=cl 143 z6s (cl 221 zah8 c0)
abbrev zt5:=mkld [] [] [3,8,28,29] [3] [] (Zp 3 3 (Zs 8 Zi (Zs 28 Zi (Zs 29 Zi (Zx 3 zaw Zz))))) zage (.xs 0 [8] [] [] (Zs 8 Zi Zz) (.r [6,7] [] [] (Zs 6 Zi (Zs 7 Zi Zz))))
def zpa {R:Type}:Lp Kd El R:=lp 9 zt5.sem l0
abbrev zasb {R:Type}:Sm R:=semM zzb (BC.one zav) za1 (fun a b=>qfc a.2.1 a.2.2.1 b)
abbrev zatk:ZC (Hold×Int×Int×Unit):=Zc (Cod.agg zbk) (Zc (Cod.cptr (CC.one Zi)) (Zc (Cod.cptr (CC.one Zi)) Zn))
abbrev z63 {R:Type}:Sm R:=semP zatk zau (fun a=>qco a.1 a.2.1 a.2.2.1)
abbrev ztb:ZC ((List Hold)×((Unit)×(Int×Int×Unit))×Unit):=Zc (Zl .kHold) (Zc (Cod.fnc 215 (Zn) (Zc (Cod.cptr (CC.one Zi)) (Zc (Cod.cptr (CC.one Zi)) Zn))) Zn)
abbrev z6a {R:Type}:Sm R:=semP ztb za1 (fun a=>qb (fun g x0=>qco x0 g.2.1 g.2.2.1) a.1 a.2.1)
def zwv {R:Type}:Nat→Sm R:=cl 215 z63 c0
abbrev zk5:=mkld [] [] [0,1,7,8] [] [] (Zs 0 (Zl .kHold) (Zs 1 (Cod.fnc 215 (Zn) (Zc (Cod.cptr (CC.one Zi)) (Zc (Cod.cptr (CC.one Zi)) Zn))) (Zs 7 Zi (Zs 8 Zi Zz)))) (zjh (fun g x0=>qco x0 g.2.1 g.2.2.1)) (.xs 0 [] [] [] Zz (.r [4] [] [] (Zs 4 Zi Zz)))
def zi2 {R:Type}:Lp Kd El R:=lp 2 zk5.sem l0
abbrev zaqd {R:Type}:Sm R:=semP ztb zau (fun a=>qb0 (fun g x0=>qco x0 g.2.1 g.2.2.1) a.1 a.2.1)
abbrev zaru {R:Type}:Sm R:=semP zaig zadb (fun a=>qea a.1)
abbrev zat2:ZC ((List Hold)×Int×Hold×Unit):=Zc (Zl .kHold) (Zc Zi (Zc (Cod.agg zbk) Zn))
abbrev zar4 {R:Type}:Sm R:=semP zat2 zadb (fun a=>qeo a.1 a.2.1 a.2.2.1)
abbrev zas0:ZC ((List Hold)×Int×Int×Int×Int×Unit):=Zc (Zl .kHold) (Zc Zi (Zc Zi (Zc Zi (Zc Zi Zn))))
abbrev zaxt:ZD ((List Hold)×Int):=(Cod.tup2 (Zc (Zl .kHold) (Zc Zi Zn)))
abbrev zaqa {R:Type}:Sm R:=semP zas0 zaxt (fun a=>qav a.1 a.2.1 a.2.2.1 a.2.2.2.1 a.2.2.2.2.1)
abbrev zato:ZC (Unit×(List Hold)×Int×Unit):=Zc (Cod.ptrc 100000) (Zc (Zl .kHold) (Zc Zi Zn))
abbrev zaq6 {R:Type}:Sm R:=semM zato (BC.one zav) zkf (fun a b=>qcu a.2.1 a.2.2.1 b)
abbrev zatv:ZC (Unit×Int×Hold×Unit):=Zc (Cod.ptrc 100000) (Zc Zi (Zc (Cod.agg zbk) Zn))
abbrev zarl {R:Type}:Sm R:=semM zatv (BC.one zav) zkf (fun a b=>qdj a.2.1 a.2.2.1 b)
abbrev zarv {R:Type}:Sm R:=semM zzl (BC.one zav) zkf (fun a b=>qeb a.2.1 b)
abbrev zasu:ZC (Unit×Unit):=Zc (Cod.ptrc 100000) Zn
abbrev zaps {R:Type}:Sm R:=semM zasu (BC.one zav) z5a (fun a b=>qa0 b)
abbrev zkn:ZC (Circ×Int×Int×Unit):=Zc (Cod.agg zaj) (Zc Zi (Zc Zi Zn))
abbrev z6z {R:Type}:Sm R:=semP zkn z5a (fun a=>qcg a.1 a.2.1 a.2.2.1)
abbrev zas7:ZC ((List Charge)×Int×Unit):=Zc (Zl .kCharge) (Zc Zi Zn)
abbrev zaqn {R:Type}:Sm R:=semP zas7 za1 (fun a=>qbh a.1 a.2.1)
def z9w {R:Type}:Nat→Sm R:=c0
abbrev zu3:=mkld [] [] [1,5,8,9,10] [] [] (Zs 1 Zi (Zs 5 Zi (Zs 8 (Zl .kCharge) (Zs 9 Zi (Zs 10 Zi Zz))))) zag1 (.x 0 [5] [] [] (Zs 5 Zi Zz))
def zp2 {R:Type}:Lp Kd El R:=lp 3 zu3.sem l0
abbrev zqk:ZD ((List Loan)):=(Zl .kLoan)
abbrev z5s {R:Type}:Sm R:=semP zkm zqk (fun a=>qai a.1 a.2.1)
def z9c {R:Type}:Nat→Sm R:=c0
abbrev zuj:=mkld [(5,5,Kd.kLoan)] [] [1,5,8,9,10] [] [5] (Zs 1 Zi (FC.arr 5 5 (Zs 8 (Zl .kLoan) (Zs 9 Zi (Zs 10 Zi (FC.own 5 Kd.kLoan false Zz)))))) zagm (.x 0 [5] [] [5] (FC.arr 5 5 (FC.own 5 Kd.kLoan false Zz)))
def zpi {R:Type}:Lp Kd El R:=lp 3 zuj.sem l0
abbrev zadr:ZC ((List Loan)×Int×Int×Unit):=Zc (Zl .kLoan) (Zc Zi (Zc Zi Zn))
abbrev zapw {R:Type}:Sm R:=semP zadr za1 (fun a=>qa5 a.1 a.2.1 a.2.2.1)
def z82 {R:Type}:Nat→Sm R:=cl 163 z5s c0
abbrev zt8:=mkld [] [] [2,7,12,13,14] [] [] (Zs 2 Zi (Zs 7 Zi (Zs 12 (Zl .kLoan) (Zs 13 Zi (Zs 14 Zi Zz))))) zagg (.x 0 [7] [] [] (Zs 7 Zi Zz))
def zpd {R:Type}:Lp Kd El R:=lp 3 zt8.sem l0
abbrev zasw:ZC (Patron×Int×Int×Int×Unit):=Zc (Cod.agg zba) (Zc Zi (Zc Zi (Zc Zi Zn)))
abbrev zl2:ZD ((List Int)):=(Zl .ki64)
abbrev zap5 {R:Type}:Sm R:=semP zasw zl2 (fun a=>qah a.1 a.2.1 a.2.2.1 a.2.2.2.1)
def z9b {R:Type}:Nat→Sm R:=c0
abbrev zui:=mkld [(9,9,Kd.ki64)] [] [9,22,23,24] [] [9,22] (FC.arr 9 9 (FC.arr 22 22 (Zs 23 Zi (Zs 24 Zi (FC.own 9 Kd.ki64 false (FC.own 22 Kd.kbool false Zz)))))) zagl (.x 0 [9] [] [9] (FC.arr 9 9 (FC.own 9 Kd.ki64 false Zz)))
def zph {R:Type}:Lp Kd El R:=lp 3 zui.sem l0
abbrev zasd {R:Type}:Sm R:=semP zad3 zau (fun a=>qfe a.1 a.2.1)
abbrev zaqp {R:Type}:Sm R:=semP zy9 zql (fun a=>qbr a.1 a.2.1)
def z95 {R:Type}:Nat→Sm R:=cl 249 zsx c0
abbrev zvc:=mkld [] [] [2,6] [2] [] (Zp 2 2 (Zs 6 Zi (Zx 2 zaw Zz))) zag3 (.xs 0 [] [] [] Zz (.r [4,5] [] [] (Zs 4 Zi (Zs 5 Zi Zz))))
def zqb {R:Type}:Lp Kd El R:=lp 2 zvc.sem l0
abbrev zad1:ZC (Rule×Calendar×Int×Int×Unit):=Zc (Cod.agg zc8) (Zc (Cod.agg zaw) (Zc Zi (Zc Zi Zn)))
abbrev zarb {R:Type}:Sm R:=semP zad1 zql (fun a=>qd5 a.1 a.2.1 a.2.2.1 a.2.2.2.1)
abbrev zatz:ZC (Circ×Item×Patron×Int×Unit):=Zc (Cod.agg zaj) (Zc (Cod.agg za0) (Zc (Cod.agg zba) (Zc Zi Zn)))
abbrev zary {R:Type}:Sm R:=semP zatz zql (fun a=>qeh a.1 a.2.1 a.2.2.1 a.2.2.2.1)
abbrev zatm:ZC (Loan×Loan×Unit):=Zc (Cod.agg zcq) (Zc (Cod.cptr zcq) Zn)
abbrev z65 {R:Type}:Sm R:=semP zatm zau (fun a=>qcr a.1 a.2.1)
abbrev zmd:ZC ((List Loan)×((Unit)×(Loan×Unit))×Unit):=Zc (Zl .kLoan) (Zc (Cod.fnc 166 (Zn) (Zc (Cod.cptr zcq) Zn)) Zn)
abbrev z8a {R:Type}:Sm R:=semP zmd za1 (fun a=>qk (fun g x0=>qcr x0 g.2.1) a.1 a.2.1)
def zw0 {R:Type}:Nat→Sm R:=cl 166 z65 c0
abbrev zlb:=mkld [] [] [0,1,7,8] [] [] (Zs 0 (Zl .kLoan) (Zs 1 (Cod.fnc 166 (Zn) (Zc (Cod.cptr zcq) Zn)) (Zs 7 Zi (Zs 8 Zi Zz)))) (zapi (fun g x0=>qcr x0 g.2.1)) (.xs 0 [] [] [] Zz (.r [4] [] [] (Zs 4 Zi Zz)))
def zi6 {R:Type}:Lp Kd El R:=lp 2 zlb.sem l0
abbrev zyy {R:Type}:Sm R:=semP zmd zahf (fun a=>qb1 (fun g x0=>qcr x0 g.2.1) a.1 a.2.1)
abbrev zarf {R:Type}:Sm R:=semP zta zqk (fun a=>qd9 a.1)
abbrev zzh:ZC ((List Loan)×Int×(List Loan)×Unit):=Zc (Zl .kLoan) (Zc Zi (Zc (Zl .kLoan) Zn))
abbrev zahs:ZD ((List Loan)):=zqk
def zaga (a:(List Loan)×Int×(List Loan)×Unit):Option ((List Loan)):=qdv a.1 a.2.1 a.2.2.1
abbrev zay4 {R:Type}:Sm R:=semP zzh zahs zaga
abbrev zahm:ZD ((List Loan)×Int):=(Cod.tup2 (Zc (Zl .kLoan) (Zc Zi Zn)))
abbrev zaq9 {R:Type}:Sm R:=semP zta zahm (fun a=>qd2 a.1)
abbrev zas8:ZC ((List Loan)×Loan×Unit):=Zc (Zl .kLoan) (Zc (Cod.agg zcq) Zn)
abbrev zaqr {R:Type}:Sm R:=semP zas8 zahm (fun a=>qbu a.1 a.2.1)
abbrev zatn:ZC (Unit×(List Loan)×Int×Unit):=Zc (Cod.ptrc 100000) (Zc (Zl .kLoan) (Zc Zi Zn))
abbrev zaq5 {R:Type}:Sm R:=semM zatn (BC.one zav) zkf (fun a b=>qct a.2.1 a.2.2.1 b)
abbrev zzk:ZC ((List Hold)×Int×Int×Unit):=zat3
abbrev zahv:ZD ((List Hold)):=zadb
def zagd (a:(List Hold)×Int×Int×Unit):Option ((List Hold)):=qdy a.1 a.2.1 a.2.2.1
abbrev zay7 {R:Type}:Sm R:=semP zzk zahv zagd
abbrev zax0:ZD ((List Hold)×Hold×Int):=(Cod.tup3 (Zc (Zl .kHold) (Zc (Cod.agg zbk) (Zc Zi Zn))))
abbrev zarz {R:Type}:Sm R:=semP zy7 zax0 (fun a=>qei a.1 a.2.1)
abbrev zar7 {R:Type}:Sm R:=semM zzl (BC.one zav) zkf (fun a b=>qeu a.2.1 b)
abbrev z5c:ZD (Circ×Int×Int):=(Cod.tup3 (Zc (Cod.agg zaj) (Zc Zi (Zc Zi Zn))))
abbrev zaq0 {R:Type}:Sm R:=semM zzl (BC.one zav) z5c (fun a b=>qcd a.2.1 b)
abbrev zat1:ZC (Hold×Item×Unit):=Zc (Cod.agg zbk) (Zc (Cod.agg za0) Zn)
abbrev zar3 {R:Type}:Sm R:=semP zat1 zau (fun a=>qem a.1 a.2.1)
abbrev zats:ZC (Hold×Int×Item×Unit):=Zc (Cod.agg zbk) (Zc (Cod.cptr (CC.one Zi)) (Zc (Cod.cptr za0) Zn))
abbrev z7g {R:Type}:Sm R:=semP zats zau (fun a=>qde a.1 a.2.1 a.2.2.1)
abbrev z8n:ZC ((List Hold)×((Unit)×(Int×Item×Unit))×Unit):=Zc (Zl .kHold) (Zc (Cod.fnc 111 (Zn) (Zc (Cod.cptr (CC.one Zi)) (Zc (Cod.cptr za0) Zn))) Zn)
abbrev z6b {R:Type}:Sm R:=semP z8n za1 (fun a=>qb (fun g x0=>qde x0 g.2.1 g.2.2.1) a.1 a.2.1)
def zww {R:Type}:Nat→Sm R:=cl 111 z7g c0
abbrev zk6:=mkld [] [] [0,1,7,8] [] [] (Zs 0 (Zl .kHold) (Zs 1 (Cod.fnc 111 (Zn) (Zc (Cod.cptr (CC.one Zi)) (Zc (Cod.cptr za0) Zn))) (Zs 7 Zi (Zs 8 Zi Zz)))) (zjh (fun g x0=>qde x0 g.2.1 g.2.2.1)) (.xs 0 [] [] [] Zz (.r [4] [] [] (Zs 4 Zi Zz)))
def zi3 {R:Type}:Lp Kd El R:=lp 2 zk6.sem l0
abbrev zte:ZC (Circ×Int×Int×Int×Unit):=Zc (Cod.agg zaj) (Zc Zi (Zc Zi (Zc Zi Zn)))
abbrev z6g {R:Type}:Sm R:=semP zte z5c (fun a=>qbi a.1 a.2.1 a.2.2.1 a.2.2.2.1)
abbrev zzj:ZC ((List Loan)×Int×Int×Unit):=zadr
abbrev zahu:ZD ((List Loan)):=zqk
def zagc (a:(List Loan)×Int×Int×Unit):Option ((List Loan)):=qdx a.1 a.2.1 a.2.2.1
abbrev zay6 {R:Type}:Sm R:=semP zzj zahu zagc
abbrev zar9 {R:Type}:Sm R:=semP zkm zqk (fun a=>qfa a.1 a.2.1)
abbrev zaxz:ZD ((List Loan)×Loan×Int):=(Cod.tup3 (Zc (Zl .kLoan) (Zc (Cod.agg zcq) (Zc Zi Zn))))
abbrev zarq {R:Type}:Sm R:=semP zkm zaxz (fun a=>qdr a.1 a.2.1)
abbrev z7v {R:Type}:Sm R:=semP zkp za1 (fun a=>qeg a.1 a.2.1)
abbrev zap1 {R:Type}:Sm R:=semP zadp za1 (fun a=>qad a.1 a.2.1 a.2.2.1)
def z89 {R:Type}:Nat→Sm R:=cl 251 z5y (cl 252 z7v (cl 253 z7e c0))
abbrev zug:=mkld [] [] [1,2,3,7,8,22,23] [3,7] [] (Zs 1 Zi (Zs 2 Zi (Zp 3 3 (Zp 7 7 (Zs 8 Zi (Zs 22 (Cod.agg zbl) (Zs 23 Zi (Zx 3 zaw (Zx 7 zbl Zz))))))))) zagk (.x 0 [1,2,3,7,8] [3,7] [] (Zs 1 Zi (Zs 2 Zi (Zp 3 3 (Zp 7 7 (Zs 8 Zi (Zx 3 zaw (Zx 7 zbl Zz))))))))
abbrev zo4:=mkld [] [] [1,2,7,8,40,41,42] [7] [] (Zs 1 Zi (Zs 2 Zi (Zp 7 7 (Zs 8 Zi (Zs 40 (Zl .ki64) (Zs 41 Zi (Zs 42 Zi (Zx 7 zbl Zz)))))))) z4x (.x 2 [8] [] [] (Zs 8 Zi Zz))
def ziz {R:Type}:Lp Kd El R:=lp 13 zo4.sem (lp 7 zug.sem l0)
abbrev zask {R:Type}:Sm R:=semP zad1 za1 (fun a=>qfl a.1 a.2.1 a.2.2.1 a.2.2.2.1)
abbrev zatt:ZC ((List Charge)×Charge×Unit):=Zc (Zl .kCharge) (Zc (Cod.agg zdi) Zn)
abbrev zaho:ZD ((List Charge)×Int):=(Cod.tup2 (Zc (Zl .kCharge) (Zc Zi Zn)))
abbrev zarh {R:Type}:Sm R:=semP zatt zaho (fun a=>qdf a.1 a.2.1)
abbrev zasa {R:Type}:Sm R:=semM zads (BC.one zav) zkf (fun a b=>qfb a.2.1 a.2.2.1 a.2.2.2.1 a.2.2.2.2.1 b)
abbrev zatd:ZC (Charge×Int×Int×Int×Unit):=Zc (Cod.agg zdi) (Zc (Cod.cptr (CC.one Zi)) (Zc (Cod.cptr (CC.one Zi)) (Zc (Cod.cptr (CC.one Zi)) Zn)))
abbrev z6u {R:Type}:Sm R:=semP zatd zau (fun a=>qc8 a.1 a.2.1 a.2.2.1 a.2.2.2.1)
abbrev zasz:ZC ((List Charge)×((Unit)×(Int×Int×Int×Unit))×Unit):=Zc (Zl .kCharge) (Zc (Cod.fnc 230 (Zn) (Zc (Cod.cptr (CC.one Zi)) (Zc (Cod.cptr (CC.one Zi)) (Zc (Cod.cptr (CC.one Zi)) Zn)))) Zn)
abbrev zaxs:ZD ((List Charge)×Int×Int):=(Cod.tup3 (Zc (Zl .kCharge) (Zc Zi (Zc Zi Zn))))
abbrev zap9 {R:Type}:Sm R:=semP zasz zaxs (fun a=>qau (fun g x0=>qc8 x0 g.2.1 g.2.2.1 g.2.2.2.1) a.1 a.2.1)
def z9m {R:Type}:Nat→Sm R:=cl 230 z6u c0
abbrev zut:=mkld [(4,4,Kd.kCharge)] [] [1,4,5,6,9,10,11] [] [4] (Zs 1 (Cod.fnc 230 (Zn) (Zc (Cod.cptr (CC.one Zi)) (Zc (Cod.cptr (CC.one Zi)) (Zc (Cod.cptr (CC.one Zi)) Zn)))) (FC.arr 4 4 (Zs 5 Zi (Zs 6 Zi (Zs 9 (Zl .kCharge) (Zs 10 Zi (Zs 11 Zi (FC.own 4 Kd.kCharge false Zz)))))))) (zagt (fun g x0=>qc8 x0 g.2.1 g.2.2.1 g.2.2.2.1)) (.x 0 [4,5,6] [] [4] (FC.arr 4 4 (Zs 5 Zi (Zs 6 Zi (FC.own 4 Kd.kCharge false Zz)))))
def zps {R:Type}:Lp Kd El R:=lp 2 zut.sem l0
abbrev zas9:ZC ((List Charge)×Int×Int×Int×Unit):=Zc (Zl .kCharge) (Zc Zi (Zc Zi (Zc Zi Zn)))
abbrev zaqv {R:Type}:Sm R:=semP zas9 zaho (fun a=>qby a.1 a.2.1 a.2.2.1 a.2.2.2.1)
abbrev zart {R:Type}:Sm R:=semM zzb (BC.one zav) zkf (fun a b=>qe9 a.2.1 a.2.2.1 b)
abbrev z7p {R:Type}:Sm R:=semP zkn z5c (fun a=>qe5 a.1 a.2.1 a.2.2.1)
abbrev zaxu:ZD (Circ×Bool):=(Cod.tup2 (Zc (Cod.agg zaj) (Zc Zb Zn)))
abbrev zaqi {R:Type}:Sm R:=semP zzc zaxu (fun a=>qbb)
def z9s {R:Type}:Nat→Sm R:=cl 52 z7d (cl 53 zahy (cl 54 z6z (cl 55 z6g (cl 56 z7p c0))))
abbrev zuz:=mkld [] [] [0,2,5,6] [0,2] [] (Zp 0 0 (Zp 2 2 (Zs 5 Zb (Zs 6 Zi (Zx 0 zaj (Zx 2 zaj Zz)))))) zagy (.x 0 [0,2,5] [0,2] [] (Zp 0 0 (Zp 2 2 (Zs 5 Zb (Zx 0 zaj (Zx 2 zaj Zz))))))
def zpy {R:Type}:Lp Kd El R:=lp 6 zuz.sem l0
abbrev z5l {R:Type}:Sm R:=semP zh0 zql (fun a=>qa4 a.1 a.2.1)
def z81 {R:Type}:Nat→Sm R:=c0
abbrev zt7:=mkld [] [] [1,6,7,11,12,13] [] [] (Zs 1 Zi (Zs 6 Zi (Zs 7 Zi (Zs 11 (Zl .kMove) (Zs 12 Zi (Zs 13 Zi Zz)))))) zlh (.x 0 [6,7] [] [] (Zs 6 Zi (Zs 7 Zi Zz)))
def zpc {R:Type}:Lp Kd El R:=lp 3 zt7.sem l0
abbrev z5z {R:Type}:Sm R:=semP zh0 za1 (fun a=>qat a.1 a.2.1)
def z9l {R:Type}:Nat→Sm R:=c0
abbrev zus:=mkld [] [] [1,5,9,10,11] [] [] (Zs 1 Zi (Zs 5 Zi (Zs 9 (Zl .kItem) (Zs 10 Zi (Zs 11 Zi Zz))))) zlm (.x 0 [5] [] [] (Zs 5 Zi Zz))
def zpr {R:Type}:Lp Kd El R:=lp 3 zus.sem l0
abbrev zath:ZC (Hold×Item×Unit):=Zc (Cod.agg zbk) (Zc (Cod.cptr za0) Zn)
abbrev z61 {R:Type}:Sm R:=semP zath zau (fun a=>qck a.1 a.2.1)
abbrev ztc:ZC ((List Hold)×((Unit)×(Item×Unit))×Unit):=Zc (Zl .kHold) (Zc (Cod.fnc 58 (Zn) (Zc (Cod.cptr za0) Zn)) Zn)
abbrev z6c {R:Type}:Sm R:=semP ztc za1 (fun a=>qb (fun g x0=>qck x0 g.2.1) a.1 a.2.1)
def zwx {R:Type}:Nat→Sm R:=cl 58 z61 c0
abbrev zk7:=mkld [] [] [0,1,7,8] [] [] (Zs 0 (Zl .kHold) (Zs 1 (Cod.fnc 58 (Zn) (Zc (Cod.cptr za0) Zn)) (Zs 7 Zi (Zs 8 Zi Zz)))) (zjh (fun g x0=>qck x0 g.2.1)) (.xs 0 [] [] [] Zz (.r [4] [] [] (Zs 4 Zi Zz)))
def zi4 {R:Type}:Lp Kd El R:=lp 2 zk7.sem l0
abbrev zl7 {R:Type}:Sm R:=semP ztc zau (fun a=>qb0 (fun g x0=>qck x0 g.2.1) a.1 a.2.1)
abbrev zarw {R:Type}:Sm R:=semP zkp za1 (fun a=>qed a.1 a.2.1)
abbrev zas5:ZC ((List Int)×Unit):=Zc (Zl .ki64) Zn
abbrev zaqj {R:Type}:Sm R:=semP zas5 za1 (fun a=>qbd a.1)
def z9t {R:Type}:Nat→Sm R:=c0
abbrev zu0:=mkld [] [] [3,6,7,8] [] [] (Zs 3 Zi (Zs 6 (Zl .ki64) (Zs 7 Zi (Zs 8 Zi Zz)))) zagz (.xs 0 [3] [] [] (Zs 3 Zi Zz) (.r [2] [] [] (Zs 2 Zi Zz)))
def zpz {R:Type}:Lp Kd El R:=lp 3 zu0.sem l0
abbrev zatr:ZC (Weed_candidate×Weed_candidate×Unit):=Zc (Cod.agg zbm) (Zc (Cod.agg zbm) Zn)
abbrev zare {R:Type}:Sm R:=semP zatr za1 (fun a=>qd8 a.1 a.2.1)
abbrev zzd:ZC ((List Weed_candidate)×((Unit)×(Unit))×Unit):=Zc (Zl .kWeed_candidate) (Zc (Cod.fnc 60 (Zn) (Zn)) Zn)
abbrev zahp:ZD (List Weed_candidate):=(Zl .kWeed_candidate)
def zaf6 (a:(List Weed_candidate)×((Unit)×(Unit))×Unit):Option (List Weed_candidate):=qdg (fun g x0 x1=>qd8 x0 x1) a.1 a.2.1
abbrev zari {R:Type}:Sm R:=semP zzd zahp zaf6
abbrev zayz:ZD ((List Weed_candidate)):=(Zl .kWeed_candidate)
abbrev z79 {R:Type}:Sm R:=semP zkn zayz (fun a=>qi a.1 a.2.1 a.2.2.1)
def zaiy {R:Type}:Nat→Sm R:=cl 11 z5l (cl 57 zl7 (cl 59 zari c0))
abbrev z28:=mkld [(7,7,Kd.kWeed_candidate)] [] [1,2,3,7,14,15,16] [3] [7] (Zs 1 Zi (Zs 2 Zi (Zp 3 3 (FC.arr 7 7 (Zs 14 (Zl .kItem) (Zs 15 Zi (Zs 16 Zi (Zx 3 zaj (FC.own 7 Kd.kWeed_candidate false Zz))))))))) zyk (.x 0 [7] [] [7] (FC.arr 7 7 (FC.own 7 Kd.kWeed_candidate false Zz)))
def zvz {R:Type}:Lp Kd El R:=lp 3 z28.sem l0
abbrev zapx {R:Type}:Sm R:=semP zkn zl2 (fun a=>qa7 a.1 a.2.1 a.2.2.1)
def z84 {R:Type}:Nat→Sm R:=cl 27 z79 c0
abbrev zua:=mkld [(7,7,Kd.ki64)] [] [7,13,14,15] [] [7] (FC.arr 7 7 (Zs 13 (Zl .kWeed_candidate) (Zs 14 Zi (Zs 15 Zi (FC.own 7 Kd.ki64 false Zz))))) zagh (.x 0 [7] [] [7] (FC.arr 7 7 (FC.own 7 Kd.ki64 false Zz)))
def zpf {R:Type}:Lp Kd El R:=lp 3 zua.sem l0
abbrev zasx:ZC ((List Int)×(List Int)×Unit):=Zc (Zl .ki64) (Zc (Zl .ki64) Zn)
abbrev zap6 {R:Type}:Sm R:=semP zasx zau (fun a=>qak a.1 a.2.1)
def z9e {R:Type}:Nat→Sm R:=c0
abbrev zul:=mkld [] [] [0,1,5] [] [] (Zs 0 (Zl .ki64) (Zs 1 (Zl .ki64) (Zs 5 Zi Zz))) zlk (.xs 0 [] [] [] Zz (.r [4] [] [] (Zs 4 Zb Zz)))
def zpk {R:Type}:Lp Kd El R:=lp 4 zul.sem l0
abbrev z6q {R:Type}:Sm R:=semP zatp zau (fun a=>qc4 a.1 a.2.1)
abbrev zs7:ZC ((List Item)×((Unit)×(Int×Unit))×Unit):=Zc (Zl .kItem) (Zc (Cod.fnc 32 (Zn) (Zc (Cod.cptr (CC.one Zi)) Zn)) Zn)
abbrev z5p {R:Type}:Sm R:=semP zs7 za1 (fun a=>qa (fun g x0=>qc4 x0 g.2.1) a.1 a.2.1)
def zws {R:Type}:Nat→Sm R:=cl 32 z6q c0
abbrev zk2:=mkld [] [] [0,1,7,8] [] [] (Zs 0 (Zl .kItem) (Zs 1 (Cod.fnc 32 (Zn) (Zc (Cod.cptr (CC.one Zi)) Zn)) (Zs 7 Zi (Zs 8 Zi Zz)))) (z4v (fun g x0=>qc4 x0 g.2.1)) (.xs 0 [] [] [] Zz (.r [4] [] [] (Zs 4 Zi Zz)))
def ziu {R:Type}:Lp Kd El R:=lp 2 zk2.sem l0
abbrev z60 {R:Type}:Sm R:=semP zs7 zau (fun a=>qcj (fun g x0=>qc4 x0 g.2.1) a.1 a.2.1)
abbrev zatw:ZC (Item×Int×Unit):=Zc (Cod.agg za0) (Zc Zi Zn)
abbrev zarp {R:Type}:Sm R:=semP zatw zau (fun a=>qdo a.1 a.2.1)
abbrev z7f {R:Type}:Sm R:=semP zadz zau (fun a=>qdd a.1 a.2.1)
abbrev zs8:ZC ((List Item)×((Unit)×(Item×Unit))×Unit):=Zc (Zl .kItem) (Zc (Cod.fnc 118 (Zn) (Zc (Cod.cptr za0) Zn)) Zn)
abbrev z5q {R:Type}:Sm R:=semP zs8 za1 (fun a=>qa (fun g x0=>qdd x0 g.2.1) a.1 a.2.1)
def zwt {R:Type}:Nat→Sm R:=cl 118 z7f c0
abbrev zk3:=mkld [] [] [0,1,7,8] [] [] (Zs 0 (Zl .kItem) (Zs 1 (Cod.fnc 118 (Zn) (Zc (Cod.cptr za0) Zn)) (Zs 7 Zi (Zs 8 Zi Zz)))) (z4v (fun g x0=>qdd x0 g.2.1)) (.xs 0 [] [] [] Zz (.r [4] [] [] (Zs 4 Zi Zz)))
def ziv {R:Type}:Lp Kd El R:=lp 2 zk3.sem l0
abbrev zyz {R:Type}:Sm R:=semP zs8 zau (fun a=>qcj (fun g x0=>qdd x0 g.2.1) a.1 a.2.1)
abbrev zatl:ZC (Hold×Item×Bool×Unit):=Zc (Cod.agg zbk) (Zc (Cod.cptr za0) (Zc (Cod.cptr (CC.one Zb)) Zn))
abbrev z64 {R:Type}:Sm R:=semP zatl zau (fun a=>qcp a.1 a.2.1 a.2.2.1)
abbrev ztd:ZC ((List Hold)×((Unit)×(Item×Bool×Unit))×Unit):=Zc (Zl .kHold) (Zc (Cod.fnc 120 (Zn) (Zc (Cod.cptr za0) (Zc (Cod.cptr (CC.one Zb)) Zn))) Zn)
abbrev z6d {R:Type}:Sm R:=semP ztd za1 (fun a=>qb (fun g x0=>qcp x0 g.2.1 g.2.2.1) a.1 a.2.1)
def zwy {R:Type}:Nat→Sm R:=cl 120 z64 c0
abbrev zk8:=mkld [] [] [0,1,7,8] [] [] (Zs 0 (Zl .kHold) (Zs 1 (Cod.fnc 120 (Zn) (Zc (Cod.cptr za0) (Zc (Cod.cptr (CC.one Zb)) Zn))) (Zs 7 Zi (Zs 8 Zi Zz)))) (zjh (fun g x0=>qcp x0 g.2.1 g.2.2.1)) (.xs 0 [] [] [] Zz (.r [4] [] [] (Zs 4 Zi Zz)))
def zi5 {R:Type}:Lp Kd El R:=lp 2 zk8.sem l0
abbrev zyx {R:Type}:Sm R:=semP ztd zau (fun a=>qb0 (fun g x0=>qcp x0 g.2.1 g.2.2.1) a.1 a.2.1)
abbrev zap2 {R:Type}:Sm R:=semP zaif zau (fun a=>qae a.1 a.2.1)
abbrev z73 {R:Type}:Sm R:=semP zh0 z5a (fun a=>qew a.1 a.2.1)
abbrev zayl:ZC (Circ×(List Int)×Unit):=Zc (Cod.agg zaj) (Zc (Zl .ki64) Zn)
abbrev zay0:ZD (Circ×(List Int)×Int):=(Cod.tup3 (Zc (Cod.agg zaj) (Zc (Zl .ki64) (Zc Zi Zn))))
abbrev zax8 {R:Type}:Sm R:=semP zayl zay0 (fun a=>ql a.1 a.2.1)
def zai1 {R:Type}:Nat→Sm R:=cl 31 z60 (cl 33 z73 c0)
abbrev z3b:=mkld [] [] [1,2,4,14,15,16] [2,4] [] (Zs 1 (Zl .ki64) (Zp 2 2 (Zp 4 4 (Zs 14 (Zl .ki64) (Zs 15 Zi (Zs 16 Zi (Zx 2 zaj (Zx 4 zaj Zz)))))))) zaxe (.xs 0 [1,2,4] [2,4] [] (Zs 1 (Zl .ki64) (Zp 2 2 (Zp 4 4 (Zx 2 zaj (Zx 4 zaj Zz))))) (.r [5,6] [4] [4] (Zp 4 4 (Zs 5 (Zl .ki64) (Zs 6 Zi (Zx 4 zaj Zz))))))
abbrev z3c:=mkld [(9,9,Kd.ki64)] [] [2,4,9,27,28,29] [2,4] [9] (Zp 2 2 (Zp 4 4 (FC.arr 9 9 (Zs 27 (Zl .ki64) (Zs 28 Zi (Zs 29 Zi (Zx 2 zaj (Zx 4 zaj (FC.own 9 Kd.ki64 false Zz))))))))) zaxf (.x 2 [2,4,9] [2,4] [9] (Zp 2 2 (Zp 4 4 (FC.arr 9 9 (Zx 2 zaj (Zx 4 zaj (FC.own 9 Kd.ki64 false Zz)))))))
def znf {R:Type}:Lp Kd El R:=lp 9 z3c.sem (lp 2 z3b.sem l0)
abbrev zaqk {R:Type}:Sm R:=semP zte zl2 (fun a=>qbe a.1 a.2.1 a.2.2.1 a.2.2.2.1)
def z9u {R:Type}:Nat→Sm R:=cl 13 z5z (cl 27 z79 c0)
abbrev zu1:=mkld [(9,9,Kd.ki64)] [] [3,4,9,10,17,18,19] [4] [9,13] (Zs 3 Zi (Zp 4 4 (FC.arr 9 9 (FC.arr 10 13 (Zs 17 (Zl .kWeed_candidate) (Zs 18 Zi (Zs 19 Zi (Zx 4 zaj (FC.own 9 Kd.ki64 false (FC.map 13 Kd.kMapI Zz)))))))))) zlq (.x 0 [9] [] [9] (FC.arr 9 9 (FC.own 9 Kd.ki64 false Zz)))
def zp0 {R:Type}:Lp Kd El R:=lp 4 zu1.sem l0
abbrev zase {R:Type}:Sm R:=semP zzc zau (fun a=>qff)
abbrev zayc {R:Type}:Sm R:=semP zgu zau (fun a=>qr a.1)
def zai7 {R:Type}:Nat→Sm R:=c0
abbrev z3l:=mkld [] [] [1,3] [1] [] (Zp 1 1 (Zs 3 Zi (Zx 1 zaj Zz))) zyn (.xs 0 [1] [1] [] (Zp 1 1 (Zx 1 zaj Zz)) (.r [2] [] [] (Zs 2 Zb Zz)))
abbrev z3m:=mkld [] [] [1,4] [1] [] (Zp 1 1 (Zs 4 Zi (Zx 1 zaj Zz))) zyo (.xs 2 [1] [1] [] (Zp 1 1 (Zx 1 zaj Zz)) (.r [2] [] [] (Zs 2 Zb Zz)))
abbrev zvn:=mkld [] [] [1,5] [1] [] (Zp 1 1 (Zs 5 Zi (Zx 1 zaj Zz))) zhe (.xs 4 [] [] [] Zz (.r [2] [] [] (Zs 2 Zb Zz)))
def zhv {R:Type}:Lp Kd El R:=lp 14 zvn.sem (lp 9 z3m.sem (lp 4 z3l.sem l0))
abbrev zady:ZC ((List UInt8)×Int×Unit):=Zc Cod.str (Zc Zi Zn)
abbrev zsw {R:Type}:Sm R:=semP zady zql (fun a=>qcb a.1 a.2.1)
abbrev zsu {R:Type}:Sm R:=semP zko zau (fun a=>qaw a.1)
def z9n {R:Type}:Nat→Sm R:=cl 146 zsw c0
abbrev zuu:=mkld [] [] [0,3] [] [] (Zs 0 Cod.str (Zs 3 Zi Zz)) zln (.xs 0 [] [] [] Zz (.r [2] [] [] (Zs 2 Zb Zz)))
def zpt {R:Type}:Lp Kd El R:=lp 2 zuu.sem l0
abbrev z7r {R:Type}:Sm R:=semP zady za1 (fun a=>qe7 a.1 a.2.1)
abbrev z7o {R:Type}:Sm R:=semP zb1 zau (fun a=>qe4 a.1)
abbrev z6n {R:Type}:Sm R:=semP zko z5d (fun a=>qbp a.1)
def z93 {R:Type}:Nat→Sm R:=cl 146 zsw (cl 147 z7r (cl 148 z7o c0))
abbrev zva:=mkld [] [] [0,3,4,5] [] [] (Zs 0 Cod.str (Zs 3 Cod.str (Zs 4 Zb (Zs 5 Zi Zz)))) zlu (.x 0 [3] [] [] (Zs 3 Cod.str Zz))
def zp9 {R:Type}:Lp Kd El R:=lp 4 zva.sem l0
abbrev z6m {R:Type}:Sm R:=semP zs9 za1 (fun a=>qbo a.1)
def z92 {R:Type}:Nat→Sm R:=cl 88 zsu (cl 89 z6n c0)
abbrev zu9:=mkld [] [] [0,3] [] [] (Zs 0 (Zl .kPatron) (Zs 3 Zi Zz)) zjk (.xs 0 [] [] [] Zz (.r [2] [] [] (Zs 2 Zi Zz)))
def zp8 {R:Type}:Lp Kd El R:=lp 4 zu9.sem l0
abbrev z6k {R:Type}:Sm R:=semP zta za1 (fun a=>qbm a.1)
def z90 {R:Type}:Nat→Sm R:=c0
abbrev zu7:=mkld [] [] [0,3] [] [] (Zs 0 (Zl .kLoan) (Zs 3 Zi Zz)) zji (.xs 0 [] [] [] Zz (.r [2] [] [] (Zs 2 Zi Zz)))
def zp6 {R:Type}:Lp Kd El R:=lp 4 zu7.sem l0
abbrev zard {R:Type}:Sm R:=semP zb1 zau (fun a=>qd7 a.1)
abbrev zar6 {R:Type}:Sm R:=semP zb1 zau (fun a=>qeq a.1)
abbrev z7l {R:Type}:Sm R:=semP zad4 za1 (fun a=>qe1 a.1)
abbrev zah3 {R:Type}:Sm R:=semP zaig za1 (fun a=>qo a.1)
def zai4 {R:Type}:Nat→Sm R:=cl 90 z7l c0
abbrev z3h:=mkld [] [] [0,3] [] [] (Zs 0 (Zl .kHold) (Zs 3 Zi Zz)) zsi (.xs 0 [0] [] [] (Zs 0 (Zl .kHold) Zz) (.r [2] [] [] (Zs 2 Zi Zz)))
abbrev zvk:=mkld [] [] [0,5,6] [] [] (Zs 0 (Zl .kHold) (Zs 5 Zi (Zs 6 Zi Zz))) zjn (.xs 4 [0,5] [] [] (Zs 0 (Zl .kHold) (Zs 5 Zi Zz)) (.r [2] [] [] (Zs 2 Zi Zz)))
abbrev zvj:=mkld [] [] [0,5] [] [] (Zs 0 (Zl .kHold) (Zs 5 Zi Zz)) zlz (.xs 2 [] [] [] Zz (.r [2] [] [] (Zs 2 Zi Zz)))
def zht {R:Type}:Lp Kd El R:=lp 12 zvj.sem (lp 15 zvk.sem (lp 4 z3h.sem l0))
abbrev z7s {R:Type}:Sm R:=semP zb1 zau (fun a=>qe8 a.1)
abbrev z6l {R:Type}:Sm R:=semP zadu za1 (fun a=>qbn a.1)
def z91 {R:Type}:Nat→Sm R:=cl 91 z7s c0
abbrev zu8:=mkld [] [] [0,3] [] [] (Zs 0 (Zl .kCharge) (Zs 3 Zi Zz)) zjj (.xs 0 [] [] [] Zz (.r [2] [] [] (Zs 2 Zi Zz)))
def zp7 {R:Type}:Lp Kd El R:=lp 4 zu8.sem l0
abbrev zaqg {R:Type}:Sm R:=semP zny zau (fun a=>qb7 a.1 a.2.1 a.2.2.1)
abbrev z71 {R:Type}:Sm R:=semP zy8 zau (fun a=>qev a.1)
abbrev zah5 {R:Type}:Sm R:=semP zat4 za1 (fun a=>qs a.1)
def zai8 {R:Type}:Nat→Sm R:=cl 92 z71 c0
abbrev z3o:=mkld [] [] [0,3,4] [] [] (Zs 0 (Zl .kRule) (Zs 3 Zi (Zs 4 Zi Zz))) zsj (.xs 2 [0,3] [] [] (Zs 0 (Zl .kRule) (Zs 3 Zi Zz)) (.r [2] [] [] (Zs 2 Zi Zz)))
abbrev z3n:=mkld [] [] [0,3] [] [] (Zs 0 (Zl .kRule) (Zs 3 Zi Zz)) zyp (.xs 0 [] [] [] Zz (.r [2] [] [] (Zs 2 Zi Zz)))
def znh {R:Type}:Lp Kd El R:=lp 4 z3n.sem (lp 9 z3o.sem l0)
abbrev z5r {R:Type}:Sm R:=semP zaii za1 (fun a=>qaa a.1)
def z86 {R:Type}:Nat→Sm R:=c0
abbrev zuc:=mkld [] [] [1,3] [1] [] (Zp 1 1 (Zs 3 Zi (Zx 1 zaw Zz))) zje (.xs 0 [1] [1] [] (Zp 1 1 (Zx 1 zaw Zz)) (.r [2] [] [] (Zs 2 Zi Zz)))
abbrev zo2:=mkld [] [] [1,4] [1] [] (Zp 1 1 (Zs 4 Zi (Zx 1 zaw Zz))) zfw (.xs 2 [] [] [] Zz (.r [2] [] [] (Zs 2 Zi Zz)))
def ziw {R:Type}:Lp Kd El R:=lp 11 zo2.sem (lp 6 zuc.sem l0)
abbrev zaqt {R:Type}:Sm R:=semP zs6 za1 (fun a=>qbw a.1 a.2.1)
def z98 {R:Type}:Nat→Sm R:=c0
abbrev zvf:=mkld [] [] [0,1,5] [] [] (Zs 0 (Zl .kPatron) (Zs 1 Zi (Zs 5 Zi Zz))) zlx (.xs 0 [] [] [] Zz (.r [4] [] [] (Zs 4 Zi Zz)))
def zqe {R:Type}:Lp Kd El R:=lp 2 zvf.sem l0
abbrev znt {R:Type}:Sm R:=semP zs6 zahk (fun a=>qcs a.1 a.2.1)
abbrev z7m {R:Type}:Sm R:=semP zb1 zahl (fun a=>qe2 a.1)
abbrev zasc {R:Type}:Sm R:=semP zb1 zau (fun a=>qfd a.1)
abbrev zasi {R:Type}:Sm R:=semP zze zau (fun a=>qfj a.1)
abbrev zat0:ZC (Move×Unit):=Zc (Cod.agg zgw) Zn
abbrev zar0 {R:Type}:Sm R:=semP zat0 zau (fun a=>qej a.1)
abbrev z7k {R:Type}:Sm R:=semP zb1 zl2 (fun a=>qe0 a.1)
abbrev zaqq {R:Type}:Sm R:=semP zkp zau (fun a=>qbt a.1 a.2.1)
def z96 {R:Type}:Nat→Sm R:=cl 238 z7k c0
abbrev zvd:=mkld [] [] [0,5,6] [] [] (Zs 0 Zi (Zs 5 (Zl .ki64) (Zs 6 Zi Zz))) zlv (.xs 0 [] [] [] Zz (.r [4] [] [] (Zs 4 Zb Zz)))
def zqc {R:Type}:Lp Kd El R:=lp 3 zvd.sem l0
abbrev zasl {R:Type}:Sm R:=semP ztf zau (fun a=>qfm a.1 a.2.1)
abbrev zash {R:Type}:Sm R:=semP zb1 za1 (fun a=>qfi a.1)
abbrev z7n {R:Type}:Sm R:=semP ztf zv8 (fun a=>qe3 a.1 a.2.1)
abbrev z6j {R:Type}:Sm R:=semP zadt zahe (fun a=>qbl a.1 a.2.1 a.2.2.1)
def z9z {R:Type}:Nat→Sm R:=cl 124 z7n (cl 152 z7m c0)
abbrev zu6:=mkld [] [] [1,2,6,9,10] [6,9] [] (Zs 1 (Zl .kMove) (Zs 2 Zi (Zp 6 6 (Zp 9 9 (Zs 10 Zi (Zx 6 zax (Zx 9 zax Zz))))))) zlt (.xs 0 [6,9] [6,9] [] (Zp 6 6 (Zp 9 9 (Zx 6 zax (Zx 9 zax Zz)))) (.r [7,8] [6] [6] (Zp 6 6 (Zs 7 Zi (Zs 8 Zi (Zx 6 zax Zz))))))
def zp5 {R:Type}:Lp Kd El R:=lp 5 zu6.sem l0
abbrev zns {R:Type}:Sm R:=semP zh0 za1 (fun a=>qao a.1 a.2.1)
def z9h {R:Type}:Nat→Sm R:=c0
abbrev zuo:=mkld [] [] [1,2,5] [2] [] (Zs 1 Zi (Zp 2 2 (Zs 5 Zi (Zx 2 zaj Zz)))) zll (.xs 0 [] [] [] Zz (.r [4] [] [] (Zs 4 Zi Zz)))
def zpn {R:Type}:Lp Kd El R:=lp 2 zuo.sem l0
abbrev zaib {R:Type}:Sm R:=semP zgu zau (fun a=>qz a.1)
def zaje {R:Type}:Nat→Sm R:=cl 73 zns (cl 88 zsu (cl 94 z6j c0))
abbrev z3u:=mkld [] [] [1,3] [1] [] (Zp 1 1 (Zs 3 Zi (Zx 1 zaj Zz))) zsl (.xs 0 [1] [1] [] (Zp 1 1 (Zx 1 zaj Zz)) (.r [2] [] [] (Zs 2 Zb Zz)))
abbrev zvq:=mkld [] [] [1,8] [1] [] (Zp 1 1 (Zs 8 Zi (Zx 1 zaj Zz))) zjo (.xs 2 [] [] [] Zz (.r [2] [] [] (Zs 2 Zb Zz)))
def znk {R:Type}:Lp Kd El R:=lp 15 zvq.sem (lp 4 z3u.sem l0)
abbrev z7u {R:Type}:Sm R:=semP zze zau (fun a=>qee a.1)
abbrev zaqs {R:Type}:Sm R:=semP zkm za1 (fun a=>qbv a.1 a.2.1)
def z97 {R:Type}:Nat→Sm R:=c0
abbrev zve:=mkld [] [] [0,1,5] [] [] (Zs 0 (Zl .kLoan) (Zs 1 Zi (Zs 5 Zi Zz))) zlw (.xs 0 [] [] [] Zz (.r [4] [] [] (Zs 4 Zi Zz)))
def zqd {R:Type}:Lp Kd El R:=lp 2 zve.sem l0
abbrev z7q {R:Type}:Sm R:=semP zkm zahg (fun a=>qe6 a.1 a.2.1)
abbrev zaia {R:Type}:Sm R:=semP zgu zau (fun a=>qy a.1)
def zajd {R:Type}:Nat→Sm R:=cl 48 znt (cl 73 zns (cl 95 z7u (cl 96 z7q c0)))
abbrev z3t:=mkld [] [] [1,3] [1] [] (Zp 1 1 (Zs 3 Zi (Zx 1 zaj Zz))) zsk (.xs 0 [1] [1] [] (Zp 1 1 (Zx 1 zaj Zz)) (.r [2] [] [] (Zs 2 Zb Zz)))
abbrev zvp:=mkld [] [] [1,8] [1] [] (Zp 1 1 (Zs 8 Zi (Zx 1 zaj Zz))) zl1 (.xs 2 [] [] [] Zz (.r [2] [] [] (Zs 2 Zb Zz)))
def znj {R:Type}:Lp Kd El R:=lp 10 zvp.sem (lp 2 z3t.sem l0)
abbrev z6i {R:Type}:Sm R:=semP zh0 z5b (fun a=>qbk a.1 a.2.1)
def z9y {R:Type}:Nat→Sm R:=c0
abbrev zu5:=mkld [] [] [1,2,4,6] [2,4] [] (Zs 1 Zi (Zp 2 2 (Zp 4 4 (Zs 6 Zi (Zx 2 zaj (Zx 4 zbk Zz)))))) zls (.xs 0 [4] [4] [] (Zp 4 4 (Zx 4 zbk Zz)) (.r [5] [4] [4] (Zp 4 4 (Zs 5 Zb (Zx 4 zbk Zz)))))
def zp4 {R:Type}:Lp Kd El R:=lp 2 zu5.sem l0
abbrev zahx {R:Type}:Sm R:=semP zgu zau (fun a=>q8 a.1)
def zair {R:Type}:Nat→Sm R:=cl 48 znt (cl 73 zns (cl 97 z6i c0))
abbrev z2v:=mkld [] [] [1,3] [1] [] (Zp 1 1 (Zs 3 Zi (Zx 1 zaj Zz))) zse (.xs 0 [1] [1] [] (Zp 1 1 (Zx 1 zaj Zz)) (.r [2] [] [] (Zs 2 Zb Zz)))
abbrev zt4:=mkld [] [] [1,9] [1] [] (Zp 1 1 (Zs 9 Zi (Zx 1 zaj Zz))) zlg (.xs 2 [] [] [] Zz (.r [2] [] [] (Zs 2 Zb Zz)))
def znd {R:Type}:Lp Kd El R:=lp 18 zt4.sem (lp 2 z2v.sem l0)
abbrev zap3 {R:Type}:Sm R:=semP zgu zau (fun a=>qaf a.1)
def z9a {R:Type}:Nat→Sm R:=cl 42 z6m (cl 43 z6k (cl 44 zah3 (cl 45 z6l (cl 46 zah5 (cl 47 z5r (cl 48 znt (cl 49 zaib (cl 50 zaia (cl 51 zahx c0)))))))))
abbrev zuh:=mkld [] [] [1,3] [1] [] (Zp 1 1 (Zs 3 Zi (Zx 1 zaj Zz))) zhd (.xs 0 [1] [1] [] (Zp 1 1 (Zx 1 zaj Zz)) (.r [2] [] [] (Zs 2 Zb Zz)))
abbrev zo5:=mkld [] [] [1,4] [1] [] (Zp 1 1 (Zs 4 Zi (Zx 1 zaj Zz))) zfx (.xs 2 [1] [1] [] (Zp 1 1 (Zx 1 zaj Zz)) (.r [2] [] [] (Zs 2 Zb Zz)))
def zi0 {R:Type}:Lp Kd El R:=lp 11 zo5.sem (lp 6 zuh.sem l0)
abbrev zasj {R:Type}:Sm R:=semP zgu zau (fun a=>qfk a.1)
abbrev z52 {R:Type}:Sm R:=semP zh0 zql (fun a=>qax a.1 a.2.1)
def z9o {R:Type}:Nat→Sm R:=c0
abbrev zuv:=mkld [] [] [1,2,6,7,8] [2] [] (Zs 1 Zi (Zp 2 2 (Zs 6 Zi (Zs 7 Zi (Zs 8 Zi (Zx 2 zaj Zz)))))) zlo (.x 0 [6,7] [] [] (Zs 6 Zi (Zs 7 Zi Zz)))
def zpu {R:Type}:Lp Kd El R:=lp 3 zuv.sem l0
abbrev zasv:ZC (Circ×Item×Int×Int×Unit):=Zc (Cod.agg zaj) (Zc (Cod.agg za0) (Zc Zi (Zc Zi Zn)))
abbrev z5m {R:Type}:Sm R:=semP zasv zau (fun a=>qa6 a.1 a.2.1 a.2.2.1 a.2.2.2.1)
def z83 {R:Type}:Nat→Sm R:=cl 12 z52 c0
abbrev zt9:=mkld [] [] [2,3,4,5,9] [4,5] [] (Zs 2 Zi (Zs 3 Zi (Zp 4 4 (Zp 5 5 (Zs 9 Zi (Zx 4 zaj (Zx 5 za0 Zz))))))) zli (.xs 0 [2,3,4,5] [4,5] [] (Zs 2 Zi (Zs 3 Zi (Zp 4 4 (Zp 5 5 (Zx 4 zaj (Zx 5 za0 Zz)))))) (.r [8] [] [] (Zs 8 Zb Zz)))
def zpe {R:Type}:Lp Kd El R:=lp 4 zt9.sem l0
abbrev z78 {R:Type}:Sm R:=semP zkn zau (fun a=>qez a.1 a.2.1 a.2.2.1)
abbrev zah9 {R:Type}:Sm R:=semP zkn zl2 (fun a=>qx a.1 a.2.1 a.2.2.1)
def zajc {R:Type}:Nat→Sm R:=cl 28 z5m (cl 29 z78 c0)
abbrev zvo:=mkld [(10,10,Kd.ki64)] [200007] [1,2,3,7,8,9,10,11,12] [3] [10] (Zs 1 Zi (Zs 2 Zi (Zp 3 3 (Zs 7 (Zl .ki64) (Zs 8 Zi (Zs 9 Zi (FC.arr 10 10 (Zs 11 Zb (Zs 12 Zi (Zx 3 zaj (FC.own 10 Kd.ki64 false Zz))))))))))) zl0 (.x 2 [1,2,3,8,9,10,11] [3] [10] (Zs 1 Zi (Zs 2 Zi (Zp 3 3 (Zs 8 Zi (Zs 9 Zi (FC.arr 10 10 (Zs 11 Zb (Zx 3 zaj (FC.own 10 Kd.ki64 false Zz))))))))))
abbrev z3s:=mkld [] [200007] [1,2,3,7,8] [3] [] (Zs 1 Zi (Zs 2 Zi (Zp 3 3 (Zs 7 (Zl .ki64) (Zs 8 Zi (Zx 3 zaj Zz)))))) zyq (.x 0 [7] [] [] (Zs 7 (Zl .ki64) Zz))
def zni {R:Type}:Lp Kd El R:=lp 3 z3s.sem (lp 10 zvo.sem l0)
abbrev z6e {R:Type}:Sm R:=semP zh0 za1 (fun a=>qba a.1 a.2.1)
def z9r {R:Type}:Nat→Sm R:=c0
abbrev zuy:=mkld [] [] [1,2,5] [2] [] (Zs 1 Zi (Zp 2 2 (Zs 5 Zi (Zx 2 zaj Zz)))) zlp (.xs 0 [] [] [] Zz (.r [4] [] [] (Zs 4 Zi Zz)))
def zpx {R:Type}:Lp Kd El R:=lp 2 zuy.sem l0
abbrev z6h {R:Type}:Sm R:=semP zh0 za1 (fun a=>qbj a.1 a.2.1)
def z9x {R:Type}:Nat→Sm R:=c0
abbrev zu4:=mkld [] [] [1,2,5,6] [2] [] (Zs 1 Zi (Zp 2 2 (Zs 5 Zi (Zs 6 Zi (Zx 2 zaj Zz))))) zlr (.x 0 [5] [] [] (Zs 5 Zi Zz))
def zp3 {R:Type}:Lp Kd El R:=lp 3 zu4.sem l0
abbrev zapz {R:Type}:Sm R:=semP zte zl2 (fun a=>qab a.1 a.2.1 a.2.2.1 a.2.2.2.1)
def z87 {R:Type}:Nat→Sm R:=cl 14 z6h (cl 17 zah9 (cl 30 z6e c0))
abbrev zue:=mkld [] [] [3,4,9,10,11,12,13,14] [4] [9] (Zs 3 Zi (Zp 4 4 (FC.arr 9 9 (Zs 10 (Zl .ki64) (Zs 11 Zi (Zs 12 Zi (Zs 13 Zi (Zs 14 Zi (Zx 4 zaj (FC.own 9 Kd.ki64 false Zz)))))))))) zjf (.x 2 [3,4,9,10,11,13] [4] [9] (Zs 3 Zi (Zp 4 4 (FC.arr 9 9 (Zs 10 (Zl .ki64) (Zs 11 Zi (Zs 13 Zi (Zx 4 zaj (FC.own 9 Kd.ki64 false Zz)))))))))
abbrev zud:=mkld [(9,9,Kd.ki64)] [] [3,4,9,10,11] [4] [9] (Zs 3 Zi (Zp 4 4 (FC.arr 9 9 (Zs 10 (Zl .ki64) (Zs 11 Zi (Zx 4 zaj (FC.own 9 Kd.ki64 false Zz))))))) zlj (.x 0 [9] [] [9] (FC.arr 9 9 (FC.own 9 Kd.ki64 false Zz)))
def zix {R:Type}:Lp Kd El R:=lp 4 zud.sem (lp 9 zue.sem l0)
abbrev zad2:ZC (Circ×Int×Int×Int×Unit):=zte
abbrev zaxy:ZD (Bool):=zau
def zaf7 (a:Circ×Int×Int×Int×Unit):Option (Bool):=qdi a.1 a.2.1 a.2.2.1 a.2.2.2.1
abbrev zark {R:Type}:Sm R:=semP zad2 zaxy zaf7
end Go.Proofs.YtpaidiaknfhclaaGreatDoor
namespace Go.Proofs.YtpaidiaknfhclaaGreatDoor
set_option maxRecDepth 100000
open Ev
open Go (IntKind)
open Go
theorem zauh:∀k,CCOk (ccK k)
 |.kItem=>zob
 |.kPatron=>zh8
 |.kLoan=>zoc
 |.kHold=>zoa
 |.kCharge=>zh7
 |.kRule=>zof
 |.ki64=>CCOk.one (zai.int _)
 |.kMove=>zoe
 |.kbool=>CCOk.one zai.bool
 |.kWeed_candidate=>zdj
 |.kMapI=>zod
 |.ku8=>CCOk.one (zai.int _)
 |.kUtf8_acceptRange=>zc1
 |.ku16=>CCOk.one (zai.int _)
theorem sgok:SgOk sg:=zasm (cc:=ccK) (fun _=>rfl) (fun _=>rfl) zauh (by intro k x;cases k<;>rfl) (by intro k x;cases k<;>rfl) (by intro k;cases k<;>decide)
theorem eok:∀t,zau7 t=true→EqOk Tryz.prog t:=zaau (by kernel_rfl) (zane)
theorem mok:∀t M,zawf t=some M→MpOk Tryz.prog sg t M:=zac2 (zac3 (kt:=3) (et:=3) (by kernel_rfl) (by kernel_rfl) (by kernel_rfl) (fun _ _=>rfl) (fun _ _=>rfl) (fun _=>rfl)) (zao4)
theorem good:GoodP Tryz.prog sg:=⟨prOk (by kernel_rfl) (by kernel_rfl),sgok,eok,mok⟩
end Go.Proofs.YtpaidiaknfhclaaGreatDoor
namespace Go.Proofs.YtpaidiaknfhclaaGreatDoor.Ev
open Go
section
variable {P:Program} {w:World}
theorem zbc {dT sT ty elem:TypeId} {i0:TypeInfo} {g o dLen dCap sLen sCap z:Nat} {a:Addr} {L cs:List Value} {t:TypeId} (hu:P.underlying dT=some (.slice elem)) (hi:P.info? elem=some i0) (hz:i0.size=z)
 (hg:w.heap[g]?=some (.cells L.toArray t (0,0))) (hn:cs.length=Nat.min sLen dLen*z) (hsrc:∀j v,cs[j]?=some v→w.cell? (a.add j)=some v) (hfit:o+cs.length≤L.length) (h1:∀v∈cs,v.oneCell'=true) :
 (Builtin.copy_ #[dT,sT] ty #[.slice (some ⟨g,o,none⟩) dLen dCap,.slice (some a) sLen sCap]).run P w=.ok (goInt (Nat.min sLen dLen)) (w.setRow g (Go.splice L o cs).toArray):=by
 have hl:=run_firstCells_some (P:=P) w z (Nat.min sLen dLen) a sLen sCap cs hn hsrc
 have hst:=run_storeCells_at P g o t cs 0 L.toArray w hg (by simpa using hfit) h1
 simp only[Nat.add_zero]at hst
 subst hz
 simp[Builtin.copy_,run_underlying hu,Builtin.lenOf,sizeOf,typeInfo,hi,hl,hst,Go.splice]
theorem zj5 {ops:Array Oper} {rest:List Oper} {o:Oper} {a:Act} {Q:Exit→Act→World→Prop} (hgd:o.guard=none) (d s:Operand) (t t':TypeId)
 (ho:o.op=.call {callee:=.builtin .copy,args:=#[d,s],argTypes:=#[t,t']}) (v u:Value) (hd:a.eval d=v) (hs:a.eval s=u) {v':Value} {w':World}
 (hr:(Builtin.copy_ #[t,t'] o.type #[v,u]).run P w=.ok v' w') (h:wpList P ops Q rest (a.put o.dst v') w'):wpList P ops Q (o::rest) a w:=
 wpList_plain hgd fun _ hK=>by
  unfold Oper.wp execOp
  simp only[ho,resolve,invoke,builtin,Sem.run_bind,Sem.run_pure,Result.andThen_ok,List.map_toArray,List.map_cons,List.map_nil,hd,hs,hr]
  exact hK _ _ h
theorem zcw {ops:Array Oper} {o:Oper} {a:Act} {K:Act→World→Prop} {Q:Exit→Act→World→Prop} {E:Prop}
 (hg:o.guard=none) (d x:Operand) (dT sT:TypeId) (hop:o.op=Op.call {callee:=Callee.builtin Builtin.copy,args:=#[d,x],argTypes:=#[dT,sT]})
 (v u:Value) (hd:a.eval d=v) (hx:a.eval x=u) {v':Value} {w':World} (hr:(Builtin.copy_ #[dT,sT] o.type #[v,u]).run P w=.ok v' w') (hK:K (a.put o.dst v') w') :
 if Region.wanted o (yielded ops a.tmps)=true then Oper.wp P o a w K Q else E:=by
 have hw:Region.wanted o (yielded ops a.tmps)=true:=by simp[Region.wanted,hg]
 rw[if_pos hw]
 unfold Oper.wp
 simp[execOp,hop,resolve,invoke,builtin,hd,hx,hr,Result.andThen]
 exact hK
theorem zl8 {ops:Array Oper} {o:Oper} {a:Act} {K:Act→World→Prop} {Q:Exit→Act→World→Prop} {E:Prop}
 (hg:o.guard=none) (d x:Operand) (dT sT:TypeId) (hop:o.op=Op.call {callee:=Callee.builtin Builtin.append,args:=#[d,x],argTypes:=#[dT,sT]})
 (v u:Value) (hd:a.eval d=v) (hx:a.eval x=u) {v':Value} {w':World} (hr:(Builtin.append_ #[dT,sT] o.type #[v,u]).run P w=.ok v' w') (hK:K (a.put o.dst v') w') :
 if Region.wanted o (yielded ops a.tmps)=true then Oper.wp P o a w K Q else E:=by
 have hw:Region.wanted o (yielded ops a.tmps)=true:=by simp[Region.wanted,hg]
 rw[if_pos hw]
 unfold Oper.wp
 simp[execOp,hop,resolve,invoke,builtin,hd,hx,hr,Result.andThen]
 exact hK
theorem zbd {ops:Array Oper} {rest:List Oper} {o:Oper} {a:Act} {Q:Exit→Act→World→Prop} (hgd:o.guard=none) (s x:Operand) (t tn:TypeId)
 (ho:o.op=.call {callee:=.builtin .append,args:=#[s,x],argTypes:=#[t,tn]}) (vs vx:Value) (hs:a.eval s=vs) (hx:a.eval x=vx)
 {v':Value} {w':World} (hr:(Builtin.append_ #[t,tn] o.type #[vs,vx]).run P w=.ok v' w') (h:wpList P ops Q rest (a.put o.dst v') w'):wpList P ops Q (o::rest) a w:=
 Lib.wpList_append_run w hgd s x t tn ho vs vx hs hx v' w' hr h
theorem zjs {t e ty:TypeId} {i0:TypeInfo} {z0:Value} {b o n c:Nat} {L:List Value} {tt:TypeId} (ht:P.underlying t=some (.slice e)) (hi:P.info? e=some i0) (hz:i0.zero=some z0)
 (hn:0<n) (hb:w.heap[b]?=some (.cells L.toArray tt (0,0))) (hfit:o+n*z0.cells.size≤L.length) (h1:∀v∈z0.cells,v.oneCell'=true) :
 (Builtin.clear_ #[t] ty #[.slice (some ⟨b,o,none⟩) n c]).run P w=.ok (.tuple #[]) (w.setRow b (Go.splice L o (Builtin.zeroCells z0.cells n).toList).toArray):=by
 have hl:(Builtin.zeroCells z0.cells n).toList.length=n*z0.cells.size:=by rw[Array.length_toList,Go.size_zeroCells]
 have hst:=run_storeCells_at P b o tt (Builtin.zeroCells z0.cells n).toList 0 L.toArray w hb (by rw[hl];simpa using hfit) (fun v hv=>by
  simp only[Builtin.zeroCells,Array.toList_map,List.mem_map,Array.toList_range,List.mem_range]at hv
  obtain ⟨q,hq,rfl⟩:=hv
  have hp:0<z0.cells.size:=Nat.pos_of_ne_zero (fun h=>by rw[h]at hq;omega)
  rw[getElem!_pos z0.cells _ (Nat.mod_lt _ hp)]
  exact h1 _ (Array.getElem_mem _))
 simp only[Nat.add_zero]at hst
 obtain ⟨m,rfl⟩:∃m,n=m+1:=⟨n-1,by omega⟩
 simp only[List.append_assoc]at hst
 simp[Builtin.clear_,run_underlying ht,sizeOf,typeInfo,zeroValue,hi,hz,hst,Go.splice]
theorem zc9 {tS tR e:TypeId} {i0:TypeInfo} (ht:P.underlying tS=some (.slice e)) (hi:P.info? e=some i0) {a b:Addr} {la ca lb cb:Nat} (hne:a.block≠b.block)
 {va vb:Array Value} {ta tb:TypeId} {fa:Nat×Nat} (ha:w.heap[a.block]?=some (.cells va ta fa)) (ha0:0<va.size) (hb:w.heap[b.block]?=some (.cells vb tb (0,0))) (hb0:0<vb.size) :
 (Extern.SlicesOverlaps.overlaps #[tS,tS] #[tR] #[.slice (some a) la ca,.slice (some b) lb cb]).run P w=.ok (.bool false) w:=by
 have hnb:(a.block != b.block)=true:=by simpa using hne
 have hnb':(a.block==b.block)=false:=by simpa using hne
 have hsa:w.shape? a.block=some (ta,va.size):=by simp[World.shape?,ha]
 have hsb:w.shape? b.block=some (tb,vb.size):=by simp[World.shape?,hb]
 have hfb:w.frozen? b=false:=by simp[World.frozen?,hb]
 have hfb':w.frozen? {block:=b.block,off:=vb.size}=false:=by simp[World.frozen?,hb]
 change Sem.run P (α:=Value) (do
  let some t:=(#[tS,tS]:Array TypeId)[0]?|stuck "slices.overlaps: no parameter types"
  let .slice elem ←underlying t|stuck "slices.overlaps: slice type expected"
  let size ←sizeOf elem
  match (some a:Option Addr),(some b:Option Addr) with
  |some a,some b=>
   if la=0∨lb=0∨size=0 then pure (Value.bool false)
   else if a.block != b.block&&(←frozen a)&&(←frozen b) then unsupported .addressObserved
   else do
    if a.block != b.block then do
     noView a;noView b
     if ←mayBeOne a b then return Value.bool ((←choose (.extern "sameAddr.stringBytes" 2))==1)
    pure (Value.bool (a.block==b.block&&a.off<b.off+lb*size&&b.off<a.off+la*size))
  |_,_=>pure (Value.bool false)) w=_
 have hz:(Go.sizeOf e).run P w=.ok i0.size w:=by simp[sizeOf,typeInfo,hi]
 by_cases h0:la=0∨lb=0∨i0.size=0
 ·simp[run_underlying ht,hz,h0]
 ·obtain ⟨ka,hka⟩:∃k,va.size=k+1:=⟨va.size-1,by omega⟩
  obtain ⟨kb,hkb⟩:∃k,vb.size=k+1:=⟨vb.size-1,by omega⟩
  rw[hka]at hsa
  rw[hkb]at hsb hfb'
  by_cases hfa:w.frozen? a=true
  ·simp[run_underlying ht,hz,h0,hnb,hnb',frozen,noView,viewAt,mayBeOne,stringish,shape,Sem.run,hsa,hsb,hfa,hfb,hfb']
  ·have hfa:w.frozen? a=false:=by simpa using hfa
   by_cases hfe:w.frozen? {block:=a.block,off:=ka+1}=true
   ·simp[run_underlying ht,hz,h0,hnb,hnb',frozen,noView,viewAt,mayBeOne,stringish,shape,Sem.run,hsa,hsb,hfa,hfb,hfb',hfe]
   ·have hfe:w.frozen? {block:=a.block,off:=ka+1}=false:=by simpa using hfe
    simp[run_underlying ht,hz,h0,hnb,hnb',frozen,noView,viewAt,mayBeOne,stringish,shape,Sem.run,hsa,hsb,hfa,hfb,hfb',hfe]
end
end Go.Proofs.YtpaidiaknfhclaaGreatDoor.Ev
