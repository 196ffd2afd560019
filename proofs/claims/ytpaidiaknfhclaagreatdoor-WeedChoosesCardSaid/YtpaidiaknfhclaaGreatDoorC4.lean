/- WeedChooses: a part of the proof of the given statement, which is proved without conditions. -/
import Derived.Test.YtpaidiaknfhclaaGreatDoorC3
import Derived.KernelRfl
import Derived.Test.YtpaidiaknfhclaaGreatDoorProg
import Derived.Shelf.RegionOpenPlain
import Derived.WalkKit
import Derived.Lib.Walk
import Derived.Lib.AppendZerosOnto
import Derived.Lib.AppendZeros
import Derived.Laws.Externs
import Derived.Laws.CopyOwn
import Derived.Deep.RegionLaw
set_option linter.all false
namespace Go.Proofs.YtpaidiaknfhclaaGreatDoor
set_option maxRecDepth 100000
open Ev
open Go (IntKind)
def qaf (today:Int):Option Circ:=
 some (⟨(if 109572<(if today<0 then 0 else today) then 109572 else (if today<0 then 0 else today)),[],[],[],[],[],[],⟨⟨0,[]⟩,⟨0,[]⟩,⟨0,[]⟩,⟨0,[]⟩⟩,[],1,1,false⟩:Circ)
def qd (x:Item) (v:Int):Option Bool:=
 some (x.ID==v)
def z3e {γ0:Type} (p:γ0→Item→Option Bool):((List Item)×γ0×Int×Int×Unit)→Option (((List Item)×γ0×Int×Int×Unit)⊕((Unit)⊕(Int×Unit))):=fun (s,g,v,v1,_)=>
 bif decide (v1<v) then match getI s v1 with|some x =>(match p g x with|some r =>bif r then some (.inr (.inr (v1,()))) else some (.inl (s,g,v,wr .i64 (v1+1),()))|none =>none)|none =>none else some (.inr (.inl (())))
def qa {γ0:Type} (p:γ0→Item→Option Bool) (s:List Item) (g:γ0):Option Int:=
 match zah (z3e p) (s,g,(s.length:Int),0,()) with|some (.inl (_)) =>some (-1)|some (.inr (v,_)) =>some v|none =>none
def qc (c:Circ) (item:Int):Option Int:=
 match qa (fun g x0=>qd x0 g.2.1) c.Items ((),(item,())) with|some r1 =>some r1|none =>none
def qcv (branch:Int):Option Custody:=
 some (⟨1,branch,0,0⟩:Custody)
def qcu (z:Item) (v:Item):Option Bool:=
 some (decide (v.ID<z.ID))
def qci (s:List Item):Option (List Item):=
 bif decide (([]:List Item).length+s.length≤LIM) then some (([])++s) else none
def qba (n:Int) (low:Int) (high:Int):Option Bool:=
 let k (v:Bool):Option Bool:=some v;bif decide (low≤n) then k (decide (n≤high)) else k false
def qdx (x:Item):Option Bool:=
 match qba x.ID 1 9999 with|some r1 =>let k21 (v:Bool):Option Bool:=let k20 (v6:Bool):Option Bool:=let k19 (v9:Bool):Option Bool:=let k18 (v12:Bool):Option Bool:=let k17 (v13:Bool):Option Bool:=let k (v16:Bool):Option Bool:=some v16;bif v13 then match qce x.Call with|some r15 =>k r15|none =>none else k false;bif v12 then k17 (decide ((x.Call.length:Int)≤200)) else k17 false;bif v9 then match qba x.Price 0 100000000 with|some r11 =>k18 r11|none =>none else k18 false;bif v6 then match qba x.Kind 1 9 with|some r8 =>k19 r8|none =>none else k19 false;bif v then match qba x.Branch 1 4 with|some r5 =>k20 r5|none =>none else k20 false;bif r1 then match qba x.Record 1 9999 with|some r3 =>k21 r3|none =>none else k21 false|none =>none
def qbn (n:Int) (least:Int) (most:Int):Option Bool:=
 let k (v:Bool):Option Bool:=some v;bif decide (least≤n) then k (decide (n≤most)) else k false
def qdi (c:Custody):Option Bool:=
 match qbn c.State 1 12 with|some r1 =>(let k23 (v:Bool):Option Bool:=bif v then some false else let k22 (v7:Bool):Option Bool:=let k19 (v18:Bool):Option Bool:=some v18;bif v7 then match qbn c.Who 1 9999 with|some r9 =>bif r9 then k19 (c.To==0) else k19 false|none =>none else bif c.State==6 then match qbn c.Who 0 9999 with|some r12 =>let k (v15:Bool):Option Bool:=bif v15 then k19 (!(c.To==c.Branch)) else k19 false;bif r12 then match qbn c.To 1 4 with|some r14 =>k r14|none =>none else k false|none =>none else let k21 (v20:Bool):Option Bool:=some v20;bif c.Who==0 then k21 (c.To==0) else k21 false;bif c.State==4 then k22 (c.State==4) else bif c.State==5 then k22 (c.State==5) else bif c.State==8 then k22 (c.State==8) else bif c.State==9 then k22 (c.State==9) else k22 (c.State==10);bif !r1 then k23 true else match qbn c.Branch 1 4 with|some r3 =>k23 (!r3)|none =>none)|none =>none
def qcj (state:Int) (kind:Int):Option Bool:=
 match qbn state 1 12 with|some r1 =>let k5 (v:Bool):Option Bool:=let k (v4:Bool):Option Bool:=some v4;bif v then match getI zbv state with|some x =>bif decide (kind<0) then none else k ((wr .u16 (BitVec.ofInt 16 (x.fdiv (2 ^ (min kind.toNat 16))) &&& BitVec.ofInt 16 1).toNat)==1)|none =>none else k false;bif r1 then match qbn kind 1 15 with|some r3 =>k5 r3|none =>none else k5 false|none =>none
def qb5 (c:Custody) (ok:Bool):Option (Custody×Int):=
 bif !ok then some ((⟨0,0,0,0⟩:Custody),1) else some (c,0)
def qc9 (c:Custody) (m:Move):Option (Custody×Int):=
 match qb5 (⟨6,c.Branch,m.Who,m.Branch⟩:Custody) (!(m.Branch==c.Branch)) with|some (r1,r2) =>some (r1,r2)|none =>none
def qdy (c:Custody) (m:Move):Option (Custody×Int):=
 match qdi c with|some r1 =>(let k95 (v:Bool):Option (Custody×Int):=let k94 (v6:Bool):Option (Custody×Int):=let k93 (v9:Bool):Option (Custody×Int):=let k92 (v12:Bool):Option (Custody×Int):=let k91 (v15:Bool):Option (Custody×Int):=bif v15 then some ((⟨0,0,0,0⟩:Custody),1) else match qcj c.State m.Kind with|some r17 =>bif !r17 then some ((⟨0,0,0,0⟩:Custody),12) else let k90 (v18:Bool):Option (Custody×Int):=let k89 (v19:Bool):Option (Custody×Int):=bif v19 then some ((⟨0,0,0,0⟩:Custody),16) else let k88 (v22:Bool):Option (Custody×Int):=let k84 (state79:Int) (ok80:Bool):Option (Custody×Int):=match qb5 (⟨state79,m.Branch,m.Who,0⟩:Custody) ok80 with|some (r82,r83) =>some (r82,r83)|none =>none;let k87 (v85:Int) (v86:Custody):Option (Custody×Int):=some (v86,v85);bif v22 then k84 2 (m.Who==0) else bif m.Kind==7 then bif m.Who==0 then k84 2 (m.Branch==c.To) else k84 2 false else bif m.Kind==6 then match qc9 c m with|some (r25,r26) =>k87 r26 r25|none =>none else bif m.Kind==3 then bif m.Branch==c.Branch then k84 4 (!(m.Who==0)) else k84 4 false else bif m.Kind==5 then bif m.Branch==c.Branch then k84 5 (!(m.Who==0)) else k84 5 false else bif m.Kind==10 then bif m.Branch==c.Branch then k84 8 (!(m.Who==0)) else k84 8 false else bif m.Kind==2 then bif m.Branch==c.Branch then k84 3 (m.Who==0) else k84 3 false else bif m.Kind==8 then bif m.Branch==c.Branch then k84 7 (m.Who==0) else k84 7 false else bif m.Kind==11 then let k (v32:Bool):Option (Custody×Int):=match qb5 (⟨9,c.Branch,c.Who,0⟩:Custody) v32 with|some (r34,r35) =>k87 r35 r34|none =>none;bif m.Branch==c.Branch then k (m.Who==0) else k false else bif m.Kind==12 then let k40 (v36:Bool):Option (Custody×Int):=match qb5 (⟨10,c.Branch,c.Who,0⟩:Custody) v36 with|some (r38,r39) =>k87 r39 r38|none =>none;bif m.Branch==c.Branch then k40 (m.Who==0) else k40 false else bif m.Kind==13 then bif m.Branch==c.Branch then k84 11 (m.Who==0) else k84 11 false else bif m.Kind==15 then bif m.Branch==c.Branch then k84 12 (m.Who==0) else k84 12 false else k84 0 false;bif m.Kind==1 then k88 (m.Kind==1) else bif m.Kind==4 then k88 (m.Kind==4) else bif m.Kind==9 then k88 (m.Kind==9) else k88 (m.Kind==14);bif v18 then k89 (!(m.Who==c.Who)) else k89 false;bif m.Kind==3 then k90 (c.State==5) else k90 false|none =>none;bif v12 then k91 true else match qbn m.Who 0 9999 with|some r14 =>k91 (!r14)|none =>none;bif v9 then k92 true else match qbn m.Branch 1 4 with|some r11 =>k92 (!r11)|none =>none;bif v6 then k93 true else match qbn m.Kind 1 15 with|some r8 =>k93 (!r8)|none =>none;bif v then k94 true else match qbn m.Item 1 9999 with|some r5 =>k94 (!r5)|none =>none;bif !r1 then k95 true else match qbn m.Day 0 109572 with|some r3 =>k95 (!r3)|none =>none)|none =>none
def zaew:(Int×(List Move)×Int×Int×Custody×Custody×Unit)→Option ((Int×(List Move)×Int×Int×Custody×Custody×Unit)⊕((Custody×Custody×Unit)⊕(Int×Int×Custody×Unit))):=fun (item,v,v4,v5,v6,c,_)=>
 bif decide (v5<v4) then match getI v v5 with|some x =>(bif !(x.Item==item) then some (.inl (item,v,v4,wr .i64 (v5+1),v6,c,())) else match qdy c x with|some (r7,r8) =>bif !(r8==0) then some (.inr (.inr (v5,r8,(⟨0,0,0,0⟩:Custody),()))) else some (.inl (item,v,v4,wr .i64 (v5+1),v6,r7,()))|none =>none)|none =>none else some (.inr (.inl (v6,c,())))
def qal (branch:Int) (l:List Move) (item:Int):Option (Custody×Int×Int):=
 match qbn branch 1 4 with|some r1 =>(bif !r1 then some ((⟨0,0,0,0⟩:Custody),(-1),1) else match qcv branch with|some r3 =>(match zah zaew (item,l,(l.length:Int),0,(⟨0,0,0,0⟩:Custody),r3,()) with|some (.inl (v,c,_)) =>some (c,(-1),0)|some (.inr (v9,v10,v11,_)) =>some (v11,v9,v10)|none =>none)|none =>none)|none =>none
def zau1:((List Item)×Int×Int×Circ×Unit)→Option (((List Item)×Int×Int×Circ×Unit)⊕((Circ×Unit)⊕(Bool×Unit))):=fun (v,v1,v2,c,_)=>
 bif decide (v2<v1) then match getI v v2 with|some x =>(match qdx x with|some r3 =>let k (v6:Bool):Option (((List Item)×Int×Int×Circ×Unit)⊕((Circ×Unit)⊕(Bool×Unit))):=bif v6 then some (.inr (.inr (false,()))) else some (.inl (v,v1,wr .i64 (v2+1),c,()));bif !r3 then k true else bif decide (0<v2) then match getI c.Items (wr .i64 (v2-1)) with|some x4 =>k (decide (x.ID≤x4.ID))|none =>none else k false|none =>none)|none =>none else some (.inr (.inl (c,())))
def zafg:((List Move)×Int×Int×Circ×Unit)→Option (((List Move)×Int×Int×Circ×Unit)⊕((Circ×Unit)⊕(Bool×Unit))):=fun (v,v8,v9,c,_)=>
 bif decide (v9<v8) then match getI v v9 with|some x =>(match qc c x.Item with|some r10 =>bif decide (r10<0) then some (.inr (.inr (false,()))) else some (.inl (v,v8,wr .i64 (v9+1),c,()))|none =>none)|none =>none else some (.inr (.inl (c,())))
def zafh:((List Item)×Int×Int×Circ×Unit)→Option (((List Item)×Int×Int×Circ×Unit)⊕((Unit)⊕(Bool×Unit))):=fun (v,v12,v13,c,_)=>
 bif decide (v13<v12) then match getI v v13 with|some x =>(match qal x.Branch c.Moves x.ID with|some (r14,r15,r16) =>let k (v17:Bool):Option (((List Item)×Int×Int×Circ×Unit)⊕((Unit)⊕(Bool×Unit))):=bif v17 then some (.inr (.inr (false,()))) else some (.inl (v,v12,wr .i64 (v13+1),c,()));bif !(r16==0) then k true else k (!(zck r14 x.Custody))|none =>none)|none =>none else some (.inr (.inl (())))
def qf (c:Circ):Option Bool:=
 let k (v:Bool):Option Bool:=bif v then some false else match zah zau1 (c.Items,(c.Items.length:Int),0,c,()) with|some (.inl (c7,_)) =>(match zah zafg (c7.Moves,(c7.Moves.length:Int),0,c7,()) with|some (.inl (c11,_)) =>(match zah zafh (c11.Items,(c11.Items.length:Int),0,c11,()) with|some (.inl (_)) =>some true|some (.inr (v18,_)) =>some v18|none =>none)|some (.inr (v19,_)) =>some v19|none =>none)|some (.inr (v20,_)) =>some v20|none =>none;bif decide (64<(c.Items.length:Int)) then k true else k (decide (2000<(c.Moves.length:Int)))
def qbz (p:Patron):Option Int:=
 let k17 (v:Bool):Option Int:=let k16 (v1:Bool):Option Int:=let k15 (v2:Bool):Option Int:=let k14 (v13:Int):Option Int:=some v13;bif v2 then k14 1 else let k12 (v3:Bool):Option Int:=bif v3 then k14 2 else let k10 (v5:Bool):Option Int:=let k (v8:Bool):Option Int:=bif v8 then k14 3 else bif decide (200<(p.Name.length:Int)) then k14 4 else some 0;bif v5 then k true else match qdm p.Name with|some r7 =>k (!(r7==p.Name))|none =>none;bif p.Name==([]) then k10 true else match qce p.Name with|some r4 =>k10 (!r4)|none =>none;bif decide (p.Until<0) then k12 true else k12 (decide (109572<p.Until));bif v1 then k15 true else k15 (decide (4<p.Branch));bif v then k16 true else k16 (decide (p.Branch<1));bif decide (p.Kind<1) then k17 true else k17 (decide (9<p.Kind))
def zaeu:(Int×(List Patron)×Int×Int×Unit)→Option ((Int×(List Patron)×Int×Int×Unit)⊕((Unit)⊕(Int×Unit))):=fun (last,v,v1,v2,_)=>
 bif decide (v2<v1) then match getI v v2 with|some x =>let k6 (v3:Bool):Option ((Int×(List Patron)×Int×Int×Unit)⊕((Unit)⊕(Int×Unit))):=let k (v4:Int):Option ((Int×(List Patron)×Int×Int×Unit)⊕((Unit)⊕(Int×Unit))):=some (.inr (.inr (v4,())));bif v3 then k 2 else bif decide (x.ID≤last) then k 7 else match qbz x with|some r5 =>bif !(r5==0) then some (.inr (.inr (r5,()))) else some (.inl (x.ID,v,v1,wr .i64 (v2+1),()))|none =>none;bif decide (x.ID<1) then k6 true else k6 (decide (9999<x.ID))|none =>none else some (.inr (.inl (())))
def qai (l:List Patron):Option Int:=
 bif decide (32<(l.length:Int)) then some 13 else match zah zaeu (0,l,(l.length:Int),0,()) with|some (.inl (_)) =>some 0|some (.inr (v,_)) =>some v|none =>none
def qeo (n:Int):Option Bool:=
 let k (v:Bool):Option Bool:=some v;bif decide (1≤n) then k (decide (n≤9999)) else k false
def qek (n:Int):Option Bool:=
 let k (v:Bool):Option Bool:=some v;bif decide (0≤n) then k (decide (n≤109572)) else k false
def zaev:((List Loan)×(List Loan)×Int×Int×Unit)→Option (((List Loan)×(List Loan)×Int×Int×Unit)⊕((Unit)⊕(Int×Unit))):=fun (l,v,v1,v2,_)=>
 bif decide (v2<v1) then match getI v v2 with|some x =>let k25 (v4:Bool):Option (((List Loan)×(List Loan)×Int×Int×Unit)⊕((Unit)⊕(Int×Unit))):=let k24 (v23:Int):Option (((List Loan)×(List Loan)×Int×Int×Unit)⊕((Unit)⊕(Int×Unit))):=some (.inr (.inr (v23,())));bif v4 then k24 7 else match qeo x.Item with|some r5 =>(let k22 (v8:Bool):Option (((List Loan)×(List Loan)×Int×Int×Unit)⊕((Unit)⊕(Int×Unit))):=let k21 (v11:Bool):Option (((List Loan)×(List Loan)×Int×Int×Unit)⊕((Unit)⊕(Int×Unit))):=let k20 (v14:Bool):Option (((List Loan)×(List Loan)×Int×Int×Unit)⊕((Unit)⊕(Int×Unit))):=let k19 (v15:Bool):Option (((List Loan)×(List Loan)×Int×Int×Unit)⊕((Unit)⊕(Int×Unit))):=let k18 (v16:Bool):Option (((List Loan)×(List Loan)×Int×Int×Unit)⊕((Unit)⊕(Int×Unit))):=let k (v17:Bool):Option (((List Loan)×(List Loan)×Int×Int×Unit)⊕((Unit)⊕(Int×Unit))):=bif v17 then k24 2 else some (.inl (l,v,v1,wr .i64 (v2+1),()));bif v16 then k true else k (decide (10<x.Renewals));bif v15 then k18 true else k18 (decide (x.Renewals<0));bif v14 then k19 true else k19 (decide (x.Due<x.Out));bif v11 then k20 true else match qek x.Due with|some r13 =>k20 (!r13)|none =>none;bif v8 then k21 true else match qek x.Out with|some r10 =>k21 (!r10)|none =>none;bif !r5 then k22 true else match qeo x.Patron with|some r7 =>k22 (!r7)|none =>none)|none =>none;bif decide (0<v2) then match getI l (wr .i64 (v2-1)) with|some x3 =>k25 (decide (x.Item≤x3.Item))|none =>none else k25 false|none =>none else some (.inr (.inl (())))
def qak (l:List Loan):Option Int:=
 bif decide (64<(l.length:Int)) then some 13 else match zah zaev (l,l,(l.length:Int),0,()) with|some (.inl (_)) =>some 0|some (.inr (v,_)) =>some v|none =>none
def qb3 (n:Int) (low:Int) (high:Int):Option Bool:=
 let k (v:Bool):Option Bool:=some v;bif decide (low≤n) then k (decide (n≤high)) else k false
def qeh (n:Int):Option Bool:=
 match qb3 n 0 109572 with|some r1 =>some r1|none =>none
def qdn (h:Hold):Option Int:=
 match qb3 h.ID 1 99999 with|some r1 =>(let k41 (v:Bool):Option Int:=let k40 (v6:Bool):Option Int:=let k39 (v9:Bool):Option Int:=let k38 (v37:Int):Option Int:=some v37;bif v9 then k38 2 else match qb3 h.Pickup 1 4 with|some r11 =>(let k36 (v14:Bool):Option Int:=let k35 (v17:Bool):Option Int:=let k34 (v20:Bool):Option Int:=let k33 (v23:Bool):Option Int:=let k32 (v26:Bool):Option Int:=bif v26 then k38 2 else match qb3 h.State 1 3 with|some r28 =>bif !r28 then k38 1 else let k (v29:Bool):Option Int:=bif v29 then k38 12 else some 0;bif !((decide (0<h.Got))==(!(h.State==1))) then k true else k (!((decide (0<h.Until))==(h.State==3)))|none =>none;bif v23 then k32 true else match qb3 h.Rank 0 9 with|some r25 =>k32 (!r25)|none =>none;bif v20 then k33 true else match qeh h.Asleep with|some r22 =>k33 (!r22)|none =>none;bif v17 then k34 true else match qeh h.Until with|some r19 =>k34 (!r19)|none =>none;bif v14 then k35 true else match qb3 h.Got 0 9999 with|some r16 =>k35 (!r16)|none =>none;bif !r11 then k36 true else match qeh h.Placed with|some r13 =>k36 (!r13)|none =>none)|none =>none;bif v6 then k39 true else match qb3 h.Item 0 9999 with|some r8 =>k39 (!r8)|none =>none;bif v then k40 true else match qb3 h.Record 1 9999 with|some r5 =>k40 (!r5)|none =>none;bif !r1 then k41 true else match qb3 h.Patron 1 9999 with|some r3 =>k41 (!r3)|none =>none)|none =>none
def qcd (a:Hold) (b:Hold):Option Bool:=
 let k (v:Bool):Option Bool:=some v;bif a.Patron==b.Patron then k (a.Record==b.Record) else k false
def zanh {γ0:Type} (p:γ0→Hold→Hold→Option Bool):((List Hold)×γ0×Int×Int×Int×Int×Int×Unit)→Option (((List Hold)×γ0×Int×Int×Int×Int×Int×Unit)⊕(((List Hold)×γ0×Int×Int×Unit)⊕(Bool×Unit))):=fun (l,g,i,v,v2,v3,v4,_)=>
 bif decide (v4<v3) then match getI l v4 with|some x =>(match getI l i with|some x5 =>(match p g x x5 with|some r =>bif r then some (.inr (.inr (true,()))) else some (.inl (l,g,i,v,v2,v3,wr .i64 (v4+1),()))|none =>none)|none =>none)|none =>none else some (.inr (.inl (l,g,v,v2,())))
def zang {γ0:Type} (p:γ0→Hold→Hold→Option Bool):((List Hold)×γ0×Int×Int×Unit)→Option (((List Hold)×γ0×Int×Int×Unit)⊕((Unit)⊕(Bool×Unit))):=fun (l,g,v,v1,_)=>
 bif decide (v1<v) then match zah (zanh p) (l,g,v1,v,v1,v1,0,()) with|some (.inl (l6,g7,v8,v9,_)) =>some (.inl (l6,g7,v8,wr .i64 (v9+1),()))|some (.inr (v10,_)) =>some (.inr (.inr (v10,())))|none =>none else some (.inr (.inl (())))
def qe {γ0:Type} (p:γ0→Hold→Hold→Option Bool) (l:List Hold) (g:γ0):Option Bool:=
 match zah (zang p) (l,g,(l.length:Int),0,()) with|some (.inl (_)) =>some false|some (.inr (v,_)) =>some v|none =>none
def qdk (a:Hold) (b:Hold):Option Bool:=
 let k (v:Bool):Option Bool:=some v;bif a.Got==b.Got then k (decide (0<a.Got)) else k false
def zau8:((List Hold)×(List Hold)×Int×Int×Unit)→Option (((List Hold)×(List Hold)×Int×Int×Unit)⊕(((List Hold)×Unit)⊕(Int×Unit))):=fun (l,v,v1,v2,_)=>
 bif decide (v2<v1) then match getI v v2 with|some x =>let k (v4:Bool):Option (((List Hold)×(List Hold)×Int×Int×Unit)⊕(((List Hold)×Unit)⊕(Int×Unit))):=bif v4 then some (.inr (.inr (7,()))) else match qdn x with|some r5 =>bif !(r5==0) then some (.inr (.inr (r5,()))) else some (.inl (l,v,v1,wr .i64 (v2+1),()))|none =>none;bif decide (0<v2) then match getI l (wr .i64 (v2-1)) with|some x3 =>k (decide (x.ID≤x3.ID))|none =>none else k false|none =>none else some (.inr (.inl (l,())))
def qh (l:List Hold):Option Int:=
 bif decide (64<(l.length:Int)) then some 13 else match zah zau8 (l,l,(l.length:Int),0,()) with|some (.inl (l6,_)) =>(match qe (fun g x0 x1=>qcd x0 x1) l6 ((),()) with|some r7 =>(bif r7 then some 7 else match qe (fun g x0 x1=>qdk x0 x1) l6 ((),()) with|some r9 =>bif r9 then some 7 else some 0|none =>none)|none =>none)|some (.inr (v,_)) =>some v|none =>none
def qeu (n:Int):Option Bool:=
 let k (v:Bool):Option Bool:=some v;bif decide (1≤n) then k (decide (n≤9999)) else k false
def qd3 (n:Int):Option Bool:=
 let k (v:Bool):Option Bool:=some v;bif decide (0≤n) then k (decide (n≤109572)) else k false
def qb6 (x:Charge):Option Int:=
 let k22 (v:Bool):Option Int:=let k21 (v2:Bool):Option Int:=let k20 (v5:Bool):Option Int:=let k19 (v8:Bool):Option Int:=let k18 (v17:Int):Option Int:=some v17;bif v8 then k18 2 else let k16 (v9:Bool):Option Int:=bif v9 then k18 1 else let k14 (v10:Bool):Option Int:=let k13 (v11:Bool):Option Int:=let k (v12:Bool):Option Int:=bif v12 then k18 2 else some 0;bif v11 then k true else k (decide (x.Amount≤x.Paid));bif v10 then k13 true else k13 (decide (x.Paid<0));bif decide (x.Amount<1) then k14 true else k14 (decide (100000000<x.Amount));bif decide (x.Kind<1) then k16 true else k16 (decide (3<x.Kind));bif v5 then k19 true else match qd3 x.Day with|some r7 =>k19 (!r7)|none =>none;bif v2 then k20 true else match qeu x.Item with|some r4 =>k20 (!r4)|none =>none;bif v then k21 true else match qeu x.Patron with|some r1 =>k21 (!r1)|none =>none;bif decide (x.ID<1) then k22 true else k22 (decide (99999<x.ID))
def zaex:((List Charge)×(List Charge)×Int×Int×Unit)→Option (((List Charge)×(List Charge)×Int×Int×Unit)⊕((Unit)⊕(Int×Unit))):=fun (l,v,v1,v2,_)=>
 bif decide (v2<v1) then match getI v v2 with|some x =>let k (v4:Bool):Option (((List Charge)×(List Charge)×Int×Int×Unit)⊕((Unit)⊕(Int×Unit))):=bif v4 then some (.inr (.inr (7,()))) else match qb6 x with|some r5 =>bif !(r5==0) then some (.inr (.inr (r5,()))) else some (.inl (l,v,v1,wr .i64 (v2+1),()))|none =>none;bif decide (0<v2) then match getI l (wr .i64 (v2-1)) with|some x3 =>k (decide (x.ID≤x3.ID))|none =>none else k false|none =>none else some (.inr (.inl (())))
def qao (l:List Charge):Option Int:=
 bif decide (128<(l.length:Int)) then some 13 else match zah zaex (l,l,(l.length:Int),0,()) with|some (.inl (_)) =>some 0|some (.inr (v,_)) =>some v|none =>none
def qbu (n:Int) (least:Int) (most:Int):Option Bool:=
 let k (v:Bool):Option Bool:=some v;bif decide (least≤n) then k (decide (n≤most)) else k false
def qc4 (r:Rule):Option Bool:=
 match qbu r.Patron 0 9 with|some r2 =>let k48 (v:Bool):Option Bool:=let k47 (v7:Bool):Option Bool:=let k46 (v10:Bool):Option Bool:=let k45 (v13:Bool):Option Bool:=let k44 (v16:Bool):Option Bool:=let k43 (v19:Bool):Option Bool:=let k42 (v22:Bool):Option Bool:=let k41 (v25:Bool):Option Bool:=let k40 (v28:Bool):Option Bool:=let k39 (v31:Bool):Option Bool:=let k38 (v34:Bool):Option Bool:=let k (v37:Bool):Option Bool:=some v37;bif v34 then match qbu r.Rank 0 9 with|some r36 =>k r36|none =>none else k false;bif v31 then match qbu r.Fixed 0 109572 with|some r33 =>k38 r33|none =>none else k38 false;bif v28 then match qbu r.Recall 1 60 with|some r30 =>k39 r30|none =>none else k39 false;bif v25 then match qbu r.Shelf 1 60 with|some r27 =>k40 r27|none =>none else k40 false;bif v22 then match qbu r.Loans 0 99 with|some r24 =>k41 r24|none =>none else k41 false;bif v19 then match qbu r.MaxFine 0 100000000 with|some r21 =>k42 r21|none =>none else k42 false;bif v16 then match qbu r.Grace 0 30 with|some r18 =>k43 r18|none =>none else k43 false;bif v13 then match qbu r.Fine 0 1000 with|some r15 =>k44 r15|none =>none else k44 false;bif v10 then match qbu r.Renewals 0 10 with|some r12 =>k45 r12|none =>none else k45 false;bif v7 then match qbu r.Days 0 365 with|some r9 =>k46 r9|none =>none else k46 false;bif v then match qbu r.Branch 0 4 with|some r6 =>k47 r6|none =>none else k47 false;bif r2 then match qbu r.Item 0 9 with|some r4 =>k48 r4|none =>none else k48 false|none =>none
def qck (o:Rule) (v:Rule):Option Bool:=
 let k3 (v1:Bool):Option Bool:=let k (v2:Bool):Option Bool:=some v2;bif v1 then k (o.Branch==v.Branch) else k false;bif o.Patron==v.Patron then k3 (o.Item==v.Item) else k3 false
def zae4 {γ0:Type} (p:γ0→Rule→Option Bool):((List Rule)×γ0×Int×Int×Unit)→Option (((List Rule)×γ0×Int×Int×Unit)⊕((Unit)⊕(Int×Unit))):=fun (s,g,v,v1,_)=>
 bif decide (v1<v) then match getI s v1 with|some x =>(match p g x with|some r =>bif r then some (.inr (.inr (v1,()))) else some (.inl (s,g,v,wr .i64 (v1+1),()))|none =>none)|none =>none else some (.inr (.inl (())))
def qay {γ0:Type} (p:γ0→Rule→Option Bool) (s:List Rule) (g:γ0):Option Int:=
 match zah (zae4 p) (s,g,(s.length:Int),0,()) with|some (.inl (_)) =>some (-1)|some (.inr (v,_)) =>some v|none =>none
def qep {γ0:Type} (p:γ0→Rule→Option Bool) (s:List Rule) (g:γ0):Option Bool:=
 match qay p s g with|some r1 =>some (decide (0≤r1))|none =>none
def zavj:((List Rule)×(List Rule)×Int×Int×Unit)→Option (((List Rule)×(List Rule)×Int×Int×Unit)⊕((Unit)⊕(Int×Unit))):=fun (l,v,v1,v2,_)=>
 bif decide (v2<v1) then match getI v v2 with|some x =>(match qc4 x with|some r3 =>bif !r3 then some (.inr (.inr (2,()))) else bif decide (0≤(0:Int))&&(decide ((0:Int)≤v2)&&decide (v2≤(l.length:Int))) then match qep (fun g x0=>qck x0 g.2.1) ((l.take v2.toNat).drop (0:Int).toNat) ((),(x,())) with|some r5 =>bif r5 then some (.inr (.inr (7,()))) else some (.inl (l,v,v1,wr .i64 (v2+1),()))|none =>none else none|none =>none)|none =>none else some (.inr (.inl (())))
def qv (l:List Rule):Option Int:=
 bif decide (32<(l.length:Int)) then some 13 else match zah zavj (l,l,(l.length:Int),0,()) with|some (.inl (_)) =>some 0|some (.inr (v,_)) =>some v|none =>none
def qc3 (d:Int):Option Bool:=
 let k (v:Bool):Option Bool:=some v;bif decide (0≤d) then k (decide (d≤109572)) else k false
def qc0 (d:Int):Option Bool:=
 match qc3 d with|some r1 =>some (!r1)|none =>none
def zae5 {γ0:Type} (p:γ0→Int→Option Bool):((List Int)×γ0×Int×Int×Unit)→Option (((List Int)×γ0×Int×Int×Unit)⊕((Unit)⊕(Int×Unit))):=fun (s,g,v,v1,_)=>
 bif decide (v1<v) then match getI s v1 with|some x =>(match p g x with|some r =>bif r then some (.inr (.inr (v1,()))) else some (.inl (s,g,v,wr .i64 (v1+1),()))|none =>none)|none =>none else some (.inr (.inl (())))
def qaz {γ0:Type} (p:γ0→Int→Option Bool) (s:List Int) (g:γ0):Option Int:=
 match zah (zae5 p) (s,g,(s.length:Int),0,()) with|some (.inl (_)) =>some (-1)|some (.inr (v,_)) =>some v|none =>none
def qeq {γ0:Type} (p:γ0→Int→Option Bool) (s:List Int) (g:γ0):Option Bool:=
 match qaz p s g with|some r1 =>some (decide (0≤r1))|none =>none
def zavi:((List Int)×Int×Int×Calendar×Unit)→Option (((List Int)×Int×Int×Calendar×Unit)⊕((Unit)⊕(Int×Unit))):=fun (v,v4,v5,c,_)=>
 bif decide (v5<v4) then match getI v v5 with|some x =>let k (v7:Bool):Option (((List Int)×Int×Int×Calendar×Unit)⊕((Unit)⊕(Int×Unit))):=bif v7 then some (.inr (.inr (7,()))) else some (.inl (v,v4,wr .i64 (v5+1),c,()));bif decide (0<v5) then match getI c.Closed (wr .i64 (v5-1)) with|some x6 =>k (decide (x≤x6))|none =>none else k false|none =>none else some (.inr (.inl (())))
def qt (c:Calendar):Option Int:=
 let k9 (v:Bool):Option Int:=let k (v3:Int):Option Int:=some v3;bif v then k 1 else bif decide (64<(c.Closed.length:Int)) then k 13 else match qeq (fun g x0=>qc0 x0) c.Closed ((),()) with|some r1 =>(bif r1 then k 2 else match zah zavi (c.Closed,(c.Closed.length:Int),0,c,()) with|some (.inl (_)) =>some 0|some (.inr (v8,_)) =>some v8|none =>none)|none =>none;bif decide (c.Week<0) then k9 true else k9 (decide (127≤c.Week))
def zavh:((V4 Calendar)×Int×Circ×Unit)→Option (((V4 Calendar)×Int×Circ×Unit)⊕((Circ×Unit)⊕(Bool×Unit))):=fun (v,v13,c,_)=>
 bif decide (v13<4) then let k (v14:Int) (v15:List Int):Option (((V4 Calendar)×Int×Circ×Unit)⊕((Circ×Unit)⊕(Bool×Unit))):=match qt (⟨v14,v15⟩:Calendar) with|some r16 =>bif !(r16==0) then some (.inr (.inr (false,()))) else some (.inl (v,wr .i64 (v13+1),c,()))|none =>none;bif v13==0 then k v.x0.Week v.x0.Closed else bif v13==1 then k v.x1.Week v.x1.Closed else bif v13==2 then k v.x2.Week v.x2.Closed else bif v13==3 then k v.x3.Week v.x3.Closed else none else some (.inr (.inl (c,())))
def zafj:((List Hold)×Int×Int×Circ×Unit)→Option (((List Hold)×Int×Int×Circ×Unit)⊕((Circ×Unit)⊕(Bool×Unit))):=fun (v,v23,v24,c,_)=>
 bif decide (v24<v23) then match getI v v24 with|some x =>bif decide (c.NextHold≤x.ID) then some (.inr (.inr (false,()))) else some (.inl (v,v23,wr .i64 (v24+1),c,()))|none =>none else some (.inr (.inl (c,())))
def zafk:((List Charge)×Int×Int×Circ×Unit)→Option (((List Charge)×Int×Int×Circ×Unit)⊕((Unit)⊕(Bool×Unit))):=fun (v,v26,v27,c,_)=>
 bif decide (v27<v26) then match getI v v27 with|some x =>bif decide (c.NextCharge≤x.ID) then some (.inr (.inr (false,()))) else some (.inl (v,v26,wr .i64 (v27+1),c,()))|none =>none else some (.inr (.inl (())))
def qq (c:Circ):Option Bool:=
 match qai c.Patrons with|some r1 =>(let k34 (v:Bool):Option Bool:=let k33 (v6:Bool):Option Bool:=let k32 (v9:Bool):Option Bool:=let k31 (v12:Bool):Option Bool:=bif v12 then some false else match zah zavh (c.Cals,0,c,()) with|some (.inl (c17,_)) =>(match qba c17.NextHold 1 100000 with|some r19 =>(let k (v22:Bool):Option Bool:=bif v22 then some false else match zah zafj (c17.Holds,(c17.Holds.length:Int),0,c17,()) with|some (.inl (c25,_)) =>(match zah zafk (c25.Charges,(c25.Charges.length:Int),0,c25,()) with|some (.inl (_)) =>some true|some (.inr (v28,_)) =>some v28|none =>none)|some (.inr (v29,_)) =>some v29|none =>none;bif !r19 then k true else match qba c17.NextCharge 1 100000 with|some r21 =>k (!r21)|none =>none)|none =>none)|some (.inr (v30,_)) =>some v30|none =>none;bif v9 then k31 true else match qv c.Rules with|some r11 =>k31 (!(r11==0))|none =>none;bif v6 then k32 true else match qao c.Charges with|some r8 =>k32 (!(r8==0))|none =>none;bif v then k33 true else match qh c.Holds with|some r5 =>k33 (!(r5==0))|none =>none;bif !(r1==0) then k34 true else match qak c.Loans with|some r3 =>k34 (!(r3==0))|none =>none)|none =>none
def qc2 (p:Patron) (v:Int):Option Bool:=
 some (p.ID==v)
def zanj {γ0:Type} (p:γ0→Patron→Option Bool):((List Patron)×γ0×Int×Int×Unit)→Option (((List Patron)×γ0×Int×Int×Unit)⊕((Unit)⊕(Int×Unit))):=fun (s,g,v,v1,_)=>
 bif decide (v1<v) then match getI s v1 with|some x =>(match p g x with|some r =>bif r then some (.inr (.inr (v1,()))) else some (.inl (s,g,v,wr .i64 (v1+1),()))|none =>none)|none =>none else some (.inr (.inl (())))
def qm {γ0:Type} (p:γ0→Patron→Option Bool) (s:List Patron) (g:γ0):Option Int:=
 match zah (zanj p) (s,g,(s.length:Int),0,()) with|some (.inl (_)) =>some (-1)|some (.inr (v,_)) =>some v|none =>none
def qa2 (l:List Patron) (vid:Int):Option Int:=
 match qm (fun g x0=>qc2 x0 g.2.1) l ((),(vid,())) with|some r1 =>some r1|none =>none
def qcn (l:List Patron) (vid:Int):Option (Patron×Bool):=
 match qa2 l vid with|some r1 =>(bif decide (r1<0) then some ((⟨0,0,0,0,false,[]⟩:Patron),false) else match getI l r1 with|some x =>some (x,true)|none =>none)|none =>none
def qb7 (vid:Int) (v:Circ):Option Bool:=
 match qcn v.Patrons vid with|some (r1,r2) =>some r2|none =>none
def zau6:((List Loan)×Int×Int×Circ×Unit)→Option (((List Loan)×Int×Int×Circ×Unit)⊕((Circ×Unit)⊕(Bool×Unit))):=fun (v,v1,v2,c,_)=>
 bif decide (v2<v1) then match getI v v2 with|some x =>(match qb7 x.Patron c with|some r3 =>(let k (v6:Bool):Option (((List Loan)×Int×Int×Circ×Unit)⊕((Circ×Unit)⊕(Bool×Unit))):=bif v6 then some (.inr (.inr (false,()))) else some (.inl (v,v1,wr .i64 (v2+1),c,()));bif !r3 then k true else match qc c x.Item with|some r5 =>k (decide (r5<0))|none =>none)|none =>none)|none =>none else some (.inr (.inl (c,())))
def zau7:((List Hold)×Int×Int×Circ×Unit)→Option (((List Hold)×Int×Int×Circ×Unit)⊕((Circ×Unit)⊕(Bool×Unit))):=fun (v,v8,v9,c,_)=>
 bif decide (v9<v8) then match getI v v9 with|some x =>(match qb7 x.Patron c with|some r10 =>bif !r10 then some (.inr (.inr (false,()))) else some (.inl (v,v8,wr .i64 (v9+1),c,()))|none =>none)|none =>none else some (.inr (.inl (c,())))
def zafi:((List Charge)×Int×Int×Circ×Unit)→Option (((List Charge)×Int×Int×Circ×Unit)⊕((Unit)⊕(Bool×Unit))):=fun (v,v12,v13,c,_)=>
 bif decide (v13<v12) then match getI v v13 with|some x =>(match qb7 x.Patron c with|some r14 =>bif !r14 then some (.inr (.inr (false,()))) else some (.inl (v,v12,wr .i64 (v13+1),c,()))|none =>none)|none =>none else some (.inr (.inl (())))
def qg (c:Circ):Option Bool:=
 match zah zau6 (c.Loans,(c.Loans.length:Int),0,c,()) with|some (.inl (c7,_)) =>(match zah zau7 (c7.Holds,(c7.Holds.length:Int),0,c7,()) with|some (.inl (c11,_)) =>(match zah zafi (c11.Charges,(c11.Charges.length:Int),0,c11,()) with|some (.inl (_)) =>some true|some (.inr (v,_)) =>some v|none =>none)|some (.inr (v15,_)) =>some v15|none =>none)|some (.inr (v16,_)) =>some v16|none =>none
def qap (item:Int):Option (Int×Unit):=
 some (item,())
def qca (n:Loan) (v:Int):Option Bool:=
 some (n.Item==v)
def zani {γ0:Type} (p:γ0→Loan→Option Bool):((List Loan)×γ0×Int×Int×Unit)→Option (((List Loan)×γ0×Int×Int×Unit)⊕((Unit)⊕(Int×Unit))):=fun (s,g,v,v1,_)=>
 bif decide (v1<v) then match getI s v1 with|some x =>(match p g x with|some r =>bif r then some (.inr (.inr (v1,()))) else some (.inl (s,g,v,wr .i64 (v1+1),()))|none =>none)|none =>none else some (.inr (.inl (())))
def qk {γ0:Type} (p:γ0→Loan→Option Bool) (s:List Loan) (g:γ0):Option Int:=
 match zah (zani p) (s,g,(s.length:Int),0,()) with|some (.inl (_)) =>some (-1)|some (.inr (v,_)) =>some v|none =>none
def qby {γ0:Type} (p:γ0→Loan→Option Bool) (l:List Loan) (g:γ0):Option (Loan×Int):=
 match qk p l g with|some r1 =>(bif decide (r1<0) then some ((⟨0,0,0,0,0,false⟩:Loan),(-1)) else match getI l r1 with|some x =>some (x,r1)|none =>none)|none =>none
def qb1 (l:List Loan) (item:Int):Option (Loan×Bool):=
 match qap item with|some r1 =>(match qby (fun g x0=>qca x0 g.2.1) l ((),(r1.1,())) with|some (r3,r4) =>some (r3,decide (0≤r4))|none =>none)|none =>none
def zae9:((List Item)×Int×Int×Circ×Unit)→Option (((List Item)×Int×Int×Circ×Unit)⊕((Unit)⊕(Bool×Unit))):=fun (v,v1,v2,c,_)=>
 bif decide (v2<v1) then match getI v v2 with|some x =>(match qb1 c.Loans x.ID with|some (r3,r4) =>let k10 (v5:Bool):Option (((List Item)×Int×Int×Circ×Unit)⊕((Unit)⊕(Bool×Unit))):=let k9 (v6:Bool):Option (((List Item)×Int×Int×Circ×Unit)⊕((Unit)⊕(Bool×Unit))):=let k (v8:Bool):Option (((List Item)×Int×Int×Circ×Unit)⊕((Unit)⊕(Bool×Unit))):=bif v8 then some (.inr (.inr (false,()))) else some (.inl (v,v1,wr .i64 (v2+1),c,()));bif !(r4==v6) then k true else bif r4 then k (!(r3.Patron==x.Custody.Who)) else k false;bif v5 then k9 true else k9 (x.Custody.State==10);bif x.Custody.State==4 then k10 true else k10 (x.Custody.State==9)|none =>none)|none =>none else some (.inr (.inl (())))
def qbl (c:Circ):Option Bool:=
 match zah zae9 (c.Items,(c.Items.length:Int),0,c,()) with|some (.inl (_)) =>some true|some (.inr (v,_)) =>some v|none =>none
def qcw (h:Hold) (v:Int):Option Bool:=
 some (h.Got==v)
def zi3 {γ0:Type} (p:γ0→Hold→Option Bool):((List Hold)×γ0×Int×Int×Unit)→Option (((List Hold)×γ0×Int×Int×Unit)⊕((Unit)⊕(Int×Unit))):=fun (s,g,v,v1,_)=>
 bif decide (v1<v) then match getI s v1 with|some x =>(match p g x with|some r =>bif r then some (.inr (.inr (v1,()))) else some (.inl (s,g,v,wr .i64 (v1+1),()))|none =>none)|none =>none else some (.inr (.inl (())))
def qb {γ0:Type} (p:γ0→Hold→Option Bool) (s:List Hold) (g:γ0):Option Int:=
 match zah (zi3 p) (s,g,(s.length:Int),0,()) with|some (.inl (_)) =>some (-1)|some (.inr (v,_)) =>some v|none =>none
def qam (c:Circ) (item:Int):Option (Hold×Bool):=
 match qb (fun g x0=>qcw x0 g.2.1) c.Holds ((),(item,())) with|some r1 =>(bif decide (r1<0) then some ((⟨0,0,0,0,0,0,0,0,0,0,0⟩:Hold),false) else match getI c.Holds r1 with|some x =>some (x,true)|none =>none)|none =>none
def zaeq:((List Hold)×Int×Int×Circ×Unit)→Option (((List Hold)×Int×Int×Circ×Unit)⊕((Circ×Unit)⊕(Bool×Unit))):=fun (v,v1,v2,c,_)=>
 bif decide (v2<v1) then match getI v v2 with|some x =>(bif x.State==1 then some (.inl (v,v1,wr .i64 (v2+1),c,())) else match qc c x.Got with|some r3 =>(let k9 (v5:Bool):Option (((List Hold)×Int×Int×Circ×Unit)⊕((Circ×Unit)⊕(Bool×Unit))):=bif v5 then some (.inr (.inr (false,()))) else match getI c.Items r3 with|some x6 =>let k (want:Int) (want7:Int) (want8:Int):Option (((List Hold)×Int×Int×Circ×Unit)⊕((Circ×Unit)⊕(Bool×Unit))):=bif !(zck x6.Custody (⟨want,want7,x.Patron,want8⟩:Custody)) then some (.inr (.inr (false,()))) else some (.inl (v,v1,wr .i64 (v2+1),c,()));bif x.State==2 then k 6 x6.Custody.Branch x.Pickup else k 5 x.Pickup 0|none =>none;bif decide (r3<0) then k9 true else match getI c.Items r3 with|some x4 =>k9 (!(x4.Record==x.Record))|none =>none)|none =>none)|none =>none else some (.inr (.inl (c,())))
def z3f:((List Item)×Int×Int×Circ×Unit)→Option (((List Item)×Int×Int×Circ×Unit)⊕((Unit)⊕(Bool×Unit))):=fun (v,v11,v12,c,_)=>
 bif decide (v12<v11) then match getI v v12 with|some x =>(match qam c x.ID with|some (r13,r14) =>let k (v16:Bool):Option (((List Item)×Int×Int×Circ×Unit)⊕((Unit)⊕(Bool×Unit))):=bif v16 then some (.inr (.inr (false,()))) else some (.inl (v,v11,wr .i64 (v12+1),c,()));bif x.Custody.State==5 then bif !r14 then k true else k (!(r13.State==3)) else k false|none =>none)|none =>none else some (.inr (.inl (())))
def qab (c:Circ):Option Bool:=
 match zah zaeq (c.Holds,(c.Holds.length:Int),0,c,()) with|some (.inl (c10,_)) =>(match zah z3f (c10.Items,(c10.Items.length:Int),0,c10,()) with|some (.inl (_)) =>some true|some (.inr (v,_)) =>some v|none =>none)|some (.inr (v17,_)) =>some v17|none =>none
def qfe (c:Circ):Option Bool:=
 match qba c.Today 0 109572 with|some r1 =>let k19 (v:Bool):Option Bool:=let k18 (v6:Bool):Option Bool:=let k17 (v9:Bool):Option Bool:=let k16 (v12:Bool):Option Bool:=let k (v15:Bool):Option Bool:=some v15;bif v12 then match qab c with|some r14 =>k r14|none =>none else k false;bif v9 then match qbl c with|some r11 =>k16 r11|none =>none else k16 false;bif v6 then match qg c with|some r8 =>k17 r8|none =>none else k17 false;bif v then match qq c with|some r5 =>k18 r5|none =>none else k18 false;bif r1 then match qf c with|some r3 =>k19 r3|none =>none else k19 false|none =>none
def q9 (c:Circ) (x:Item):Option (Circ×Int):=
 match qc c x.ID with|some r1 =>(bif decide (0≤r1) then some ((⟨0,[],[],[],[],[],[],⟨⟨0,[]⟩,⟨0,[]⟩,⟨0,[]⟩,⟨0,[]⟩⟩,[],0,0,false⟩:Circ),7) else bif decide (64≤(c.Items.length:Int)) then some ((⟨0,[],[],[],[],[],[],⟨⟨0,[]⟩,⟨0,[]⟩,⟨0,[]⟩,⟨0,[]⟩⟩,[],0,0,false⟩:Circ),13) else match qcv x.Branch with|some r3 =>(match qa (fun g x0=>qcu x0 g.2.1) c.Items ((),(x,())) with|some r5 =>let k (i:Int):Option (Circ×Int):=match qci c.Items with|some l =>(match qdt l i ([(⟨x.ID,x.Record,x.Branch,x.Kind,x.Price,x.Call,r3⟩:Item)]) with|some l8 =>(match qfe (⟨c.Today,l8,c.Patrons,c.Loans,c.Holds,c.Charges,c.Rules,c.Cals,c.Moves,c.NextHold,c.NextCharge,c.Local⟩:Circ) with|some r10 =>bif !r10 then some ((⟨0,[],[],[],[],[],[],⟨⟨0,[]⟩,⟨0,[]⟩,⟨0,[]⟩,⟨0,[]⟩⟩,[],0,0,false⟩:Circ),1) else some ((⟨c.Today,l8,c.Patrons,c.Loans,c.Holds,c.Charges,c.Rules,c.Cals,c.Moves,c.NextHold,c.NextCharge,c.Local⟩:Circ),0)|none =>none)|none =>none)|none =>none;bif decide (r5<0) then k (c.Items.length:Int) else k r5|none =>none)|none =>none)|none =>none
def qc6 (x:Patron) (v:Patron):Option Bool:=
 some (decide (v.ID<x.ID))
def qdr (s:List Patron):Option (List Patron):=
 bif decide (([]:List Patron).length+s.length≤LIM) then some (([])++s) else none
def qdw (l:List Patron):Option ((List Patron)×Int):=
 match qai l with|some r1 =>bif !(r1==0) then some ([],r1) else some (l,0)|none =>none
def qbw (l:List Patron) (p:Patron):Option ((List Patron)×Int):=
 match qa2 l p.ID with|some r1 =>(bif decide (0≤r1) then some ([],7) else match qm (fun g x0=>qc6 x0 g.2.1) l ((),(p,())) with|some r3 =>let k (i:Int):Option ((List Patron)×Int):=match qdr l with|some l5 =>(match qdq l5 i ([p]) with|some l7 =>(match qdw l7 with|some (r9,r10) =>some (r9,r10)|none =>none)|none =>none)|none =>none;bif decide (r3<0) then k (l.length:Int) else k r3|none =>none)|none =>none
def qdh (c:Circ) (p:Patron):Option (Circ×Int):=
 match qbw c.Patrons p with|some (r1,r2) =>bif !(r2==0) then some ((⟨0,[],[],[],[],[],[],⟨⟨0,[]⟩,⟨0,[]⟩,⟨0,[]⟩,⟨0,[]⟩⟩,[],0,0,false⟩:Circ),r2) else some ((⟨c.Today,c.Items,r1,c.Loans,c.Holds,c.Charges,c.Rules,c.Cals,c.Moves,c.NextHold,c.NextCharge,c.Local⟩:Circ),0)|none =>none
def qc7:Option Circ:=
 match qaf 100 with|some r1 =>(match q9 (⟨r1.Today,r1.Items,r1.Patrons,r1.Loans,r1.Holds,r1.Charges,[(⟨0,0,0,14,1,10,0,500,2,5,7,0,0⟩:Rule)],r1.Cals,r1.Moves,r1.NextHold,r1.NextCharge,r1.Local⟩:Circ) (⟨1,5,1,1,2000,[],⟨0,0,0,0⟩⟩:Item) with|some (r3,r4) =>(match qdh r3 (⟨7,1,1,5000,false,[65,110,110]⟩:Patron) with|some (r6,r7) =>(match qdh r6 (⟨8,1,1,5000,false,[66,111,98]⟩:Patron) with|some (r9,r10) =>some r9|none =>none)|none =>none)|none =>none)|none =>none
def qcf (c:Circ):Option Circ_desk:=
 some (⟨c,0⟩:Circ_desk)
def qu (e:Int) (d:Circ_desk):Option (Unit×Circ_desk):=
 let k (v:Int):Option (Unit×Circ_desk):=some ((),(⟨d.c,v⟩:Circ_desk));bif d.err==0 then k e else k d.err
def qcs (vid:Int) (d:Circ_desk):Option (Int×Circ_desk):=
 match qc d.c vid with|some r1 =>let k (v3:Circ_desk):Option (Int×Circ_desk):=some (r1,v3);bif decide (r1<0) then match qu 9 d with|some (_,v) =>k v|none =>none else k d|none =>none
def qde (s:List Move):Option (List Move):=
 bif decide (([]:List Move).length+s.length≤LIM) then some (([])++s) else none
def qa7 (i:Int) (kind:Int) (branch:Int) (who:Int) (d:Circ_desk):Option (Unit×Circ_desk):=
 bif !(d.err==0) then some ((),d) else match getI d.c.Items i with|some x =>(match getI d.c.Items i with|some x1 =>(match qdy x1.Custody (⟨d.c.Today,x.ID,kind,branch,who⟩:Move) with|some (r2,r3) =>let k10 (v:Bool):Option (Unit×Circ_desk):=let k (e:Int):Option (Unit×Circ_desk):=bif !(e==0) then match qu e d with|some (_,v5) =>some ((),v5)|none =>none else match qci d.c.Items with|some l =>(match getI l i with|some _ =>(match l[i.toNat]? with|some x7 =>(match qde d.c.Moves with|some l9 =>bif decide (l9.length+([(⟨d.c.Today,x.ID,kind,branch,who⟩:Move)]:List Move).length≤LIM) then some ((),(⟨⟨d.c.Today,l.set i.toNat (⟨x7.ID,x7.Record,x7.Branch,x7.Kind,x7.Price,x7.Call,r2⟩:Item),d.c.Patrons,d.c.Loans,d.c.Holds,d.c.Charges,d.c.Rules,d.c.Cals,l9++([(⟨d.c.Today,x.ID,kind,branch,who⟩:Move)]:List Move),d.c.NextHold,d.c.NextCharge,d.c.Local⟩,d.err⟩:Circ_desk)) else none|none =>none)|none =>none)|none =>none)|none =>none;bif v then k 13 else k r3;bif r3==0 then k10 (decide (2000≤(d.c.Moves.length:Int))) else k10 false|none =>none)|none =>none)|none =>none
def qb0 (a:Hold) (b:Hold):Option Int:=
 some (wr .i64 (b.Rank-a.Rank))
def zavg {γ0:Type} (p:γ0→Hold→Hold→Option Int):(Int×Int×γ0×Int×Int×(List Hold)×Unit)→Option ((Int×Int×γ0×Int×Int×(List Hold)×Unit)⊕((Int×Int×γ0×Int×(List Hold)×Unit))):=fun (a,b,g,i,j,l,_)=>
 let k (v:Bool):Option ((Int×Int×γ0×Int×Int×(List Hold)×Unit)⊕((Int×Int×γ0×Int×(List Hold)×Unit))):=bif v then match getI l (wr .i64 (j-1)) with|some _ =>(match l[(wr .i64 (j-1)).toNat]? with|some x2 =>(match getI l j with|some _ =>(match l[j.toNat]? with|some x3 =>(match getI l j with|some _ =>(match l[j.toNat]? with|some x4 =>(match getI (l.set j.toNat x2) (wr .i64 (j-1)) with|some _ =>(match (l.set j.toNat x2)[(wr .i64 (j-1)).toNat]? with|some x5 =>some (.inl (a,b,g,i,wr .i64 (j-1),(l.set j.toNat x2).set (wr .i64 (j-1)).toNat x3,()))|none =>none)|none =>none)|none =>none)|none =>none)|none =>none)|none =>none)|none =>none)|none =>none else some (.inr ((a,b,g,i,l,())));bif decide (a<j) then match getI l j with|some _ =>(match l[j.toNat]? with|some x =>(match getI l (wr .i64 (j-1)) with|some _ =>(match l[(wr .i64 (j-1)).toNat]? with|some x1 =>(match p g x x1 with|some r =>k (decide (r<0))|none =>none)|none =>none)|none =>none)|none =>none)|none =>none else k false
def zavf {γ0:Type} (p:γ0→Hold→Hold→Option Int):(Int×Int×γ0×Int×(List Hold)×Unit)→Option ((Int×Int×γ0×Int×(List Hold)×Unit)⊕(((List Hold)×Unit))):=fun (a,b,g,i,l,_)=>
 bif decide (i<b) then match zah (zavg p) (a,b,g,i,i,l,()) with|some ((a6,b7,g8,i9,l10,_)) =>some (.inl (a6,b7,g8,wr .i64 (i9+1),l10,()))|none =>none else some (.inr ((l,())))
def qp {γ0:Type} (p:γ0→Hold→Hold→Option Int) (data:List Hold) (a:Int) (b:Int) (g:γ0):Option (List Hold):=
 match zah (zavf p) (a,b,g,wr .i64 (a+1),data,()) with|some ((l,_)) =>some l|none =>none
def zavc {γ0:Type} (p:γ0→Hold→Hold→Option Int):(Int×γ0×Int×Int×Int×(List Hold)×Unit)→Option ((Int×γ0×Int×Int×Int×(List Hold)×Unit)⊕((Int×γ0×Int×Int×(List Hold)×Unit))):=fun (n,g,blockSize,a,b,l,_)=>
 bif decide (b≤n) then match qp p l a b g with|some l1 =>some (.inl (n,g,blockSize,b,wr .i64 (b+blockSize),l1,()))|none =>none else some (.inr ((n,g,blockSize,a,l,())))
def zave {γ0:Type} (p:γ0→Hold→Hold→Option Int):(Int×γ0×Int×Int×Int×(List Hold)×Unit)→Option ((Int×γ0×Int×Int×Int×(List Hold)×Unit)⊕((Int×γ0×Int×Int×(List Hold)×Unit))):=fun (n,g,blockSize,a,b,l,_)=>
 bif decide (b≤n) then match qcz p l a (wr .i64 (a+blockSize)) b g with|some l5 =>some (.inl (n,g,blockSize,b,wr .i64 (b+(wr .i64 (2*blockSize))),l5,()))|none =>none else some (.inr ((n,g,blockSize,a,l,())))
def zavd {γ0:Type} (p:γ0→Hold→Hold→Option Int):(Int×γ0×Int×(List Hold)×Unit)→Option ((Int×γ0×Int×(List Hold)×Unit)⊕(((List Hold)×Unit))):=fun (n,g,blockSize,l,_)=>
 bif decide (blockSize<n) then match zah (zave p) (n,g,blockSize,0,wr .i64 (2*blockSize),l,()) with|some ((n6,g7,blockSize8,a,l9,_)) =>let k (l11:List Hold):Option ((Int×γ0×Int×(List Hold)×Unit)⊕(((List Hold)×Unit))):=some (.inl (n6,g7,wr .i64 (blockSize8*2),l11,()));bif decide (wr .i64 (a+blockSize8)<n6) then match qcz p l9 a (wr .i64 (a+blockSize8)) n6 g7 with|some l10 =>k l10|none =>none else k l9|none =>none else some (.inr ((l,())))
def qn {γ0:Type} (p:γ0→Hold→Hold→Option Int) (data:List Hold) (n:Int) (g:γ0):Option (List Hold):=
 match zah (zavc p) (n,g,20,0,20,data,()) with|some ((n2,g3,blockSize,a,l,_)) =>(match qp p l a n2 g3 with|some l4 =>(match zah (zavd p) (n2,g3,blockSize,l4,()) with|some ((l12,_)) =>some l12|none =>none)|none =>none)|none =>none
def qdp {γ0:Type} (p:γ0→Hold→Hold→Option Int) (x:List Hold) (g:γ0):Option (List Hold):=
 match qn p x (x.length:Int) g with|some l =>some l|none =>none
def zau9:(Int×Int×(List Hold)×Int×Int×(List Hold)×Unit)→Option ((Int×Int×(List Hold)×Int×Int×(List Hold)×Unit)⊕(((List Hold)×Unit))):=fun (record,day,v,v1,v2,l,_)=>
 bif decide (v2<v1) then match getI v v2 with|some x =>let k5 (v3:Bool):Option ((Int×Int×(List Hold)×Int×Int×(List Hold)×Unit)⊕(((List Hold)×Unit))):=let k (v4:Bool):Option ((Int×Int×(List Hold)×Int×Int×(List Hold)×Unit)⊕(((List Hold)×Unit))):=bif v4 then bif decide (l.length+([x]:List Hold).length≤LIM) then some (.inl (record,day,v,v1,wr .i64 (v2+1),l++([x]:List Hold),())) else none else some (.inl (record,day,v,v1,wr .i64 (v2+1),l,()));bif v3 then k (decide (x.Asleep≤day)) else k false;bif x.Record==record then k5 (x.State==1) else k5 false|none =>none else some (.inr ((l,())))
def qj (l:List Hold) (record:Int) (day:Int):Option (List Hold):=
 match zah zau9 (record,day,l,(l.length:Int),0,([]:List Hold),()) with|some ((l6,_)) =>(match qdp (fun g x0 x1=>qb0 x0 x1) l6 ((),()) with|some l7 =>some l7|none =>none)|none =>none
def zae7:(Int×Bool×Int×(List Hold)×Int×Int×Item×Unit)→Option ((Int×Bool×Int×(List Hold)×Int×Int×Item×Unit)⊕((Int×Unit)⊕(Int×Unit))):=fun (branch,vlocal,first,v,v2,v3,x,_)=>
 bif decide (v3<v2) then match getI v v3 with|some x4 =>let k9 (v5:Bool):Option ((Int×Bool×Int×(List Hold)×Int×Int×Item×Unit)⊕((Int×Unit)⊕(Int×Unit))):=bif v5 then some (.inl (branch,vlocal,first,v,v2,wr .i64 (v3+1),x,())) else let k8 (v6:Bool):Option ((Int×Bool×Int×(List Hold)×Int×Int×Item×Unit)⊕((Int×Unit)⊕(Int×Unit))):=bif v6 then some (.inr (.inr (x4.ID,()))) else let k (first7:Int):Option ((Int×Bool×Int×(List Hold)×Int×Int×Item×Unit)⊕((Int×Unit)⊕(Int×Unit))):=some (.inl (branch,vlocal,first7,v,v2,wr .i64 (v3+1),x,()));bif first==0 then k x4.ID else k first;bif !vlocal then k8 true else k8 (x4.Pickup==branch);bif !(x4.Item==0) then k9 (!(x4.Item==x.ID)) else k9 false|none =>none else some (.inr (.inl (first,())))
def qbd (l:List Hold) (x:Item) (branch:Int) (day:Int) (vlocal:Bool):Option Int:=
 match qj l x.Record day with|some r1 =>(match zah zae7 (branch,vlocal,0,r1,(r1.length:Int),0,x,()) with|some (.inl (first,_)) =>some first|some (.inr (v,_)) =>some v|none =>none)|none =>none
def qei (c:Circ) (x:Item):Option Int:=
 match qbd c.Holds x x.Custody.Branch c.Today c.Local with|some r1 =>some r1|none =>none
def qd1 (h:Hold) (v:Int):Option Bool:=
 some (h.ID==v)
def qbc (l:List Hold) (vid:Int):Option Int:=
 match qb (fun g x0=>qd1 x0 g.2.1) l ((),(vid,())) with|some r1 =>some r1|none =>none
def qem (l:List Hold) (vid:Int):Option (Hold×Bool):=
 match qbc l vid with|some r1 =>bif decide (0≤r1) then match getI l r1 with|some x =>some (x,true)|none =>none else some ((⟨0,0,0,0,0,0,0,0,0,0,0⟩:Hold),false)|none =>none
def qct (i:Int) (kind:Int) (d:Circ_desk):Option (Unit×Circ_desk):=
 let k (v1:Circ_desk):Option (Unit×Circ_desk):=some ((),v1);bif d.err==0 then match getI d.c.Items i with|some x =>(match qa7 i kind x.Custody.Branch 0 d with|some (_,v) =>k v|none =>none)|none =>none else k d
def qec (key:Int) (n:Int):Option Bool:=
 let k (v:Bool):Option Bool:=some v;bif key==0 then k true else k (key==n)
def qb2 (r:Rule) (patron:Int) (item:Int) (branch:Int):Option Bool:=
 match qec r.Patron patron with|some r2 =>let k8 (v:Bool):Option Bool:=let k (v7:Bool):Option Bool:=some v7;bif v then match qec r.Branch branch with|some r6 =>k r6|none =>none else k false;bif r2 then match qec r.Item item with|some r4 =>k8 r4|none =>none else k8 false|none =>none
def zaeo:(Int×Int×Int×(List Int)×Unit)→Option ((Int×Int×Int×(List Int)×Unit)⊕((Int×Unit))):=fun (n,v,v1,l,_)=>
 bif decide (v1<v) then match getI l v1 with|some _ =>(match l[v1.toNat]? with|some x =>let k (n2:Int):Option ((Int×Int×Int×(List Int)×Unit)⊕((Int×Unit))):=some (.inl (n2,v,wr .i64 (v1+1),l,()));bif !(x==0) then k (wr .i64 ((wr .i64 (n*2))+1)) else k (wr .i64 (n*2))|none =>none)|none =>none else some (.inr ((n,())))
def qa8 (r:Rule):Option Int:=
 match zah zaeo (0,(([r.Patron,r.Item,r.Branch]).length:Int),0,[r.Patron,r.Item,r.Branch],()) with|some ((n,_)) =>some n|none =>none
def zaem:((List Rule)×Int×Int×Int×Int×(List Rule)×Int×Int×Unit)→Option (((List Rule)×Int×Int×Int×Int×(List Rule)×Int×Int×Unit)⊕((Int×Unit))):=fun (l,patron,item,branch,vat,v,v1,v2,_)=>
 bif decide (v2<v1) then match getI v v2 with|some x =>(match qb2 x patron item branch with|some r3 =>let k12 (v10:Bool):Option (((List Rule)×Int×Int×Int×Int×(List Rule)×Int×Int×Unit)⊕((Int×Unit))):=let k (vat11:Int):Option (((List Rule)×Int×Int×Int×Int×(List Rule)×Int×Int×Unit)⊕((Int×Unit))):=some (.inl (l,patron,item,branch,vat11,v,v1,wr .i64 (v2+1),()));bif v10 then k v2 else k vat;bif r3 then bif decide (vat<0) then k12 true else match qa8 x with|some r5 =>(match getI l vat with|some x6 =>(match qa8 x6 with|some r8 =>k12 (decide (r8<r5))|none =>none)|none =>none)|none =>none else k12 false|none =>none)|none =>none else some (.inr ((vat,())))
def qa3 (l:List Rule) (patron:Int) (item:Int) (branch:Int):Option Int:=
 match zah zaem (l,patron,item,branch,(-1),l,(l.length:Int),0,()) with|some ((vat,_)) =>some vat|none =>none
def qd0 (l:List Rule) (patron:Int) (item:Int) (branch:Int):Option (Rule×Bool):=
 match qa3 l patron item branch with|some r1 =>(bif decide (r1<0) then some ((⟨0,0,0,0,0,0,0,0,0,0,0,0,0⟩:Rule),false) else match getI l r1 with|some x =>some (x,true)|none =>none)|none =>none
def qcx (c:Circ) (vid:Int) (x:Item):Option (Rule×Bool):=
 match qcn c.Patrons vid with|some (r1,r2) =>(bif !r2 then some ((⟨0,0,0,0,0,0,0,0,0,0,0,0,0⟩:Rule),false) else match qd0 c.Rules r1.Kind x.Kind x.Branch with|some (r4,r5) =>some (r4,r5)|none =>none)|none =>none
def qcy (c:Circ) (branch:Int):Option Calendar:=
 match qba branch 1 4 with|some r1 =>bif !r1 then some (⟨0,[]⟩:Calendar) else let k (v:Int) (v2:List Int):Option Calendar:=some (⟨v,v2⟩:Calendar);bif (wr .i64 (branch-1))==0 then k c.Cals.x0.Week c.Cals.x0.Closed else bif (wr .i64 (branch-1))==1 then k c.Cals.x1.Week c.Cals.x1.Closed else bif (wr .i64 (branch-1))==2 then k c.Cals.x2.Week c.Cals.x2.Closed else bif (wr .i64 (branch-1))==3 then k c.Cals.x3.Week c.Cals.x3.Closed else none|none =>none
def qdj (x:Int):Option Bool:=
 some (!(x==x))
def qev (x:Int) (y:Int):Option Bool:=
 match qdj x with|some r1 =>let k5 (v:Bool):Option Bool:=let k (v4:Bool):Option Bool:=some v4;bif v then k true else k (decide (x<y));bif r1 then match qdj y with|some r3 =>k5 (!r3)|none =>none else k5 false|none =>none
def qd9 (x:Int):Option Bool:=
 some (!(x==x))
def zaez:((List Int)×Int×Int×Int×Int×Unit)→Option (((List Int)×Int×Int×Int×Int×Unit)⊕(((List Int)×Int×Int×Int×Unit))):=fun (x,target,n,i,j,_)=>
 bif decide (i<j) then match getI x (wr .i64 ((wr .u64 (wr .i64 (i+j))).fdiv (2 ^ 1))) with|some x1 =>(match qev x1 target with|some r2 =>let k (i3:Int) (j4:Int):Option (((List Int)×Int×Int×Int×Int×Unit)⊕(((List Int)×Int×Int×Int×Unit))):=some (.inl (x,target,n,i3,j4,()));bif r2 then k (wr .i64 ((wr .i64 ((wr .u64 (wr .i64 (i+j))).fdiv (2 ^ 1)))+1)) j else k i (wr .i64 ((wr .u64 (wr .i64 (i+j))).fdiv (2 ^ 1)))|none =>none)|none =>none else some (.inr ((x,target,n,i,())))
def qar (x:List Int) (target:Int):Option (Int×Bool):=
 match zah zaez (x,target,(x.length:Int),0,(x.length:Int),()) with|some ((x5,target6,n,i,_)) =>let k (v13:Bool):Option (Int×Bool):=some (i,v13);bif decide (i<n) then match getI x5 i with|some x7 =>(bif x7==target6 then k true else match getI x5 i with|some x8 =>(match qd9 x8 with|some r9 =>bif r9 then match qd9 target6 with|some r11 =>k r11|none =>none else k false|none =>none)|none =>none)|none =>none else k false|none =>none
def zaey:(Int×Calendar×(V7 Bool)×(V7 Bool)×Unit)→Option ((Int×Calendar×(V7 Bool)×(V7 Bool)×Unit)⊕(((V7 Bool)×(V7 Bool)×Unit))):=fun (v,c,v1,vopen,_)=>
 bif decide (v<7) then bif decide (v<0) then none else bif v==0 then some (.inl (wr .i64 (v+1),c,v1,(⟨(wr .i64 (BitVec.ofInt 64 (c.Week.fdiv (2 ^ (min v.toNat 64))) &&& BitVec.ofInt 64 1).toNat)==0,vopen.x1,vopen.x2,vopen.x3,vopen.x4,vopen.x5,vopen.x6⟩:V7 Bool),())) else bif v==1 then some (.inl (wr .i64 (v+1),c,v1,(⟨vopen.x0,(wr .i64 (BitVec.ofInt 64 (c.Week.fdiv (2 ^ (min v.toNat 64))) &&& BitVec.ofInt 64 1).toNat)==0,vopen.x2,vopen.x3,vopen.x4,vopen.x5,vopen.x6⟩:V7 Bool),())) else bif v==2 then some (.inl (wr .i64 (v+1),c,v1,(⟨vopen.x0,vopen.x1,(wr .i64 (BitVec.ofInt 64 (c.Week.fdiv (2 ^ (min v.toNat 64))) &&& BitVec.ofInt 64 1).toNat)==0,vopen.x3,vopen.x4,vopen.x5,vopen.x6⟩:V7 Bool),())) else bif v==3 then some (.inl (wr .i64 (v+1),c,v1,(⟨vopen.x0,vopen.x1,vopen.x2,(wr .i64 (BitVec.ofInt 64 (c.Week.fdiv (2 ^ (min v.toNat 64))) &&& BitVec.ofInt 64 1).toNat)==0,vopen.x4,vopen.x5,vopen.x6⟩:V7 Bool),())) else bif v==4 then some (.inl (wr .i64 (v+1),c,v1,(⟨vopen.x0,vopen.x1,vopen.x2,vopen.x3,(wr .i64 (BitVec.ofInt 64 (c.Week.fdiv (2 ^ (min v.toNat 64))) &&& BitVec.ofInt 64 1).toNat)==0,vopen.x5,vopen.x6⟩:V7 Bool),())) else bif v==5 then some (.inl (wr .i64 (v+1),c,v1,(⟨vopen.x0,vopen.x1,vopen.x2,vopen.x3,vopen.x4,(wr .i64 (BitVec.ofInt 64 (c.Week.fdiv (2 ^ (min v.toNat 64))) &&& BitVec.ofInt 64 1).toNat)==0,vopen.x6⟩:V7 Bool),())) else bif v==6 then some (.inl (wr .i64 (v+1),c,v1,(⟨vopen.x0,vopen.x1,vopen.x2,vopen.x3,vopen.x4,vopen.x5,(wr .i64 (BitVec.ofInt 64 (c.Week.fdiv (2 ^ (min v.toNat 64))) &&& BitVec.ofInt 64 1).toNat)==0⟩:V7 Bool),())) else none else some (.inr ((v1,vopen,())))
def qaq (c:Calendar):Option (V7 Bool):=
 match zah zaey (0,c,(⟨false,false,false,false,false,false,false⟩:V7 Bool),(⟨false,false,false,false,false,false,false⟩:V7 Bool),()) with|some ((v,vopen,_)) =>some vopen|none =>none
def qfd (day:Int):Option Bool:=
 let k (v:Bool):Option Bool:=some v;bif decide (0≤day) then k (decide (day≤109572)) else k false
def qc8 (day:Int):Option Int:=
 match qfd day with|some r1 =>bif !r1 then some (-1) else some (day.tmod 7)|none =>none
def qcc (c:Calendar) (day:Int):Option Bool:=
 match qc3 day with|some r1 =>(bif !r1 then some false else match qar c.Closed day with|some (r3,r4) =>let k (v9:Bool):Option Bool:=some v9;bif !r4 then match qaq c with|some r6 =>(match qc8 day with|some r8 =>bif r8==0 then k r6.x0 else bif r8==1 then k r6.x1 else bif r8==2 then k r6.x2 else bif r8==3 then k r6.x3 else bif r8==4 then k r6.x4 else bif r8==5 then k r6.x5 else bif r8==6 then k r6.x6 else none|none =>none)|none =>none else k false|none =>none)|none =>none
def zavk:(Int×Calendar×Unit)→Option ((Int×Calendar×Unit)⊕((Unit)⊕(Int×Int×Unit))):=fun (d,c,_)=>
 bif decide (d≤109572) then match qcc c d with|some r1 =>bif r1 then some (.inr (.inr (d,0,()))) else some (.inl (wr .i64 (d+1),c,()))|none =>none else some (.inr (.inl (())))
def qw (c:Calendar) (day:Int):Option (Int×Int):=
 match zah zavk ((if day<0 then 0 else day),c,()) with|some (.inl (_)) =>some (0,2)|some (.inr (v,v2,_)) =>some (v,v2)|none =>none
def zael:(Int×Int×Int×Calendar×Unit)→Option ((Int×Int×Int×Calendar×Unit)⊕((Int×Unit)⊕(Int×Int×Unit))):=fun (d,v,v5,c,_)=>
 bif decide (v5<v) then match qw c (wr .i64 (d+1)) with|some (r6,r7) =>bif !(r7==0) then some (.inr (.inr (0,r7,()))) else some (.inl (r6,v,wr .i64 (v5+1),c,()))|none =>none else some (.inr (.inl (d,())))
def qa1 (c:Calendar) (day:Int) (n:Int):Option (Int×Int):=
 let k (v:Bool):Option (Int×Int):=bif v then some (0,1) else match qc3 day with|some r1 =>(bif !r1 then some (0,2) else bif n==0 then match qw c day with|some (r3,r4) =>some (r3,r4)|none =>none else match zah zael (day,n,0,c,()) with|some (.inl (d,_)) =>some (d,0)|some (.inr (v8,v9,_)) =>some (v8,v9)|none =>none)|none =>none;bif decide (n<0) then k true else k (decide (1000<n))
def qe9 (branch:Int) (n:Int) (d:Circ_desk):Option (Int×Circ_desk):=
 match qcy d.c branch with|some r1 =>(match qa1 r1 d.c.Today n with|some (r3,r4) =>let k (v6:Circ_desk):Option (Int×Circ_desk):=some (r3,v6);bif !(r4==0) then match qu r4 d with|some (_,v) =>k v|none =>none else k d|none =>none)|none =>none
def qcl (o:Hold) (v:Int) (v1:Int):Option Bool:=
 let k (v2:Bool):Option Bool:=some v2;bif o.Got==v then k (!(o.ID==v1)) else k false
def qbx {γ0:Type} (p:γ0→Hold→Option Bool) (s:List Hold) (g:γ0):Option Bool:=
 match qb p s g with|some r1 =>some (decide (0≤r1))|none =>none
def qd7 (s:List Hold):Option (List Hold):=
 bif decide (([]:List Hold).length+s.length≤LIM) then some (([])++s) else none
def qel (l:List Hold) (i:Int) (h:Hold):Option (List Hold):=
 match qd7 l with|some l1 =>(match getI l1 i with|some _ =>(match l1[i.toNat]? with|some x =>some (l1.set i.toNat h)|none =>none)|none =>none)|none =>none
def qav (l:List Hold) (vid:Int) (item:Int) (state:Int) (vuntil:Int):Option ((List Hold)×Int):=
 match qbc l vid with|some r1 =>bif decide (r1<0) then some ([],9) else let k18 (v:Bool):Option ((List Hold)×Int):=match qb3 item 1 9999 with|some r5 =>let k17 (v8:Bool):Option ((List Hold)×Int):=bif v8 then some ([],1) else match getI l r1 with|some x =>let k16 (v11:Bool):Option ((List Hold)×Int):=bif v11 then some ([],12) else match qbx (fun g x0=>qcl x0 g.2.1 g.2.2.1) l ((),(item,vid,())) with|some r13 =>(bif r13 then some ([],7) else match qel l r1 (⟨x.ID,x.Patron,x.Record,x.Item,x.Pickup,x.Placed,state,item,vuntil,x.Asleep,x.Rank⟩:Hold) with|some r15 =>some (r15,0)|none =>none)|none =>none;bif !(x.State==1) then let k (v9:Bool):Option ((List Hold)×Int):=bif v9 then k16 true else k16 (!(state==3));bif !(x.State==2) then k true else k (!(x.Got==item)) else k16 false|none =>none;bif !r5 then k17 true else bif !v then bif !(state==2) then k17 true else k17 (!(vuntil==0)) else k17 false|none =>none;bif state==3 then match qb3 vuntil 1 109572 with|some r3 =>k18 r3|none =>none else k18 false|none =>none
def qcr (l:List Hold) (e:Int) (d:Circ_desk):Option (Unit×Circ_desk):=
 let k3 (v1:Circ_desk):Option (Unit×Circ_desk):=let k (v2:List Hold):Option (Unit×Circ_desk):=some ((),(⟨⟨v1.c.Today,v1.c.Items,v1.c.Patrons,v1.c.Loans,v2,v1.c.Charges,v1.c.Rules,v1.c.Cals,v1.c.Moves,v1.c.NextHold,v1.c.NextCharge,v1.c.Local⟩,v1.err⟩:Circ_desk));bif v1.err==0 then k l else k v1.c.Holds;bif !(e==0) then match qu e d with|some (_,v) =>k3 v|none =>none else k3 d
def qdg (i:Int) (h:Hold) (d:Circ_desk):Option (Unit×Circ_desk):=
 bif !(d.err==0) then some ((),d) else match getI d.c.Items i with|some x =>(match qcx d.c h.Patron x with|some (r1,r2) =>let k13 (days:Int):Option (Unit×Circ_desk):=match qa7 i 5 x.Custody.Branch h.Patron d with|some (_,v) =>(match qe9 x.Custody.Branch days v with|some (r5,v6) =>let k (v12:Circ_desk):Option (Unit×Circ_desk):=some ((),v12);bif v6.err==0 then match qav v6.c.Holds h.ID x.ID 3 r5 with|some (r8,r9) =>(match qcr r8 r9 v6 with|some (_,v11) =>k v11|none =>none)|none =>none else k v6|none =>none)|none =>none;bif r2 then k13 r1.Shelf else k13 7|none =>none)|none =>none
def qd8 (i:Int) (d:Circ_desk):Option (Unit×Circ_desk):=
 bif !(d.err==0) then some ((),d) else match getI d.c.Items i with|some x =>(match qei d.c x with|some r1 =>(match qem d.c.Holds r1 with|some (r3,r4) =>let k25 (v:Bool):Option (Unit×Circ_desk):=let k24 (v23:Circ_desk):Option (Unit×Circ_desk):=some ((),v23);bif v then match qa7 i 6 x.Branch 0 d with|some (_,v6) =>k24 v6|none =>none else let k (v7:Bool):Option (Unit×Circ_desk):=bif v7 then match qct i 2 d with|some (_,v9) =>k24 v9|none =>none else bif !r4 then k24 d else bif r3.Pickup==x.Custody.Branch then match qdg i r3 d with|some (_,v11) =>k24 v11|none =>none else match qa7 i 6 r3.Pickup r3.Patron d with|some (_,v13) =>bif v13.err==0 then match qav v13.c.Holds r1 x.ID 2 0 with|some (r15,r16) =>(match qcr r15 r16 v13 with|some (_,v18) =>k24 v18|none =>none)|none =>none else k24 v13|none =>none;bif !r4 then k (!(x.Custody.State==3)) else k false;bif !r4 then k25 (!(x.Branch==x.Custody.Branch)) else k25 false|none =>none)|none =>none)|none =>none
def qa0 (d:Circ_desk):Option ((Circ×Int)×Circ_desk):=
 bif !(d.err==0) then some (((⟨0,[],[],[],[],[],[],⟨⟨0,[]⟩,⟨0,[]⟩,⟨0,[]⟩,⟨0,[]⟩⟩,[],0,0,false⟩:Circ),d.err),d) else some ((d.c,0),d)
def qb8 (c:Circ) (item:Int) (branch:Int):Option (Circ×Int):=
 match qcf c with|some d =>(match qcs item d with|some (r2,v) =>let k (v7:Circ_desk):Option (Circ×Int):=match qa0 v7 with|some ((r9,r10),v11) =>some (r9,r10)|none =>none;bif decide (0≤r2) then match qa7 r2 1 branch 0 v with|some (_,v4) =>(match qd8 r2 v4 with|some (_,v6) =>k v6|none =>none)|none =>none else k v|none =>none)|none =>none
def zae8:(Int×Int×(List Charge)×Int×Int×Unit)→Option ((Int×Int×(List Charge)×Int×Int×Unit)⊕((Int×Unit))):=fun (patron,vsum,v,v1,v2,_)=>
 bif decide (v2<v1) then match getI v v2 with|some x =>let k (vsum3:Int):Option ((Int×Int×(List Charge)×Int×Int×Unit)⊕((Int×Unit))):=some (.inl (patron,vsum3,v,v1,wr .i64 (v2+1),()));bif x.Patron==patron then k (wr .i64 (vsum+(wr .i64 (x.Amount-x.Paid)))) else k vsum|none =>none else some (.inr ((vsum,())))
def qbe (l:List Charge) (patron:Int):Option Int:=
 match zah zae8 (patron,0,l,(l.length:Int),0,()) with|some ((vsum,_)) =>some vsum|none =>none
def zaes:(Int×(List Loan)×Int×Int×(List Loan)×Unit)→Option ((Int×(List Loan)×Int×Int×(List Loan)×Unit)⊕(((List Loan)×Unit))):=fun (patron,v,v1,v2,l,_)=>
 bif decide (v2<v1) then match getI v v2 with|some x =>bif x.Patron==patron then bif decide (l.length+([x]:List Loan).length≤LIM) then some (.inl (patron,v,v1,wr .i64 (v2+1),l++([x]:List Loan),())) else none else some (.inl (patron,v,v1,wr .i64 (v2+1),l,()))|none =>none else some (.inr ((l,())))
def qag (l:List Loan) (patron:Int):Option (List Loan):=
 match zah zaes (patron,l,(l.length:Int),0,([]:List Loan),()) with|some ((l3,_)) =>some l3|none =>none
def zaen:(Int×Int×(List Loan)×Int×Int×Unit)→Option ((Int×Int×(List Loan)×Int×Int×Unit)⊕((Int×Unit))):=fun (day,n,v,v2,v3,_)=>
 bif decide (v3<v2) then match getI v v3 with|some x =>let k (n4:Int):Option ((Int×Int×(List Loan)×Int×Int×Unit)⊕((Int×Unit))):=some (.inl (day,n4,v,v2,wr .i64 (v3+1),()));bif decide (x.Due<day) then k (wr .i64 (n+1)) else k n|none =>none else some (.inr ((n,())))
def qa5 (l:List Loan) (patron:Int) (day:Int):Option Int:=
 match qag l patron with|some r1 =>(match zah zaen (day,0,r1,(r1.length:Int),0,()) with|some ((n,_)) =>some n|none =>none)|none =>none
def zaet:(Int×Int×(List Int)×(List Bool)×Unit)→Option ((Int×Int×(List Int)×(List Bool)×Unit)⊕(((List Int)×Unit))):=fun (v,v1,l,l2,_)=>
 bif decide (v1<v) then match getI l2 v1 with|some _ =>(match l2[v1.toNat]? with|some x =>bif x then bif decide (l.length+([wr .i64 (v1+1)]:List Int).length≤LIM) then some (.inl (v,wr .i64 (v1+1),l++([wr .i64 (v1+1)]:List Int),l2,())) else none else some (.inl (v,wr .i64 (v1+1),l,l2,()))|none =>none)|none =>none else some (.inr ((l,())))
def qah (p:Patron) (day:Int) (owed:Int) (late:Int):Option (List Int):=
 match zah zaet ((([p.Stopped,decide (p.Until<day),decide (1000<owed),decide (2<late)]).length:Int),0,([]:List Int),[p.Stopped,decide (p.Until<day),decide (1000<owed),decide (2<late)],()) with|some ((l,_)) =>some l|none =>none
def qfb (c:Circ) (p:Patron):Option Bool:=
 match qbe c.Charges p.ID with|some r1 =>(match qa5 c.Loans p.ID c.Today with|some r3 =>(match qah p c.Today r1 r3 with|some r5 =>some (decide (0<(r5.length:Int)))|none =>none)|none =>none)|none =>none
def zafa:(Int×Calendar×Unit)→Option ((Int×Calendar×Unit)⊕((Unit)⊕(Int×Int×Unit))):=fun (d,c,_)=>
 bif decide (0≤d) then match qcc c d with|some r1 =>bif r1 then some (.inr (.inr (d,0,()))) else some (.inl (wr .i64 (d-1),c,()))|none =>none else some (.inr (.inl (())))
def qbm (c:Calendar) (day:Int):Option (Int×Int):=
 match zah zafa ((if 109572<day then 109572 else day),c,()) with|some (.inl (_)) =>some (0,2)|some (.inr (v,v2,_)) =>some (v,v2)|none =>none
def qd2 (r:Rule) (c:Calendar) (day:Int) (vuntil:Int):Option (Int×Int):=
 match qbu day 0 109572 with|some r2 =>(let k17 (v:Bool):Option (Int×Int):=bif v then some (0,2) else let k16 (last:Int):Option (Int×Int):=let k15 (v5:Bool):Option (Int×Int):=bif v5 then some (0,15) else match qw c (if last<wr .i64 (day+r.Days) then last else wr .i64 (day+r.Days)) with|some (r7,r8) =>let k14 (v9:Bool):Option (Int×Int):=bif v9 then some (r7,0) else match qbm c last with|some (r11,r12) =>let k (v13:Bool):Option (Int×Int):=bif v13 then some (0,15) else some (r11,0);bif !(r12==0) then k true else k (decide (r11≤day))|none =>none;bif r8==0 then k14 (decide (r7≤last)) else k14 false|none =>none;bif r.Days==0 then k15 true else k15 (decide (last≤day));bif decide (0<r.Fixed) then k16 (if r.Fixed<vuntil then r.Fixed else vuntil) else k16 vuntil;bif !r2 then k17 true else match qbu vuntil 0 109572 with|some r4 =>k17 (!r4)|none =>none)|none =>none
def qee (c:Circ) (x:Item) (p:Patron) (branch:Int):Option (Int×Int):=
 let k26 (v:Bool):Option (Int×Int):=let k4 (v3:Int):Option (Int×Int):=some (0,v3);bif v then k4 12 else bif !(x.Custody.Branch==branch) then k4 1 else let k (v1:Bool):Option (Int×Int):=bif v1 then k4 16 else let k25 (_:Unit):Option (Int×Int):=match qfb c p with|some r12 =>(bif r12 then some (0,14) else match qcx c p.ID x with|some (r14,r15) =>(let k24 (v18:Bool):Option (Int×Int):=bif v18 then some (0,15) else match qcy c branch with|some r20 =>(match qd2 r14 r20 c.Today p.Until with|some (r22,r23) =>some (r22,r23)|none =>none)|none =>none;bif !r15 then k24 true else match qag c.Loans p.ID with|some r17 =>k24 (decide (r14.Loans≤(r17.length:Int)))|none =>none)|none =>none)|none =>none;bif x.Custody.State==3 then match qei c x with|some r5 =>(match qem c.Holds r5 with|some (r7,r8) =>let k10 (v9:Bool):Option (Int×Int):=bif v9 then some (0,16) else k25 ();bif r8 then k10 (!(r7.Patron==p.ID)) else k10 false|none =>none)|none =>none else k25 ();bif x.Custody.State==5 then k (!(x.Custody.Who==p.ID)) else k false;bif !(x.Custody.State==3) then k26 (!(x.Custody.State==5)) else k26 false
def qco (x:Loan) (v:Loan):Option Bool:=
 some (decide (v.Item<x.Item))
def qd6 (s:List Loan):Option (List Loan):=
 bif decide (([]:List Loan).length+s.length≤LIM) then some (([])++s) else none
def qdz (l:List Loan):Option ((List Loan)×Int):=
 match qak l with|some r1 =>bif !(r1==0) then some ([],r1) else some (l,0)|none =>none
def qbr (l:List Loan) (n:Loan):Option ((List Loan)×Int):=
 match qap n.Item with|some r1 =>(match qby (fun g x0=>qca x0 g.2.1) l ((),(r1.1,())) with|some (r3,r4) =>(bif decide (0≤r4) then some ([],7) else match qby (fun g x0=>qco x0 g.2.1) l ((),(n,())) with|some (r6,r7) =>let k (i:Int):Option ((List Loan)×Int):=match qd6 l with|some l9 =>(match qds l9 i ([n]) with|some l11 =>(match qdz l11 with|some (r13,r14) =>some (r13,r14)|none =>none)|none =>none)|none =>none;bif decide (r7<0) then k (l.length:Int) else k r7|none =>none)|none =>none)|none =>none
def qcq (l:List Loan) (e:Int) (d:Circ_desk):Option (Unit×Circ_desk):=
 let k3 (v1:Circ_desk):Option (Unit×Circ_desk):=let k (v2:List Loan):Option (Unit×Circ_desk):=some ((),(⟨⟨v1.c.Today,v1.c.Items,v1.c.Patrons,v2,v1.c.Holds,v1.c.Charges,v1.c.Rules,v1.c.Cals,v1.c.Moves,v1.c.NextHold,v1.c.NextCharge,v1.c.Local⟩,v1.err⟩:Circ_desk));bif v1.err==0 then k l else k v1.c.Loans;bif !(e==0) then match qu e d with|some (_,v) =>k3 v|none =>none else k3 d
def qef (l:List Hold) (vid:Int):Option ((List Hold)×Hold×Int):=
 match qbc l vid with|some r1 =>(bif decide (r1<0) then some ([],(⟨0,0,0,0,0,0,0,0,0,0,0⟩:Hold),9) else match qd7 l with|some l3 =>(match qdv l3 r1 (wr .i64 (r1+1)) with|some l5 =>(match getI l r1 with|some x =>some (l5,x,0)|none =>none)|none =>none)|none =>none)|none =>none
def qer (vid:Int) (d:Circ_desk):Option (Unit×Circ_desk):=
 let k (v5:Circ_desk):Option (Unit×Circ_desk):=some ((),v5);bif d.err==0 then match qef d.c.Holds vid with|some (r1,r2,r3) =>(match qcr r1 r3 d with|some (_,v) =>k v|none =>none)|none =>none else k d
def qcb (n:Int) (d:Circ_desk):Option ((Circ×Int×Int)×Circ_desk):=
 bif !(d.err==0) then some (((⟨0,[],[],[],[],[],[],⟨⟨0,[]⟩,⟨0,[]⟩,⟨0,[]⟩,⟨0,[]⟩⟩,[],0,0,false⟩:Circ),0,d.err),d) else some ((d.c,n,0),d)
def qej (h:Hold) (x:Item):Option Bool:=
 let k (v1:Bool):Option Bool:=some v1;bif h.Record==x.Record then bif h.Item==0 then k true else k (h.Item==x.ID) else k false
def qdb (h:Hold) (v:Int) (v1:Item):Option Bool:=
 let k5 (v2:Bool):Option Bool:=let k (v4:Bool):Option Bool:=some v4;bif v2 then match qej h v1 with|some r3 =>k r3|none =>none else k false;bif h.Patron==v then k5 (h.State==1) else k5 false
def qbq (c:Circ) (item:Int) (vid:Int) (branch:Int):Option (Circ×Int×Int):=
 match qcf c with|some d =>(match qcs item d with|some (r2,v) =>(match qcn c.Patrons vid with|some (r4,r5) =>let k40 (v8:Circ_desk):Option (Circ×Int×Int):=bif !(v8.err==0) then some ((⟨0,[],[],[],[],[],[],⟨⟨0,[]⟩,⟨0,[]⟩,⟨0,[]⟩,⟨0,[]⟩⟩,[],0,0,false⟩:Circ),0,v8.err) else match getI c.Items r2 with|some x =>(match qee c x r4 branch with|some (r10,r11) =>(bif !(r11==0) then some ((⟨0,[],[],[],[],[],[],⟨⟨0,[]⟩,⟨0,[]⟩,⟨0,[]⟩,⟨0,[]⟩⟩,[],0,0,false⟩:Circ),0,r11) else match qa7 r2 3 branch vid v8 with|some (_,v13) =>(match qbr c.Loans (⟨item,vid,c.Today,r10,0,false⟩:Loan) with|some (r15,r16) =>(match qcq r15 r16 v13 with|some (_,v18) =>(match qam c item with|some (r20,r21) =>(bif r21 then match qer r20.ID v18 with|some (_,v23) =>(match qcb r10 v23 with|some ((r25,r26,r27),v28) =>some (r25,r26,r27)|none =>none)|none =>none else match qb (fun g x0=>qdb x0 g.2.1 g.2.2.1) c.Holds ((),(vid,x,())) with|some r30 =>let k (v34:Circ_desk):Option (Circ×Int×Int):=match qcb r10 v34 with|some ((r36,r37,r38),v39) =>some (r36,r37,r38)|none =>none;bif decide (0≤r30) then match getI c.Holds r30 with|some x31 =>(match qer x31.ID v18 with|some (_,v33) =>k v33|none =>none)|none =>none else k v18|none =>none)|none =>none)|none =>none)|none =>none)|none =>none)|none =>none)|none =>none;bif !r5 then match qu 9 v with|some (_,v7) =>k40 v7|none =>none else k40 v|none =>none)|none =>none)|none =>none
def qe7 (l:List Loan) (i:Int):Option (List Loan):=
 match qd6 l with|some l1 =>(match qdu l1 i (wr .i64 (i+1)) with|some l3 =>some l3|none =>none)|none =>none
def qdo (l:List Loan) (item:Int):Option ((List Loan)×Loan×Int):=
 match qap item with|some r1 =>(match qby (fun g x0=>qca x0 g.2.1) l ((),(r1.1,())) with|some (r3,r4) =>(bif decide (r4<0) then some ([],(⟨0,0,0,0,0,false⟩:Loan),9) else match qe7 l r4 with|some r6 =>some (r6,r3,0)|none =>none)|none =>none)|none =>none
def qed (day:Int) (weekday:Int):Option Int:=
 match qc8 0 with|some r1 =>bif decide (day<(wr .i64 ((wr .i64 (weekday-r1))+7)).tmod 7) then some 0 else some (wr .i64 ((wr .i64 ((wr .i64 (day-((wr .i64 ((wr .i64 (weekday-r1))+7)).tmod 7))).tdiv 7))+1))|none =>none
def zaer:(Int×Int×Int×(V7 Bool)×Int×Calendar×(V7 Bool)×Unit)→Option ((Int×Int×Int×(V7 Bool)×Int×Calendar×(V7 Bool)×Unit)⊕((Int×Int×Int×Calendar×(V7 Bool)×Unit))):=fun (vfrom,vto,n,v,v2,c,vopen,_)=>
 bif decide (v2<7) then let k8 (v3:Bool):Option ((Int×Int×Int×(V7 Bool)×Int×Calendar×(V7 Bool)×Unit)⊕((Int×Int×Int×Calendar×(V7 Bool)×Unit))):=let k (n7:Int):Option ((Int×Int×Int×(V7 Bool)×Int×Calendar×(V7 Bool)×Unit)⊕((Int×Int×Int×Calendar×(V7 Bool)×Unit))):=some (.inl (vfrom,vto,n7,v,wr .i64 (v2+1),c,vopen,()));bif v3 then match qed vto v2 with|some r4 =>(match qed (wr .i64 (vfrom-1)) v2 with|some r6 =>k (wr .i64 (n+(wr .i64 (r4-r6))))|none =>none)|none =>none else k n;bif v2==0 then k8 v.x0 else bif v2==1 then k8 v.x1 else bif v2==2 then k8 v.x2 else bif v2==3 then k8 v.x3 else bif v2==4 then k8 v.x4 else bif v2==5 then k8 v.x5 else bif v2==6 then k8 v.x6 else none else some (.inr ((vfrom,vto,n,c,vopen,())))
def z3g:(Int×Int×Int×(List Int)×Int×Int×(V7 Bool)×Unit)→Option ((Int×Int×Int×(List Int)×Int×Int×(V7 Bool)×Unit)⊕((Int×Unit))):=fun (vfrom,vto,n,v,v12,v13,vopen,_)=>
 bif decide (v13<v12) then match getI v v13 with|some x =>let k20 (v14:Bool):Option ((Int×Int×Int×(List Int)×Int×Int×(V7 Bool)×Unit)⊕((Int×Unit))):=let k19 (v17:Bool):Option ((Int×Int×Int×(List Int)×Int×Int×(V7 Bool)×Unit)⊕((Int×Unit))):=let k (n18:Int):Option ((Int×Int×Int×(List Int)×Int×Int×(V7 Bool)×Unit)⊕((Int×Unit))):=some (.inl (vfrom,vto,n18,v,v12,wr .i64 (v13+1),vopen,()));bif v17 then k (wr .i64 (n-1)) else k n;bif v14 then match qc8 x with|some r15 =>bif r15==0 then k19 vopen.x0 else bif r15==1 then k19 vopen.x1 else bif r15==2 then k19 vopen.x2 else bif r15==3 then k19 vopen.x3 else bif r15==4 then k19 vopen.x4 else bif r15==5 then k19 vopen.x5 else bif r15==6 then k19 vopen.x6 else none|none =>none else k19 false;bif decide (vfrom≤x) then k20 (decide (x≤vto)) else k20 false|none =>none else some (.inr ((n,())))
def qac (c:Calendar) (vfrom:Int) (vto:Int):Option Int:=
 bif decide ((if 109572<vto then 109572 else vto)<(if vfrom<0 then 0 else vfrom)) then some 0 else match qaq c with|some r1 =>(match zah zaer ((if vfrom<0 then 0 else vfrom),(if 109572<vto then 109572 else vto),0,r1,0,c,r1,()) with|some ((vfrom9,vto10,n,c11,vopen,_)) =>(match zah z3g (vfrom9,vto10,n,c11.Closed,(c11.Closed.length:Int),0,vopen,()) with|some ((n21,_)) =>some n21|none =>none)|none =>none)|none =>none
def qfi (r:Rule) (c:Calendar) (due:Int) (back:Int):Option Int:=
 match qt c with|some r2 =>(let k10 (v:Bool):Option Int:=let k (v7:Bool):Option Int:=bif v7 then some 0 else match qac c (wr .i64 (due+1)) back with|some r9 =>bif decide (r9≤r.Grace) then some 0 else some (if r.MaxFine<wr .i64 (r9*r.Fine) then r.MaxFine else wr .i64 (r9*r.Fine))|none =>none;bif v then k true else match qd3 back with|some r6 =>k (!r6)|none =>none;bif !(r2==0) then k10 true else match qd3 due with|some r4 =>k10 (!r4)|none =>none)|none =>none
def qdc (l:List Charge) (c:Charge):Option ((List Charge)×Int):=
 bif decide (l.length≤LIM) then bif decide (l.length+([c]:List Charge).length≤LIM) then match qao (l++([c]:List Charge)) with|some r1 =>bif !(r1==0) then some ([],r1) else some (l++([c]:List Charge),0)|none =>none else none else none
def qe8 (vid:Int) (item:Int) (kind:Int) (amount:Int) (d:Circ_desk):Option (Unit×Circ_desk):=
 bif !(d.err==0) then some ((),d) else bif decide (99999<d.c.NextCharge) then match qu 13 d with|some (_,v) =>some ((),v)|none =>none else match qdc d.c.Charges (⟨d.c.NextCharge,vid,item,d.c.Today,kind,amount,0⟩:Charge) with|some (r2,r3) =>bif !(r3==0) then match qu r3 d with|some (_,v5) =>some ((),v5)|none =>none else some ((),(⟨⟨d.c.Today,d.c.Items,d.c.Patrons,d.c.Loans,d.c.Holds,r2,d.c.Rules,d.c.Cals,d.c.Moves,d.c.NextHold,wr .i64 (d.c.NextCharge+1),d.c.Local⟩,d.err⟩:Circ_desk))|none =>none
def qc5 (x:Charge) (v:Int) (v1:Int) (v2:Int):Option Bool:=
 let k6 (v3:Bool):Option Bool:=let k (v5:Bool):Option Bool:=some v5;bif v3 then bif v2==0 then k true else k (x.Kind==v2) else k false;bif x.Patron==v then k6 (x.Item==v1) else k6 false
def zae1 {γ0:Type} (p:γ0→Charge→Option Bool):(γ0×Int×Int×(List Charge)×Int×Int×(List Charge)×Unit)→Option ((γ0×Int×Int×(List Charge)×Int×Int×(List Charge)×Unit)⊕((Int×Int×(List Charge)×Unit))):=fun (g,paid,n,v,v1,v2,l,_)=>
 bif decide (v2<v1) then match getI v v2 with|some x =>(match p g x with|some r =>bif r then some (.inl (g,wr .i64 (paid+x.Paid),wr .i64 (n+1),v,v1,wr .i64 (v2+1),l,())) else bif decide (l.length+([x]:List Charge).length≤LIM) then some (.inl (g,paid,n,v,v1,wr .i64 (v2+1),l++([x]:List Charge),())) else none|none =>none)|none =>none else some (.inr ((paid,n,l,())))
def qau {γ0:Type} (p:γ0→Charge→Option Bool) (l:List Charge) (g:γ0):Option ((List Charge)×Int×Int):=
 match zah (zae1 p) (g,0,0,l,(l.length:Int),0,([]:List Charge),()) with|some ((paid,n,l3,_)) =>some (l3,paid,n)|none =>none
def qbv (l:List Charge) (patron:Int) (item:Int) (kind:Int):Option ((List Charge)×Int):=
 match qau (fun g x0=>qc5 x0 g.2.1 g.2.2.1 g.2.2.2.1) l ((),(patron,item,kind,())) with|some (r1,r2,r3) =>some (r1,r2)|none =>none
def qe6 (i:Int) (branch:Int) (d:Circ_desk):Option (Unit×Circ_desk):=
 match getI d.c.Items i with|some x =>(match qa7 i 4 branch 0 d with|some (_,v) =>(bif !(v.err==0) then some ((),v) else match qdo v.c.Loans x.ID with|some (r2,r3,r4) =>(match qcq r2 r4 v with|some (_,v6) =>(match qcx v6.c r3.Patron x with|some (r8,r9) =>let k (v17:Circ_desk):Option (Unit×Circ_desk):=match qbv v17.c.Charges r3.Patron x.ID 2 with|some (r19,r20) =>some ((),(⟨⟨v17.c.Today,v17.c.Items,v17.c.Patrons,v17.c.Loans,v17.c.Holds,r19,v17.c.Rules,v17.c.Cals,v17.c.Moves,v17.c.NextHold,v17.c.NextCharge,v17.c.Local⟩,v17.err⟩:Circ_desk))|none =>none;bif r9 then match qcy v6.c branch with|some r11 =>(match qfi r8 r11 r3.Due v6.c.Today with|some r13 =>bif !(r13==0) then match qe8 r3.Patron x.ID 1 r13 v6 with|some (_,v15) =>k v15|none =>none else k v6|none =>none)|none =>none else k v6|none =>none)|none =>none)|none =>none)|none =>none)|none =>none
def qe2 (c:Circ) (item:Int) (branch:Int):Option (Circ×Int×Int):=
 match qcf c with|some d =>(match qcs item d with|some (r2,v) =>(bif decide (r2<0) then match qcb 0 v with|some ((r4,r5,r6),v7) =>some (r4,r5,r6)|none =>none else match getI c.Items r2 with|some x =>let k43 (v9:Bool):Option (Circ×Int×Int):=let k42 (v23:Circ_desk):Option (Circ×Int×Int):=match qam v23.c item with|some (r25,r26) =>let k41 (v27:Bool):Option (Circ×Int×Int):=let k (v32:Circ_desk):Option (Circ×Int×Int):=match qam v32.c item with|some (r34,r35) =>(match qcb r34.ID v32 with|some ((r37,r38,r39),v40) =>some (r37,r38,r39)|none =>none)|none =>none;bif v27 then match qdg r2 r25 v23 with|some (_,v29) =>k v29|none =>none else match qd8 r2 v23 with|some (_,v31) =>k v31|none =>none;bif r26 then k41 (r25.State==2) else k41 false|none =>none;bif v9 then match qe6 r2 branch v with|some (_,v11) =>k42 v11|none =>none else bif x.Custody.State==8 then match qa7 r2 4 branch 0 v with|some (_,v13) =>k42 v13|none =>none else bif x.Custody.State==11 then match qa7 r2 14 branch 0 v with|some (_,v15) =>k42 v15|none =>none else bif x.Custody.State==6 then match qa7 r2 7 branch 0 v with|some (_,v17) =>k42 v17|none =>none else match qu 12 v with|some (_,v19) =>k42 v19|none =>none;bif x.Custody.State==4 then k43 (x.Custody.State==4) else bif x.Custody.State==9 then k43 (x.Custody.State==9) else k43 (x.Custody.State==10)|none =>none)|none =>none)|none =>none
def zaep:(Bool×Int×Circ×Circ×Unit)→Option ((Bool×Int×Circ×Circ×Unit)⊕((Bool×Circ×Circ×Unit))):=fun (ok,i,v,c,_)=>
 bif decide (i≤3) then match qb8 c i 1 with|some (r8,r9) =>let k (v10:Bool):Option ((Bool×Int×Circ×Circ×Unit)⊕((Bool×Circ×Circ×Unit))):=some (.inl (v10,wr .i64 (i+1),v,r8,()));bif ok then k (r9==0) else k false|none =>none else some (.inr ((ok,v,c,())))
def qa9:Option (Circ×Bool):=
 match qc7 with|some r1 =>(match q9 r1 (⟨2,5,1,1,0,[],⟨0,0,0,0⟩⟩:Item) with|some (r3,r4) =>(match q9 r3 (⟨3,6,1,1,0,[],⟨0,0,0,0⟩⟩:Item) with|some (r6,r7) =>let k23 (v:Bool):Option (Circ×Bool):=match zah zaep (v,1,(⟨0,[],[],[],[],[],[],⟨⟨0,[]⟩,⟨0,[]⟩,⟨0,[]⟩,⟨0,[]⟩⟩,[],0,0,false⟩:Circ),r6,()) with|some ((ok,v11,c,_)) =>(match qbq (⟨110,c.Items,c.Patrons,c.Loans,c.Holds,c.Charges,c.Rules,c.Cals,c.Moves,c.NextHold,c.NextCharge,c.Local⟩:Circ) 2 7 1 with|some (r13,r14,r15) =>let k22 (v16:Bool):Option (Circ×Bool):=match qe2 (⟨120,r13.Items,r13.Patrons,r13.Loans,r13.Holds,r13.Charges,r13.Rules,r13.Cals,r13.Moves,r13.NextHold,r13.NextCharge,r13.Local⟩:Circ) 2 1 with|some (r18,r19,r20) =>let k (v21:Bool):Option (Circ×Bool):=some ((⟨300,r18.Items,r18.Patrons,r18.Loans,r18.Holds,r18.Charges,r18.Rules,r18.Cals,r18.Moves,r18.NextHold,r18.NextCharge,r18.Local⟩:Circ),v21);bif v16 then k (r20==0) else k false|none =>none;bif ok then k22 (r15==0) else k22 false|none =>none)|none =>none;bif r4==0 then k23 (r7==0) else k23 false|none =>none)|none =>none)|none =>none
def zky:(Int×Int×Int×(List Move)×Int×Int×Unit)→Option ((Int×Int×Int×(List Move)×Int×Int×Unit)⊕((Int×Int×Unit))):=fun (item,loans,last,v,v1,v2,_)=>
 bif decide (v2<v1) then match getI v v2 with|some x =>bif !(x.Item==item) then some (.inl (item,loans,last,v,v1,wr .i64 (v2+1),())) else let k7 (loans5:Int) (last6:Int):Option ((Int×Int×Int×(List Move)×Int×Int×Unit)⊕((Int×Int×Unit))):=some (.inl (item,loans5,last6,v,v1,wr .i64 (v2+1),()));bif x.Kind==3 then k7 (wr .i64 (loans+1)) (if last<x.Day then x.Day else last) else let k (v3:Bool):Option ((Int×Int×Int×(List Move)×Int×Int×Unit)⊕((Int×Int×Unit))):=bif v3 then k7 loans (if last<x.Day then x.Day else last) else k7 loans last;bif x.Kind==1 then k (x.Kind==1) else k (x.Kind==4)|none =>none else some (.inr ((loans,last,())))
def qa4 (c:Circ) (item:Int):Option (Int×Int):=
 match zah zky (item,0,(-1),c.Moves,(c.Moves.length:Int),0,()) with|some ((loans,last,_)) =>some (loans,last)|none =>none
def zae0:(Int×Int×(List Item)×Int×Int×Unit)→Option ((Int×Int×(List Item)×Int×Int×Unit)⊕((Int×Unit))):=fun (record,n,v,v1,v2,_)=>
 bif decide (v2<v1) then match getI v v2 with|some x =>let k5 (v3:Bool):Option ((Int×Int×(List Item)×Int×Int×Unit)⊕((Int×Unit))):=let k (n4:Int):Option ((Int×Int×(List Item)×Int×Int×Unit)⊕((Int×Unit))):=some (.inl (record,n4,v,v1,wr .i64 (v2+1),()));bif v3 then k (wr .i64 (n+1)) else k n;bif x.Record==record then k5 (!(x.Custody.State==12)) else k5 false|none =>none else some (.inr ((n,())))
def qat (c:Circ) (record:Int):Option Int:=
 match zah zae0 (record,0,c.Items,(c.Items.length:Int),0,()) with|some ((n,_)) =>some n|none =>none
def qch (h:Hold) (v:Item):Option Bool:=
 let k (v1:Bool):Option Bool:=some v1;bif h.Record==v.Record then k true else k (h.Item==v.ID)
def qea (x:Int) (y:Int):Option Int:=
 match qdj x with|some r1 =>(match qdj y with|some r3 =>let k (v:Int):Option Int:=some v;bif r1 then bif r3 then k 0 else k (-1) else bif r3 then some 1 else bif decide (x<y) then some (-1) else bif decide (y<x) then some 1 else some 0|none =>none)|none =>none
def zae6:(Int×(List Int)×Int×Int×Unit)→Option ((Int×(List Int)×Int×Int×Unit)⊕((Int×Unit)⊕(Int×Unit))):=fun (zero,v,v1,v2,_)=>
 bif decide (v2<v1) then match getI v v2 with|some x =>bif !(x==zero) then some (.inr (.inr (x,()))) else some (.inl (zero,v,v1,wr .i64 (v2+1),()))|none =>none else some (.inr (.inl (zero,())))
def qbb (vals:List Int):Option Int:=
 match zah zae6 (0,vals,(vals.length:Int),0,()) with|some (.inl (zero,_)) =>some zero|some (.inr (v,_)) =>some v|none =>none
def qd5 (a:Weed_candidate) (b:Weed_candidate):Option Int:=
 match qea a.loans b.loans with|some r1 =>(match qea a.last b.last with|some r3 =>(match qea a.id_ b.id_ with|some r5 =>(match qbb ([r1,r3,r5]) with|some r7 =>some r7|none =>none)|none =>none)|none =>none)|none =>none
def zxa:(Int×Int×(List Item)×Int×Int×Circ×(List Weed_candidate)×Unit)→Option ((Int×Int×(List Item)×Int×Int×Circ×(List Weed_candidate)×Unit)⊕(((List Weed_candidate)×Unit))):=fun (days,loans,v,v1,v2,c,l,_)=>
 bif decide (v2<v1) then match getI v v2 with|some x =>(match qbx (fun g x0=>qch x0 g.2.1) c.Holds ((),(x,())) with|some r3 =>(match qa4 c x.ID with|some (r5,r6) =>let k11 (v7:Bool):Option ((Int×Int×(List Item)×Int×Int×Circ×(List Weed_candidate)×Unit)⊕(((List Weed_candidate)×Unit))):=let k10 (v8:Bool):Option ((Int×Int×(List Item)×Int×Int×Circ×(List Weed_candidate)×Unit)⊕(((List Weed_candidate)×Unit))):=let k (v9:Bool):Option ((Int×Int×(List Item)×Int×Int×Circ×(List Weed_candidate)×Unit)⊕(((List Weed_candidate)×Unit))):=bif v9 then bif decide (l.length+([(⟨x.ID,x.Record,r5,r6⟩:Weed_candidate)]:List Weed_candidate).length≤LIM) then some (.inl (days,loans,v,v1,wr .i64 (v2+1),c,l++([(⟨x.ID,x.Record,r5,r6⟩:Weed_candidate)]:List Weed_candidate),())) else none else some (.inl (days,loans,v,v1,wr .i64 (v2+1),c,l,()));bif v8 then k (!r3) else k false;bif v7 then k10 (decide (days<wr .i64 (c.Today-r6))) else k10 false;bif x.Custody.State==3 then k11 (decide (r5≤loans)) else k11 false|none =>none)|none =>none)|none =>none else some (.inr ((l,())))
def qi (c:Circ) (days:Int) (loans:Int):Option (List Weed_candidate):=
 match zah zxa (days,loans,c.Items,(c.Items.length:Int),0,c,([]:List Weed_candidate),()) with|some ((l,_)) =>(match qdd (fun g x0 x1=>qd5 x0 x1) l ((),()) with|some l12 =>some l12|none =>none)|none =>none
def zk2:((List Weed_candidate)×Int×Int×(List Int)×Unit)→Option (((List Weed_candidate)×Int×Int×(List Int)×Unit)⊕(((List Int)×Unit))):=fun (v,v2,v3,l,_)=>
 bif decide (v3<v2) then match getI v v3 with|some x =>bif decide (l.length+([x.id_]:List Int).length≤LIM) then some (.inl (v,v2,wr .i64 (v3+1),l++([x.id_]:List Int),())) else none|none =>none else some (.inr ((l,())))
def qas (c:Circ) (days:Int) (loans:Int):Option (List Int):=
 match qi c days loans with|some r1 =>(match zah zk2 (r1,(r1.length:Int),0,([]:List Int),()) with|some ((l,_)) =>some l|none =>none)|none =>none
def zk0:((List Int)×(List Int)×Int×Unit)→Option (((List Int)×(List Int)×Int×Unit)⊕((Unit)⊕(Bool×Unit))):=fun (a,b,i,_)=>
 bif decide (i<(a.length:Int)) then match getI a i with|some x =>(match getI b i with|some x1 =>bif !(x==x1) then some (.inr (.inr (false,()))) else some (.inl (a,b,wr .i64 (i+1),()))|none =>none)|none =>none else some (.inr (.inl (())))
def qaj (a:List Int) (b:List Int):Option Bool:=
 bif !((a.length:Int)==(b.length:Int)) then some false else match zah zk0 (a,b,0,()) with|some (.inl (_)) =>some true|some (.inr (v,_)) =>some v|none =>none
def qc1 (x:Item) (v:Int):Option Bool:=
 some (x.ID==v)
def qcg {γ0:Type} (p:γ0→Item→Option Bool) (s:List Item) (g:γ0):Option Bool:=
 match qa p s g with|some r1 =>some (decide (0≤r1))|none =>none
def qdl (x:Item) (record:Int):Option Bool:=
 let k (v:Bool):Option Bool:=some v;bif x.Record==record then k (!(x.Custody.State==12)) else k false
def qda (y:Item) (v:Item):Option Bool:=
 let k (v2:Bool):Option Bool:=some v2;bif !(y.ID==v.ID) then match qdl y v.Record with|some r1 =>k r1|none =>none else k false
def qcm (h:Hold) (v:Item) (v1:Bool):Option Bool:=
 let k (v3:Bool):Option Bool:=some v3;bif h.Item==v.ID then k true else bif v1 then k (h.Record==v.Record) else k false
def qad (c:Circ) (x:Item):Option Bool:=
 match qcg (fun g x0=>qda x0 g.2.1) c.Items ((),(x,())) with|some r1 =>(match qdl x x.Record with|some r3 =>let k (v:Bool):Option Bool:=match qbx (fun g x0=>qcm x0 g.2.1 g.2.2.1) c.Holds ((),(x,v,())) with|some r5 =>some r5|none =>none;bif r3 then k (!r1) else k false|none =>none)|none =>none
def qet (c:Circ) (item:Int):Option (Circ×Int):=
 match qcf c with|some d =>(match qcs item d with|some (r2,v) =>let k26 (v5:Bool):Option (Circ×Int):=let k25 (v8:Circ_desk):Option (Circ×Int):=match qct r2 15 v8 with|some (_,v10) =>(match qb1 c.Loans item with|some (r12,r13) =>let k (v20:Circ_desk):Option (Circ×Int):=match qa0 v20 with|some ((r22,r23),v24) =>some (r22,r23)|none =>none;bif r13 then match qdo c.Loans item with|some (r15,r16,r17) =>(match qcq r15 r17 v10 with|some (_,v19) =>k v19|none =>none)|none =>none else k v10|none =>none)|none =>none;bif v5 then match qu 10 v with|some (_,v7) =>k25 v7|none =>none else k25 v;bif decide (0≤r2) then match getI c.Items r2 with|some x =>(match qad c x with|some r4 =>k26 r4|none =>none)|none =>none else k26 false|none =>none)|none =>none
def zava:((List Int)×(List Int)×Int×Int×Circ×Circ×Unit)→Option (((List Int)×(List Int)×Int×Int×Circ×Circ×Unit)⊕(((List Int)×Circ×Circ×Unit)⊕((List Int)×Int×Circ×Unit))):=fun (l,v,v1,v2,c,v3,_)=>
 bif decide (v2<v1) then match getI v v2 with|some x =>(match qcg (fun g x0=>qc1 x0 g.2.1) c.Items ((),(x,())) with|some r4 =>bif !r4 then some (.inr (.inr ([],9,(⟨0,[],[],[],[],[],[],⟨⟨0,[]⟩,⟨0,[]⟩,⟨0,[]⟩,⟨0,[]⟩⟩,[],0,0,false⟩:Circ),()))) else some (.inl (l,v,v1,wr .i64 (v2+1),c,v3,()))|none =>none)|none =>none else some (.inr (.inl (l,c,v3,())))
def zavb:((List Int)×Int×Int×Circ×Circ×(List Int)×Unit)→Option (((List Int)×Int×Int×Circ×Circ×(List Int)×Unit)⊕((Circ×Circ×(List Int)×Unit))):=fun (v,v7,v8,c,v9,l,_)=>
 bif decide (v8<v7) then match getI v v8 with|some x =>(match qet c x with|some (r10,r11) =>bif r11==0 then bif decide (l.length+([x]:List Int).length≤LIM) then some (.inl (v,v7,wr .i64 (v8+1),r10,v9,l++([x]:List Int),())) else none else some (.inl (v,v7,wr .i64 (v8+1),c,v9,l,()))|none =>none)|none =>none else some (.inr ((c,v9,l,())))
def ql (c:Circ) (l:List Int):Option (Circ×(List Int)×Int):=
 match zah zava (l,l,(l.length:Int),0,c,(⟨0,[],[],[],[],[],[],⟨⟨0,[]⟩,⟨0,[]⟩,⟨0,[]⟩,⟨0,[]⟩⟩,[],0,0,false⟩:Circ),()) with|some (.inl (l5,c6,v,_)) =>(match zah zavb (l5,(l5.length:Int),0,c6,v,([]:List Int),()) with|some ((c12,v13,l14,_)) =>some (c12,l14,0)|none =>none)|some (.inr (v15,v16,v17,_)) =>some (v17,v15,v16)|none =>none
def zafb:(Int×(List Weed_candidate)×Int×Int×Circ×(List Int)×(List MapI)×Unit)→Option ((Int×(List Weed_candidate)×Int×Int×Circ×(List Int)×(List MapI)×Unit)⊕(((List Int)×Unit))):=fun (most,v,v2,v3,c,l,l4,_)=>
 bif decide (v3<v2) then match getI v v3 with|some x =>let k (v6:Bool):Option ((Int×(List Weed_candidate)×Int×Int×Circ×(List Int)×(List MapI)×Unit)⊕(((List Int)×Unit))):=bif v6 then bif decide (l.length+([x.id_]:List Int).length≤LIM) then some (.inl (most,v,v2,wr .i64 (v3+1),c,l++([x.id_]:List Int),setM MapI.key x.record (⟨x.record,wr .i64 ((z26 MapI.key MapI.val l4 x.record)+1)⟩:MapI) l4,())) else none else some (.inl (most,v,v2,wr .i64 (v3+1),c,l,l4,()));bif decide ((l.length:Int)<most) then match qat c x.record with|some r5 =>k (decide (1<wr .i64 (r5-(z26 MapI.key MapI.val l4 x.record))))|none =>none else k false|none =>none else some (.inr ((l,())))
def qbp (c:Circ) (days:Int) (loans:Int) (most:Int):Option (List Int):=
 match qi c days loans with|some r1 =>(match zah zafb (most,r1,(r1.length:Int),0,c,([]:List Int),([]:List MapI),()) with|some ((l,_)) =>some l|none =>none)|none =>none
def qfc:Option Bool:=
 match qa9 with|some (r1,r2) =>(match qa4 r1 2 with|some (r4,r5) =>let k53 (v:Bool):Option Bool:=let k52 (v6:Bool):Option Bool:=let k51 (v9:Bool):Option Bool:=let k50 (v14:Bool):Option Bool:=let k49 (v19:Bool):Option Bool:=let k48 (v24:Bool):Option Bool:=bif v24 then some false else match ql r1 ([1,3]) with|some (r26,r27,r28) =>(match ql r1 ([1,9]) with|some (r30,r31,r32) =>(match qbp r1 50 1 5 with|some r34 =>(match qaj r34 ([1]) with|some r36 =>let k47 (v37:Bool):Option Bool:=let k46 (v40:Bool):Option Bool:=let k45 (v43:Bool):Option Bool:=let k (v44:Bool):Option Bool:=some v44;bif v43 then k (r32==9) else k false;bif v40 then match qat r26 5 with|some r42 =>k45 (r42==1)|none =>none else k45 false;bif v37 then match qaj r27 ([1,3]) with|some r39 =>k46 r39|none =>none else k46 false;bif r36 then k47 (r28==0) else k47 false|none =>none)|none =>none)|none =>none)|none =>none;bif v19 then k48 true else match qas r1 50 0 with|some r21 =>(match qaj r21 ([1,3]) with|some r23 =>k48 (!r23)|none =>none)|none =>none;bif v14 then k49 true else match qas r1 190 1 with|some r16 =>(match qaj r16 ([1,3]) with|some r18 =>k49 (!r18)|none =>none)|none =>none;bif v9 then k50 true else match qas r1 50 1 with|some r11 =>(match qaj r11 ([1,3,2]) with|some r13 =>k50 (!r13)|none =>none)|none =>none;bif v6 then k51 true else match qat r1 5 with|some r8 =>k51 (!(r8==2))|none =>none;bif v then k52 true else k52 (!(r5==120));bif !r2 then k53 true else k53 (!(r4==1))|none =>none)|none =>none
def zxd:(Int×Circ×Unit)→Option ((Int×Circ×Unit)⊕((Circ×Unit)⊕(Bool×Unit))):=fun (i,c,_)=>
 bif decide (i<(c.Items.length:Int)) then match getI c.Items i with|some x =>bif decide (300<(x.Call.length:Int)) then some (.inr (.inr (false,()))) else some (.inl (wr .i64 (i+1),c,()))|none =>none else some (.inr (.inl (c,())))
def zxe:(Int×Circ×Unit)→Option ((Int×Circ×Unit)⊕((Circ×Unit)⊕(Bool×Unit))):=fun (i,c,_)=>
 bif decide (i<(c.Patrons.length:Int)) then match getI c.Patrons i with|some x =>bif decide (300<(x.Name.length:Int)) then some (.inr (.inr (false,()))) else some (.inl (wr .i64 (i+1),c,()))|none =>none else some (.inr (.inl (c,())))
def zgy:(Int×Circ×Unit)→Option ((Int×Circ×Unit)⊕((Unit)⊕(Bool×Unit))):=fun (i,c,_)=>
 bif decide (i<4) then let k (v:Int) (v8:List Int):Option ((Int×Circ×Unit)⊕((Unit)⊕(Bool×Unit))):=bif decide (20<(v8.length:Int)) then some (.inr (.inr (false,()))) else some (.inl (wr .i64 (i+1),c,()));bif i==0 then k c.Cals.x0.Week c.Cals.x0.Closed else bif i==1 then k c.Cals.x1.Week c.Cals.x1.Closed else bif i==2 then k c.Cals.x2.Week c.Cals.x2.Closed else bif i==3 then k c.Cals.x3.Week c.Cals.x3.Closed else none else some (.inr (.inl (())))
def qr (c:Circ):Option Bool:=
 let k16 (v:Bool):Option Bool:=let k15 (v1:Bool):Option Bool:=let k14 (v2:Bool):Option Bool:=let k13 (v3:Bool):Option Bool:=let k12 (v4:Bool):Option Bool:=let k (v5:Bool):Option Bool:=bif v5 then some false else match zah zxd (0,c,()) with|some (.inl (c6,_)) =>(match zah zxe (0,c6,()) with|some (.inl (c7,_)) =>(match zah zgy (0,c7,()) with|some (.inl (_)) =>some true|some (.inr (v9,_)) =>some v9|none =>none)|some (.inr (v10,_)) =>some v10|none =>none)|some (.inr (v11,_)) =>some v11|none =>none;bif v4 then k true else k (decide (200<(c.Moves.length:Int)));bif v3 then k12 true else k12 (decide (10<(c.Rules.length:Int)));bif v2 then k13 true else k13 (decide (30<(c.Charges.length:Int)));bif v1 then k14 true else k14 (decide (12<(c.Loans.length:Int)));bif v then k15 true else k15 (decide (12<(c.Holds.length:Int)));bif decide (10<(c.Items.length:Int)) then k16 true else k16 (decide (8<(c.Patrons.length:Int)))
def qb9 (s:List UInt8) (i:Int):Option (Int×Int):=
 match getI s i with|some b =>let k35 (v:Bool):Option (Int×Int):=bif v then some (wr .i64 (b.toNat:Int),1) else let k34 (v1:Bool):Option (Int×Int):=let k33 (v2:Bool):Option (Int×Int):=let k32 (v4:Bool):Option (Int×Int):=let k31 (v6:Bool):Option (Int×Int):=let k (v8:Int) (v9:Int):Option (Int×Int):=some (v8,v9);bif v6 then match getI s (wr .i64 (i+1)) with|some b7 =>bif decide (160≤wr .i64 ((wr .i64 ((wr .i64 ((wr .i64 ((wr .i64 (b.toNat:Int))-192))*64))+(wr .i64 (b7.toNat:Int))))-128)) then k (wr .i64 ((wr .i64 ((wr .i64 ((wr .i64 ((wr .i64 (b.toNat:Int))-192))*64))+(wr .i64 (b7.toNat:Int))))-128)) 2 else k 0 0|none =>none else let k30 (v10:Bool):Option (Int×Int):=let k29 (v11:Bool):Option (Int×Int):=let k28 (v13:Bool):Option (Int×Int):=let k27 (v15:Bool):Option (Int×Int):=let k26 (v17:Bool):Option (Int×Int):=let k25 (v19:Bool):Option (Int×Int):=bif v19 then match getI s (wr .i64 (i+1)) with|some b20 =>(match getI s (wr .i64 (i+2)) with|some b21 =>let k24 (v23:Bool):Option (Int×Int):=bif v23 then some (wr .i64 ((wr .i64 ((wr .i64 ((wr .i64 ((wr .i64 ((wr .i64 (b.toNat:Int))-224))*4096))+(wr .i64 ((wr .i64 ((wr .i64 (b20.toNat:Int))-128))*64))))+(wr .i64 (b21.toNat:Int))))-128),3) else some (0,0);bif decide (2048≤wr .i64 ((wr .i64 ((wr .i64 ((wr .i64 ((wr .i64 ((wr .i64 (b.toNat:Int))-224))*4096))+(wr .i64 ((wr .i64 ((wr .i64 (b20.toNat:Int))-128))*64))))+(wr .i64 (b21.toNat:Int))))-128)) then bif decide (wr .i64 ((wr .i64 ((wr .i64 ((wr .i64 ((wr .i64 ((wr .i64 (b.toNat:Int))-224))*4096))+(wr .i64 ((wr .i64 ((wr .i64 (b20.toNat:Int))-128))*64))))+(wr .i64 (b21.toNat:Int))))-128)<55296) then k24 true else k24 (decide (57343<wr .i64 ((wr .i64 ((wr .i64 ((wr .i64 ((wr .i64 ((wr .i64 (b.toNat:Int))-224))*4096))+(wr .i64 ((wr .i64 ((wr .i64 (b20.toNat:Int))-128))*64))))+(wr .i64 (b21.toNat:Int))))-128))) else k24 false|none =>none)|none =>none else some (0,0);bif v17 then match getI s (wr .i64 (i+2)) with|some b18 =>k25 (decide ((b18.toNat:Int)<192))|none =>none else k25 false;bif v15 then match getI s (wr .i64 (i+2)) with|some b16 =>k26 (decide (128≤(b16.toNat:Int)))|none =>none else k26 false;bif v13 then match getI s (wr .i64 (i+1)) with|some b14 =>k27 (decide ((b14.toNat:Int)<192))|none =>none else k27 false;bif v11 then match getI s (wr .i64 (i+1)) with|some b12 =>k28 (decide (128≤(b12.toNat:Int)))|none =>none else k28 false;bif v10 then k29 (decide (wr .i64 (i+2)<(s.length:Int))) else k29 false;bif decide (224≤wr .i64 (b.toNat:Int)) then k30 (decide (wr .i64 (b.toNat:Int)<240)) else k30 false;bif v4 then match getI s (wr .i64 (i+1)) with|some b5 =>k31 (decide ((b5.toNat:Int)<192))|none =>none else k31 false;bif v2 then match getI s (wr .i64 (i+1)) with|some b3 =>k32 (decide (128≤(b3.toNat:Int)))|none =>none else k32 false;bif v1 then k33 (decide (wr .i64 (i+1)<(s.length:Int))) else k33 false;bif decide (194≤wr .i64 (b.toNat:Int)) then k34 (decide (wr .i64 (b.toNat:Int)<224)) else k34 false;bif decide (32≤wr .i64 (b.toNat:Int)) then k35 (decide (wr .i64 (b.toNat:Int)<127)) else k35 false|none =>none
def zk3:((List UInt8)×Int×Unit)→Option (((List UInt8)×Int×Unit)⊕((Unit)⊕(Bool×Unit))):=fun (s,i,_)=>
 bif decide (i<(s.length:Int)) then match qb9 s i with|some (r1,r2) =>bif r2==0 then some (.inr (.inr (false,()))) else some (.inl (s,wr .i64 (i+r2),()))|none =>none else some (.inr (.inl (())))
def qaw (s:List UInt8):Option Bool:=
 match zah zk3 (s,0,()) with|some (.inl (_)) =>some true|some (.inr (v,_)) =>some v|none =>none
def qe4 (s:List UInt8) (i:Int):Option Int:=
 match qb9 s i with|some (r1,r2) =>some (if r2<1 then 1 else r2)|none =>none
def qe1 (c:Int):Option Bool:=
 let k (v:Bool):Option Bool:=some v;bif c==32 then k true else k (c==160)
def zk7:((List UInt8)×(List UInt8)×Bool×Int×Unit)→Option (((List UInt8)×(List UInt8)×Bool×Int×Unit)⊕(((List UInt8)×Unit))):=fun (s,vout,gap,i,_)=>
 bif decide (i<(s.length:Int)) then match qb9 s i with|some (r1,r2) =>(match qe4 s i with|some r4 =>(match qe1 r1 with|some r6 =>let k11 (vout9:List UInt8) (gap10:Bool):Option (((List UInt8)×(List UInt8)×Bool×Int×Unit)⊕(((List UInt8)×Unit))):=some (.inl (s,vout9,gap10,wr .i64 (i+r4),()));bif r6 then k11 vout true else let k8 (v:Bool):Option (((List UInt8)×(List UInt8)×Bool×Int×Unit)⊕(((List UInt8)×Unit))):=let k (vout7:List UInt8):Option (((List UInt8)×(List UInt8)×Bool×Int×Unit)⊕(((List UInt8)×Unit))):=bif decide (0≤(i:Int))&&(decide ((i:Int)≤wr .i64 (i+r4))&&decide (wr .i64 (i+r4)≤(s.length:Int))) then bif decide (vout7.length+((s.take (wr .i64 (i+r4)).toNat).drop (i:Int).toNat).length≤LIM) then k11 (vout7++((s.take (wr .i64 (i+r4)).toNat).drop (i:Int).toNat)) false else none else none;bif v then bif decide (vout.length+([32]).length≤LIM) then k (vout++([32])) else none else k vout;bif gap then k8 (!(vout==([]))) else k8 false|none =>none)|none =>none)|none =>none else some (.inr ((vout,())))
def qbk (s:List UInt8):Option (List UInt8):=
 match zah zk7 (s,[],false,0,()) with|some ((vout,_)) =>some vout|none =>none
def zi6:((List Patron)×Int×Unit)→Option (((List Patron)×Int×Unit)⊕((Unit)⊕(Int×Unit))):=fun (l,i,_)=>
 bif decide (i<(l.length:Int)) then match getI l i with|some x =>let k18 (v:Bool):Option (((List Patron)×Int×Unit)⊕((Unit)⊕(Int×Unit))):=bif v then some (.inr (.inr (2,()))) else let k17 (v2:Bool):Option (((List Patron)×Int×Unit)⊕((Unit)⊕(Int×Unit))):=bif v2 then some (.inr (.inr (7,()))) else let k16 (v3:Bool):Option (((List Patron)×Int×Unit)⊕((Unit)⊕(Int×Unit))):=let k15 (v4:Bool):Option (((List Patron)×Int×Unit)⊕((Unit)⊕(Int×Unit))):=let k14 (v5:Bool):Option (((List Patron)×Int×Unit)⊕((Unit)⊕(Int×Unit))):=bif v5 then some (.inr (.inr (1,()))) else let k13 (v6:Bool):Option (((List Patron)×Int×Unit)⊕((Unit)⊕(Int×Unit))):=bif v6 then some (.inr (.inr (2,()))) else let k12 (v8:Bool):Option (((List Patron)×Int×Unit)⊕((Unit)⊕(Int×Unit))):=let k (v11:Bool):Option (((List Patron)×Int×Unit)⊕((Unit)⊕(Int×Unit))):=bif v11 then some (.inr (.inr (3,()))) else bif decide (200<(x.Name.length:Int)) then some (.inr (.inr (4,()))) else some (.inl (l,wr .i64 (i+1),()));bif v8 then k true else match qbk x.Name with|some r10 =>k (!(r10==x.Name))|none =>none;bif x.Name==([]) then k12 true else match qaw x.Name with|some r7 =>k12 (!r7)|none =>none;bif decide (x.Until<0) then k13 true else k13 (decide (109572<x.Until));bif v4 then k14 true else k14 (decide (4<x.Branch));bif v3 then k15 true else k15 (decide (x.Branch<1));bif decide (x.Kind<1) then k16 true else k16 (decide (9<x.Kind));bif decide (0<i) then match getI l (wr .i64 (i-1)) with|some x1 =>k17 (decide (x.ID≤x1.ID))|none =>none else k17 false;bif decide (x.ID<1) then k18 true else k18 (decide (9999<x.ID))|none =>none else some (.inr (.inl (())))
def qbj (l:List Patron):Option Int:=
 bif decide (32<(l.length:Int)) then some 13 else match zah zi6 (l,0,()) with|some (.inl (_)) =>some 0|some (.inr (v,_)) =>some v|none =>none
def zi4:((List Loan)×Int×Unit)→Option (((List Loan)×Int×Unit)⊕((Unit)⊕(Int×Unit))):=fun (l,i,_)=>
 bif decide (i<(l.length:Int)) then match getI l i with|some x =>let k21 (v:Bool):Option (((List Loan)×Int×Unit)⊕((Unit)⊕(Int×Unit))):=bif v then some (.inr (.inr (7,()))) else let k20 (v2:Bool):Option (((List Loan)×Int×Unit)⊕((Unit)⊕(Int×Unit))):=let k19 (v3:Bool):Option (((List Loan)×Int×Unit)⊕((Unit)⊕(Int×Unit))):=let k18 (v4:Bool):Option (((List Loan)×Int×Unit)⊕((Unit)⊕(Int×Unit))):=let k17 (v5:Bool):Option (((List Loan)×Int×Unit)⊕((Unit)⊕(Int×Unit))):=let k16 (v6:Bool):Option (((List Loan)×Int×Unit)⊕((Unit)⊕(Int×Unit))):=let k15 (v7:Bool):Option (((List Loan)×Int×Unit)⊕((Unit)⊕(Int×Unit))):=let k14 (v8:Bool):Option (((List Loan)×Int×Unit)⊕((Unit)⊕(Int×Unit))):=let k13 (v9:Bool):Option (((List Loan)×Int×Unit)⊕((Unit)⊕(Int×Unit))):=let k12 (v10:Bool):Option (((List Loan)×Int×Unit)⊕((Unit)⊕(Int×Unit))):=let k (v11:Bool):Option (((List Loan)×Int×Unit)⊕((Unit)⊕(Int×Unit))):=bif v11 then some (.inr (.inr (2,()))) else some (.inl (l,wr .i64 (i+1),()));bif v10 then k true else k (decide (10<x.Renewals));bif v9 then k12 true else k12 (decide (x.Renewals<0));bif v8 then k13 true else k13 (decide (x.Due<x.Out));bif v7 then k14 true else k14 (decide (109572<x.Due));bif v6 then k15 true else k15 (decide (x.Due<0));bif v5 then k16 true else k16 (decide (109572<x.Out));bif v4 then k17 true else k17 (decide (x.Out<0));bif v3 then k18 true else k18 (decide (9999<x.Patron));bif v2 then k19 true else k19 (decide (x.Patron<1));bif decide (x.Item<1) then k20 true else k20 (decide (9999<x.Item));bif decide (0<i) then match getI l (wr .i64 (i-1)) with|some x1 =>k21 (decide (x.Item≤x1.Item))|none =>none else k21 false|none =>none else some (.inr (.inl (())))
def qbh (l:List Loan):Option Int:=
 bif decide (64<(l.length:Int)) then some 13 else match zah zi4 (l,0,()) with|some (.inl (_)) =>some 0|some (.inr (v,_)) =>some v|none =>none
def qd4 (n:Int):Option Bool:=
 let k (v:Bool):Option Bool:=some v;bif decide (1≤n) then k (decide (n≤9999)) else k false
def qen (n:Int):Option Bool:=
 let k (v:Bool):Option Bool:=some v;bif decide (0≤n) then k (decide (n≤109572)) else k false
def qey (h:Hold):Option Int:=
 let k41 (v:Bool):Option Int:=let k40 (v2:Bool):Option Int:=let k39 (v5:Bool):Option Int:=let k38 (v9:Bool):Option Int:=let k37 (v10:Bool):Option Int:=let k36 (v11:Bool):Option Int:=let k35 (v14:Bool):Option Int:=let k34 (v18:Bool):Option Int:=let k33 (v21:Bool):Option Int:=let k32 (v24:Bool):Option Int:=let k31 (v25:Bool):Option Int:=let k30 (v26:Bool):Option Int:=bif v26 then some 2 else let k29 (v27:Bool):Option Int:=bif v27 then some 1 else let k (v28:Bool):Option Int:=bif v28 then some 12 else some 0;bif !((decide (0<h.Got))==(!(h.State==1))) then k true else k (!((decide (0<h.Until))==(h.State==3)));bif decide (h.State<1) then k29 true else k29 (decide (3<h.State));bif v25 then k30 true else k30 (decide (9<h.Rank));bif v24 then k31 true else k31 (decide (h.Rank<0));bif v21 then k32 true else match qen h.Asleep with|some r23 =>k32 (!r23)|none =>none;bif v18 then k33 true else match qen h.Until with|some r20 =>k33 (!r20)|none =>none;bif v14 then k34 true else bif !(h.Got==0) then match qd4 h.Got with|some r16 =>k34 (!r16)|none =>none else k34 false;bif v11 then k35 true else match qen h.Placed with|some r13 =>k35 (!r13)|none =>none;bif v10 then k36 true else k36 (decide (4<h.Pickup));bif v9 then k37 true else k37 (decide (h.Pickup<1));bif v5 then k38 true else bif !(h.Item==0) then match qd4 h.Item with|some r7 =>k38 (!r7)|none =>none else k38 false;bif v2 then k39 true else match qd4 h.Record with|some r4 =>k39 (!r4)|none =>none;bif v then k40 true else match qd4 h.Patron with|some r1 =>k40 (!r1)|none =>none;bif decide (h.ID<1) then k41 true else k41 (decide (99999<h.ID))
def zrf:((List Hold)×Int×Unit)→Option (((List Hold)×Int×Unit)⊕(((List Hold)×Unit)⊕(Int×Unit))):=fun (l,i,_)=>
 bif decide (i<(l.length:Int)) then let k (v:Bool):Option (((List Hold)×Int×Unit)⊕(((List Hold)×Unit)⊕(Int×Unit))):=bif v then some (.inr (.inr (7,()))) else match getI l i with|some x2 =>(match qey x2 with|some r3 =>bif !(r3==0) then some (.inr (.inr (r3,()))) else some (.inl (l,wr .i64 (i+1),()))|none =>none)|none =>none;bif decide (0<i) then match getI l i with|some x =>(match getI l (wr .i64 (i-1)) with|some x1 =>k (decide (x.ID≤x1.ID))|none =>none)|none =>none else k false else some (.inr (.inl (l,())))
def zi9:((List Hold)×Int×Int×Unit)→Option (((List Hold)×Int×Int×Unit)⊕(((List Hold)×Int×Unit)⊕(Int×Unit))):=fun (l,i,k,_)=>
 bif decide (k<i) then match getI l i with|some x =>(match getI l k with|some x5 =>let k14 (v:Bool):Option (((List Hold)×Int×Int×Unit)⊕(((List Hold)×Int×Unit)⊕(Int×Unit))):=let k13 (v12:Bool):Option (((List Hold)×Int×Int×Unit)⊕(((List Hold)×Int×Unit)⊕(Int×Unit))):=bif v12 then some (.inr (.inr (7,()))) else some (.inl (l,i,wr .i64 (k+1),()));bif v then k13 true else match getI l i with|some x8 =>bif decide (0<x8.Got) then match getI l i with|some x9 =>(match getI l k with|some x10 =>k13 (x9.Got==x10.Got)|none =>none)|none =>none else k13 false|none =>none;bif x.Patron==x5.Patron then match getI l i with|some x6 =>(match getI l k with|some x7 =>k14 (x6.Record==x7.Record)|none =>none)|none =>none else k14 false|none =>none)|none =>none else some (.inr (.inl (l,i,())))
def zlc:((List Hold)×Int×Unit)→Option (((List Hold)×Int×Unit)⊕((Unit)⊕(Int×Unit))):=fun (l,i,_)=>
 bif decide (i<(l.length:Int)) then match zah zi9 (l,i,0,()) with|some (.inl (l15,i16,_)) =>some (.inl (l15,wr .i64 (i16+1),()))|some (.inr (v,_)) =>some (.inr (.inr (v,())))|none =>none else some (.inr (.inl (())))
def qo (l:List Hold):Option Int:=
 bif decide (64<(l.length:Int)) then some 13 else match zah zrf (l,0,()) with|some (.inl (l4,_)) =>(match zah zlc (l4,0,()) with|some (.inl (_)) =>some 0|some (.inr (v,_)) =>some v|none =>none)|some (.inr (v17,_)) =>some v17|none =>none
def qe5 (n:Int):Option Bool:=
 let k (v:Bool):Option Bool:=some v;bif decide (0≤n) then k (decide (n≤109572)) else k false
def zi5:((List Charge)×Int×Unit)→Option (((List Charge)×Int×Unit)⊕((Unit)⊕(Int×Unit))):=fun (l,i,_)=>
 bif decide (i<(l.length:Int)) then match getI l i with|some x =>let k22 (v:Bool):Option (((List Charge)×Int×Unit)⊕((Unit)⊕(Int×Unit))):=bif v then some (.inr (.inr (7,()))) else let k21 (v2:Bool):Option (((List Charge)×Int×Unit)⊕((Unit)⊕(Int×Unit))):=let k20 (v3:Bool):Option (((List Charge)×Int×Unit)⊕((Unit)⊕(Int×Unit))):=let k19 (v4:Bool):Option (((List Charge)×Int×Unit)⊕((Unit)⊕(Int×Unit))):=let k18 (v5:Bool):Option (((List Charge)×Int×Unit)⊕((Unit)⊕(Int×Unit))):=let k17 (v6:Bool):Option (((List Charge)×Int×Unit)⊕((Unit)⊕(Int×Unit))):=let k16 (v8:Bool):Option (((List Charge)×Int×Unit)⊕((Unit)⊕(Int×Unit))):=bif v8 then some (.inr (.inr (2,()))) else let k15 (v9:Bool):Option (((List Charge)×Int×Unit)⊕((Unit)⊕(Int×Unit))):=bif v9 then some (.inr (.inr (1,()))) else let k14 (v10:Bool):Option (((List Charge)×Int×Unit)⊕((Unit)⊕(Int×Unit))):=let k13 (v11:Bool):Option (((List Charge)×Int×Unit)⊕((Unit)⊕(Int×Unit))):=let k (v12:Bool):Option (((List Charge)×Int×Unit)⊕((Unit)⊕(Int×Unit))):=bif v12 then some (.inr (.inr (2,()))) else some (.inl (l,wr .i64 (i+1),()));bif v11 then k true else k (decide (x.Amount≤x.Paid));bif v10 then k13 true else k13 (decide (x.Paid<0));bif decide (x.Amount<1) then k14 true else k14 (decide (100000000<x.Amount));bif decide (x.Kind<1) then k15 true else k15 (decide (3<x.Kind));bif v6 then k16 true else match qe5 x.Day with|some r7 =>k16 (!r7)|none =>none;bif v5 then k17 true else k17 (decide (9999<x.Item));bif v4 then k18 true else k18 (decide (x.Item<1));bif v3 then k19 true else k19 (decide (9999<x.Patron));bif v2 then k20 true else k20 (decide (x.Patron<1));bif decide (x.ID<1) then k21 true else k21 (decide (99999<x.ID));bif decide (0<i) then match getI l (wr .i64 (i-1)) with|some x1 =>k22 (decide (x.ID≤x1.ID))|none =>none else k22 false|none =>none else some (.inr (.inl (())))
def qbi (l:List Charge):Option Int:=
 bif decide (128<(l.length:Int)) then some 13 else match zah zi5 (l,0,()) with|some (.inl (_)) =>some 0|some (.inr (v,_)) =>some v|none =>none
def qb4 (n:Int) (low:Int) (high:Int):Option Bool:=
 let k (v:Bool):Option Bool:=some v;bif decide (low≤n) then k (decide (n≤high)) else k false
def qes (r:Rule):Option Bool:=
 match qb4 r.Patron 0 9 with|some r2 =>let k48 (v:Bool):Option Bool:=let k47 (v7:Bool):Option Bool:=match qb4 r.Days 0 365 with|some r9 =>let k46 (v12:Bool):Option Bool:=let k45 (v15:Bool):Option Bool:=match qb4 r.Fine 0 1000 with|some r17 =>let k44 (v20:Bool):Option Bool:=let k43 (v23:Bool):Option Bool:=let k42 (v24:Bool):Option Bool:=let k41 (v25:Bool):Option Bool:=let k40 (v28:Bool):Option Bool:=let k39 (v31:Bool):Option Bool:=let k38 (v34:Bool):Option Bool:=let k (v37:Bool):Option Bool:=some v37;bif v34 then match qb4 r.Rank 0 9 with|some r36 =>k r36|none =>none else k false;bif v31 then match qb4 r.Fixed 0 109572 with|some r33 =>k38 r33|none =>none else k38 false;bif v28 then match qb4 r.Recall 1 60 with|some r30 =>k39 r30|none =>none else k39 false;bif v25 then match qb4 r.Shelf 1 60 with|some r27 =>k40 r27|none =>none else k40 false;bif v24 then k41 v23 else k41 false;bif v7 then k42 v15 else k42 false;bif v20 then match qb4 r.MaxFine 0 100000000 with|some r22 =>k43 r22|none =>none else k43 false;bif r17 then match qb4 r.Grace 0 30 with|some r19 =>k44 r19|none =>none else k44 false|none =>none;bif v12 then match qb4 r.Loans 0 99 with|some r14 =>k45 r14|none =>none else k45 false;bif r9 then match qb4 r.Renewals 0 10 with|some r11 =>k46 r11|none =>none else k46 false|none =>none;bif v then match qb4 r.Branch 0 4 with|some r6 =>k47 r6|none =>none else k47 false;bif r2 then match qb4 r.Item 0 9 with|some r4 =>k48 r4|none =>none else k48 false|none =>none
def zrg:((List Rule)×Int×Int×Unit)→Option (((List Rule)×Int×Int×Unit)⊕(((List Rule)×Int×Unit)⊕(Int×Unit))):=fun (l,i,k,_)=>
 bif decide (k<i) then match getI l k with|some x =>(match getI l i with|some x2 =>let k9 (v:Bool):Option (((List Rule)×Int×Int×Unit)⊕(((List Rule)×Int×Unit)⊕(Int×Unit))):=let k8 (v7:Bool):Option (((List Rule)×Int×Int×Unit)⊕(((List Rule)×Int×Unit)⊕(Int×Unit))):=bif v7 then some (.inr (.inr (7,()))) else some (.inl (l,i,wr .i64 (k+1),()));bif v then match getI l k with|some x5 =>(match getI l i with|some x6 =>k8 (x5.Branch==x6.Branch)|none =>none)|none =>none else k8 false;bif x.Patron==x2.Patron then match getI l k with|some x3 =>(match getI l i with|some x4 =>k9 (x3.Item==x4.Item)|none =>none)|none =>none else k9 false|none =>none)|none =>none else some (.inr (.inl (l,i,())))
def zxf:((List Rule)×Int×Unit)→Option (((List Rule)×Int×Unit)⊕((Unit)⊕(Int×Unit))):=fun (l,i,_)=>
 bif decide (i<(l.length:Int)) then match getI l i with|some x =>(match qes x with|some r1 =>(bif !r1 then some (.inr (.inr (2,()))) else match zah zrg (l,i,0,()) with|some (.inl (l10,i11,_)) =>some (.inl (l10,wr .i64 (i11+1),()))|some (.inr (v,_)) =>some (.inr (.inr (v,())))|none =>none)|none =>none)|none =>none else some (.inr (.inl (())))
def qs (l:List Rule):Option Int:=
 bif decide (32<(l.length:Int)) then some 13 else match zah zxf (l,0,()) with|some (.inl (_)) =>some 0|some (.inr (v,_)) =>some v|none =>none
def zi1:(Int×Calendar×Unit)→Option ((Int×Calendar×Unit)⊕((Calendar×Unit)⊕(Int×Unit))):=fun (i,c,_)=>
 bif decide (i<(c.Closed.length:Int)) then match getI c.Closed i with|some x =>(let k (v:Bool):Option ((Int×Calendar×Unit)⊕((Calendar×Unit)⊕(Int×Unit))):=bif v then some (.inr (.inr (2,()))) else some (.inl (wr .i64 (i+1),c,()));bif decide (x<0) then k true else match getI c.Closed i with|some x1 =>k (decide (109572<x1))|none =>none)|none =>none else some (.inr (.inl (c,())))
def zfg:(Int×Calendar×Unit)→Option ((Int×Calendar×Unit)⊕((Unit)⊕(Int×Unit))):=fun (i,c,_)=>
 bif decide (i<(c.Closed.length:Int)) then match getI c.Closed i with|some x =>(match getI c.Closed (wr .i64 (i-1)) with|some x3 =>bif decide (x≤x3) then some (.inr (.inr (7,()))) else some (.inl (wr .i64 (i+1),c,()))|none =>none)|none =>none else some (.inr (.inl (())))
def qaa (c:Calendar):Option Int:=
 let k (v:Bool):Option Int:=bif v then some 1 else bif decide (64<(c.Closed.length:Int)) then some 13 else match zah zi1 (0,c,()) with|some (.inl (c2,_)) =>(match zah zfg (1,c2,()) with|some (.inl (_)) =>some 0|some (.inr (v4,_)) =>some v4|none =>none)|some (.inr (v5,_)) =>some v5|none =>none;bif decide (c.Week<0) then k true else k (decide (126<c.Week))
def zla:((List Patron)×Int×Int×Unit)→Option (((List Patron)×Int×Int×Unit)⊕((Unit)⊕(Int×Unit))):=fun (l,vid,i,_)=>
 bif decide (i<(l.length:Int)) then match getI l i with|some x =>bif x.ID==vid then some (.inr (.inr (i,()))) else some (.inl (l,vid,wr .i64 (i+1),()))|none =>none else some (.inr (.inl (())))
def qbt (l:List Patron) (vid:Int):Option Int:=
 match zah zla (l,vid,0,()) with|some (.inl (_)) =>some (-1)|some (.inr (v,_)) =>some v|none =>none
def qcp (l:List Patron) (vid:Int):Option (Patron×Bool):=
 match qbt l vid with|some r1 =>(bif decide (r1<0) then some ((⟨0,0,0,0,false,[]⟩:Patron),false) else match getI l r1 with|some x =>some (x,true)|none =>none)|none =>none
def qez (branch:Int):Option Custody:=
 some (⟨1,branch,0,0⟩:Custody)
def qfa (state:Int):Option Bool:=
 let k6 (v:Bool):Option Bool:=let k5 (v1:Bool):Option Bool:=let k4 (v2:Bool):Option Bool:=let k (v3:Bool):Option Bool:=some v3;bif v2 then k true else k (state==10);bif v1 then k4 true else k4 (state==9);bif v then k5 true else k5 (state==8);bif state==4 then k6 true else k6 (state==5)
def qfg (c:Custody):Option Bool:=
 let k17 (v:Bool):Option Bool:=let k16 (v1:Bool):Option Bool:=let k15 (v2:Bool):Option Bool:=bif v2 then some false else let k10 (v9:Bool):Option Bool:=some v9;bif c.State==6 then let k8 (v3:Bool):Option Bool:=let k7 (v4:Bool):Option Bool:=let k (v5:Bool):Option Bool:=bif v5 then k10 (!(c.To==c.Branch)) else k10 false;bif v4 then k (decide (c.To≤4)) else k false;bif v3 then k7 (decide (1≤c.To)) else k7 false;bif decide (0≤c.Who) then k8 (decide (c.Who≤9999)) else k8 false else bif !(c.To==0) then some false else match qfa c.State with|some r11 =>let k14 (v13:Bool):Option Bool:=some v13;bif r11 then bif decide (1≤c.Who) then k14 (decide (c.Who≤9999)) else k14 false else some (c.Who==0)|none =>none;bif v1 then k15 true else k15 (decide (4<c.Branch));bif v then k16 true else k16 (decide (c.Branch<1));bif decide (c.State<1) then k17 true else k17 (decide (12<c.State))
def qeg (m:Move):Option Bool:=
 let k16 (v:Bool):Option Bool:=let k15 (v1:Bool):Option Bool:=let k14 (v2:Bool):Option Bool:=let k13 (v3:Bool):Option Bool:=let k12 (v4:Bool):Option Bool:=let k11 (v5:Bool):Option Bool:=let k10 (v6:Bool):Option Bool:=let k9 (v7:Bool):Option Bool:=let k (v8:Bool):Option Bool:=some v8;bif v7 then k (decide (m.Who≤9999)) else k false;bif v6 then k9 (decide (0≤m.Who)) else k9 false;bif v5 then k10 (decide (m.Branch≤4)) else k10 false;bif v4 then k11 (decide (1≤m.Branch)) else k11 false;bif v3 then k12 (decide (m.Kind≤15)) else k12 false;bif v2 then k13 (decide (1≤m.Kind)) else k13 false;bif v1 then k14 (decide (m.Item≤9999)) else k14 false;bif v then k15 (decide (1≤m.Item)) else k15 false;bif decide (0≤m.Day) then k16 (decide (m.Day≤109572)) else k16 false
def qex (kind:Int):Option (List Int):=
 bif kind==1 then some ([1]) else bif kind==2 then some ([2,5]) else bif kind==3 then some ([3,5]) else bif kind==4 then some ([4,8,9,10]) else let k (v:Bool):Option (List Int):=bif v then some ([2,3]) else bif kind==6 then some ([2,3,5]) else bif kind==7 then some ([6]) else bif kind==9 then some ([7]) else bif kind==10 then some ([3]) else bif kind==11 then some ([4]) else bif kind==12 then some ([4,9]) else bif kind==13 then some ([2,3,5,6,7]) else bif kind==14 then some ([11]) else bif kind==15 then some ([1,2,3,11,10]) else some ([]);bif kind==5 then k (kind==5) else k (kind==8)
def zk8:(Int×(List Int)×Int×Unit)→Option ((Int×(List Int)×Int×Unit)⊕((Unit)⊕(Bool×Unit))):=fun (state,l,i,_)=>
 bif decide (i<(l.length:Int)) then match getI l i with|some x =>bif x==state then some (.inr (.inr (true,()))) else some (.inl (state,l,wr .i64 (i+1),()))|none =>none else some (.inr (.inl (())))
def qbo (state:Int) (kind:Int):Option Bool:=
 match qex kind with|some r1 =>(match zah zk8 (state,r1,0,()) with|some (.inl (_)) =>some false|some (.inr (v,_)) =>some v|none =>none)|none =>none
def qfj (c:Custody) (m:Move):Option Bool:=
 let k14 (v2:Bool):Option Bool:=let k11 (v10:Bool):Option Bool:=some v10;bif v2 then k11 (m.Who==0) else bif m.Kind==7 then bif m.Who==0 then k11 (m.Branch==c.To) else k11 false else bif m.Kind==6 then k11 (!(m.Branch==c.Branch)) else let k (v5:Bool):Option Bool:=bif v5 then bif m.Branch==c.Branch then k11 (decide (1≤m.Who)) else k11 false else let k13 (v12:Bool):Option Bool:=some v12;bif m.Branch==c.Branch then k13 (m.Who==0) else k13 false;bif m.Kind==3 then k (m.Kind==3) else bif m.Kind==5 then k (m.Kind==5) else k (m.Kind==10);bif m.Kind==1 then k14 (m.Kind==1) else bif m.Kind==4 then k14 (m.Kind==4) else bif m.Kind==9 then k14 (m.Kind==9) else k14 (m.Kind==14)
def qff (kind:Int):Option Int:=
 let k13 (v3:Bool):Option Int:=let k (v12:Int):Option Int:=some v12;bif v3 then k 2 else bif kind==2 then k 3 else bif kind==3 then k 4 else bif kind==5 then k 5 else bif kind==6 then k 6 else bif kind==8 then k 7 else bif kind==10 then k 8 else bif kind==11 then k 9 else bif kind==12 then k 10 else bif kind==13 then k 11 else some 12;bif kind==1 then k13 (kind==1) else bif kind==4 then k13 (kind==4) else bif kind==7 then k13 (kind==7) else bif kind==9 then k13 (kind==9) else k13 (kind==14)
def qe0 (c:Custody) (m:Move):Option (Custody×Int):=
 match qfg c with|some r1 =>(let k26 (v:Bool):Option (Custody×Int):=bif v then some ((⟨0,0,0,0⟩:Custody),1) else match qbo c.State m.Kind with|some r5 =>bif !r5 then some ((⟨0,0,0,0⟩:Custody),12) else let k25 (v6:Bool):Option (Custody×Int):=let k24 (v7:Bool):Option (Custody×Int):=bif v7 then some ((⟨0,0,0,0⟩:Custody),16) else match qfj c m with|some r9 =>(bif !r9 then some ((⟨0,0,0,0⟩:Custody),1) else match qff m.Kind with|some r11 =>let k23 (vout20:Int) (vout21:Int) (vout22:Int):Option (Custody×Int):=some ((⟨r11,vout20,vout21,vout22⟩:Custody),0);bif r11==2 then k23 m.Branch 0 0 else let k19 (v13:Bool):Option (Custody×Int):=bif v13 then k23 c.Branch m.Who 0 else bif r11==6 then k23 c.Branch m.Who m.Branch else let k (v14:Bool):Option (Custody×Int):=bif v14 then k23 c.Branch c.Who 0 else k23 c.Branch 0 0;bif r11==9 then k (r11==9) else k (r11==10);bif r11==4 then k19 (r11==4) else bif r11==5 then k19 (r11==5) else k19 (r11==8)|none =>none)|none =>none;bif v6 then k24 (!(m.Who==c.Who)) else k24 false;bif m.Kind==3 then k25 (c.State==5) else k25 false|none =>none;bif !r1 then k26 true else match qeg m with|some r3 =>k26 (!r3)|none =>none)|none =>none
def zk6:((List Move)×Int×Int×Custody×Custody×Unit)→Option (((List Move)×Int×Int×Custody×Custody×Unit)⊕((Custody×Custody×Unit)⊕(Int×Int×Custody×Unit))):=fun (l,item,i,v,c,_)=>
 bif decide (i<(l.length:Int)) then match getI l i with|some x =>(bif !(x.Item==item) then some (.inl (l,item,wr .i64 (i+1),v,c,())) else match getI l i with|some x2 =>(match qe0 c x2 with|some (r3,r4) =>bif !(r4==0) then some (.inr (.inr (i,r4,(⟨0,0,0,0⟩:Custody),()))) else some (.inl (l,item,wr .i64 (i+1),v,r3,()))|none =>none)|none =>none)|none =>none else some (.inr (.inl (v,c,())))
def qbg (branch:Int) (l:List Move) (item:Int):Option (Custody×Int×Int):=
 let k (v:Bool):Option (Custody×Int×Int):=bif v then some ((⟨0,0,0,0⟩:Custody),(-1),1) else match qez branch with|some r1 =>(match zah zk6 (l,item,0,(⟨0,0,0,0⟩:Custody),r1,()) with|some (.inl (v5,c,_)) =>some (c,(-1),0)|some (.inr (v6,v7,v8,_)) =>some (v8,v6,v7)|none =>none)|none =>none;bif decide (branch<1) then k true else k (decide (4<branch))
def zk1:(Int×Int×Circ×Unit)→Option ((Int×Int×Circ×Unit)⊕((Unit)⊕(Int×Unit))):=fun (item,i,c,_)=>
 bif decide (i<(c.Items.length:Int)) then match getI c.Items i with|some x =>bif x.ID==item then some (.inr (.inr (i,()))) else some (.inl (item,wr .i64 (i+1),c,()))|none =>none else some (.inr (.inl (())))
def qan (c:Circ) (item:Int):Option Int:=
 match zah zk1 (item,0,c,()) with|some (.inl (_)) =>some (-1)|some (.inr (v,_)) =>some v|none =>none
def zri:(Int×Circ×Unit)→Option ((Int×Circ×Unit)⊕((Circ×Unit)⊕(Bool×Unit))):=fun (i,c,_)=>
 bif decide (i<(c.Items.length:Int)) then match getI c.Items i with|some x =>let k29 (v:Bool):Option ((Int×Circ×Unit)⊕((Circ×Unit)⊕(Bool×Unit))):=let k28 (v3:Bool):Option ((Int×Circ×Unit)⊕((Circ×Unit)⊕(Bool×Unit))):=let k27 (v4:Bool):Option ((Int×Circ×Unit)⊕((Circ×Unit)⊕(Bool×Unit))):=let k26 (v5:Bool):Option ((Int×Circ×Unit)⊕((Circ×Unit)⊕(Bool×Unit))):=let k25 (v6:Bool):Option ((Int×Circ×Unit)⊕((Circ×Unit)⊕(Bool×Unit))):=let k24 (v7:Bool):Option ((Int×Circ×Unit)⊕((Circ×Unit)⊕(Bool×Unit))):=bif v7 then some (.inr (.inr (false,()))) else let k23 (v8:Bool):Option ((Int×Circ×Unit)⊕((Circ×Unit)⊕(Bool×Unit))):=let k22 (v9:Bool):Option ((Int×Circ×Unit)⊕((Circ×Unit)⊕(Bool×Unit))):=let k21 (v10:Bool):Option ((Int×Circ×Unit)⊕((Circ×Unit)⊕(Bool×Unit))):=let k20 (v11:Bool):Option ((Int×Circ×Unit)⊕((Circ×Unit)⊕(Bool×Unit))):=let k19 (v13:Bool):Option ((Int×Circ×Unit)⊕((Circ×Unit)⊕(Bool×Unit))):=bif v13 then some (.inr (.inr (false,()))) else match qbg x.Branch c.Moves x.ID with|some (r15,r16,r17) =>let k (v18:Bool):Option ((Int×Circ×Unit)⊕((Circ×Unit)⊕(Bool×Unit))):=bif v18 then some (.inr (.inr (false,()))) else some (.inl (wr .i64 (i+1),c,()));bif !(r17==0) then k true else k (!(zck r15 x.Custody))|none =>none;bif v11 then k19 true else match qaw x.Call with|some r12 =>k19 (!r12)|none =>none;bif v10 then k20 true else k20 (decide (200<(x.Call.length:Int)));bif v9 then k21 true else k21 (decide (100000000<x.Price));bif v8 then k22 true else k22 (decide (x.Price<0));bif decide (x.Kind<1) then k23 true else k23 (decide (9<x.Kind));bif v6 then k24 true else k24 (decide (4<x.Branch));bif v5 then k25 true else k25 (decide (x.Branch<1));bif v4 then k26 true else k26 (decide (9999<x.Record));bif v3 then k27 true else k27 (decide (x.Record<1));bif v then k28 true else bif decide (0<i) then match getI c.Items (wr .i64 (i-1)) with|some x1 =>k28 (decide (x.ID≤x1.ID))|none =>none else k28 false;bif decide (x.ID<1) then k29 true else k29 (decide (9999<x.ID))|none =>none else some (.inr (.inl (c,())))
def zja:(Int×Circ×Unit)→Option ((Int×Circ×Unit)⊕((Unit)⊕(Bool×Unit))):=fun (i,c,_)=>
 bif decide (i<(c.Moves.length:Int)) then match getI c.Moves i with|some x =>(match qan c x.Item with|some r31 =>bif decide (r31<0) then some (.inr (.inr (false,()))) else some (.inl (wr .i64 (i+1),c,()))|none =>none)|none =>none else some (.inr (.inl (())))
def qz (c:Circ):Option Bool:=
 let k (v:Bool):Option Bool:=bif v then some false else match zah zri (0,c,()) with|some (.inl (c30,_)) =>(match zah zja (0,c30,()) with|some (.inl (_)) =>some true|some (.inr (v32,_)) =>some v32|none =>none)|some (.inr (v33,_)) =>some v33|none =>none;bif decide (64<(c.Items.length:Int)) then k true else k (decide (2000<(c.Moves.length:Int)))
def qeb (u:Custody):Option Bool:=
 let k2 (v:Bool):Option Bool:=let k (v1:Bool):Option Bool:=some v1;bif v then k true else k (u.State==10);bif u.State==4 then k2 true else k2 (u.State==9)
def zk9:((List Loan)×Int×Int×Unit)→Option (((List Loan)×Int×Int×Unit)⊕((Unit)⊕(Int×Unit))):=fun (l,item,i,_)=>
 bif decide (i<(l.length:Int)) then match getI l i with|some x =>bif x.Item==item then some (.inr (.inr (i,()))) else some (.inl (l,item,wr .i64 (i+1),()))|none =>none else some (.inr (.inl (())))
def qbs (l:List Loan) (item:Int):Option Int:=
 match zah zk9 (l,item,0,()) with|some (.inl (_)) =>some (-1)|some (.inr (v,_)) =>some v|none =>none
def qe3 (l:List Loan) (item:Int):Option (Loan×Bool):=
 match qbs l item with|some r1 =>(bif decide (r1<0) then some ((⟨0,0,0,0,0,false⟩:Loan),false) else match getI l r1 with|some x =>some (x,true)|none =>none)|none =>none
def zrh:(Int×Circ×Unit)→Option ((Int×Circ×Unit)⊕((Circ×Unit)⊕(Bool×Unit))):=fun (i,c,_)=>
 bif decide (i<(c.Loans.length:Int)) then match getI c.Loans i with|some x =>(match qan c x.Item with|some r1 =>(match qcp c.Patrons x.Patron with|some (r3,r4) =>let k12 (v:Bool):Option ((Int×Circ×Unit)⊕((Circ×Unit)⊕(Bool×Unit))):=let k11 (v8:Bool):Option ((Int×Circ×Unit)⊕((Circ×Unit)⊕(Bool×Unit))):=let k (v10:Bool):Option ((Int×Circ×Unit)⊕((Circ×Unit)⊕(Bool×Unit))):=bif v10 then some (.inr (.inr (false,()))) else some (.inl (wr .i64 (i+1),c,()));bif v8 then k true else match getI c.Items r1 with|some x9 =>k (!(x9.Custody.Who==x.Patron))|none =>none;bif v then k11 true else match getI c.Items r1 with|some x5 =>(match qeb x5.Custody with|some r7 =>k11 (!r7)|none =>none)|none =>none;bif decide (r1<0) then k12 true else k12 (!r4)|none =>none)|none =>none)|none =>none else some (.inr (.inl (c,())))
def zle:(Int×Circ×Unit)→Option ((Int×Circ×Unit)⊕((Unit)⊕(Bool×Unit))):=fun (i,c,_)=>
 bif decide (i<(c.Items.length:Int)) then match getI c.Items i with|some x =>(match qe3 c.Loans x.ID with|some (r14,r15) =>(match getI c.Items i with|some x16 =>(match qeb x16.Custody with|some r18 =>bif !(r15==r18) then some (.inr (.inr (false,()))) else some (.inl (wr .i64 (i+1),c,()))|none =>none)|none =>none)|none =>none)|none =>none else some (.inr (.inl (())))
def qy (c:Circ):Option Bool:=
 match zah zrh (0,c,()) with|some (.inl (c13,_)) =>(match zah zle (0,c13,()) with|some (.inl (_)) =>some true|some (.inr (v,_)) =>some v|none =>none)|some (.inr (v19,_)) =>some v19|none =>none
def zk5:(Int×Int×Circ×Hold×Unit)→Option ((Int×Int×Circ×Hold×Unit)⊕((Hold×Unit)⊕(Bool×Hold×Unit))):=fun (item,i,c,v,_)=>
 bif decide (i<(c.Holds.length:Int)) then match getI c.Holds i with|some x =>bif x.Got==item then match getI c.Holds i with|some x1 =>some (.inr (.inr (true,x1,())))|none =>none else some (.inl (item,wr .i64 (i+1),c,v,()))|none =>none else some (.inr (.inl (v,())))
def qbf (c:Circ) (item:Int):Option (Hold×Bool):=
 match zah zk5 (item,0,c,(⟨0,0,0,0,0,0,0,0,0,0,0⟩:Hold),()) with|some (.inl (v,_)) =>some ((⟨0,0,0,0,0,0,0,0,0,0,0⟩:Hold),false)|some (.inr (v2,v3,_)) =>some (v3,v2)|none =>none
def zrb:(Int×Circ×Unit)→Option ((Int×Circ×Unit)⊕((Circ×Unit)⊕(Bool×Unit))):=fun (i,c,_)=>
 bif decide (i<(c.Holds.length:Int)) then match getI c.Holds i with|some x =>(match qcp c.Patrons x.Patron with|some (r1,r2) =>let k18 (v:Bool):Option ((Int×Circ×Unit)⊕((Circ×Unit)⊕(Bool×Unit))):=bif v then some (.inr (.inr (false,()))) else bif x.State==1 then some (.inl (wr .i64 (i+1),c,())) else match qan c x.Got with|some r4 =>(let k17 (v6:Bool):Option ((Int×Circ×Unit)⊕((Circ×Unit)⊕(Bool×Unit))):=bif v6 then some (.inr (.inr (false,()))) else match getI c.Items r4 with|some x7 =>let k16 (v10:Bool):Option ((Int×Circ×Unit)⊕((Circ×Unit)⊕(Bool×Unit))):=bif v10 then some (.inr (.inr (false,()))) else let k15 (v14:Bool):Option ((Int×Circ×Unit)⊕((Circ×Unit)⊕(Bool×Unit))):=bif v14 then some (.inr (.inr (false,()))) else some (.inl (wr .i64 (i+1),c,()));bif x.State==2 then let k13 (v11:Bool):Option ((Int×Circ×Unit)⊕((Circ×Unit)⊕(Bool×Unit))):=bif v11 then k15 true else k15 (!(x7.Custody.Who==x.Patron));bif !(x7.Custody.State==6) then k13 true else k13 (!(x7.Custody.To==x.Pickup)) else k15 false;bif x.State==3 then let k (v8:Bool):Option ((Int×Circ×Unit)⊕((Circ×Unit)⊕(Bool×Unit))):=bif v8 then k16 true else k16 (!(x7.Custody.Who==x.Patron));bif !(x7.Custody.State==5) then k true else k (!(x7.Custody.Branch==x.Pickup)) else k16 false|none =>none;bif decide (r4<0) then k17 true else match getI c.Items r4 with|some x5 =>k17 (!(x5.Record==x.Record))|none =>none)|none =>none;bif !r2 then k18 true else k18 (decide (c.NextHold≤x.ID))|none =>none)|none =>none else some (.inr (.inl (c,())))
def zkx:(Int×Circ×Unit)→Option ((Int×Circ×Unit)⊕((Unit)⊕(Bool×Unit))):=fun (i,c,_)=>
 bif decide (i<(c.Items.length:Int)) then match getI c.Items i with|some x =>(bif !(x.Custody.State==5) then some (.inl (wr .i64 (i+1),c,())) else match getI c.Items i with|some x20 =>(match qbf c x20.ID with|some (r21,r22) =>let k (v:Bool):Option ((Int×Circ×Unit)⊕((Unit)⊕(Bool×Unit))):=bif v then some (.inr (.inr (false,()))) else some (.inl (wr .i64 (i+1),c,()));bif !r22 then k true else k (!(r21.State==3))|none =>none)|none =>none)|none =>none else some (.inr (.inl (())))
def q8 (c:Circ):Option Bool:=
 match zah zrb (0,c,()) with|some (.inl (c19,_)) =>(match zah zkx (0,c19,()) with|some (.inl (_)) =>some true|some (.inr (v,_)) =>some v|none =>none)|some (.inr (v23,_)) =>some v23|none =>none
def zgx:(Int×Circ×Unit)→Option ((Int×Circ×Unit)⊕((Circ×Unit)⊕(Bool×Unit))):=fun (i,c,_)=>
 bif decide (i<4) then let k (v:Int) (v18:List Int):Option ((Int×Circ×Unit)⊕((Circ×Unit)⊕(Bool×Unit))):=match qaa (⟨v,v18⟩:Calendar) with|some r19 =>bif !(r19==0) then some (.inr (.inr (false,()))) else some (.inl (wr .i64 (i+1),c,()))|none =>none;bif i==0 then k c.Cals.x0.Week c.Cals.x0.Closed else bif i==1 then k c.Cals.x1.Week c.Cals.x1.Closed else bif i==2 then k c.Cals.x2.Week c.Cals.x2.Closed else bif i==3 then k c.Cals.x3.Week c.Cals.x3.Closed else none else some (.inr (.inl (c,())))
def zfh:(Int×Circ×Unit)→Option ((Int×Circ×Unit)⊕((Circ×Unit)⊕(Bool×Unit))):=fun (i,c,_)=>
 bif decide (i<(c.Charges.length:Int)) then match getI c.Charges i with|some x =>(match qcp c.Patrons x.Patron with|some (r21,r22) =>(let k (v:Bool):Option ((Int×Circ×Unit)⊕((Circ×Unit)⊕(Bool×Unit))):=bif v then some (.inr (.inr (false,()))) else some (.inl (wr .i64 (i+1),c,()));bif !r22 then k true else match getI c.Charges i with|some x23 =>k (decide (c.NextCharge≤x23.ID))|none =>none)|none =>none)|none =>none else some (.inr (.inl (c,())))
def qae (c:Circ):Option Bool:=
 let k44 (v:Bool):Option Bool:=let k43 (v1:Bool):Option Bool:=let k42 (v2:Bool):Option Bool:=let k41 (v3:Bool):Option Bool:=let k40 (v4:Bool):Option Bool:=bif v4 then some false else match qbj c.Patrons with|some r5 =>(let k39 (v8:Bool):Option Bool:=let k38 (v11:Bool):Option Bool:=let k37 (v14:Bool):Option Bool:=let k36 (v17:Bool):Option Bool:=bif v17 then some false else match zah zgx (0,c,()) with|some (.inl (c20,_)) =>(match zah zfh (0,c20,()) with|some (.inl (c24,_)) =>(match qz c24 with|some r26 =>let k33 (v29:Bool):Option Bool:=let k (v32:Bool):Option Bool:=some v32;bif v29 then match q8 c24 with|some r31 =>k r31|none =>none else k false;bif r26 then match qy c24 with|some r28 =>k33 r28|none =>none else k33 false|none =>none)|some (.inr (v34,_)) =>some v34|none =>none)|some (.inr (v35,_)) =>some v35|none =>none;bif v14 then k36 true else match qs c.Rules with|some r16 =>k36 (!(r16==0))|none =>none;bif v11 then k37 true else match qbi c.Charges with|some r13 =>k37 (!(r13==0))|none =>none;bif v8 then k38 true else match qo c.Holds with|some r10 =>k38 (!(r10==0))|none =>none;bif !(r5==0) then k39 true else match qbh c.Loans with|some r7 =>k39 (!(r7==0))|none =>none)|none =>none;bif v3 then k40 true else k40 (decide (100000<c.NextCharge));bif v2 then k41 true else k41 (decide (c.NextCharge<1));bif v1 then k42 true else k42 (decide (100000<c.NextHold));bif v then k43 true else k43 (decide (c.NextHold<1));bif decide (c.Today<0) then k44 true else k44 (decide (109572<c.Today))
def qfh (c:Circ):Option Bool:=
 match qr c with|some r1 =>let k (v:Bool):Option Bool:=some v;bif r1 then match qae c with|some r3 =>k r3|none =>none else k false|none =>none
def zk4:(Int×Int×Int×Int×Circ×Unit)→Option ((Int×Int×Int×Int×Circ×Unit)⊕((Int×Int×Unit))):=fun (item,n,last,i,c,_)=>
 bif decide (i<(c.Moves.length:Int)) then match getI c.Moves i with|some x =>let k7 (v2:Bool):Option ((Int×Int×Int×Int×Circ×Unit)⊕((Int×Int×Unit))):=bif v2 then some (.inl (item,n,last,wr .i64 (i+1),c,())) else let k6 (n3:Int):Option ((Int×Int×Int×Int×Circ×Unit)⊕((Int×Int×Unit))):=let k5 (last4:Int):Option ((Int×Int×Int×Int×Circ×Unit)⊕((Int×Int×Unit))):=some (.inl (item,n3,last4,wr .i64 (i+1),c,()));bif decide (last<x.Day) then k5 x.Day else k5 last;bif x.Kind==3 then k6 (wr .i64 (n+1)) else k6 n;bif !(x.Item==item) then k7 true else let k (v:Bool):Option ((Int×Int×Int×Int×Circ×Unit)⊕((Int×Int×Unit))):=bif v then k7 (!(x.Kind==4)) else k7 false;bif !(x.Kind==1) then k (!(x.Kind==3)) else k false|none =>none else some (.inr ((n,last,())))
def qax (c:Circ) (item:Int):Option (Int×Int):=
 match zah zk4 (item,0,(-1),0,c,()) with|some ((n,last,_)) =>some (n,last)|none =>none
def zkz:(Int×Int×Int×Circ×Item×Unit)→Option ((Int×Int×Int×Circ×Item×Unit)⊕((Int×Int×Circ×Item×Unit)⊕(Bool×Unit))):=fun (days,loans,i,c,x,_)=>
 bif decide (i<(c.Holds.length:Int)) then match getI c.Holds i with|some x1 =>(let k (v:Bool):Option ((Int×Int×Int×Circ×Item×Unit)⊕((Int×Int×Circ×Item×Unit)⊕(Bool×Unit))):=bif v then some (.inr (.inr (false,()))) else some (.inl (days,loans,wr .i64 (i+1),c,x,()));bif x1.Record==x.Record then k true else match getI c.Holds i with|some x2 =>k (x2.Item==x.ID)|none =>none)|none =>none else some (.inr (.inl (days,loans,c,x,())))
def qa6 (c:Circ) (x:Item) (days:Int) (loans:Int):Option Bool:=
 bif !(x.Custody.State==3) then some false else match zah zkz (days,loans,0,c,x,()) with|some (.inl (days3,loans4,c5,x6,_)) =>(match qax c5 x6.ID with|some (r7,r8) =>let k (v:Bool):Option Bool:=some v;bif decide (r7≤loans4) then k (decide (days3<wr .i64 (c5.Today-r8))) else k false|none =>none)|some (.inr (v9,_)) =>some v9|none =>none
def qew (c:Circ) (a:Int) (b:Int):Option Bool:=
 match qax c a with|some (r1,r2) =>(match qax c b with|some (r4,r5) =>bif !(r1==r4) then some (decide (r1<r4)) else bif !(r2==r5) then some (decide (r2<r5)) else some (decide (a<b))|none =>none)|none =>none
def zld:(Int×Int×(List Int)×Int×Int×Bool×Int×Circ×(List Int)×Unit)→Option ((Int×Int×(List Int)×Int×Int×Bool×Int×Circ×(List Int)×Unit)⊕((Int×Int×Int×Int×Bool×Circ×(List Int)×Unit))):=fun (days,loans,vout,i,vid,done,k,c,l,_)=>
 bif decide (k<(vout.length:Int)) then let k6 (v:Bool):Option ((Int×Int×(List Int)×Int×Int×Bool×Int×Circ×(List Int)×Unit)⊕((Int×Int×Int×Int×Bool×Circ×(List Int)×Unit))):=bif v then bif decide (l.length+([vid]:List Int).length≤LIM) then match getI vout k with|some x4 =>bif decide ((l++([vid]:List Int)).length+([x4]:List Int).length≤LIM) then some (.inl (days,loans,vout,i,vid,true,wr .i64 (k+1),c,(l++([vid]:List Int))++([x4]:List Int),())) else none|none =>none else none else match getI vout k with|some x5 =>bif decide (l.length+([x5]:List Int).length≤LIM) then some (.inl (days,loans,vout,i,vid,done,wr .i64 (k+1),c,l++([x5]:List Int),())) else none|none =>none;bif !done then match getI vout k with|some x =>(match qew c vid x with|some r3 =>k6 r3|none =>none)|none =>none else k6 false else some (.inr ((days,loans,i,vid,done,c,l,())))
def zxg:(Int×Int×(List Int)×Int×Circ×Unit)→Option ((Int×Int×(List Int)×Int×Circ×Unit)⊕(((List Int)×Unit))):=fun (days,loans,vout,i,c,_)=>
 bif decide (i<(c.Items.length:Int)) then match getI c.Items i with|some x =>(match qa6 c x days loans with|some r1 =>(bif !r1 then some (.inl (days,loans,vout,wr .i64 (i+1),c,())) else match getI c.Items i with|some x2 =>(match zah zld (days,loans,vout,i,x2.ID,false,0,c,([]:List Int),()) with|some ((days7,loans8,i9,vid,done,c10,l,_)) =>bif !done then bif decide (l.length+([vid]:List Int).length≤LIM) then some (.inl (days7,loans8,l++([vid]:List Int),wr .i64 (i9+1),c10,())) else none else some (.inl (days7,loans8,l,wr .i64 (i9+1),c10,()))|none =>none)|none =>none)|none =>none)|none =>none else some (.inr ((vout,())))
def qx (c:Circ) (days:Int) (loans:Int):Option (List Int):=
 match zah zxg (days,loans,([]:List Int),0,c,()) with|some ((vout,_)) =>some vout|none =>none
def qdf (c:Circ) (days:Int) (loans:Int):Option Bool:=
 match qfc with|some r1 =>let k (v10:Bool):Option Bool:=some v10;bif r1 then match qfh c with|some r3 =>(bif !r3 then k true else match qas c days loans with|some r5 =>(match qx c days loans with|some r7 =>(match qaj r5 r7 with|some r9 =>k r9|none =>none)|none =>none)|none =>none)|none =>none else k false|none =>none
end Go.Proofs.YtpaidiaknfhclaaGreatDoor
namespace Go.Proofs.YtpaidiaknfhclaaGreatDoor
set_option maxRecDepth 100000
open Ev
open Go (IntKind)
open Go
theorem znf:CCOk zax:=CCOk.iso (CCOk.cons (zai.int _) (CCOk.cons (zai.int _) (CCOk.cons (zai.int _) (CCOk.cons (zai.int _) CCOk.nil)))) (fun _=>rfl)
theorem znh:CCOk za0:=CCOk.iso (CCOk.cons (zai.int _) (CCOk.cons (zai.int _) (CCOk.cons (zai.int _) (CCOk.cons (zai.int _) (CCOk.cons (zai.int _) (CCOk.cons zai.str (CCOk.cons (zai.int _) (CCOk.cons (zai.int _) (CCOk.cons (zai.int _) (CCOk.cons (zai.int _) CCOk.nil)))))))))) (fun _=>rfl)
theorem zh2:CCOk zba:=CCOk.iso (CCOk.cons (zai.int _) (CCOk.cons (zai.int _) (CCOk.cons (zai.int _) (CCOk.cons (zai.int _) (CCOk.cons zai.bool (CCOk.cons zai.str CCOk.nil)))))) (fun _=>rfl)
theorem zni:CCOk zcj:=CCOk.iso (CCOk.cons (zai.int _) (CCOk.cons (zai.int _) (CCOk.cons (zai.int _) (CCOk.cons (zai.int _) (CCOk.cons (zai.int _) (CCOk.cons zai.bool CCOk.nil)))))) (fun _=>rfl)
theorem zng:CCOk zbk:=CCOk.iso (CCOk.cons (zai.int _) (CCOk.cons (zai.int _) (CCOk.cons (zai.int _) (CCOk.cons (zai.int _) (CCOk.cons (zai.int _) (CCOk.cons (zai.int _) (CCOk.cons (zai.int _) (CCOk.cons (zai.int _) (CCOk.cons (zai.int _) (CCOk.cons (zai.int _) (CCOk.cons (zai.int _) CCOk.nil))))))))))) (fun _=>rfl)
theorem zh1:CCOk zc8:=CCOk.iso (CCOk.cons (zai.int _) (CCOk.cons (zai.int _) (CCOk.cons (zai.int _) (CCOk.cons (zai.int _) (CCOk.cons (zai.int _) (CCOk.cons (zai.int _) (CCOk.cons (zai.int _) CCOk.nil))))))) (fun _=>rfl)
theorem znl:CCOk zc0:=CCOk.iso (CCOk.cons (zai.int _) (CCOk.cons (zai.int _) (CCOk.cons (zai.int _) (CCOk.cons (zai.int _) (CCOk.cons (zai.int _) (CCOk.cons (zai.int _) (CCOk.cons (zai.int _) (CCOk.cons (zai.int _) (CCOk.cons (zai.int _) (CCOk.cons (zai.int _) (CCOk.cons (zai.int _) (CCOk.cons (zai.int _) (CCOk.cons (zai.int _) CCOk.nil))))))))))))) (fun _=>rfl)
theorem zlx:CCOk zaw:=CCOk.iso (CCOk.cons (zai.int _) (CCOk.cons (zai.lst _) CCOk.nil)) (fun _=>rfl)
theorem znk:CCOk zgd:=CCOk.iso (CCOk.cons (zai.int _) (CCOk.cons (zai.int _) (CCOk.cons (zai.int _) (CCOk.cons (zai.int _) (CCOk.cons (zai.int _) CCOk.nil))))) (fun _=>rfl)
theorem zy1:CCOk zak:=CCOk.iso (CCOk.cons (zai.int _) (CCOk.cons (zai.lst _) (CCOk.cons (zai.lst _) (CCOk.cons (zai.lst _) (CCOk.cons (zai.lst _) (CCOk.cons (zai.lst _) (CCOk.cons (zai.lst _) (CCOk.cons (zai.int _) (CCOk.cons (zai.lst _) (CCOk.cons (zai.int _) (CCOk.cons (zai.lst _) (CCOk.cons (zai.int _) (CCOk.cons (zai.lst _) (CCOk.cons (zai.int _) (CCOk.cons (zai.lst _) (CCOk.cons (zai.lst _) (CCOk.cons (zai.int _) (CCOk.cons (zai.int _) (CCOk.cons zai.bool CCOk.nil))))))))))))))))))) (fun _=>rfl)
theorem zjt:CCOk zav:=CCOk.iso (CCOk.cons (zai.int _) (CCOk.cons (zai.lst _) (CCOk.cons (zai.lst _) (CCOk.cons (zai.lst _) (CCOk.cons (zai.lst _) (CCOk.cons (zai.lst _) (CCOk.cons (zai.lst _) (CCOk.cons (zai.int _) (CCOk.cons (zai.lst _) (CCOk.cons (zai.int _) (CCOk.cons (zai.lst _) (CCOk.cons (zai.int _) (CCOk.cons (zai.lst _) (CCOk.cons (zai.int _) (CCOk.cons (zai.lst _) (CCOk.cons (zai.lst _) (CCOk.cons (zai.int _) (CCOk.cons (zai.int _) (CCOk.cons zai.bool (CCOk.cons (zai.int _) CCOk.nil)))))))))))))))))))) (fun _=>rfl)
theorem zc9:CCOk zbm:=CCOk.iso (CCOk.cons (zai.int _) (CCOk.cons (zai.int _) (CCOk.cons (zai.int _) (CCOk.cons (zai.int _) CCOk.nil)))) (fun _=>rfl)
theorem znj:CCOk zp5:=CCOk.iso (CCOk.cons (zai.int _) (CCOk.cons (zai.int _) CCOk.nil)) (fun _=>rfl)
theorem zcu:CCOk zb4:=CCOk.iso (CCOk.cons (zai.int _) (CCOk.cons (zai.int _) CCOk.nil)) (fun _=>rfl)
theorem zg3:CCOk zdm:=CCOk.iso (CCOk.cons (zai.int _) (CCOk.cons (zai.lst _) (CCOk.cons (zai.int _) (CCOk.cons (zai.lst _) (CCOk.cons (zai.int _) (CCOk.cons (zai.lst _) (CCOk.cons (zai.int _) (CCOk.cons (zai.lst _) CCOk.nil)))))))) (fun _=>rfl)
theorem znm:CCOk zbl:=CCOk.iso (CCOk.cons zai.bool (CCOk.cons zai.bool (CCOk.cons zai.bool (CCOk.cons zai.bool (CCOk.cons zai.bool (CCOk.cons zai.bool (CCOk.cons zai.bool CCOk.nil))))))) (fun _=>rfl)
instance:CCC zax:=⟨znf⟩
instance:CCC za0:=⟨znh⟩
instance:CCC zba:=⟨zh2⟩
instance:CCC zcj:=⟨zni⟩
instance:CCC zbk:=⟨zng⟩
instance:CCC zc8:=⟨zh1⟩
instance:CCC zc0:=⟨znl⟩
instance:CCC zaw:=⟨zlx⟩
instance:CCC zgd:=⟨znk⟩
instance:CCC zak:=⟨zy1⟩
instance:CCC zav:=⟨zjt⟩
instance:CCC zbm:=⟨zc9⟩
instance:CCC zp5:=⟨znj⟩
instance:CCC zb4:=⟨zcu⟩
instance:CCC zdm:=⟨zg3⟩
instance:CCC zbl:=⟨znm⟩
end Go.Proofs.YtpaidiaknfhclaaGreatDoor
namespace Go.Proofs.YtpaidiaknfhclaaGreatDoor
set_option maxRecDepth 100000
open Ev
open Go (IntKind)
abbrev zbz:ZC (Int×Unit):=Zc Zi Zn
abbrev zafl:ZD (Circ):=(Cod.agg zak)
abbrev zan2 {R:Type}:Sm R:=semP zbz zafl (fun a=>qaf a.1)
abbrev zarn:ZC (Item×Int×Unit):=Zc (Cod.agg za0) (Zc (Cod.cptr (CC.one Zi)) Zn)
abbrev zat:ZD (Bool):=Zb
abbrev zaf7 {R:Type}:Sm R:=semP zarn zat (fun a=>qd a.1 a.2.1)
abbrev zawg:ZC ((List Item)×((Unit)×(Int×Unit))×Unit):=Zc (Zl .kItem) (Zc (Cod.fnc 127 (Zn) (Zc (Cod.cptr (CC.one Zi)) Zn)) Zn)
abbrev za2:ZD (Int):=Zi
abbrev zavz {R:Type}:Sm R:=semP zawg za2 (fun a=>qa (fun g x0=>qd x0 g.2.1) a.1 a.2.1)
def zagy {R:Type}:Nat→Sm R:=cl 127 zaf7 c0
abbrev z1j:=mkld [] [] [0,1,7,8] [] [] (Zs 0 (Zl .kItem) (Zs 1 (Cod.fnc 127 (Zn) (Zc (Cod.cptr (CC.one Zi)) Zn)) (Zs 7 Zi (Zs 8 Zi Zz)))) (z3e (fun g x0=>qd x0 g.2.1)) (.xs 0 [] [] [] Zz (.r [4] [] [] (Zs 4 Zi Zz)))
def zul {R:Type}:Lp Kd El R:=lp 2 z1j.sem l0
abbrev zln:ZC (Circ×Int×Unit):=Zc (Cod.agg zak) (Zc Zi Zn)
abbrev zu4 {R:Type}:Sm R:=semP zln za2 (fun a=>qc a.1 a.2.1)
abbrev zafs:ZD (Custody):=(Cod.agg zax)
abbrev z5o {R:Type}:Sm R:=semP zbz zafs (fun a=>qcv a.1)
abbrev zab9:ZC (Item×Item×Unit):=Zc (Cod.agg za0) (Zc (Cod.cptr za0) Zn)
abbrev z5n {R:Type}:Sm R:=semP zab9 zat (fun a=>qcu a.1 a.2.1)
abbrev z6y:ZC ((List Item)×((Unit)×(Item×Unit))×Unit):=Zc (Zl .kItem) (Zc (Cod.fnc 101 (Zn) (Zc (Cod.cptr za0) Zn)) Zn)
abbrev z34 {R:Type}:Sm R:=semP z6y za2 (fun a=>qa (fun g x0=>qcu x0 g.2.1) a.1 a.2.1)
def zvk {R:Type}:Nat→Sm R:=cl 101 z5n c0
abbrev zki:=mkld [] [] [0,1,7,8] [] [] (Zs 0 (Zl .kItem) (Zs 1 (Cod.fnc 101 (Zn) (Zc (Cod.cptr za0) Zn)) (Zs 7 Zi (Zs 8 Zi Zz)))) (z3e (fun g x0=>qcu x0 g.2.1)) (.xs 0 [] [] [] Zz (.r [4] [] [] (Zs 4 Zi Zz)))
def zij {R:Type}:Lp Kd El R:=lp 2 zki.sem l0
abbrev zarf:ZC ((List Item)×Unit):=Zc (Zl .kItem) Zn
abbrev zafq:ZD ((List Item)):=(Zl .kItem)
abbrev zaoy {R:Type}:Sm R:=semP zarf zafq (fun a=>qci a.1)
abbrev zx8:ZC ((List Item)×Int×(List Item)×Unit):=Zc (Zl .kItem) (Zc Zi (Zc (Zl .kItem) Zn))
abbrev zaf0:ZD ((List Item)):=zafq
def zaei (a:(List Item)×Int×(List Item)×Unit):Option ((List Item)):=qdt a.1 a.2.1 a.2.2.1
abbrev zaw2 {R:Type}:Sm R:=semP zx8 zaf0 zaei
abbrev zm4:ZC (Int×Int×Int×Unit):=Zc Zi (Zc Zi (Zc Zi Zn))
abbrev z4t {R:Type}:Sm R:=semP zm4 zat (fun a=>qba a.1 a.2.1 a.2.2.1)
abbrev zj5:ZC ((List UInt8)×Unit):=Zc Cod.str Zn
abbrev zafp:ZD (Bool):=zat
def zaeb (a:(List UInt8)×Unit):Option (Bool):=qce a.1
abbrev zawy {R:Type}:Sm R:=semP zj5 zafp zaeb
abbrev zarv:ZC (Item×Unit):=Zc (Cod.agg za0) Zn
abbrev z5x {R:Type}:Sm R:=semP zarv zat (fun a=>qdx a.1)
abbrev z41 {R:Type}:Sm R:=semP zm4 zat (fun a=>qbn a.1 a.2.1 a.2.2.1)
abbrev zx4:ZC (Custody×Unit):=Zc (Cod.agg zax) Zn
abbrev zapm {R:Type}:Sm R:=semP zx4 zat (fun a=>qdi a.1)
abbrev zj6:ZC (Int×Int×Unit):=Zc Zi (Zc Zi Zn)
abbrev zaoz {R:Type}:Sm R:=semP zj6 zat (fun a=>qcj a.1 a.2.1)
abbrev zaq0:ZC (Custody×Bool×Unit):=Zc (Cod.agg zax) (Zc Zb Zn)
abbrev zuz:ZD (Custody×Int):=(Cod.tup2 (Zc (Cod.agg zax) (Zc Zi Zn)))
abbrev zaoe {R:Type}:Sm R:=semP zaq0 zuz (fun a=>qb5 a.1 a.2.1)
abbrev zr9:ZC (Custody×Move×Unit):=Zc (Cod.agg zax) (Zc (Cod.agg zgd) Zn)
abbrev zaov {R:Type}:Sm R:=semP zr9 zuz (fun a=>qc9 a.1 a.2.1)
abbrev z5y {R:Type}:Sm R:=semP zr9 zuz (fun a=>qdy a.1 a.2.1)
abbrev zab3:ZC (Int×(List Move)×Int×Unit):=Zc Zi (Zc (Zl .kMove) (Zc Zi Zn))
abbrev zafm:ZD (Custody×Int×Int):=(Cod.tup3 (Zc (Cod.agg zax) (Zc Zi (Zc Zi Zn))))
abbrev z4d {R:Type}:Sm R:=semP zab3 zafm (fun a=>qal a.1 a.2.1 a.2.2.1)
def z7s {R:Type}:Nat→Sm R:=cl 100 z5o (cl 128 z41 (cl 129 z5y c0))
abbrev ztf:=mkld [] [] [2,6,9,20,21,22] [6,9] [] (Zs 2 Zi (Zp 6 6 (Zp 9 9 (Zs 20 (Zl .kMove) (Zs 21 Zi (Zs 22 Zi (Zx 6 zax (Zx 9 zax Zz)))))))) zaew (.xs 0 [6,9] [6,9] [] (Zp 6 6 (Zp 9 9 (Zx 6 zax (Zx 9 zax Zz)))) (.r [7,8] [6] [6] (Zp 6 6 (Zs 7 Zi (Zs 8 Zi (Zx 6 zax Zz))))))
def zop {R:Type}:Lp Kd El R:=lp 5 ztf.sem l0
abbrev zgb:ZC (Circ×Unit):=Zc (Cod.agg zak) Zn
abbrev zav1 {R:Type}:Sm R:=semP zgb zat (fun a=>qf a.1)
def zag1 {R:Type}:Nat→Sm R:=cl 76 z5x (cl 77 zu4 (cl 78 z4d c0))
abbrev z1n:=mkld [] [] [1,23,24,25] [1] [] (Zp 1 1 (Zs 23 (Zl .kItem) (Zs 24 Zi (Zs 25 Zi (Zx 1 zak Zz))))) zau1 (.xs 0 [1] [1] [] (Zp 1 1 (Zx 1 zak Zz)) (.r [2] [] [] (Zs 2 Zb Zz)))
abbrev zt6:=mkld [] [] [1,51,52,53] [1] [] (Zp 1 1 (Zs 51 (Zl .kMove) (Zs 52 Zi (Zs 53 Zi (Zx 1 zak Zz))))) zafg (.xs 2 [1] [1] [] (Zp 1 1 (Zx 1 zak Zz)) (.r [2] [] [] (Zs 2 Zb Zz)))
abbrev zt7:=mkld [] [] [1,64,65,66] [1] [] (Zp 1 1 (Zs 64 (Zl .kItem) (Zs 65 Zi (Zs 66 Zi (Zx 1 zak Zz))))) zafh (.xs 4 [] [] [] Zz (.r [2] [] [] (Zs 2 Zb Zz)))
def zhh {R:Type}:Lp Kd El R:=lp 16 zt7.sem (lp 10 zt6.sem (lp 4 z1n.sem l0))
abbrev zx5:ZC ((List UInt8)×Unit):=zj5
abbrev z3s:ZD ((List UInt8)):=Cod.str
def zaef (a:(List UInt8)×Unit):Option ((List UInt8)):=qdm a.1
abbrev zawz {R:Type}:Sm R:=semP zx5 z3s zaef
abbrev zaq9:ZC (Patron×Unit):=Zc (Cod.agg zba) Zn
abbrev z43 {R:Type}:Sm R:=semP zaq9 za2 (fun a=>qbz a.1)
abbrev zr4:ZC ((List Patron)×Unit):=Zc (Zl .kPatron) Zn
abbrev z4b {R:Type}:Sm R:=semP zr4 za2 (fun a=>qai a.1)
def z7p {R:Type}:Nat→Sm R:=cl 130 z43 c0
abbrev ztc:=mkld [] [] [3,10,11,12] [] [] (Zs 3 Zi (Zs 10 (Zl .kPatron) (Zs 11 Zi (Zs 12 Zi Zz)))) zaeu (.xs 0 [] [] [] Zz (.r [2] [] [] (Zs 2 Zi Zz)))
def zom {R:Type}:Lp Kd El R:=lp 5 ztc.sem l0
abbrev z6c {R:Type}:Sm R:=semP zbz zat (fun a=>qeo a.1)
abbrev z6b {R:Type}:Sm R:=semP zbz zat (fun a=>qek a.1)
abbrev zr5:ZC ((List Loan)×Unit):=Zc (Zl .kLoan) Zn
abbrev z4c {R:Type}:Sm R:=semP zr5 za2 (fun a=>qak a.1)
def z7r {R:Type}:Nat→Sm R:=cl 131 z6c (cl 132 z6b c0)
abbrev zte:=mkld [] [] [0,8,9,10] [] [] (Zs 0 (Zl .kLoan) (Zs 8 (Zl .kLoan) (Zs 9 Zi (Zs 10 Zi Zz)))) zaev (.xs 0 [] [] [] Zz (.r [2] [] [] (Zs 2 Zi Zz)))
def zoo {R:Type}:Lp Kd El R:=lp 4 zte.sem l0
abbrev zaoc {R:Type}:Sm R:=semP zm4 zat (fun a=>qb3 a.1 a.2.1 a.2.2.1)
abbrev zap2 {R:Type}:Sm R:=semP zbz zat (fun a=>qeh a.1)
abbrev zacf:ZC (Hold×Unit):=Zc (Cod.agg zbk) Zn
abbrev z5v {R:Type}:Sm R:=semP zacf za2 (fun a=>qdn a.1)
abbrev zx1:ZC (Hold×Hold×Unit):=Zc (Cod.agg zbk) (Zc (Cod.agg zbk) Zn)
abbrev z5g {R:Type}:Sm R:=semP zx1 zat (fun a=>qcd a.1 a.2.1)
abbrev zarw:ZC ((List Hold)×((Unit)×(Unit))×Unit):=Zc (Zl .kHold) (Zc (Cod.fnc 135 (Zn) (Zn)) Zn)
abbrev zaf8 {R:Type}:Sm R:=semP zarw zat (fun a=>qe (fun g x0 x1=>qcd x0 x1) a.1 a.2.1)
def zag0 {R:Type}:Nat→Sm R:=cl 135 z5g c0
abbrev z1m:=mkld [] [] [0,1,5,8,9,12,13] [] [] (Zs 0 (Zl .kHold) (Zs 1 (Cod.fnc 135 (Zn) (Zn)) (Zs 5 Zi (Zs 8 Zi (Zs 9 Zi (Zs 12 Zi (Zs 13 Zi Zz))))))) (zanh (fun g x0 x1=>qcd x0 x1)) (.xs 2 [0,1,8,9] [] [] (Zs 0 (Zl .kHold) (Zs 1 (Cod.fnc 135 (Zn) (Zn)) (Zs 8 Zi (Zs 9 Zi Zz)))) (.r [4] [] [] (Zs 4 Zb Zz)))
abbrev z1l:=mkld [] [] [0,1,8,9] [] [] (Zs 0 (Zl .kHold) (Zs 1 (Cod.fnc 135 (Zn) (Zn)) (Zs 8 Zi (Zs 9 Zi Zz)))) (zang (fun g x0 x1=>qcd x0 x1)) (.xs 0 [] [] [] Zz (.r [4] [] [] (Zs 4 Zb Zz)))
def zmn {R:Type}:Lp Kd El R:=lp 2 z1l.sem (lp 5 z1m.sem l0)
abbrev z5u {R:Type}:Sm R:=semP zx1 zat (fun a=>qdk a.1 a.2.1)
abbrev zsa:ZC ((List Hold)×((Unit)×(Unit))×Unit):=Zc (Zl .kHold) (Zc (Cod.fnc 136 (Zn) (Zn)) Zn)
abbrev zpq {R:Type}:Sm R:=semP zsa zat (fun a=>qe (fun g x0 x1=>qdk x0 x1) a.1 a.2.1)
def zvs {R:Type}:Nat→Sm R:=cl 136 z5u c0
abbrev zkr:=mkld [] [] [0,1,5,8,9,12,13] [] [] (Zs 0 (Zl .kHold) (Zs 1 (Cod.fnc 136 (Zn) (Zn)) (Zs 5 Zi (Zs 8 Zi (Zs 9 Zi (Zs 12 Zi (Zs 13 Zi Zz))))))) (zanh (fun g x0 x1=>qdk x0 x1)) (.xs 2 [0,1,8,9] [] [] (Zs 0 (Zl .kHold) (Zs 1 (Cod.fnc 136 (Zn) (Zn)) (Zs 8 Zi (Zs 9 Zi Zz)))) (.r [4] [] [] (Zs 4 Zb Zz)))
abbrev zkq:=mkld [] [] [0,1,8,9] [] [] (Zs 0 (Zl .kHold) (Zs 1 (Cod.fnc 136 (Zn) (Zn)) (Zs 8 Zi (Zs 9 Zi Zz)))) (zang (fun g x0 x1=>qdk x0 x1)) (.xs 0 [] [] [] Zz (.r [4] [] [] (Zs 4 Zb Zz)))
def zfe {R:Type}:Lp Kd El R:=lp 2 zkq.sem (lp 5 zkr.sem l0)
abbrev zagn:ZC ((List Hold)×Unit):=Zc (Zl .kHold) Zn
abbrev zaf9 {R:Type}:Sm R:=semP zagn za2 (fun a=>qh a.1)
def zag3 {R:Type}:Nat→Sm R:=cl 133 z5v (cl 134 (si zarw zaf8 (si zsa zpq s0)) c0)
abbrev z1q:=mkld [] [] [0,9,10,11] [] [] (Zs 0 (Zl .kHold) (Zs 9 (Zl .kHold) (Zs 10 Zi (Zs 11 Zi Zz)))) zau8 (.xs 0 [0] [] [] (Zs 0 (Zl .kHold) Zz) (.r [2] [] [] (Zs 2 Zi Zz)))
def zun {R:Type}:Lp Kd El R:=lp 4 z1q.sem l0
abbrev zap9 {R:Type}:Sm R:=semP zbz zat (fun a=>qeu a.1)
abbrev zapa {R:Type}:Sm R:=semP zbz zat (fun a=>qd3 a.1)
abbrev zaq1:ZC (Charge×Unit):=Zc (Cod.agg zc8) Zn
abbrev z4l {R:Type}:Sm R:=semP zaq1 za2 (fun a=>qb6 a.1)
abbrev zab4:ZC ((List Charge)×Unit):=Zc (Zl .kCharge) Zn
abbrev z4f {R:Type}:Sm R:=semP zab4 za2 (fun a=>qao a.1)
def z7u {R:Type}:Nat→Sm R:=cl 137 z4l c0
abbrev zth:=mkld [] [] [0,9,10,11] [] [] (Zs 0 (Zl .kCharge) (Zs 9 (Zl .kCharge) (Zs 10 Zi (Zs 11 Zi Zz)))) zaex (.xs 0 [] [] [] Zz (.r [2] [] [] (Zs 2 Zi Zz)))
def zor {R:Type}:Lp Kd El R:=lp 4 zth.sem l0
abbrev zaoq {R:Type}:Sm R:=semP zm4 zat (fun a=>qbu a.1 a.2.1 a.2.2.1)
abbrev zxy:ZC (Rule×Unit):=Zc (Cod.agg zc0) Zn
abbrev z5a {R:Type}:Sm R:=semP zxy zat (fun a=>qc4 a.1)
abbrev zarg:ZC (Rule×Rule×Unit):=Zc (Cod.agg zc0) (Zc (Cod.cptr zc0) Zn)
abbrev z5j {R:Type}:Sm R:=semP zarg zat (fun a=>qck a.1 a.2.1)
abbrev zab5:ZC ((List Rule)×((Unit)×(Rule×Unit))×Unit):=Zc (Zl .kRule) (Zc (Cod.fnc 139 (Zn) (Zc (Cod.cptr zc0) Zn)) Zn)
abbrev zaoa {R:Type}:Sm R:=semP zab5 za2 (fun a=>qay (fun g x0=>qck x0 g.2.1) a.1 a.2.1)
def z74 {R:Type}:Nat→Sm R:=cl 139 z5j c0
abbrev ztp:=mkld [] [] [0,1,7,8] [] [] (Zs 0 (Zl .kRule) (Zs 1 (Cod.fnc 139 (Zn) (Zc (Cod.cptr zc0) Zn)) (Zs 7 Zi (Zs 8 Zi Zz)))) (zae4 (fun g x0=>qck x0 g.2.1)) (.xs 0 [] [] [] Zz (.r [4] [] [] (Zs 4 Zi Zz)))
def zoz {R:Type}:Lp Kd El R:=lp 2 ztp.sem l0
abbrev z6d {R:Type}:Sm R:=semP zab5 zat (fun a=>qep (fun g x0=>qck x0 g.2.1) a.1 a.2.1)
abbrev zar2:ZC ((List Rule)×Unit):=Zc (Zl .kRule) Zn
abbrev zagf {R:Type}:Sm R:=semP zar2 za2 (fun a=>qv a.1)
def zahg {R:Type}:Nat→Sm R:=cl 138 z5a (cl 140 z6d c0)
abbrev z2a:=mkld [] [] [0,9,10,11] [] [] (Zs 0 (Zl .kRule) (Zs 9 (Zl .kRule) (Zs 10 Zi (Zs 11 Zi Zz)))) zavj (.xs 0 [] [] [] Zz (.r [2] [] [] (Zs 2 Zi Zz)))
def zut {R:Type}:Lp Kd El R:=lp 4 z2a.sem l0
abbrev z49 {R:Type}:Sm R:=semP zbz zat (fun a=>qc3 a.1)
abbrev z44 {R:Type}:Sm R:=semP zbz zat (fun a=>qc0 a.1)
abbrev zab6:ZC ((List Int)×((Unit)×(Unit))×Unit):=Zc (Zl .ki64) (Zc (Cod.fnc 142 (Zn) (Zn)) Zn)
abbrev zaob {R:Type}:Sm R:=semP zab6 za2 (fun a=>qaz (fun g x0=>qc0 x0) a.1 a.2.1)
def z78 {R:Type}:Nat→Sm R:=cl 142 z44 c0
abbrev ztq:=mkld [] [] [0,1,7,8] [] [] (Zs 0 (Zl .ki64) (Zs 1 (Cod.fnc 142 (Zn) (Zn)) (Zs 7 Zi (Zs 8 Zi Zz)))) (zae5 (fun g x0=>qc0 x0)) (.xs 0 [] [] [] Zz (.r [4] [] [] (Zs 4 Zi Zz)))
def zo0 {R:Type}:Lp Kd El R:=lp 2 ztq.sem l0
abbrev z6e {R:Type}:Sm R:=semP zab6 zat (fun a=>qeq (fun g x0=>qc0 x0) a.1 a.2.1)
abbrev zagp:ZC (Calendar×Unit):=Zc (Cod.agg zaw) Zn
abbrev zage {R:Type}:Sm R:=semP zagp za2 (fun a=>qt a.1)
def zahf {R:Type}:Nat→Sm R:=cl 141 z6e c0
abbrev z19:=mkld [] [] [1,24,25,26] [1] [] (Zp 1 1 (Zs 24 (Zl .ki64) (Zs 25 Zi (Zs 26 Zi (Zx 1 zaw Zz))))) zavi (.xs 1 [] [] [] Zz (.r [2] [] [] (Zs 2 Zi Zz)))
def zus {R:Type}:Lp Kd El R:=lp 8 z19.sem l0
abbrev zav7 {R:Type}:Sm R:=semP zgb zat (fun a=>qq a.1)
def zahc {R:Type}:Nat→Sm R:=cl 36 z4t (cl 79 z4b (cl 80 z4c (cl 81 zaf9 (cl 82 z4f (cl 83 zagf (cl 84 zage c0))))))
abbrev z14:=mkld [] [] [1,38,39] [1] [] (Zp 1 1 (Zs 38 (Cod.agg zdm) (Zs 39 Zi (Zx 1 zak Zz)))) zavh (.xs 0 [1] [1] [] (Zp 1 1 (Zx 1 zak Zz)) (.r [2] [] [] (Zs 2 Zb Zz)))
abbrev zub:=mkld [] [] [1,57,58,59] [1] [] (Zp 1 1 (Zs 57 (Zl .kHold) (Zs 58 Zi (Zs 59 Zi (Zx 1 zak Zz))))) zafj (.xs 2 [1] [1] [] (Zp 1 1 (Zx 1 zak Zz)) (.r [2] [] [] (Zs 2 Zb Zz)))
abbrev zuc:=mkld [] [] [1,70,71,72] [1] [] (Zp 1 1 (Zs 70 (Zl .kCharge) (Zs 71 Zi (Zs 72 Zi (Zx 1 zak Zz))))) zafk (.xs 4 [] [] [] Zz (.r [2] [] [] (Zs 2 Zb Zz)))
def zhl {R:Type}:Lp Kd El R:=lp 18 zuc.sem (lp 12 zub.sem (lp 4 z14.sem l0))
abbrev zara:ZC (Patron×Int×Unit):=Zc (Cod.agg zba) (Zc (Cod.cptr (CC.one Zi)) Zn)
abbrev z48 {R:Type}:Sm R:=semP zara zat (fun a=>qc2 a.1 a.2.1)
abbrev zawj:ZC ((List Patron)×((Unit)×(Int×Unit))×Unit):=Zc (Zl .kPatron) (Zc (Cod.fnc 207 (Zn) (Zc (Cod.cptr (CC.one Zi)) Zn)) Zn)
abbrev zav5 {R:Type}:Sm R:=semP zawj za2 (fun a=>qm (fun g x0=>qc2 x0 g.2.1) a.1 a.2.1)
def zag8 {R:Type}:Nat→Sm R:=cl 207 z48 c0
abbrev z1w:=mkld [] [] [0,1,7,8] [] [] (Zs 0 (Zl .kPatron) (Zs 1 (Cod.fnc 207 (Zn) (Zc (Cod.cptr (CC.one Zi)) Zn)) (Zs 7 Zi (Zs 8 Zi Zz)))) (zanj (fun g x0=>qc2 x0 g.2.1)) (.xs 0 [] [] [] Zz (.r [4] [] [] (Zs 4 Zi Zz)))
def zur {R:Type}:Lp Kd El R:=lp 2 z1w.sem l0
abbrev zr1:ZC ((List Patron)×Int×Unit):=Zc (Zl .kPatron) (Zc Zi Zn)
abbrev zant {R:Type}:Sm R:=semP zr1 za2 (fun a=>qa2 a.1 a.2.1)
abbrev zafr:ZD (Patron×Bool):=(Cod.tup2 (Zc (Cod.agg zba) (Zc Zb Zn)))
abbrev zao0 {R:Type}:Sm R:=semP zr1 zafr (fun a=>qcn a.1 a.2.1)
abbrev zaq2:ZC (Int×Circ×Unit):=Zc Zi (Zc (Cod.cptr zak) Zn)
abbrev z4m {R:Type}:Sm R:=semP zaq2 zat (fun a=>qb7 a.1 a.2.1)
abbrev zav2 {R:Type}:Sm R:=semP zgb zat (fun a=>qg a.1)
def zag2 {R:Type}:Nat→Sm R:=cl 77 zu4 (cl 85 z4m c0)
abbrev z1o:=mkld [] [] [1,3,12,13,14] [1] [] (Zp 1 1 (FC.clo 3 85 [] [1] (Zs 12 (Zl .kLoan) (Zs 13 Zi (Zs 14 Zi (Zx 1 zak Zz)))))) zau6 (.xs 0 [1,3] [1] [] (Zp 1 1 (FC.clo 3 85 [] [1] (Zx 1 zak Zz))) (.r [2] [] [] (Zs 2 Zb Zz)))
abbrev z1p:=mkld [] [] [1,3,32,33,34] [1] [] (Zp 1 1 (FC.clo 3 85 [] [1] (Zs 32 (Zl .kHold) (Zs 33 Zi (Zs 34 Zi (Zx 1 zak Zz)))))) zau7 (.xs 2 [1,3] [1] [] (Zp 1 1 (FC.clo 3 85 [] [1] (Zx 1 zak Zz))) (.r [2] [] [] (Zs 2 Zb Zz)))
abbrev zt8:=mkld [] [] [3,45,46,47] [1] [] (FC.clo 3 85 [] [1] (Zs 45 (Zl .kCharge) (Zs 46 Zi (Zs 47 Zi (Zx 1 zak Zz))))) zafi (.xs 4 [] [] [] Zz (.r [2] [] [] (Zs 2 Zb Zz)))
def zhi {R:Type}:Lp Kd El R:=lp 15 zt8.sem (lp 9 z1p.sem (lp 3 z1o.sem l0))
abbrev zavm:ZD ((Int×Unit)):=(Cod.clo 186 (Zc (Cod.cptr (CC.one Zi)) Zn))
abbrev zan5 {R:Type}:Sm R:=semP zbz zavm (fun a=>qap a.1)
abbrev zard:ZC (Loan×Int×Unit):=Zc (Cod.agg zcj) (Zc (Cod.cptr (CC.one Zi)) Zn)
abbrev z5f {R:Type}:Sm R:=semP zard zat (fun a=>qca a.1 a.2.1)
abbrev zago:ZC ((List Loan)×((Unit)×(Int×Unit))×Unit):=Zc (Zl .kLoan) (Zc (Cod.fnc 186 (Zn) (Zc (Cod.cptr (CC.one Zi)) Zn)) Zn)
abbrev zav3 {R:Type}:Sm R:=semP zago za2 (fun a=>qk (fun g x0=>qca x0 g.2.1) a.1 a.2.1)
def zag6 {R:Type}:Nat→Sm R:=cl 186 z5f c0
abbrev z1t:=mkld [] [] [0,1,7,8] [] [] (Zs 0 (Zl .kLoan) (Zs 1 (Cod.fnc 186 (Zn) (Zc (Cod.cptr (CC.one Zi)) Zn)) (Zs 7 Zi (Zs 8 Zi Zz)))) (zani (fun g x0=>qca x0 g.2.1)) (.xs 0 [] [] [] Zz (.r [4] [] [] (Zs 4 Zi Zz)))
def zuq {R:Type}:Lp Kd El R:=lp 2 z1t.sem l0
abbrev zafo:ZD (Loan×Int):=(Cod.tup2 (Zc (Cod.agg zcj) (Zc Zi Zn)))
abbrev zaou {R:Type}:Sm R:=semP zago zafo (fun a=>qby (fun g x0=>qca x0 g.2.1) a.1 a.2.1)
abbrev zj4:ZC ((List Loan)×Int×Unit):=Zc (Zl .kLoan) (Zc Zi Zn)
abbrev zafn:ZD (Loan×Bool):=(Cod.tup2 (Zc (Cod.agg zcj) (Zc Zb Zn)))
abbrev z4j {R:Type}:Sm R:=semP zj4 zafn (fun a=>qb1 a.1 a.2.1)
abbrev zaoj {R:Type}:Sm R:=semP zgb zat (fun a=>qbl a.1)
def z8i {R:Type}:Nat→Sm R:=cl 69 z4j c0
abbrev zt0:=mkld [] [] [1,9,10,11] [1] [] (Zp 1 1 (Zs 9 (Zl .kItem) (Zs 10 Zi (Zs 11 Zi (Zx 1 zak Zz))))) zae9 (.xs 0 [] [] [] Zz (.r [2] [] [] (Zs 2 Zb Zz)))
def zpa {R:Type}:Lp Kd El R:=lp 2 zt0.sem l0
abbrev zaca:ZC (Hold×Int×Unit):=Zc (Cod.agg zbk) (Zc (Cod.cptr (CC.one Zi)) Zn)
abbrev z5p {R:Type}:Sm R:=semP zaca zat (fun a=>qcw a.1 a.2.1)
abbrev zawh:ZC ((List Hold)×((Unit)×(Int×Unit))×Unit):=Zc (Zl .kHold) (Zc (Cod.fnc 145 (Zn) (Zc (Cod.cptr (CC.one Zi)) Zn)) Zn)
abbrev zav0 {R:Type}:Sm R:=semP zawh za2 (fun a=>qb (fun g x0=>qcw x0 g.2.1) a.1 a.2.1)
def zagz {R:Type}:Nat→Sm R:=cl 145 z5p c0
abbrev z1k:=mkld [] [] [0,1,7,8] [] [] (Zs 0 (Zl .kHold) (Zs 1 (Cod.fnc 145 (Zn) (Zc (Cod.cptr (CC.one Zi)) Zn)) (Zs 7 Zi (Zs 8 Zi Zz)))) (zi3 (fun g x0=>qcw x0 g.2.1)) (.xs 0 [] [] [] Zz (.r [4] [] [] (Zs 4 Zi Zz)))
def zum {R:Type}:Lp Kd El R:=lp 2 z1k.sem l0
abbrev z3q:ZD (Hold×Bool):=(Cod.tup2 (Zc (Cod.agg zbk) (Zc Zb Zn)))
abbrev z4e {R:Type}:Sm R:=semP zln z3q (fun a=>qam a.1 a.2.1)
abbrev zany {R:Type}:Sm R:=semP zgb zat (fun a=>qab a.1)
def z7k {R:Type}:Nat→Sm R:=cl 77 zu4 (cl 87 z4e c0)
abbrev zs7:=mkld [] [] [1,13,14,15] [1] [] (Zp 1 1 (Zs 13 (Zl .kHold) (Zs 14 Zi (Zs 15 Zi (Zx 1 zak Zz))))) zaeq (.xs 0 [1] [1] [] (Zp 1 1 (Zx 1 zak Zz)) (.r [2] [] [] (Zs 2 Zb Zz)))
abbrev zn5:=mkld [] [] [1,65,66,67] [1] [] (Zp 1 1 (Zs 65 (Zl .kItem) (Zs 66 Zi (Zs 67 Zi (Zx 1 zak Zz))))) z3f (.xs 2 [] [] [] Zz (.r [2] [] [] (Zs 2 Zb Zz)))
def zin {R:Type}:Lp Kd El R:=lp 16 zn5.sem (lp 2 zs7.sem l0)
abbrev zaqe {R:Type}:Sm R:=semP zgb zat (fun a=>qfe a.1)
abbrev zagm:ZC (Circ×Item×Unit):=Zc (Cod.agg zak) (Zc (Cod.agg za0) Zn)
abbrev z3p:ZD (Circ×Int):=(Cod.tup2 (Zc (Cod.agg zak) (Zc Zi Zn)))
abbrev zaf6 {R:Type}:Sm R:=semP zagm z3p (fun a=>q9 a.1 a.2.1)
abbrev zarc:ZC (Patron×Patron×Unit):=Zc (Cod.agg zba) (Zc (Cod.cptr zba) Zn)
abbrev z5c {R:Type}:Sm R:=semP zarc zat (fun a=>qc6 a.1 a.2.1)
abbrev z61:ZC ((List Patron)×((Unit)×(Patron×Unit))×Unit):=Zc (Zl .kPatron) (Zc (Cod.fnc 208 (Zn) (Zc (Cod.cptr zba) Zn)) Zn)
abbrev z6o {R:Type}:Sm R:=semP z61 za2 (fun a=>qm (fun g x0=>qc6 x0 g.2.1) a.1 a.2.1)
def zvu {R:Type}:Nat→Sm R:=cl 208 z5c c0
abbrev zkt:=mkld [] [] [0,1,7,8] [] [] (Zs 0 (Zl .kPatron) (Zs 1 (Cod.fnc 208 (Zn) (Zc (Cod.cptr zba) Zn)) (Zs 7 Zi (Zs 8 Zi Zz)))) (zanj (fun g x0=>qc6 x0 g.2.1)) (.xs 0 [] [] [] Zz (.r [4] [] [] (Zs 4 Zi Zz)))
def ziw {R:Type}:Lp Kd El R:=lp 2 zkt.sem l0
abbrev zafy:ZD ((List Patron)):=(Zl .kPatron)
abbrev zapq {R:Type}:Sm R:=semP zr4 zafy (fun a=>qdr a.1)
abbrev zx6:ZC ((List Patron)×Int×(List Patron)×Unit):=Zc (Zl .kPatron) (Zc Zi (Zc (Zl .kPatron) Zn))
abbrev zafx:ZD ((List Patron)):=zafy
def zaeg (a:(List Patron)×Int×(List Patron)×Unit):Option ((List Patron)):=qdq a.1 a.2.1 a.2.2.1
abbrev zaw0 {R:Type}:Sm R:=semP zx6 zafx zaeg
abbrev zaf3:ZD ((List Patron)×Int):=(Cod.tup2 (Zc (Zl .kPatron) (Zc Zi Zn)))
abbrev zapr {R:Type}:Sm R:=semP zr4 zaf3 (fun a=>qdw a.1)
abbrev zaq8:ZC ((List Patron)×Patron×Unit):=Zc (Zl .kPatron) (Zc (Cod.agg zba) Zn)
abbrev zaos {R:Type}:Sm R:=semP zaq8 zaf3 (fun a=>qbw a.1 a.2.1)
abbrev zace:ZC (Circ×Patron×Unit):=Zc (Cod.agg zak) (Zc (Cod.agg zba) Zn)
abbrev zapl {R:Type}:Sm R:=semP zace z3p (fun a=>qdh a.1 a.2.1)
abbrev zxz:ZC (Unit):=Zn
abbrev z5d {R:Type}:Sm R:=semP zxz zafl (fun a=>qc7)
abbrev zavr:ZC (Circ_desk):=zav
abbrev zaox {R:Type}:Sm R:=semN zgb zavr (fun a=>qcf a.1)
abbrev zyb:ZC (Unit×Int×Unit):=Zc (Cod.ptrc 100000) (Zc Zi Zn)
abbrev zjz:ZD (Unit):=Cod.unit
abbrev zav9 {R:Type}:Sm R:=semM zyb (BC.one zav) zjz (fun a b=>qu a.2.1 b)
abbrev zao3 {R:Type}:Sm R:=semM zyb (BC.one zav) za2 (fun a b=>qcs a.2.1 b)
abbrev zarr:ZC ((List Move)×Unit):=Zc (Zl .kMove) Zn
abbrev zavt:ZD ((List Move)):=(Zl .kMove)
abbrev zapi {R:Type}:Sm R:=semP zarr zavt (fun a=>qde a.1)
abbrev zab2:ZC (Unit×Int×Int×Int×Int×Unit):=Zc (Cod.ptrc 100000) (Zc Zi (Zc Zi (Zc Zi (Zc Zi Zn))))
abbrev zanw {R:Type}:Sm R:=semM zab2 (BC.one zav) zjz (fun a b=>qa7 a.2.1 a.2.2.1 a.2.2.2.1 a.2.2.2.2.1 b)
abbrev zrr {R:Type}:Sm R:=semP zx1 za2 (fun a=>qb0 a.1 a.2.1)
abbrev zawl:ZC ((List Hold)×Int×Int×((Unit)×(Unit))×Unit):=Zc (Zl .kHold) (Zc Zi (Zc Zi (Zc (Cod.fnc 260 (Zn) (Zn)) Zn)))
abbrev zabl:ZD (List Hold):=(Zl .kHold)
abbrev zagc {R:Type}:Sm R:=semP zawl zabl (fun a=>qp (fun g x0 x1=>qb0 x0 x1) a.1 a.2.1 a.2.2.1 a.2.2.2.1)
def zahb {R:Type}:Nat→Sm R:=cl 260 zrr c0
abbrev z13:=mkld [] [] [0,1,2,3,8,9] [] [99999] (FC.arr 0 99999 (Zs 1 Zi (Zs 2 Zi (Zs 3 (Cod.fnc 260 (Zn) (Zn)) (Zs 8 Zi (Zs 9 Zi (FC.own 99999 Kd.kHold false Zz))))))) (zavg (fun g x0 x1=>qb0 x0 x1)) (.x 2 [0,1,2,3,8] [] [99999] (FC.arr 0 99999 (Zs 1 Zi (Zs 2 Zi (Zs 3 (Cod.fnc 260 (Zn) (Zn)) (Zs 8 Zi (FC.own 99999 Kd.kHold false Zz)))))))
abbrev z11:=mkld [] [] [0,1,2,3,8] [] [99999] (FC.arr 0 99999 (Zs 1 Zi (Zs 2 Zi (Zs 3 (Cod.fnc 260 (Zn) (Zn)) (Zs 8 Zi (FC.own 99999 Kd.kHold false Zz)))))) (zavf (fun g x0 x1=>qb0 x0 x1)) (.x 0 [] [] [99999] (FC.own 99999 Kd.kHold false Zz))
def zmp {R:Type}:Lp Kd El R:=lp 1 z11.sem (lp 4 z13.sem l0)
abbrev zacb:ZC ((List Hold)×Int×Int×Int×((Unit)×(Unit))×Unit):=Zc (Zl .kHold) (Zc Zi (Zc Zi (Zc Zi (Zc (Cod.fnc 260 (Zn) (Zn)) Zn))))
abbrev zaft:ZD (List Hold):=zabl
def zaec (a:(List Hold)×Int×Int×Int×((Unit)×(Unit))×Unit):Option (List Hold):=qcz (fun g x0 x1=>qb0 x0 x1) a.1 a.2.1 a.2.2.1 a.2.2.2.1 a.2.2.2.2.1
abbrev zao7 {R:Type}:Sm R:=semP zacb zaft zaec
abbrev zawk:ZC ((List Hold)×Int×((Unit)×(Unit))×Unit):=Zc (Zl .kHold) (Zc Zi (Zc (Cod.fnc 260 (Zn) (Zn)) Zn))
abbrev zav6 {R:Type}:Sm R:=semP zawk zabl (fun a=>qn (fun g x0 x1=>qb0 x0 x1) a.1 a.2.1 a.2.2.1)
def zag9 {R:Type}:Nat→Sm R:=cl 260 zrr (cl 275 zagc (cl 276 zao7 c0))
abbrev z1x:=mkld [] [] [0,1,2,6,7,8] [] [99999] (FC.arr 0 99999 (Zs 1 Zi (Zs 2 (Cod.fnc 260 (Zn) (Zn)) (Zs 6 Zi (Zs 7 Zi (Zs 8 Zi (FC.own 99999 Kd.kHold false Zz))))))) (zavc (fun g x0 x1=>qb0 x0 x1)) (.x 0 [0,1,2,6,7] [] [99999] (FC.arr 0 99999 (Zs 1 Zi (Zs 2 (Cod.fnc 260 (Zn) (Zn)) (Zs 6 Zi (Zs 7 Zi (FC.own 99999 Kd.kHold false Zz)))))))
abbrev z1z:=mkld [] [] [0,1,2,6,7,8] [] [99999] (FC.arr 0 99999 (Zs 1 Zi (Zs 2 (Cod.fnc 260 (Zn) (Zn)) (Zs 6 Zi (Zs 7 Zi (Zs 8 Zi (FC.own 99999 Kd.kHold false Zz))))))) (zave (fun g x0 x1=>qb0 x0 x1)) (.x 4 [0,1,2,6,7] [] [99999] (FC.arr 0 99999 (Zs 1 Zi (Zs 2 (Cod.fnc 260 (Zn) (Zn)) (Zs 6 Zi (Zs 7 Zi (FC.own 99999 Kd.kHold false Zz)))))))
abbrev z1y:=mkld [] [] [0,1,2,6] [] [99999] (FC.arr 0 99999 (Zs 1 Zi (Zs 2 (Cod.fnc 260 (Zn) (Zn)) (Zs 6 Zi (FC.own 99999 Kd.kHold false Zz))))) (zavd (fun g x0 x1=>qb0 x0 x1)) (.x 2 [] [] [99999] (FC.own 99999 Kd.kHold false Zz))
def zhj {R:Type}:Lp Kd El R:=lp 7 z1y.sem (lp 9 z1z.sem (lp 2 z1x.sem l0))
abbrev zaru:ZC ((List Hold)×((Unit)×(Unit))×Unit):=Zc (Zl .kHold) (Zc (Cod.fnc 260 (Zn) (Zn)) Zn)
abbrev z5w {R:Type}:Sm R:=semP zaru zabl (fun a=>qdp (fun g x0 x1=>qb0 x0 x1) a.1 a.2.1)
abbrev zar1:ZC ((List Hold)×Int×Int×Unit):=Zc (Zl .kHold) (Zc Zi (Zc Zi Zn))
abbrev zabk:ZD ((List Hold)):=(Zl .kHold)
abbrev zaga {R:Type}:Sm R:=semP zar1 zabk (fun a=>qj a.1 a.2.1 a.2.2.1)
def zag5 {R:Type}:Nat→Sm R:=cl 259 z5w c0
abbrev z1s:=mkld [(7,7,Kd.kHold)] [] [1,2,7,10,11,12] [] [7] (Zs 1 Zi (Zs 2 Zi (FC.arr 7 7 (Zs 10 (Zl .kHold) (Zs 11 Zi (Zs 12 Zi (FC.own 7 Kd.kHold false Zz))))))) zau9 (.x 0 [7] [] [7] (FC.arr 7 7 (FC.own 7 Kd.kHold false Zz)))
def zup {R:Type}:Lp Kd El R:=lp 3 z1s.sem l0
abbrev zaq4:ZC ((List Hold)×Item×Int×Int×Bool×Unit):=Zc (Zl .kHold) (Zc (Cod.agg za0) (Zc Zi (Zc Zi (Zc Zb Zn))))
abbrev zaoh {R:Type}:Sm R:=semP zaq4 za2 (fun a=>qbd a.1 a.2.1 a.2.2.1 a.2.2.2.1 a.2.2.2.2.1)
def z8a {R:Type}:Nat→Sm R:=cl 246 zaga c0
abbrev zts:=mkld [] [] [2,4,6,11,18,19,20] [6] [] (Zs 2 Zi (Zs 4 Zb (Zp 6 6 (Zs 11 Zi (Zs 18 (Zl .kHold) (Zs 19 Zi (Zs 20 Zi (Zx 6 za0 Zz)))))))) zae7 (.xs 0 [11] [] [] (Zs 11 Zi Zz) (.r [10] [] [] (Zs 10 Zi Zz)))
def zo2 {R:Type}:Lp Kd El R:=lp 3 zts.sem l0
abbrev zap3 {R:Type}:Sm R:=semP zagm za2 (fun a=>qei a.1 a.2.1)
abbrev z5q {R:Type}:Sm R:=semP zaca zat (fun a=>qd1 a.1 a.2.1)
abbrev z6z:ZC ((List Hold)×((Unit)×(Int×Unit))×Unit):=Zc (Zl .kHold) (Zc (Cod.fnc 247 (Zn) (Zc (Cod.cptr (CC.one Zi)) Zn)) Zn)
abbrev z4o {R:Type}:Sm R:=semP z6z za2 (fun a=>qb (fun g x0=>qd1 x0 g.2.1) a.1 a.2.1)
def zvn {R:Type}:Nat→Sm R:=cl 247 z5q c0
abbrev zkl:=mkld [] [] [0,1,7,8] [] [] (Zs 0 (Zl .kHold) (Zs 1 (Cod.fnc 247 (Zn) (Zc (Cod.cptr (CC.one Zi)) Zn)) (Zs 7 Zi (Zs 8 Zi Zz)))) (zi3 (fun g x0=>qd1 x0 g.2.1)) (.xs 0 [] [] [] Zz (.r [4] [] [] (Zs 4 Zi Zz)))
def ziq {R:Type}:Lp Kd El R:=lp 2 zkl.sem l0
abbrev zxx:ZC ((List Hold)×Int×Unit):=Zc (Zl .kHold) (Zc Zi Zn)
abbrev zaog {R:Type}:Sm R:=semP zxx za2 (fun a=>qbc a.1 a.2.1)
abbrev zap6 {R:Type}:Sm R:=semP zxx z3q (fun a=>qem a.1 a.2.1)
abbrev zx2:ZC (Unit×Int×Int×Unit):=Zc (Cod.ptrc 100000) (Zc Zi (Zc Zi Zn))
abbrev zao4 {R:Type}:Sm R:=semM zx2 (BC.one zav) zjz (fun a b=>qct a.2.1 a.2.2.1 b)
abbrev zapy {R:Type}:Sm R:=semP zj6 zat (fun a=>qec a.1 a.2.1)
abbrev zaqz:ZC (Rule×Int×Int×Int×Unit):=Zc (Cod.agg zc0) (Zc Zi (Zc Zi (Zc Zi Zn)))
abbrev z4k {R:Type}:Sm R:=semP zaqz zat (fun a=>qb2 a.1 a.2.1 a.2.2.1 a.2.2.2.1)
abbrev z33 {R:Type}:Sm R:=semP zxy za2 (fun a=>qa8 a.1)
def z7h {R:Type}:Nat→Sm R:=c0
abbrev zs4:=mkld [] [] [3,12,13,14] [] [12] (Zs 3 Zi (FC.arr 12 12 (Zs 13 Zi (Zs 14 Zi (FC.own 12 Kd.ki64 false Zz))))) zaeo (.x 0 [3] [] [] (Zs 3 Zi Zz))
def zoi {R:Type}:Lp Kd El R:=lp 3 zs4.sem l0
abbrev zab0:ZC ((List Rule)×Int×Int×Int×Unit):=Zc (Zl .kRule) (Zc Zi (Zc Zi (Zc Zi Zn)))
abbrev zanu {R:Type}:Sm R:=semP zab0 za2 (fun a=>qa3 a.1 a.2.1 a.2.2.1 a.2.2.2.1)
def z7d {R:Type}:Nat→Sm R:=cl 261 z4k (cl 262 z33 c0)
abbrev zsz:=mkld [] [] [0,1,2,3,9,12,13,14] [] [] (Zs 0 (Zl .kRule) (Zs 1 Zi (Zs 2 Zi (Zs 3 Zi (Zs 9 Zi (Zs 12 (Zl .kRule) (Zs 13 Zi (Zs 14 Zi Zz)))))))) zaem (.x 0 [9] [] [] (Zs 9 Zi Zz))
def zoe {R:Type}:Lp Kd El R:=lp 3 zsz.sem l0
abbrev zafu:ZD (Rule×Bool):=(Cod.tup2 (Zc (Cod.agg zc0) (Zc Zb Zn)))
abbrev zao8 {R:Type}:Sm R:=semP zab0 zafu (fun a=>qd0 a.1 a.2.1 a.2.2.1 a.2.2.2.1)
abbrev zarm:ZC (Circ×Int×Item×Unit):=Zc (Cod.agg zak) (Zc Zi (Zc (Cod.agg za0) Zn))
abbrev zao5 {R:Type}:Sm R:=semP zarm zafu (fun a=>qcx a.1 a.2.1 a.2.2.1)
abbrev zavs:ZD (Calendar):=(Cod.agg zaw)
abbrev zao6 {R:Type}:Sm R:=semP zln zavs (fun a=>qcy a.1 a.2.1)
abbrev zapn {R:Type}:Sm R:=semP zbz zat (fun a=>qdj a.1)
abbrev z6h {R:Type}:Sm R:=semP zj6 zat (fun a=>qev a.1 a.2.1)
abbrev z5r {R:Type}:Sm R:=semP zbz zat (fun a=>qd9 a.1)
abbrev zaqw:ZC ((List Int)×Int×Unit):=Zc (Zl .ki64) (Zc Zi Zn)
abbrev zavo:ZD (Int×Bool):=(Cod.tup2 (Zc Zi (Zc Zb Zn)))
abbrev zan6 {R:Type}:Sm R:=semP zaqw zavo (fun a=>qar a.1 a.2.1)
def z7w {R:Type}:Nat→Sm R:=cl 271 z6h (cl 272 z5r c0)
abbrev ztj:=mkld [] [] [0,1,6,7,8] [] [] (Zs 0 (Zl .ki64) (Zs 1 Zi (Zs 6 Zi (Zs 7 Zi (Zs 8 Zi Zz))))) zaez (.x 0 [0,1,6,7] [] [] (Zs 0 (Zl .ki64) (Zs 1 Zi (Zs 6 Zi (Zs 7 Zi Zz)))))
def zot {R:Type}:Lp Kd El R:=lp 3 ztj.sem l0
abbrev zavn:ZD ((V7 Bool)):=(Cod.agg zbl)
abbrev z4g {R:Type}:Sm R:=semP zagp zavn (fun a=>qaq a.1)
def z7v {R:Type}:Nat→Sm R:=c0
abbrev zti:=mkld [] [] [1,2,3,5] [1,2,3] [] (Zp 1 1 (Zp 2 2 (Zp 3 3 (Zs 5 Zi (Zx 1 zaw (Zx 2 zbl (Zx 3 zbl Zz))))))) zaey (.x 0 [2,3] [2,3] [] (Zp 2 2 (Zp 3 3 (Zx 2 zbl (Zx 3 zbl Zz)))))
def zos {R:Type}:Lp Kd El R:=lp 3 zti.sem l0
abbrev zaqd {R:Type}:Sm R:=semP zbz zat (fun a=>qfd a.1)
abbrev z5e {R:Type}:Sm R:=semP zbz za2 (fun a=>qc8 a.1)
abbrev zx0:ZC (Calendar×Int×Unit):=Zc (Cod.agg zaw) (Zc Zi Zn)
abbrev zrt {R:Type}:Sm R:=semP zx0 zat (fun a=>qcc a.1 a.2.1)
abbrev zpn:ZD (Int×Int):=(Cod.tup2 (Zc Zi (Zc Zi Zn)))
abbrev zagg {R:Type}:Sm R:=semP zx0 zpn (fun a=>qw a.1 a.2.1)
def zahh {R:Type}:Nat→Sm R:=cl 249 zrt c0
abbrev z2b:=mkld [] [] [2,6] [2] [] (Zp 2 2 (Zs 6 Zi (Zx 2 zaw Zz))) zavk (.xs 0 [] [] [] Zz (.r [4,5] [] [] (Zs 4 Zi (Zs 5 Zi Zz))))
def zuu {R:Type}:Lp Kd El R:=lp 2 z2b.sem l0
abbrev zabz:ZC (Calendar×Int×Int×Unit):=Zc (Cod.agg zaw) (Zc Zi (Zc Zi Zn))
abbrev zans {R:Type}:Sm R:=semP zabz zpn (fun a=>qa1 a.1 a.2.1 a.2.2.1)
def z7c {R:Type}:Nat→Sm R:=cl 143 z49 (cl 221 zagg c0)
abbrev zsy:=mkld [] [] [3,8,28,29] [3] [] (Zp 3 3 (Zs 8 Zi (Zs 28 Zi (Zs 29 Zi (Zx 3 zaw Zz))))) zael (.xs 0 [8] [] [] (Zs 8 Zi Zz) (.r [6,7] [] [] (Zs 6 Zi (Zs 7 Zi Zz))))
def zod {R:Type}:Lp Kd El R:=lp 9 zsy.sem l0
abbrev zapw {R:Type}:Sm R:=semM zx2 (BC.one zav) za2 (fun a b=>qe9 a.2.1 a.2.2.1 b)
abbrev zarh:ZC (Hold×Int×Int×Unit):=Zc (Cod.agg zbk) (Zc (Cod.cptr (CC.one Zi)) (Zc (Cod.cptr (CC.one Zi)) Zn))
abbrev z5k {R:Type}:Sm R:=semP zarh zat (fun a=>qcl a.1 a.2.1 a.2.2.1)
abbrev zr6:ZC ((List Hold)×((Unit)×(Int×Int×Unit))×Unit):=Zc (Zl .kHold) (Zc (Cod.fnc 215 (Zn) (Zc (Cod.cptr (CC.one Zi)) (Zc (Cod.cptr (CC.one Zi)) Zn))) Zn)
abbrev z4p {R:Type}:Sm R:=semP zr6 za2 (fun a=>qb (fun g x0=>qcl x0 g.2.1 g.2.2.1) a.1 a.2.1)
def zvo {R:Type}:Nat→Sm R:=cl 215 z5k c0
abbrev zkm:=mkld [] [] [0,1,7,8] [] [] (Zs 0 (Zl .kHold) (Zs 1 (Cod.fnc 215 (Zn) (Zc (Cod.cptr (CC.one Zi)) (Zc (Cod.cptr (CC.one Zi)) Zn))) (Zs 7 Zi (Zs 8 Zi Zz)))) (zi3 (fun g x0=>qcl x0 g.2.1 g.2.2.1)) (.xs 0 [] [] [] Zz (.r [4] [] [] (Zs 4 Zi Zz)))
def zir {R:Type}:Lp Kd El R:=lp 2 zkm.sem l0
abbrev zaot {R:Type}:Sm R:=semP zr6 zat (fun a=>qbx (fun g x0=>qcl x0 g.2.1 g.2.2.1) a.1 a.2.1)
abbrev zape {R:Type}:Sm R:=semP zagn zabk (fun a=>qd7 a.1)
abbrev zar0:ZC ((List Hold)×Int×Hold×Unit):=Zc (Zl .kHold) (Zc Zi (Zc (Cod.agg zbk) Zn))
abbrev zap5 {R:Type}:Sm R:=semP zar0 zabk (fun a=>qel a.1 a.2.1 a.2.2.1)
abbrev zaqy:ZC ((List Hold)×Int×Int×Int×Int×Unit):=Zc (Zl .kHold) (Zc Zi (Zc Zi (Zc Zi (Zc Zi Zn))))
abbrev zavq:ZD ((List Hold)×Int):=(Cod.tup2 (Zc (Zl .kHold) (Zc Zi Zn)))
abbrev zan9 {R:Type}:Sm R:=semP zaqy zavq (fun a=>qav a.1 a.2.1 a.2.2.1 a.2.2.2.1 a.2.2.2.2.1)
abbrev zarl:ZC (Unit×(List Hold)×Int×Unit):=Zc (Cod.ptrc 100000) (Zc (Zl .kHold) (Zc Zi Zn))
abbrev zao2 {R:Type}:Sm R:=semM zarl (BC.one zav) zjz (fun a b=>qcr a.2.1 a.2.2.1 b)
abbrev zars:ZC (Unit×Int×Hold×Unit):=Zc (Cod.ptrc 100000) (Zc Zi (Zc (Cod.agg zbk) Zn))
abbrev zapk {R:Type}:Sm R:=semM zars (BC.one zav) zjz (fun a b=>qdg a.2.1 a.2.2.1 b)
abbrev zapf {R:Type}:Sm R:=semM zyb (BC.one zav) zjz (fun a b=>qd8 a.2.1 b)
abbrev zaqs:ZC (Unit×Unit):=Zc (Cod.ptrc 100000) Zn
abbrev zanr {R:Type}:Sm R:=semM zaqs (BC.one zav) z3p (fun a b=>qa0 b)
abbrev zhs:ZC (Circ×Int×Int×Unit):=Zc (Cod.agg zak) (Zc Zi (Zc Zi Zn))
abbrev z4n {R:Type}:Sm R:=semP zhs z3p (fun a=>qb8 a.1 a.2.1 a.2.2.1)
abbrev zaq5:ZC ((List Charge)×Int×Unit):=Zc (Zl .kCharge) (Zc Zi Zn)
abbrev zaoi {R:Type}:Sm R:=semP zaq5 za2 (fun a=>qbe a.1 a.2.1)
def z8b {R:Type}:Nat→Sm R:=c0
abbrev ztt:=mkld [] [] [1,5,8,9,10] [] [] (Zs 1 Zi (Zs 5 Zi (Zs 8 (Zl .kCharge) (Zs 9 Zi (Zs 10 Zi Zz))))) zae8 (.x 0 [5] [] [] (Zs 5 Zi Zz))
def zo3 {R:Type}:Lp Kd El R:=lp 3 ztt.sem l0
abbrev zpl:ZD ((List Loan)):=(Zl .kLoan)
abbrev z4a {R:Type}:Sm R:=semP zj4 zpl (fun a=>qag a.1 a.2.1)
def z7n {R:Type}:Nat→Sm R:=c0
abbrev zta:=mkld [(5,5,Kd.kLoan)] [] [1,5,8,9,10] [] [5] (Zs 1 Zi (FC.arr 5 5 (Zs 8 (Zl .kLoan) (Zs 9 Zi (Zs 10 Zi (FC.own 5 Kd.kLoan false Zz)))))) zaes (.x 0 [5] [] [5] (FC.arr 5 5 (FC.own 5 Kd.kLoan false Zz)))
def zok {R:Type}:Lp Kd El R:=lp 3 zta.sem l0
abbrev zab1:ZC ((List Loan)×Int×Int×Unit):=Zc (Zl .kLoan) (Zc Zi (Zc Zi Zn))
abbrev zanv {R:Type}:Sm R:=semP zab1 za2 (fun a=>qa5 a.1 a.2.1 a.2.2.1)
def z7f {R:Type}:Nat→Sm R:=cl 163 z4a c0
abbrev zs1:=mkld [] [] [2,7,12,13,14] [] [] (Zs 2 Zi (Zs 7 Zi (Zs 12 (Zl .kLoan) (Zs 13 Zi (Zs 14 Zi Zz))))) zaen (.x 0 [7] [] [] (Zs 7 Zi Zz))
def zog {R:Type}:Lp Kd El R:=lp 3 zs1.sem l0
abbrev zaqu:ZC (Patron×Int×Int×Int×Unit):=Zc (Cod.agg zba) (Zc Zi (Zc Zi (Zc Zi Zn)))
abbrev zpm:ZD ((List Int)):=(Zl .ki64)
abbrev zan3 {R:Type}:Sm R:=semP zaqu zpm (fun a=>qah a.1 a.2.1 a.2.2.1 a.2.2.2.1)
def z7o {R:Type}:Nat→Sm R:=c0
abbrev ztb:=mkld [(9,9,Kd.ki64)] [] [9,22,23,24] [] [9,22] (FC.arr 9 9 (FC.arr 22 22 (Zs 23 Zi (Zs 24 Zi (FC.own 9 Kd.ki64 false (FC.own 22 Kd.kbool false Zz)))))) zaet (.x 0 [9] [] [9] (FC.arr 9 9 (FC.own 9 Kd.ki64 false Zz)))
def zol {R:Type}:Lp Kd El R:=lp 3 ztb.sem l0
abbrev zaqb {R:Type}:Sm R:=semP zace zat (fun a=>qfb a.1 a.2.1)
abbrev zaok {R:Type}:Sm R:=semP zx0 zpn (fun a=>qbm a.1 a.2.1)
def z8j {R:Type}:Nat→Sm R:=cl 249 zrt c0
abbrev zt1:=mkld [] [] [2,6] [2] [] (Zp 2 2 (Zs 6 Zi (Zx 2 zaw Zz))) zafa (.xs 0 [] [] [] Zz (.r [4,5] [] [] (Zs 4 Zi (Zs 5 Zi Zz))))
def zpb {R:Type}:Lp Kd El R:=lp 2 zt1.sem l0
abbrev zacc:ZC (Rule×Calendar×Int×Int×Unit):=Zc (Cod.agg zc0) (Zc (Cod.agg zaw) (Zc Zi (Zc Zi Zn)))
abbrev zao9 {R:Type}:Sm R:=semP zacc zpn (fun a=>qd2 a.1 a.2.1 a.2.2.1 a.2.2.2.1)
abbrev zarx:ZC (Circ×Item×Patron×Int×Unit):=Zc (Cod.agg zak) (Zc (Cod.agg za0) (Zc (Cod.agg zba) (Zc Zi Zn)))
abbrev zapz {R:Type}:Sm R:=semP zarx zpn (fun a=>qee a.1 a.2.1 a.2.2.1 a.2.2.2.1)
abbrev zarj:ZC (Loan×Loan×Unit):=Zc (Cod.agg zcj) (Zc (Cod.cptr zcj) Zn)
abbrev z5m {R:Type}:Sm R:=semP zarj zat (fun a=>qco a.1 a.2.1)
abbrev zlo:ZC ((List Loan)×((Unit)×(Loan×Unit))×Unit):=Zc (Zl .kLoan) (Zc (Cod.fnc 166 (Zn) (Zc (Cod.cptr zcj) Zn)) Zn)
abbrev z6n {R:Type}:Sm R:=semP zlo za2 (fun a=>qk (fun g x0=>qco x0 g.2.1) a.1 a.2.1)
def zvt {R:Type}:Nat→Sm R:=cl 166 z5m c0
abbrev zks:=mkld [] [] [0,1,7,8] [] [] (Zs 0 (Zl .kLoan) (Zs 1 (Cod.fnc 166 (Zn) (Zc (Cod.cptr zcj) Zn)) (Zs 7 Zi (Zs 8 Zi Zz)))) (zani (fun g x0=>qco x0 g.2.1)) (.xs 0 [] [] [] Zz (.r [4] [] [] (Zs 4 Zi Zz)))
def ziv {R:Type}:Lp Kd El R:=lp 2 zks.sem l0
abbrev zxn {R:Type}:Sm R:=semP zlo zafo (fun a=>qby (fun g x0=>qco x0 g.2.1) a.1 a.2.1)
abbrev zapd {R:Type}:Sm R:=semP zr5 zpl (fun a=>qd6 a.1)
abbrev zx7:ZC ((List Loan)×Int×(List Loan)×Unit):=Zc (Zl .kLoan) (Zc Zi (Zc (Zl .kLoan) Zn))
abbrev zafz:ZD ((List Loan)):=zpl
def zaeh (a:(List Loan)×Int×(List Loan)×Unit):Option ((List Loan)):=qds a.1 a.2.1 a.2.2.1
abbrev zaw1 {R:Type}:Sm R:=semP zx7 zafz zaeh
abbrev zaf4:ZD ((List Loan)×Int):=(Cod.tup2 (Zc (Zl .kLoan) (Zc Zi Zn)))
abbrev zaps {R:Type}:Sm R:=semP zr5 zaf4 (fun a=>qdz a.1)
abbrev zaq6:ZC ((List Loan)×Loan×Unit):=Zc (Zl .kLoan) (Zc (Cod.agg zcj) Zn)
abbrev zaon {R:Type}:Sm R:=semP zaq6 zaf4 (fun a=>qbr a.1 a.2.1)
abbrev zark:ZC (Unit×(List Loan)×Int×Unit):=Zc (Cod.ptrc 100000) (Zc (Zl .kLoan) (Zc Zi Zn))
abbrev zao1 {R:Type}:Sm R:=semM zark (BC.one zav) zjz (fun a b=>qcq a.2.1 a.2.2.1 b)
abbrev zya:ZC ((List Hold)×Int×Int×Unit):=zar1
abbrev zaf2:ZD ((List Hold)):=zabk
def zaek (a:(List Hold)×Int×Int×Unit):Option ((List Hold)):=qdv a.1 a.2.1 a.2.2.1
abbrev zaw4 {R:Type}:Sm R:=semP zya zaf2 zaek
abbrev zavw:ZD ((List Hold)×Hold×Int):=(Cod.tup3 (Zc (Zl .kHold) (Zc (Cod.agg zbk) (Zc Zi Zn))))
abbrev zap0 {R:Type}:Sm R:=semP zxx zavw (fun a=>qef a.1 a.2.1)
abbrev zap8 {R:Type}:Sm R:=semM zyb (BC.one zav) zjz (fun a b=>qer a.2.1 b)
abbrev z3r:ZD (Circ×Int×Int):=(Cod.tup3 (Zc (Cod.agg zak) (Zc Zi (Zc Zi Zn))))
abbrev zaow {R:Type}:Sm R:=semM zyb (BC.one zav) z3r (fun a b=>qcb a.2.1 b)
abbrev zarz:ZC (Hold×Item×Unit):=Zc (Cod.agg zbk) (Zc (Cod.agg za0) Zn)
abbrev zap4 {R:Type}:Sm R:=semP zarz zat (fun a=>qej a.1 a.2.1)
abbrev zarp:ZC (Hold×Int×Item×Unit):=Zc (Cod.agg zbk) (Zc (Cod.cptr (CC.one Zi)) (Zc (Cod.cptr za0) Zn))
abbrev z5t {R:Type}:Sm R:=semP zarp zat (fun a=>qdb a.1 a.2.1 a.2.2.1)
abbrev z60:ZC ((List Hold)×((Unit)×(Int×Item×Unit))×Unit):=Zc (Zl .kHold) (Zc (Cod.fnc 111 (Zn) (Zc (Cod.cptr (CC.one Zi)) (Zc (Cod.cptr za0) Zn))) Zn)
abbrev z4q {R:Type}:Sm R:=semP z60 za2 (fun a=>qb (fun g x0=>qdb x0 g.2.1 g.2.2.1) a.1 a.2.1)
def zvp {R:Type}:Nat→Sm R:=cl 111 z5t c0
abbrev zkn:=mkld [] [] [0,1,7,8] [] [] (Zs 0 (Zl .kHold) (Zs 1 (Cod.fnc 111 (Zn) (Zc (Cod.cptr (CC.one Zi)) (Zc (Cod.cptr za0) Zn))) (Zs 7 Zi (Zs 8 Zi Zz)))) (zi3 (fun g x0=>qdb x0 g.2.1 g.2.2.1)) (.xs 0 [] [] [] Zz (.r [4] [] [] (Zs 4 Zi Zz)))
def zis {R:Type}:Lp Kd El R:=lp 2 zkn.sem l0
abbrev zab8:ZC (Circ×Int×Int×Int×Unit):=Zc (Cod.agg zak) (Zc Zi (Zc Zi (Zc Zi Zn)))
abbrev z42 {R:Type}:Sm R:=semP zab8 z3r (fun a=>qbq a.1 a.2.1 a.2.2.1 a.2.2.2.1)
abbrev zx9:ZC ((List Loan)×Int×Int×Unit):=zab1
abbrev zaf1:ZD ((List Loan)):=zpl
def zaej (a:(List Loan)×Int×Int×Unit):Option ((List Loan)):=qdu a.1 a.2.1 a.2.2.1
abbrev zaw3 {R:Type}:Sm R:=semP zx9 zaf1 zaej
abbrev zapu {R:Type}:Sm R:=semP zj4 zpl (fun a=>qe7 a.1 a.2.1)
abbrev zavv:ZD ((List Loan)×Loan×Int):=(Cod.tup3 (Zc (Zl .kLoan) (Zc (Cod.agg zcj) (Zc Zi Zn))))
abbrev zapp {R:Type}:Sm R:=semP zj4 zavv (fun a=>qdo a.1 a.2.1)
abbrev z6a {R:Type}:Sm R:=semP zj6 za2 (fun a=>qed a.1 a.2.1)
abbrev zanz {R:Type}:Sm R:=semP zabz za2 (fun a=>qac a.1 a.2.1 a.2.2.1)
def z7l {R:Type}:Nat→Sm R:=cl 251 z4g (cl 252 z6a (cl 253 z5e c0))
abbrev zs8:=mkld [] [] [1,2,3,7,8,22,23] [3,7] [] (Zs 1 Zi (Zs 2 Zi (Zp 3 3 (Zp 7 7 (Zs 8 Zi (Zs 22 (Cod.agg zbl) (Zs 23 Zi (Zx 3 zaw (Zx 7 zbl Zz))))))))) zaer (.x 0 [1,2,3,7,8] [3,7] [] (Zs 1 Zi (Zs 2 Zi (Zp 3 3 (Zp 7 7 (Zs 8 Zi (Zx 3 zaw (Zx 7 zbl Zz))))))))
abbrev zn6:=mkld [] [] [1,2,7,8,40,41,42] [7] [] (Zs 1 Zi (Zs 2 Zi (Zp 7 7 (Zs 8 Zi (Zs 40 (Zl .ki64) (Zs 41 Zi (Zs 42 Zi (Zx 7 zbl Zz)))))))) z3g (.x 2 [8] [] [] (Zs 8 Zi Zz))
def zio {R:Type}:Lp Kd El R:=lp 13 zn6.sem (lp 7 zs8.sem l0)
abbrev zaqi {R:Type}:Sm R:=semP zacc za2 (fun a=>qfi a.1 a.2.1 a.2.2.1 a.2.2.2.1)
abbrev zarq:ZC ((List Charge)×Charge×Unit):=Zc (Zl .kCharge) (Zc (Cod.agg zc8) Zn)
abbrev zafv:ZD ((List Charge)×Int):=(Cod.tup2 (Zc (Zl .kCharge) (Zc Zi Zn)))
abbrev zapg {R:Type}:Sm R:=semP zarq zafv (fun a=>qdc a.1 a.2.1)
abbrev zapv {R:Type}:Sm R:=semM zab2 (BC.one zav) zjz (fun a b=>qe8 a.2.1 a.2.2.1 a.2.2.2.1 a.2.2.2.2.1 b)
abbrev zarb:ZC (Charge×Int×Int×Int×Unit):=Zc (Cod.agg zc8) (Zc (Cod.cptr (CC.one Zi)) (Zc (Cod.cptr (CC.one Zi)) (Zc (Cod.cptr (CC.one Zi)) Zn)))
abbrev z5b {R:Type}:Sm R:=semP zarb zat (fun a=>qc5 a.1 a.2.1 a.2.2.1 a.2.2.2.1)
abbrev zaqx:ZC ((List Charge)×((Unit)×(Int×Int×Int×Unit))×Unit):=Zc (Zl .kCharge) (Zc (Cod.fnc 230 (Zn) (Zc (Cod.cptr (CC.one Zi)) (Zc (Cod.cptr (CC.one Zi)) (Zc (Cod.cptr (CC.one Zi)) Zn)))) Zn)
abbrev zavp:ZD ((List Charge)×Int×Int):=(Cod.tup3 (Zc (Zl .kCharge) (Zc Zi (Zc Zi Zn))))
abbrev zan8 {R:Type}:Sm R:=semP zaqx zavp (fun a=>qau (fun g x0=>qc5 x0 g.2.1 g.2.2.1 g.2.2.2.1) a.1 a.2.1)
def z7z {R:Type}:Nat→Sm R:=cl 230 z5b c0
abbrev ztm:=mkld [(4,4,Kd.kCharge)] [] [1,4,5,6,9,10,11] [] [4] (Zs 1 (Cod.fnc 230 (Zn) (Zc (Cod.cptr (CC.one Zi)) (Zc (Cod.cptr (CC.one Zi)) (Zc (Cod.cptr (CC.one Zi)) Zn)))) (FC.arr 4 4 (Zs 5 Zi (Zs 6 Zi (Zs 9 (Zl .kCharge) (Zs 10 Zi (Zs 11 Zi (FC.own 4 Kd.kCharge false Zz)))))))) (zae1 (fun g x0=>qc5 x0 g.2.1 g.2.2.1 g.2.2.2.1)) (.x 0 [4,5,6] [] [4] (FC.arr 4 4 (Zs 5 Zi (Zs 6 Zi (FC.own 4 Kd.kCharge false Zz)))))
def zow {R:Type}:Lp Kd El R:=lp 2 ztm.sem l0
abbrev zaq7:ZC ((List Charge)×Int×Int×Int×Unit):=Zc (Zl .kCharge) (Zc Zi (Zc Zi (Zc Zi Zn)))
abbrev zaor {R:Type}:Sm R:=semP zaq7 zafv (fun a=>qbv a.1 a.2.1 a.2.2.1 a.2.2.2.1)
abbrev zapt {R:Type}:Sm R:=semM zx2 (BC.one zav) zjz (fun a b=>qe6 a.2.1 a.2.2.1 b)
abbrev z54 {R:Type}:Sm R:=semP zhs z3r (fun a=>qe2 a.1 a.2.1 a.2.2.1)
abbrev zavl:ZD (Circ×Bool):=(Cod.tup2 (Zc (Cod.agg zak) (Zc Zb Zn)))
abbrev zanx {R:Type}:Sm R:=semP zxz zavl (fun a=>qa9)
def z7i {R:Type}:Nat→Sm R:=cl 52 z5d (cl 53 zaf6 (cl 54 z4n (cl 55 z42 (cl 56 z54 c0))))
abbrev zs5:=mkld [] [] [0,2,5,6] [0,2] [] (Zp 0 0 (Zp 2 2 (Zs 5 Zb (Zs 6 Zi (Zx 0 zak (Zx 2 zak Zz)))))) zaep (.x 0 [0,2,5] [0,2] [] (Zp 0 0 (Zp 2 2 (Zs 5 Zb (Zx 0 zak (Zx 2 zak Zz))))))
def zoj {R:Type}:Lp Kd El R:=lp 6 zs5.sem l0
abbrev z30 {R:Type}:Sm R:=semP zln zpn (fun a=>qa4 a.1 a.2.1)
def z7e {R:Type}:Nat→Sm R:=c0
abbrev zs0:=mkld [] [] [1,6,7,11,12,13] [] [] (Zs 1 Zi (Zs 6 Zi (Zs 7 Zi (Zs 11 (Zl .kMove) (Zs 12 Zi (Zs 13 Zi Zz)))))) zky (.x 0 [6,7] [] [] (Zs 6 Zi (Zs 7 Zi Zz)))
def zof {R:Type}:Lp Kd El R:=lp 3 zs0.sem l0
abbrev z4h {R:Type}:Sm R:=semP zln za2 (fun a=>qat a.1 a.2.1)
def z7y {R:Type}:Nat→Sm R:=c0
abbrev ztl:=mkld [] [] [1,5,9,10,11] [] [] (Zs 1 Zi (Zs 5 Zi (Zs 9 (Zl .kItem) (Zs 10 Zi (Zs 11 Zi Zz))))) zae0 (.x 0 [5] [] [] (Zs 5 Zi Zz))
def zov {R:Type}:Lp Kd El R:=lp 3 ztl.sem l0
abbrev zare:ZC (Hold×Item×Unit):=Zc (Cod.agg zbk) (Zc (Cod.cptr za0) Zn)
abbrev z5i {R:Type}:Sm R:=semP zare zat (fun a=>qch a.1 a.2.1)
abbrev zr7:ZC ((List Hold)×((Unit)×(Item×Unit))×Unit):=Zc (Zl .kHold) (Zc (Cod.fnc 58 (Zn) (Zc (Cod.cptr za0) Zn)) Zn)
abbrev z4r {R:Type}:Sm R:=semP zr7 za2 (fun a=>qb (fun g x0=>qch x0 g.2.1) a.1 a.2.1)
def zvq {R:Type}:Nat→Sm R:=cl 58 z5i c0
abbrev zko:=mkld [] [] [0,1,7,8] [] [] (Zs 0 (Zl .kHold) (Zs 1 (Cod.fnc 58 (Zn) (Zc (Cod.cptr za0) Zn)) (Zs 7 Zi (Zs 8 Zi Zz)))) (zi3 (fun g x0=>qch x0 g.2.1)) (.xs 0 [] [] [] Zz (.r [4] [] [] (Zs 4 Zi Zz)))
def zit {R:Type}:Lp Kd El R:=lp 2 zko.sem l0
abbrev zlh {R:Type}:Sm R:=semP zr7 zat (fun a=>qbx (fun g x0=>qch x0 g.2.1) a.1 a.2.1)
abbrev zapx {R:Type}:Sm R:=semP zj6 za2 (fun a=>qea a.1 a.2.1)
abbrev zaq3:ZC ((List Int)×Unit):=Zc (Zl .ki64) Zn
abbrev zaof {R:Type}:Sm R:=semP zaq3 za2 (fun a=>qbb a.1)
def z79 {R:Type}:Nat→Sm R:=c0
abbrev ztr:=mkld [] [] [3,6,7,8] [] [] (Zs 3 Zi (Zs 6 (Zl .ki64) (Zs 7 Zi (Zs 8 Zi Zz)))) zae6 (.xs 0 [3] [] [] (Zs 3 Zi Zz) (.r [2] [] [] (Zs 2 Zi Zz)))
def zo1 {R:Type}:Lp Kd El R:=lp 3 ztr.sem l0
abbrev zaro:ZC (Weed_candidate×Weed_candidate×Unit):=Zc (Cod.agg zbm) (Zc (Cod.agg zbm) Zn)
abbrev zapc {R:Type}:Sm R:=semP zaro za2 (fun a=>qd5 a.1 a.2.1)
abbrev zx3:ZC ((List Weed_candidate)×((Unit)×(Unit))×Unit):=Zc (Zl .kWeed_candidate) (Zc (Cod.fnc 60 (Zn) (Zn)) Zn)
abbrev zafw:ZD (List Weed_candidate):=(Zl .kWeed_candidate)
def zaed (a:(List Weed_candidate)×((Unit)×(Unit))×Unit):Option (List Weed_candidate):=qdd (fun g x0 x1=>qd5 x0 x1) a.1 a.2.1
abbrev zaph {R:Type}:Sm R:=semP zx3 zafw zaed
abbrev zaww:ZD ((List Weed_candidate)):=(Zl .kWeed_candidate)
abbrev z6m {R:Type}:Sm R:=semP zhs zaww (fun a=>qi a.1 a.2.1 a.2.2.1)
def zag4 {R:Type}:Nat→Sm R:=cl 11 z30 (cl 57 zlh (cl 59 zaph c0))
abbrev z1r:=mkld [(7,7,Kd.kWeed_candidate)] [] [1,2,3,7,14,15,16] [3] [7] (Zs 1 Zi (Zs 2 Zi (Zp 3 3 (FC.arr 7 7 (Zs 14 (Zl .kItem) (Zs 15 Zi (Zs 16 Zi (Zx 3 zak (FC.own 7 Kd.kWeed_candidate false Zz))))))))) zxa (.x 0 [7] [] [7] (FC.arr 7 7 (FC.own 7 Kd.kWeed_candidate false Zz)))
def zuo {R:Type}:Lp Kd El R:=lp 3 z1r.sem l0
abbrev zan7 {R:Type}:Sm R:=semP zhs zpm (fun a=>qas a.1 a.2.1 a.2.2.1)
def z7x {R:Type}:Nat→Sm R:=cl 27 z6m c0
abbrev ztk:=mkld [(7,7,Kd.ki64)] [] [7,13,14,15] [] [7] (FC.arr 7 7 (Zs 13 (Zl .kWeed_candidate) (Zs 14 Zi (Zs 15 Zi (FC.own 7 Kd.ki64 false Zz))))) zk2 (.x 0 [7] [] [7] (FC.arr 7 7 (FC.own 7 Kd.ki64 false Zz)))
def zou {R:Type}:Lp Kd El R:=lp 3 ztk.sem l0
abbrev zaqv:ZC ((List Int)×(List Int)×Unit):=Zc (Zl .ki64) (Zc (Zl .ki64) Zn)
abbrev zan4 {R:Type}:Sm R:=semP zaqv zat (fun a=>qaj a.1 a.2.1)
def z7q {R:Type}:Nat→Sm R:=c0
abbrev ztd:=mkld [] [] [0,1,5] [] [] (Zs 0 (Zl .ki64) (Zs 1 (Zl .ki64) (Zs 5 Zi Zz))) zk0 (.xs 0 [] [] [] Zz (.r [4] [] [] (Zs 4 Zb Zz)))
def zon {R:Type}:Lp Kd El R:=lp 4 ztd.sem l0
abbrev z47 {R:Type}:Sm R:=semP zarn zat (fun a=>qc1 a.1 a.2.1)
abbrev zr2:ZC ((List Item)×((Unit)×(Int×Unit))×Unit):=Zc (Zl .kItem) (Zc (Cod.fnc 32 (Zn) (Zc (Cod.cptr (CC.one Zi)) Zn)) Zn)
abbrev z35 {R:Type}:Sm R:=semP zr2 za2 (fun a=>qa (fun g x0=>qc1 x0 g.2.1) a.1 a.2.1)
def zvl {R:Type}:Nat→Sm R:=cl 32 z47 c0
abbrev zkj:=mkld [] [] [0,1,7,8] [] [] (Zs 0 (Zl .kItem) (Zs 1 (Cod.fnc 32 (Zn) (Zc (Cod.cptr (CC.one Zi)) Zn)) (Zs 7 Zi (Zs 8 Zi Zz)))) (z3e (fun g x0=>qc1 x0 g.2.1)) (.xs 0 [] [] [] Zz (.r [4] [] [] (Zs 4 Zi Zz)))
def zik {R:Type}:Lp Kd El R:=lp 2 zkj.sem l0
abbrev z5h {R:Type}:Sm R:=semP zr2 zat (fun a=>qcg (fun g x0=>qc1 x0 g.2.1) a.1 a.2.1)
abbrev zart:ZC (Item×Int×Unit):=Zc (Cod.agg za0) (Zc Zi Zn)
abbrev zapo {R:Type}:Sm R:=semP zart zat (fun a=>qdl a.1 a.2.1)
abbrev z5s {R:Type}:Sm R:=semP zab9 zat (fun a=>qda a.1 a.2.1)
abbrev zr3:ZC ((List Item)×((Unit)×(Item×Unit))×Unit):=Zc (Zl .kItem) (Zc (Cod.fnc 118 (Zn) (Zc (Cod.cptr za0) Zn)) Zn)
abbrev z36 {R:Type}:Sm R:=semP zr3 za2 (fun a=>qa (fun g x0=>qda x0 g.2.1) a.1 a.2.1)
def zvm {R:Type}:Nat→Sm R:=cl 118 z5s c0
abbrev zkk:=mkld [] [] [0,1,7,8] [] [] (Zs 0 (Zl .kItem) (Zs 1 (Cod.fnc 118 (Zn) (Zc (Cod.cptr za0) Zn)) (Zs 7 Zi (Zs 8 Zi Zz)))) (z3e (fun g x0=>qda x0 g.2.1)) (.xs 0 [] [] [] Zz (.r [4] [] [] (Zs 4 Zi Zz)))
def zil {R:Type}:Lp Kd El R:=lp 2 zkk.sem l0
abbrev zxo {R:Type}:Sm R:=semP zr3 zat (fun a=>qcg (fun g x0=>qda x0 g.2.1) a.1 a.2.1)
abbrev zari:ZC (Hold×Item×Bool×Unit):=Zc (Cod.agg zbk) (Zc (Cod.cptr za0) (Zc (Cod.cptr (CC.one Zb)) Zn))
abbrev z5l {R:Type}:Sm R:=semP zari zat (fun a=>qcm a.1 a.2.1 a.2.2.1)
abbrev zr8:ZC ((List Hold)×((Unit)×(Item×Bool×Unit))×Unit):=Zc (Zl .kHold) (Zc (Cod.fnc 120 (Zn) (Zc (Cod.cptr za0) (Zc (Cod.cptr (CC.one Zb)) Zn))) Zn)
abbrev z4s {R:Type}:Sm R:=semP zr8 za2 (fun a=>qb (fun g x0=>qcm x0 g.2.1 g.2.2.1) a.1 a.2.1)
def zvr {R:Type}:Nat→Sm R:=cl 120 z5l c0
abbrev zkp:=mkld [] [] [0,1,7,8] [] [] (Zs 0 (Zl .kHold) (Zs 1 (Cod.fnc 120 (Zn) (Zc (Cod.cptr za0) (Zc (Cod.cptr (CC.one Zb)) Zn))) (Zs 7 Zi (Zs 8 Zi Zz)))) (zi3 (fun g x0=>qcm x0 g.2.1 g.2.2.1)) (.xs 0 [] [] [] Zz (.r [4] [] [] (Zs 4 Zi Zz)))
def ziu {R:Type}:Lp Kd El R:=lp 2 zkp.sem l0
abbrev zxm {R:Type}:Sm R:=semP zr8 zat (fun a=>qbx (fun g x0=>qcm x0 g.2.1 g.2.2.1) a.1 a.2.1)
abbrev zan0 {R:Type}:Sm R:=semP zagm zat (fun a=>qad a.1 a.2.1)
abbrev z6g {R:Type}:Sm R:=semP zln z3p (fun a=>qet a.1 a.2.1)
abbrev zawi:ZC (Circ×(List Int)×Unit):=Zc (Cod.agg zak) (Zc (Zl .ki64) Zn)
abbrev zawx:ZD (Circ×(List Int)×Int):=(Cod.tup3 (Zc (Cod.agg zak) (Zc (Zl .ki64) (Zc Zi Zn))))
abbrev zav4 {R:Type}:Sm R:=semP zawi zawx (fun a=>ql a.1 a.2.1)
def zag7 {R:Type}:Nat→Sm R:=cl 31 z5h (cl 33 z6g c0)
abbrev z1u:=mkld [] [] [1,2,4,14,15,16] [2,4] [] (Zs 1 (Zl .ki64) (Zp 2 2 (Zp 4 4 (Zs 14 (Zl .ki64) (Zs 15 Zi (Zs 16 Zi (Zx 2 zak (Zx 4 zak Zz)))))))) zava (.xs 0 [1,2,4] [2,4] [] (Zs 1 (Zl .ki64) (Zp 2 2 (Zp 4 4 (Zx 2 zak (Zx 4 zak Zz))))) (.r [5,6] [4] [4] (Zp 4 4 (Zs 5 (Zl .ki64) (Zs 6 Zi (Zx 4 zak Zz))))))
abbrev z1v:=mkld [(9,9,Kd.ki64)] [] [2,4,9,27,28,29] [2,4] [9] (Zp 2 2 (Zp 4 4 (FC.arr 9 9 (Zs 27 (Zl .ki64) (Zs 28 Zi (Zs 29 Zi (Zx 2 zak (Zx 4 zak (FC.own 9 Kd.ki64 false Zz))))))))) zavb (.x 2 [2,4,9] [2,4] [9] (Zp 2 2 (Zp 4 4 (FC.arr 9 9 (Zx 2 zak (Zx 4 zak (FC.own 9 Kd.ki64 false Zz)))))))
def zmo {R:Type}:Lp Kd El R:=lp 9 z1v.sem (lp 2 z1u.sem l0)
abbrev zaom {R:Type}:Sm R:=semP zab8 zpm (fun a=>qbp a.1 a.2.1 a.2.2.1 a.2.2.2.1)
def z8l {R:Type}:Nat→Sm R:=cl 13 z4h (cl 27 z6m c0)
abbrev zt3:=mkld [(9,9,Kd.ki64)] [] [3,4,9,10,17,18,19] [4] [9,13] (Zs 3 Zi (Zp 4 4 (FC.arr 9 9 (FC.arr 10 13 (Zs 17 (Zl .kWeed_candidate) (Zs 18 Zi (Zs 19 Zi (Zx 4 zak (FC.own 9 Kd.ki64 false (FC.map 13 Kd.kMapI Zz)))))))))) zafb (.x 0 [9] [] [9] (FC.arr 9 9 (FC.own 9 Kd.ki64 false Zz)))
def zpd {R:Type}:Lp Kd El R:=lp 4 zt3.sem l0
abbrev zaqc {R:Type}:Sm R:=semP zxz zat (fun a=>qfc)
abbrev zav8 {R:Type}:Sm R:=semP zgb zat (fun a=>qr a.1)
def zahd {R:Type}:Nat→Sm R:=c0
abbrev z15:=mkld [] [] [1,3] [1] [] (Zp 1 1 (Zs 3 Zi (Zx 1 zak Zz))) zxd (.xs 0 [1] [1] [] (Zp 1 1 (Zx 1 zak Zz)) (.r [2] [] [] (Zs 2 Zb Zz)))
abbrev z16:=mkld [] [] [1,4] [1] [] (Zp 1 1 (Zs 4 Zi (Zx 1 zak Zz))) zxe (.xs 2 [1] [1] [] (Zp 1 1 (Zx 1 zak Zz)) (.r [2] [] [] (Zs 2 Zb Zz)))
abbrev zud:=mkld [] [] [1,5] [1] [] (Zp 1 1 (Zs 5 Zi (Zx 1 zak Zz))) zgy (.xs 4 [] [] [] Zz (.r [2] [] [] (Zs 2 Zb Zz)))
def zhm {R:Type}:Lp Kd El R:=lp 14 zud.sem (lp 9 z16.sem (lp 4 z15.sem l0))
abbrev zab7:ZC ((List UInt8)×Int×Unit):=Zc Cod.str (Zc Zi Zn)
abbrev zrs {R:Type}:Sm R:=semP zab7 zpn (fun a=>qb9 a.1 a.2.1)
abbrev zrq {R:Type}:Sm R:=semP zj5 zat (fun a=>qaw a.1)
def z71 {R:Type}:Nat→Sm R:=cl 146 zrs c0
abbrev ztn:=mkld [] [] [0,3] [] [] (Zs 0 Cod.str (Zs 3 Zi Zz)) zk3 (.xs 0 [] [] [] Zz (.r [2] [] [] (Zs 2 Zb Zz)))
def zox {R:Type}:Lp Kd El R:=lp 2 ztn.sem l0
abbrev z57 {R:Type}:Sm R:=semP zab7 za2 (fun a=>qe4 a.1 a.2.1)
abbrev z52 {R:Type}:Sm R:=semP zbz zat (fun a=>qe1 a.1)
abbrev z4z {R:Type}:Sm R:=semP zj5 z3s (fun a=>qbk a.1)
def z8h {R:Type}:Nat→Sm R:=cl 146 zrs (cl 147 z57 (cl 148 z52 c0))
abbrev ztz:=mkld [] [] [0,3,4,5] [] [] (Zs 0 Cod.str (Zs 3 Cod.str (Zs 4 Zb (Zs 5 Zi Zz)))) zk7 (.x 0 [3] [] [] (Zs 3 Cod.str Zz))
def zo9 {R:Type}:Lp Kd El R:=lp 4 ztz.sem l0
abbrev z4y {R:Type}:Sm R:=semP zr4 za2 (fun a=>qbj a.1)
def z8g {R:Type}:Nat→Sm R:=cl 88 zrq (cl 89 z4z c0)
abbrev zty:=mkld [] [] [0,3] [] [] (Zs 0 (Zl .kPatron) (Zs 3 Zi Zz)) zi6 (.xs 0 [] [] [] Zz (.r [2] [] [] (Zs 2 Zi Zz)))
def zo8 {R:Type}:Lp Kd El R:=lp 4 zty.sem l0
abbrev z4w {R:Type}:Sm R:=semP zr5 za2 (fun a=>qbh a.1)
def z8e {R:Type}:Nat→Sm R:=c0
abbrev ztw:=mkld [] [] [0,3] [] [] (Zs 0 (Zl .kLoan) (Zs 3 Zi Zz)) zi4 (.xs 0 [] [] [] Zz (.r [2] [] [] (Zs 2 Zi Zz)))
def zo6 {R:Type}:Lp Kd El R:=lp 4 ztw.sem l0
abbrev zapb {R:Type}:Sm R:=semP zbz zat (fun a=>qd4 a.1)
abbrev zap7 {R:Type}:Sm R:=semP zbz zat (fun a=>qen a.1)
abbrev z6k {R:Type}:Sm R:=semP zacf za2 (fun a=>qey a.1)
abbrev zagb {R:Type}:Sm R:=semP zagn za2 (fun a=>qo a.1)
def zaha {R:Type}:Nat→Sm R:=cl 90 z6k c0
abbrev z10:=mkld [] [] [0,3] [] [] (Zs 0 (Zl .kHold) (Zs 3 Zi Zz)) zrf (.xs 0 [0] [] [] (Zs 0 (Zl .kHold) Zz) (.r [2] [] [] (Zs 2 Zi Zz)))
abbrev zua:=mkld [] [] [0,5,6] [] [] (Zs 0 (Zl .kHold) (Zs 5 Zi (Zs 6 Zi Zz))) zi9 (.xs 4 [0,5] [] [] (Zs 0 (Zl .kHold) (Zs 5 Zi Zz)) (.r [2] [] [] (Zs 2 Zi Zz)))
abbrev zt9:=mkld [] [] [0,5] [] [] (Zs 0 (Zl .kHold) (Zs 5 Zi Zz)) zlc (.xs 2 [] [] [] Zz (.r [2] [] [] (Zs 2 Zi Zz)))
def zhk {R:Type}:Lp Kd El R:=lp 12 zt9.sem (lp 15 zua.sem (lp 4 z10.sem l0))
abbrev z58 {R:Type}:Sm R:=semP zbz zat (fun a=>qe5 a.1)
abbrev z4x {R:Type}:Sm R:=semP zab4 za2 (fun a=>qbi a.1)
def z8f {R:Type}:Nat→Sm R:=cl 91 z58 c0
abbrev ztx:=mkld [] [] [0,3] [] [] (Zs 0 (Zl .kCharge) (Zs 3 Zi Zz)) zi5 (.xs 0 [] [] [] Zz (.r [2] [] [] (Zs 2 Zi Zz)))
def zo7 {R:Type}:Lp Kd El R:=lp 4 ztx.sem l0
abbrev zaod {R:Type}:Sm R:=semP zm4 zat (fun a=>qb4 a.1 a.2.1 a.2.2.1)
abbrev z6f {R:Type}:Sm R:=semP zxy zat (fun a=>qes a.1)
abbrev zagd {R:Type}:Sm R:=semP zar2 za2 (fun a=>qs a.1)
def zahe {R:Type}:Nat→Sm R:=cl 92 z6f c0
abbrev z18:=mkld [] [] [0,3,4] [] [] (Zs 0 (Zl .kRule) (Zs 3 Zi (Zs 4 Zi Zz))) zrg (.xs 2 [0,3] [] [] (Zs 0 (Zl .kRule) (Zs 3 Zi Zz)) (.r [2] [] [] (Zs 2 Zi Zz)))
abbrev z17:=mkld [] [] [0,3] [] [] (Zs 0 (Zl .kRule) (Zs 3 Zi Zz)) zxf (.xs 0 [] [] [] Zz (.r [2] [] [] (Zs 2 Zi Zz)))
def zmq {R:Type}:Lp Kd El R:=lp 4 z17.sem (lp 9 z18.sem l0)
abbrev z38 {R:Type}:Sm R:=semP zagp za2 (fun a=>qaa a.1)
def z7j {R:Type}:Nat→Sm R:=c0
abbrev zs6:=mkld [] [] [1,3] [1] [] (Zp 1 1 (Zs 3 Zi (Zx 1 zaw Zz))) zi1 (.xs 0 [1] [1] [] (Zp 1 1 (Zx 1 zaw Zz)) (.r [2] [] [] (Zs 2 Zi Zz)))
abbrev zn4:=mkld [] [] [1,4] [1] [] (Zp 1 1 (Zs 4 Zi (Zx 1 zaw Zz))) zfg (.xs 2 [] [] [] Zz (.r [2] [] [] (Zs 2 Zi Zz)))
def zim {R:Type}:Lp Kd El R:=lp 11 zn4.sem (lp 6 zs6.sem l0)
abbrev zaop {R:Type}:Sm R:=semP zr1 za2 (fun a=>qbt a.1 a.2.1)
def z8n {R:Type}:Nat→Sm R:=c0
abbrev zt5:=mkld [] [] [0,1,5] [] [] (Zs 0 (Zl .kPatron) (Zs 1 Zi (Zs 5 Zi Zz))) zla (.xs 0 [] [] [] Zz (.r [4] [] [] (Zs 4 Zi Zz)))
def zpf {R:Type}:Lp Kd El R:=lp 2 zt5.sem l0
abbrev zm0 {R:Type}:Sm R:=semP zr1 zafr (fun a=>qcp a.1 a.2.1)
abbrev z6l {R:Type}:Sm R:=semP zbz zafs (fun a=>qez a.1)
abbrev zaqa {R:Type}:Sm R:=semP zbz zat (fun a=>qfa a.1)
abbrev zaqg {R:Type}:Sm R:=semP zx4 zat (fun a=>qfg a.1)
abbrev zary:ZC (Move×Unit):=Zc (Cod.agg zgd) Zn
abbrev zap1 {R:Type}:Sm R:=semP zary zat (fun a=>qeg a.1)
abbrev z6j {R:Type}:Sm R:=semP zbz zpm (fun a=>qex a.1)
abbrev zaol {R:Type}:Sm R:=semP zj6 zat (fun a=>qbo a.1 a.2.1)
def z8k {R:Type}:Nat→Sm R:=cl 238 z6j c0
abbrev zt2:=mkld [] [] [0,5,6] [] [] (Zs 0 Zi (Zs 5 (Zl .ki64) (Zs 6 Zi Zz))) zk8 (.xs 0 [] [] [] Zz (.r [4] [] [] (Zs 4 Zb Zz)))
def zpc {R:Type}:Lp Kd El R:=lp 3 zt2.sem l0
abbrev zaqj {R:Type}:Sm R:=semP zr9 zat (fun a=>qfj a.1 a.2.1)
abbrev zaqf {R:Type}:Sm R:=semP zbz za2 (fun a=>qff a.1)
abbrev z5z {R:Type}:Sm R:=semP zr9 zuz (fun a=>qe0 a.1 a.2.1)
abbrev z4v {R:Type}:Sm R:=semP zab3 zafm (fun a=>qbg a.1 a.2.1 a.2.2.1)
def z8d {R:Type}:Nat→Sm R:=cl 124 z5z (cl 152 z6l c0)
abbrev ztv:=mkld [] [] [1,2,6,9,10] [6,9] [] (Zs 1 (Zl .kMove) (Zs 2 Zi (Zp 6 6 (Zp 9 9 (Zs 10 Zi (Zx 6 zax (Zx 9 zax Zz))))))) zk6 (.xs 0 [6,9] [6,9] [] (Zp 6 6 (Zp 9 9 (Zx 6 zax (Zx 9 zax Zz)))) (.r [7,8] [6] [6] (Zp 6 6 (Zs 7 Zi (Zs 8 Zi (Zx 6 zax Zz))))))
def zo5 {R:Type}:Lp Kd El R:=lp 5 ztv.sem l0
abbrev zmz {R:Type}:Sm R:=semP zln za2 (fun a=>qan a.1 a.2.1)
def z7t {R:Type}:Nat→Sm R:=c0
abbrev ztg:=mkld [] [] [1,2,5] [2] [] (Zs 1 Zi (Zp 2 2 (Zs 5 Zi (Zx 2 zak Zz)))) zk1 (.xs 0 [] [] [] Zz (.r [4] [] [] (Zs 4 Zi Zz)))
def zoq {R:Type}:Lp Kd El R:=lp 2 ztg.sem l0
abbrev zagi {R:Type}:Sm R:=semP zgb zat (fun a=>qz a.1)
def zahk {R:Type}:Nat→Sm R:=cl 73 zmz (cl 88 zrq (cl 94 z4v c0))
abbrev z2e:=mkld [] [] [1,3] [1] [] (Zp 1 1 (Zs 3 Zi (Zx 1 zak Zz))) zri (.xs 0 [1] [1] [] (Zp 1 1 (Zx 1 zak Zz)) (.r [2] [] [] (Zs 2 Zb Zz)))
abbrev zug:=mkld [] [] [1,8] [1] [] (Zp 1 1 (Zs 8 Zi (Zx 1 zak Zz))) zja (.xs 2 [] [] [] Zz (.r [2] [] [] (Zs 2 Zb Zz)))
def zmt {R:Type}:Lp Kd El R:=lp 15 zug.sem (lp 4 z2e.sem l0)
abbrev z59 {R:Type}:Sm R:=semP zx4 zat (fun a=>qeb a.1)
abbrev zaoo {R:Type}:Sm R:=semP zj4 za2 (fun a=>qbs a.1 a.2.1)
def z8m {R:Type}:Nat→Sm R:=c0
abbrev zt4:=mkld [] [] [0,1,5] [] [] (Zs 0 (Zl .kLoan) (Zs 1 Zi (Zs 5 Zi Zz))) zk9 (.xs 0 [] [] [] Zz (.r [4] [] [] (Zs 4 Zi Zz)))
def zpe {R:Type}:Lp Kd El R:=lp 2 zt4.sem l0
abbrev z56 {R:Type}:Sm R:=semP zj4 zafn (fun a=>qe3 a.1 a.2.1)
abbrev zagh {R:Type}:Sm R:=semP zgb zat (fun a=>qy a.1)
def zahj {R:Type}:Nat→Sm R:=cl 48 zm0 (cl 73 zmz (cl 95 z59 (cl 96 z56 c0)))
abbrev z2d:=mkld [] [] [1,3] [1] [] (Zp 1 1 (Zs 3 Zi (Zx 1 zak Zz))) zrh (.xs 0 [1] [1] [] (Zp 1 1 (Zx 1 zak Zz)) (.r [2] [] [] (Zs 2 Zb Zz)))
abbrev zuf:=mkld [] [] [1,8] [1] [] (Zp 1 1 (Zs 8 Zi (Zx 1 zak Zz))) zle (.xs 2 [] [] [] Zz (.r [2] [] [] (Zs 2 Zb Zz)))
def zms {R:Type}:Lp Kd El R:=lp 10 zuf.sem (lp 2 z2d.sem l0)
abbrev z4u {R:Type}:Sm R:=semP zln z3q (fun a=>qbf a.1 a.2.1)
def z8c {R:Type}:Nat→Sm R:=c0
abbrev ztu:=mkld [] [] [1,2,4,6] [2,4] [] (Zs 1 Zi (Zp 2 2 (Zp 4 4 (Zs 6 Zi (Zx 2 zak (Zx 4 zbk Zz)))))) zk5 (.xs 0 [4] [4] [] (Zp 4 4 (Zx 4 zbk Zz)) (.r [5] [4] [4] (Zp 4 4 (Zs 5 Zb (Zx 4 zbk Zz)))))
def zo4 {R:Type}:Lp Kd El R:=lp 2 ztu.sem l0
abbrev zaf5 {R:Type}:Sm R:=semP zgb zat (fun a=>q8 a.1)
def zagx {R:Type}:Nat→Sm R:=cl 48 zm0 (cl 73 zmz (cl 97 z4u c0))
abbrev z1i:=mkld [] [] [1,3] [1] [] (Zp 1 1 (Zs 3 Zi (Zx 1 zak Zz))) zrb (.xs 0 [1] [1] [] (Zp 1 1 (Zx 1 zak Zz)) (.r [2] [] [] (Zs 2 Zb Zz)))
abbrev zsx:=mkld [] [] [1,9] [1] [] (Zp 1 1 (Zs 9 Zi (Zx 1 zak Zz))) zkx (.xs 2 [] [] [] Zz (.r [2] [] [] (Zs 2 Zb Zz)))
def zmm {R:Type}:Lp Kd El R:=lp 18 zsx.sem (lp 2 z1i.sem l0)
abbrev zan1 {R:Type}:Sm R:=semP zgb zat (fun a=>qae a.1)
def z7m {R:Type}:Nat→Sm R:=cl 42 z4y (cl 43 z4w (cl 44 zagb (cl 45 z4x (cl 46 zagd (cl 47 z38 (cl 48 zm0 (cl 49 zagi (cl 50 zagh (cl 51 zaf5 c0)))))))))
abbrev zs9:=mkld [] [] [1,3] [1] [] (Zp 1 1 (Zs 3 Zi (Zx 1 zak Zz))) zgx (.xs 0 [1] [1] [] (Zp 1 1 (Zx 1 zak Zz)) (.r [2] [] [] (Zs 2 Zb Zz)))
abbrev zn7:=mkld [] [] [1,4] [1] [] (Zp 1 1 (Zs 4 Zi (Zx 1 zak Zz))) zfh (.xs 2 [1] [1] [] (Zp 1 1 (Zx 1 zak Zz)) (.r [2] [] [] (Zs 2 Zb Zz)))
def zip {R:Type}:Lp Kd El R:=lp 11 zn7.sem (lp 6 zs9.sem l0)
abbrev zaqh {R:Type}:Sm R:=semP zgb zat (fun a=>qfh a.1)
abbrev z4i {R:Type}:Sm R:=semP zln zpn (fun a=>qax a.1 a.2.1)
def z73 {R:Type}:Nat→Sm R:=c0
abbrev zto:=mkld [] [] [1,2,6,7,8] [2] [] (Zs 1 Zi (Zp 2 2 (Zs 6 Zi (Zs 7 Zi (Zs 8 Zi (Zx 2 zak Zz)))))) zk4 (.x 0 [6,7] [] [] (Zs 6 Zi (Zs 7 Zi Zz)))
def zoy {R:Type}:Lp Kd El R:=lp 3 zto.sem l0
abbrev zaqt:ZC (Circ×Item×Int×Int×Unit):=Zc (Cod.agg zak) (Zc (Cod.agg za0) (Zc Zi (Zc Zi Zn)))
abbrev z32 {R:Type}:Sm R:=semP zaqt zat (fun a=>qa6 a.1 a.2.1 a.2.2.1 a.2.2.2.1)
def z7g {R:Type}:Nat→Sm R:=cl 12 z4i c0
abbrev zs3:=mkld [] [] [2,3,4,5,9] [4,5] [] (Zs 2 Zi (Zs 3 Zi (Zp 4 4 (Zp 5 5 (Zs 9 Zi (Zx 4 zak (Zx 5 za0 Zz))))))) zkz (.xs 0 [2,3,4,5] [4,5] [] (Zs 2 Zi (Zs 3 Zi (Zp 4 4 (Zp 5 5 (Zx 4 zak (Zx 5 za0 Zz)))))) (.r [8] [] [] (Zs 8 Zb Zz)))
def zoh {R:Type}:Lp Kd El R:=lp 4 zs3.sem l0
abbrev z6i {R:Type}:Sm R:=semP zhs zat (fun a=>qew a.1 a.2.1 a.2.2.1)
abbrev zawa {R:Type}:Sm R:=semP zhs zpm (fun a=>qx a.1 a.2.1 a.2.2.1)
def zahi {R:Type}:Nat→Sm R:=cl 28 z32 (cl 29 z6i c0)
abbrev zue:=mkld [(10,10,Kd.ki64)] [200007] [1,2,3,7,8,9,10,11,12] [3] [10] (Zs 1 Zi (Zs 2 Zi (Zp 3 3 (Zs 7 (Zl .ki64) (Zs 8 Zi (Zs 9 Zi (FC.arr 10 10 (Zs 11 Zb (Zs 12 Zi (Zx 3 zak (FC.own 10 Kd.ki64 false Zz))))))))))) zld (.x 2 [1,2,3,8,9,10,11] [3] [10] (Zs 1 Zi (Zs 2 Zi (Zp 3 3 (Zs 8 Zi (Zs 9 Zi (FC.arr 10 10 (Zs 11 Zb (Zx 3 zak (FC.own 10 Kd.ki64 false Zz))))))))))
abbrev z2c:=mkld [] [200007] [1,2,3,7,8] [3] [] (Zs 1 Zi (Zs 2 Zi (Zp 3 3 (Zs 7 (Zl .ki64) (Zs 8 Zi (Zx 3 zak Zz)))))) zxg (.x 0 [7] [] [] (Zs 7 (Zl .ki64) Zz))
def zmr {R:Type}:Lp Kd El R:=lp 3 z2c.sem (lp 10 zue.sem l0)
abbrev zacd:ZC (Circ×Int×Int×Unit):=zhs
abbrev zavu:ZD (Bool):=zat
def zaee (a:Circ×Int×Int×Unit):Option (Bool):=qdf a.1 a.2.1 a.2.2.1
abbrev zapj {R:Type}:Sm R:=semP zacd zavu zaee
end Go.Proofs.YtpaidiaknfhclaaGreatDoor
namespace Go.Proofs.YtpaidiaknfhclaaGreatDoor
set_option maxRecDepth 100000
open Ev
open Go (IntKind)
open Go
theorem zasf:∀k,CCOk (ccK k)
 |.kItem=>znh
 |.kPatron=>zh2
 |.kLoan=>zni
 |.kHold=>zng
 |.kCharge=>zh1
 |.kRule=>znl
 |.ki64=>CCOk.one (zai.int _)
 |.kMove=>znk
 |.kbool=>CCOk.one zai.bool
 |.kWeed_candidate=>zc9
 |.kMapI=>znj
 |.ku8=>CCOk.one (zai.int _)
 |.kUtf8_acceptRange=>zcu
 |.ku16=>CCOk.one (zai.int _)
theorem sgok:SgOk sg:=zaqk (cc:=ccK) (fun _=>rfl) (fun _=>rfl) zasf (by intro k x;cases k<;>rfl) (by intro k x;cases k<;>rfl) (by intro k;cases k<;>decide)
theorem eok:∀t,zas5 t=true→EqOk Tryz.prog t:=z88 (by kernel_rfl) (zalh)
theorem mok:∀t M,zaub t=some M→MpOk Tryz.prog sg t M:=zabc (zabd (kt:=3) (et:=3) (by kernel_rfl) (by kernel_rfl) (by kernel_rfl) (fun _ _=>rfl) (fun _ _=>rfl) (fun _=>rfl)) (zam5)
theorem good:GoodP Tryz.prog sg:=⟨prOk (by kernel_rfl) (by kernel_rfl),sgok,eok,mok⟩
end Go.Proofs.YtpaidiaknfhclaaGreatDoor
namespace Go.Proofs.YtpaidiaknfhclaaGreatDoor.Ev
open Go
section
variable {P:Program} {w:World}
theorem zbc {dT sT ty elem:TypeId} {i0:TypeInfo} {g o dLen dCap sLen sCap z:Nat} {a:Addr} {L cs:List Value} {t:TypeId} (hu:P.underlying dT=some (.slice elem)) (hi:P.info? elem=some i0) (hz:i0.size=z)
 (hg:w.heap[g]?=some (.cells L.toArray t (0,0))) (hn:cs.length=Nat.min sLen dLen*z) (hsrc:∀j v,cs[j]?=some v→w.cell? (a.add j)=some v) (hfit:o+cs.length≤L.length) (h1:∀v∈cs,v.oneCell'=true) :
 (Builtin.copy_ #[dT,sT] ty #[.slice (some ⟨g,o,none⟩) dLen dCap,.slice (some a) sLen sCap]).run P w=.ok (goInt (Nat.min sLen dLen)) (w.setRow g (Go.splice L o cs).toArray):=by
 have hl:=run_firstCells_some (P:=P) w z (Nat.min sLen dLen) a sLen sCap cs hn hsrc
 have hst:=run_storeCells_at P g o t cs 0 L.toArray w hg (by simpa using hfit) h1
 simp only[Nat.add_zero]at hst
 subst hz
 simp[Builtin.copy_,run_underlying hu,Builtin.lenOf,sizeOf,typeInfo,hi,hl,hst,Go.splice]
theorem zjq {ops:Array Oper} {rest:List Oper} {o:Oper} {a:Act} {Q:Exit→Act→World→Prop} (hgd:o.guard=none) (d s:Operand) (t t':TypeId)
 (ho:o.op=.call {callee:=.builtin .copy,args:=#[d,s],argTypes:=#[t,t']}) (v u:Value) (hd:a.eval d=v) (hs:a.eval s=u) {v':Value} {w':World}
 (hr:(Builtin.copy_ #[t,t'] o.type #[v,u]).run P w=.ok v' w') (h:wpList P ops Q rest (a.put o.dst v') w'):wpList P ops Q (o::rest) a w:=
 wpList_plain hgd fun _ hK=>by
  unfold Oper.wp execOp
  simp only[ho,resolve,invoke,builtin,Sem.run_bind,Sem.run_pure,Result.andThen_ok,List.map_toArray,List.map_cons,List.map_nil,hd,hs,hr]
  exact hK _ _ h
theorem zco {ops:Array Oper} {o:Oper} {a:Act} {K:Act→World→Prop} {Q:Exit→Act→World→Prop} {E:Prop}
 (hg:o.guard=none) (d x:Operand) (dT sT:TypeId) (hop:o.op=Op.call {callee:=Callee.builtin Builtin.copy,args:=#[d,x],argTypes:=#[dT,sT]})
 (v u:Value) (hd:a.eval d=v) (hx:a.eval x=u) {v':Value} {w':World} (hr:(Builtin.copy_ #[dT,sT] o.type #[v,u]).run P w=.ok v' w') (hK:K (a.put o.dst v') w') :
 if Region.wanted o (yielded ops a.tmps)=true then Oper.wp P o a w K Q else E:=by
 have hw:Region.wanted o (yielded ops a.tmps)=true:=by simp[Region.wanted,hg]
 rw[if_pos hw]
 unfold Oper.wp
 simp[execOp,hop,resolve,invoke,builtin,hd,hx,hr,Result.andThen]
 exact hK
theorem zli {ops:Array Oper} {o:Oper} {a:Act} {K:Act→World→Prop} {Q:Exit→Act→World→Prop} {E:Prop}
 (hg:o.guard=none) (d x:Operand) (dT sT:TypeId) (hop:o.op=Op.call {callee:=Callee.builtin Builtin.append,args:=#[d,x],argTypes:=#[dT,sT]})
 (v u:Value) (hd:a.eval d=v) (hx:a.eval x=u) {v':Value} {w':World} (hr:(Builtin.append_ #[dT,sT] o.type #[v,u]).run P w=.ok v' w') (hK:K (a.put o.dst v') w') :
 if Region.wanted o (yielded ops a.tmps)=true then Oper.wp P o a w K Q else E:=by
 have hw:Region.wanted o (yielded ops a.tmps)=true:=by simp[Region.wanted,hg]
 rw[if_pos hw]
 unfold Oper.wp
 simp[execOp,hop,resolve,invoke,builtin,hd,hx,hr,Result.andThen]
 exact hK
theorem zbd {ops:Array Oper} {rest:List Oper} {o:Oper} {a:Act} {Q:Exit→Act→World→Prop} (hgd:o.guard=none) (s x:Operand) (t tn:TypeId)
 (ho:o.op=.call {callee:=.builtin .append,args:=#[s,x],argTypes:=#[t,tn]}) (vs vx:Value) (hs:a.eval s=vs) (hx:a.eval x=vx)
 {v':Value} {w':World} (hr:(Builtin.append_ #[t,tn] o.type #[vs,vx]).run P w=.ok v' w') (h:wpList P ops Q rest (a.put o.dst v') w'):wpList P ops Q (o::rest) a w:=
 Lib.wpList_append_run w hgd s x t tn ho vs vx hs hx v' w' hr h
theorem zjc {t e ty:TypeId} {i0:TypeInfo} {z0:Value} {b o n c:Nat} {L:List Value} {tt:TypeId} (ht:P.underlying t=some (.slice e)) (hi:P.info? e=some i0) (hz:i0.zero=some z0)
 (hn:0<n) (hb:w.heap[b]?=some (.cells L.toArray tt (0,0))) (hfit:o+n*z0.cells.size≤L.length) (h1:∀v∈z0.cells,v.oneCell'=true) :
 (Builtin.clear_ #[t] ty #[.slice (some ⟨b,o,none⟩) n c]).run P w=.ok (.tuple #[]) (w.setRow b (Go.splice L o (Builtin.zeroCells z0.cells n).toList).toArray):=by
 have hl:(Builtin.zeroCells z0.cells n).toList.length=n*z0.cells.size:=by rw[Array.length_toList,Go.size_zeroCells]
 have hst:=run_storeCells_at P b o tt (Builtin.zeroCells z0.cells n).toList 0 L.toArray w hb (by rw[hl];simpa using hfit) (fun v hv=>by
  simp only[Builtin.zeroCells,Array.toList_map,List.mem_map,Array.toList_range,List.mem_range]at hv
  obtain ⟨q,hq,rfl⟩:=hv
  have hp:0<z0.cells.size:=Nat.pos_of_ne_zero (fun h=>by rw[h]at hq;omega)
  rw[getElem!_pos z0.cells _ (Nat.mod_lt _ hp)]
  exact h1 _ (Array.getElem_mem _))
 simp only[Nat.add_zero]at hst
 obtain ⟨m,rfl⟩:∃m,n=m+1:=⟨n-1,by omega⟩
 simp only[List.append_assoc]at hst
 simp[Builtin.clear_,run_underlying ht,sizeOf,typeInfo,zeroValue,hi,hz,hst,Go.splice]
theorem zc1 {tS tR e:TypeId} {i0:TypeInfo} (ht:P.underlying tS=some (.slice e)) (hi:P.info? e=some i0) {a b:Addr} {la ca lb cb:Nat} (hne:a.block≠b.block)
 {va vb:Array Value} {ta tb:TypeId} {fa:Nat×Nat} (ha:w.heap[a.block]?=some (.cells va ta fa)) (ha0:0<va.size) (hb:w.heap[b.block]?=some (.cells vb tb (0,0))) (hb0:0<vb.size) :
 (Extern.SlicesOverlaps.overlaps #[tS,tS] #[tR] #[.slice (some a) la ca,.slice (some b) lb cb]).run P w=.ok (.bool false) w:=by
 have hnb:(a.block != b.block)=true:=by simpa using hne
 have hnb':(a.block==b.block)=false:=by simpa using hne
 have hsa:w.shape? a.block=some (ta,va.size):=by simp[World.shape?,ha]
 have hsb:w.shape? b.block=some (tb,vb.size):=by simp[World.shape?,hb]
 have hfb:w.frozen? b=false:=by simp[World.frozen?,hb]
 have hfb':w.frozen? {block:=b.block,off:=vb.size}=false:=by simp[World.frozen?,hb]
 change Sem.run P (α:=Value) (do
  let some t:=(#[tS,tS]:Array TypeId)[0]?|stuck "slices.overlaps: no parameter types"
  let .slice elem ←underlying t|stuck "slices.overlaps: slice type expected"
  let size ←sizeOf elem
  match (some a:Option Addr),(some b:Option Addr) with
  |some a,some b=>
   if la=0∨lb=0∨size=0 then pure (Value.bool false)
   else if a.block != b.block&&(←frozen a)&&(←frozen b) then unsupported .addressObserved
   else do
    if a.block != b.block then do
     noView a;noView b
     if ←mayBeOne a b then return Value.bool ((←choose (.extern "sameAddr.stringBytes" 2))==1)
    pure (Value.bool (a.block==b.block&&a.off<b.off+lb*size&&b.off<a.off+la*size))
  |_,_=>pure (Value.bool false)) w=_
 have hz:(Go.sizeOf e).run P w=.ok i0.size w:=by simp[sizeOf,typeInfo,hi]
 by_cases h0:la=0∨lb=0∨i0.size=0
 ·simp[run_underlying ht,hz,h0]
 ·obtain ⟨ka,hka⟩:∃k,va.size=k+1:=⟨va.size-1,by omega⟩
  obtain ⟨kb,hkb⟩:∃k,vb.size=k+1:=⟨vb.size-1,by omega⟩
  rw[hka]at hsa
  rw[hkb]at hsb hfb'
  by_cases hfa:w.frozen? a=true
  ·simp[run_underlying ht,hz,h0,hnb,hnb',frozen,noView,viewAt,mayBeOne,stringish,shape,Sem.run,hsa,hsb,hfa,hfb,hfb']
  ·have hfa:w.frozen? a=false:=by simpa using hfa
   by_cases hfe:w.frozen? {block:=a.block,off:=ka+1}=true
   ·simp[run_underlying ht,hz,h0,hnb,hnb',frozen,noView,viewAt,mayBeOne,stringish,shape,Sem.run,hsa,hsb,hfa,hfb,hfb',hfe]
   ·have hfe:w.frozen? {block:=a.block,off:=ka+1}=false:=by simpa using hfe
    simp[run_underlying ht,hz,h0,hnb,hnb',frozen,noView,viewAt,mayBeOne,stringish,shape,Sem.run,hsa,hsb,hfa,hfb,hfb',hfe]
end
end Go.Proofs.YtpaidiaknfhclaaGreatDoor.Ev
namespace Go.Proofs.YtpaidiaknfhclaaGreatDoor.Ev
open Go
section
variable {κ:Type} {El:κ→Type} {S:Sg κ El} {P:Program}
theorem za6 {α:Type} {L new:List α} {off j:Nat} (h:off+new.length≤L.length):(Go.splice L off new)[j]?=if off≤j∧j<off+new.length then new[j-off]? else L[j]?:=by
 unfold Go.splice
 rw[←List.append_assoc]
 exact zmy L new off j h
theorem zel (sgk:SgOk S) {w w':World} {I J I':Nat→Nat→Prop} {v:Value} {d:D κ El} (h:DR S w I J v d) (hp:zer d=true) (H:∀b o,I b o→w'.cell? ⟨b,o,none⟩=w.cell? ⟨b,o,none⟩∧I' b o):DR S w' I' I' v d:=
 (h.relendL sgk (J':=I) (zcm hp)).mono H H
theorem zcx (sgk:SgOk S) {k:κ} {x:El k} {j:Nat} {d:D κ El} (h:(S.enc k x)[j]?=some d):zer d=true:=sgk.plain k x d (List.mem_of_getElem? h)
theorem z28 {w:World} {I J:Nat→Nat→Prop} {v:Value} {d:D κ El} (h:DR S w I J v d) (hp:zer d=true):v.oneCell'=true:=
 (h.lone (by cases d<;>simp_all[zer,solid])).one
structure InsOk (P:Program) (f z E:Nat):Prop where
 shift:∀{w:World} {b n c i vb vo vc:Nat} {L vs:List Value} {t:TypeId},i<n→n+1≤c→n+1≤1073741824→vb≠b→w.heap[b]?=some (.cells L.toArray t (0,0))→L.length=c*z→vs.length=z→
  (∀j v,vs[j]?=some v→w.cell? ⟨vb,vo+j,none⟩=some v)→(∀v∈(L.drop (i*z)).take ((n-i)*z),v.oneCell'=true)→(∀v∈vs,v.oneCell'=true)→
  Calls P f #[.slice (some ⟨b,0,none⟩) n c,.int .i64 i,.slice (some ⟨vb,vo,none⟩) 1 vc] w fun e w'=>
   e=.returned (.slice (some ⟨b,0,none⟩) (n+1) c)∧w'=(w.drew.setRow b (Go.splice L ((i+1)*z) ((L.drop (i*z)).take ((n-i)*z))).toArray).setRow b (Go.splice (Go.splice L ((i+1)*z) ((L.drop (i*z)).take ((n-i)*z))) (i*z) vs).toArray
 room:∀{w:World} {b n c vb vo vc:Nat} {L vs:List Value} {t:TypeId},n+1≤c→n+1≤1073741824→w.heap[b]?=some (.cells L.toArray t (0,0))→L.length=c*z→vs.length=z→
  (∀j v,vs[j]?=some v→w.cell? ⟨vb,vo+j,none⟩=some v)→(∀v∈vs,v.oneCell'=true)→
  Calls P f #[.slice (some ⟨b,0,none⟩) n c,.int .i64 n,.slice (some ⟨vb,vo,none⟩) 1 vc] w fun e w'=>
   e=.returned (.slice (some ⟨b,0,none⟩) (n+1) c)∧w'=w.setRow b (Go.splice L (n*z) vs).toArray
 new:∀{w:World} {base:Option Addr} {n c vb vo vc:Nat} {olds vs:List Value},n≤c→c<n+1→n+1≤1073741824→vs.length=z→(base=none→n=0)→olds.length=n*z→
  (∀a,base=some a→∀j v,olds[j]?=some v→w.cell? (a.add j)=some v)→(∀j v,vs[j]?=some v→w.cell? ⟨vb,vo+j,none⟩=some v)→
  Calls P f #[.slice base n c,.int .i64 n,.slice (some ⟨vb,vo,none⟩) 1 vc] w fun e w'=>
   ∃cap zs,e=.returned (.slice (some ⟨w.heap.size,0,none⟩) (n+1) cap)∧w'=w.drew.alloc (.cells (olds++(vs++zs)).toArray E)∧n+1≤cap∧zs.length=(cap-(n+1))*z
 grow:∀{w:World} {b n c i vb vo vc:Nat} {L vs:List Value} {t:TypeId},i<n→n≤c→c<n+1→n+1≤1073741824→vb≠b→w.heap[b]?=some (.cells L.toArray t (0,0))→L.length=c*z→vs.length=z→
  (∀j v,vs[j]?=some v→w.cell? ⟨vb,vo+j,none⟩=some v)→(∀v∈(L.drop (i*z)).take ((n-i)*z),v.oneCell'=true)→(∀v∈vs,v.oneCell'=true)→
  Calls P f #[.slice (some ⟨b,0,none⟩) n c,.int .i64 i,.slice (some ⟨vb,vo,none⟩) 1 vc] w fun e w'=>
   ∃cap row,e=.returned (.slice (some ⟨w.heap.size,0,none⟩) (n+1) cap)∧n+1≤cap∧row.length=cap*z∧row.take (i*z)=L.take (i*z)∧
    w'.heap=(w.heap.push (.cells (Go.splice (Go.splice row (i*z) vs) ((i+1)*z) ((L.drop (i*z)).take ((n-i)*z))).toArray E))∧w'.os=w.os∧w'.output=w.output∧w'.tape=w.tape
theorem zif {k:κ} {xs:List (El k)} {y:El k} {i:Nat} {L vs M:List Value} {Q:Value→D κ El→Prop} (sgk:SgOk S) (hi:i≤xs.length)
 (h1:∀(i:Nat) (hi:i<xs.length) (j:Nat) (d:D κ El),(S.enc k xs[i])[j]?=some d→∃v,L[i*S.sz k+j]?=some v∧Q v d)
 (h2:∀(j:Nat) (d:D κ El),(S.enc k y)[j]?=some d→∃v,vs[j]?=some v∧Q v d)
 (m1:∀p:Nat,p<i*S.sz k→M[p]?=L[p]?) (m2:∀j:Nat,j<S.sz k→M[i*S.sz k+j]?=vs[j]?) (m3:∀p:Nat,i*S.sz k≤p→p<xs.length*S.sz k→M[p+S.sz k]?=L[p]?) :
 ∀(i':Nat) (hi':i'<(xs.take i++y::xs.drop i).length) (j:Nat) (d:D κ El),(S.enc k (xs.take i++y::xs.drop i)[i'])[j]?=some d→∃v,M[i'*S.sz k+j]?=some v∧Q v d:=by
 intro i' hi' j d hj
 have hj':j<S.sz k:=by have:=(List.getElem?_eq_some_iff.1 hj).1;rwa [sgk.sz]at this
 have hl:(xs.take i).length=i:=by simp;omega
 by_cases hlt:i'<i
 ·have e:(xs.take i++y::xs.drop i)[i']=xs[i']'(by omega):=by rw[List.getElem_append_left (by omega)];simp
  rw[e]at hj
  obtain ⟨v,a,b⟩:=h1 i' (by omega) j d hj
  exact ⟨v,by rw[m1 _ (zcq hj' hlt)];exact a,b⟩
 ·by_cases heq:i'=i
  ·subst heq
   have e:(xs.take i'++y::xs.drop i')[i']=y:=by rw[List.getElem_append_right (by omega)];simp[hl]
   rw[e]at hj
   obtain ⟨v,a,b⟩:=h2 j d hj
   exact ⟨v,by rw[m2 j hj'];exact a,b⟩
  ·obtain ⟨p,rfl⟩:∃p,i'=p+1:=⟨i'-1,by omega⟩
   have hp:p<xs.length:=by simp at hi';omega
   have e:(xs.take i++y::xs.drop i)[p+1]=xs[p]:=by
    rw[List.getElem_append_right (by omega)]
    have e2:p+1-(xs.take i).length=(p-i)+1:=by omega
    simp only[e2,List.getElem_cons_succ,List.getElem_drop]
    congr 1;omega
   rw[e]at hj
   obtain ⟨v,a,b⟩:=h1 p hp j d hj
   refine ⟨v,?_,b⟩
   have:=m3 (p*S.sz k+j) (by have:=Nat.mul_le_mul_right (S.sz k) (show i≤p by omega);omega) (zcq hj' hp)
   rw[←a,←this]
   congr 1
   rw[Nat.add_mul];omega
theorem zahw (sgk:SgOk S) {f E:Nat} {fn:Func} {code:Code} (fok:FnOk P f fn code) (hmd:S.md f=.cons) {k:κ} (W:InsOk P f (S.sz k) E)
 {xs:List (El k)} {y:El k} {i:Nat} {ds:List (D κ El)} (hi:i≤xs.length) (hlim:xs.length+1≤1073741824) (hwl:WL ds [.lst k xs,.int .i64 (i:Int),.lst k [y]]) :
 Con P S f ds [] (.lst k (xs.take i++y::xs.drop i)) []:=by
 unfold Con
 rw[hmd]
 intro _ k' xs' ds0 hds k2 xs2 hd w I J mb v0 vs hp ho ha
 subst hds
 cases hd
 have hw0:=hwl.2 0 _ _ rfl rfl
 cases hw0 with
 |leaf _ _ hw0=>
 cases hw0
 have ha:=WL.args (cs':=[.int .i64 (i:Int),.lst k [y]]) ⟨by simpa using hwl.1,fun q d d' h1 h2=>hwl.2 (q+1) d d' (by simpa using h1) (by simpa using h2)⟩ ha
 obtain ⟨base,c,rfl,hnc,hz⟩:=ho
 obtain ⟨hvs,hav⟩:=ha
 obtain ⟨u1,u2,rfl⟩:∃u1 u2,vs = #[u1,u2]:=by
  simp at hvs
  exact ⟨vs[0],vs[1],by
   apply Array.ext
   ·simp[hvs]
   ·intro j h1 h2;simp at h2;rcases (show j=0∨j=1 by omega) with rfl|rfl<;>rfl⟩
 have hu1:u1=.int .i64 i:=(hav 0 u1 _ rfl rfl).int_inv
 have hu2:=hav 1 u2 _ rfl rfl
 subst hu1
 obtain ⟨n,hn⟩:∃n,n=xs.length:=⟨_,rfl⟩
 have hpos:=sgk.pos k
 cases hu2 with
 |lst vb vo vc _ _ cv hvcap hvc hvv=>
 obtain ⟨us,hus⟩:∃us,us=(List.range (S.sz k)).map (cv 0):=⟨_,rfl⟩
 have husl:us.length=S.sz k:=by rw[hus];simp
 have hug:∀j,j<S.sz k→us[j]?=some (cv 0 j):=fun j hj=>by rw[hus];simp[hj]
 have huc:∀j v,us[j]?=some v→w.cell? ⟨vb,vo+j,none⟩=some v:=fun j v hj=>by
  have hlt:=(List.getElem?_eq_some_iff.1 hj).1
  rw[husl]at hlt
  rw[hug j hlt]at hj;cases hj
  have:=(hvc 0 j (by simp) hlt).1
  simpa using this
 have huI:∀j,j<S.sz k→I vb (vo+j):=fun j hlt=>by have:=(hvc 0 j (by simp) hlt).2;simpa using this
 have hud:∀j d,(S.enc k y)[j]?=some d→∃v,us[j]?=some v∧DR S w I J v d:=fun j d hj=>by
  have hlt:=(List.getElem?_eq_some_iff.1 hj).1
  rw[sgk.sz]at hlt
  exact ⟨_,hug j hlt,hvv 0 (by simp) j d hj⟩
 have hu1c:∀v∈us,v.oneCell'=true:=fun v hv=>by
  obtain ⟨j,hj⟩:=List.getElem?_of_mem hv
  have hlt:=(List.getElem?_eq_some_iff.1 hj).1
  have hlt':j<(S.enc k y).length:=by rw[sgk.sz,←husl];exact hlt
  obtain ⟨v',e1,e2⟩:=hud j _ (List.getElem?_eq_getElem hlt')
  rw[hj]at e1;cases e1
  exact z28 e2 (sgk.plain k y _ (List.getElem_mem hlt'))
 have hIw:∀b o,I b o→b<w.heap.size:=hp.ib
 have hres:(xs.take i++y::xs.drop i).length=n+1:=by simp;omega
 unfold zcb
 rw[MuLone.run_callFunc_enter fok.at_ fok.name fok.body _ w]
 simp only
 show Calls P f #[.slice base xs.length c,.int .i64 (i:Int),.slice (some ⟨vb,vo,none⟩) 1 vc] w _
 rcases hz with ⟨rfl,rfl⟩|⟨b,vals,t,rfl,rfl,hb,hvsz,hel⟩
 ·have hx0:xs=[]:=List.eq_nil_of_length_eq_zero (by omega)
  subst hx0
  have hi0:i=0:=by simpa using hi
  subst hi0
  have hnew:=W.new (w:=w) (base:=base) (n:=0) (c:=0) (vb:=vb) (vo:=vo) (vc:=vc) (olds:=[]) (vs:=us) (by omega) (by omega) (by omega) husl (fun _=>rfl) (by simp) (fun a _ j v hj=>by simp at hj) huc
  refine hnew.mono (fun e w' he=>?_)
  obtain ⟨cap,zs,rfl,rfl,hcap,hzl⟩:=he
  refine ⟨I,⟨by rw[World.size_alloc];show w.heap.size≤w.heap.size+1;omega,rfl,rfl,rfl,fun q hq _=>?_,fun _ _ h=>h,fun _ _ h=>.inl h,fun q o h=>by have:=hIw q o h;rw[World.size_alloc];show q<w.heap.size+1;omega⟩,
   some ⟨w.heap.size,0,none⟩,cap,by simp,by simp;omega,.inr ⟨w.heap.size,_,E,rfl,zcs w.drew _,?_,.inl (Nat.le_refl _),fun o h=>absurd (hIw _ _ h) (by omega),?_⟩⟩
  ·simp only[World.alloc];rw[Array.getElem?_push,if_neg (by show ¬q=w.heap.size;omega)];rfl
  ·simp[husl,hzl]
   obtain ⟨q,rfl⟩:∃q,cap=q+1:=⟨cap-1,by omega⟩
   rw[Nat.add_sub_cancel,Nat.add_mul];omega
  ·intro i' hi' j d hj
   have:=zif (L:=[]) (vs:=us) (M:=us++zs) (Q:=fun v d=>DR S (w.drew.alloc (.cells ([]++(us++zs)).toArray E)) I I v d) sgk (i:=0) (xs:=[]) (y:=y) (by simp) (fun i hi=>absurd hi (by simp))
    (fun j d hj=>by
     obtain ⟨v,a,b⟩:=hud j d hj
     exact ⟨v,a,zel sgk b (zcx sgk hj) (fun q o h=>⟨by
      have:=hIw q o h
      simp only[World.cell?,World.alloc];rw[Array.getElem?_push,if_neg (by show ¬q=w.heap.size;omega)];rfl,h⟩)⟩)
    (fun p hp=>absurd hp (by omega)) (fun j hj=>by rw[Nat.zero_mul,Nat.zero_add,List.getElem?_append_left (by omega)]) (fun p _ hp=>by simp at hp) i' hi' j d hj
   simpa using this
 ·have hbw:b<w.heap.size:=(Array.getElem?_eq_some_iff.1 hb).1
  have hbI:∀o,¬I b o:=fun o h=>(hp.jb b o (hp.ij b o h)).2 (by simp)
  have hne:vb≠b:=fun e=>by subst e;exact hbI _ (huI 0 hpos)
  obtain ⟨L,hL⟩:∃L,L=vals.toList:=⟨_,rfl⟩
  have hLa:vals=L.toArray:=by rw[hL]
  have hLl:L.length=c*S.sz k:=by rw[hL];simpa using hvsz
  rw[hLa]at hb
  have hel':∀i (hi:i<xs.length) j d,(S.enc k xs[i])[j]?=some d→∃v,L[i*S.sz k+j]?=some v∧DR S w I J v d:=fun i hi j d hj=>by
   obtain ⟨v,a,e⟩:=hel i hi j d hj
   exact ⟨v,by rw[hL];simpa using a,e⟩
  have hnL:n*S.sz k≤L.length:=by rw[hLl];exact Nat.mul_le_mul_right _ (by omega)
  have hone:∀v∈L.take (n*S.sz k),v.oneCell'=true:=fun v hv=>by
   obtain ⟨p,hp'⟩:=List.getElem?_of_mem hv
   have hlt:=(List.getElem?_eq_some_iff.1 hp').1
   simp only[List.length_take]at hlt
   have h1:p / S.sz k<n:=(Nat.div_lt_iff_lt_mul hpos).2 (by omega)
   have h2:=Nat.mod_lt p hpos
   have h3:p % S.sz k<(S.enc k (xs[p / S.sz k]'(by omega))).length:=by rw[sgk.sz];exact h2
   obtain ⟨v',a,e⟩:=hel' (p / S.sz k) (by omega) _ _ (List.getElem?_eq_getElem h3)
   rw[Nat.div_add_mod']at a
   rw[List.getElem?_take,if_pos (by omega),a]at hp'
   cases hp'
   exact z28 e (sgk.plain k _ _ (List.getElem_mem h3))
  have hC1:(L.drop (i*S.sz k)).take ((n-i)*S.sz k)=(L.take (n*S.sz k)).drop (i*S.sz k):=by
   rw[List.drop_take];congr 1;rw[Nat.sub_mul]
  have hone1:∀v∈(L.drop (i*S.sz k)).take ((n-i)*S.sz k),v.oneCell'=true:=fun v hv=>hone v (by rw[hC1]at hv;exact List.mem_of_mem_drop hv)
  have hin:i*S.sz k≤n*S.sz k:=Nat.mul_le_mul_right _ (by omega)
  have hi1:(i+1)*S.sz k=i*S.sz k+S.sz k:=by rw[Nat.add_mul,Nat.one_mul]
  have hn1:(n+1)*S.sz k=n*S.sz k+S.sz k:=by rw[Nat.add_mul,Nat.one_mul]
  obtain ⟨C1,hC⟩:∃C1,C1=(L.drop (i*S.sz k)).take ((n-i)*S.sz k):=⟨_,rfl⟩
  have hC1l:C1.length=n*S.sz k-i*S.sz k:=by rw[hC,hC1];simp;omega
  have hC1g:∀q,q<n*S.sz k-i*S.sz k→C1[q]?=L[i*S.sz k+q]?:=fun q hq=>by rw[hC,hC1,List.getElem?_drop,List.getElem?_take,if_pos (by omega)]
  have inpl:∀(M:List Value) (w':World),M.length=L.length→(w'=w.setRow b M.toArray∨∃M0:Array Value,w'=(w.drew.setRow b M0).setRow b M.toArray)→n+1≤c→
   (∀p:Nat,p<i*S.sz k→M[p]?=L[p]?)→(∀j:Nat,j<S.sz k→M[i*S.sz k+j]?=us[j]?)→(∀p:Nat,i*S.sz k≤p→p<xs.length*S.sz k→M[p+S.sz k]?=L[p]?)→
   ∃I',GrowM [b] w w' I I'∧NewO S w' I' w.heap.size [b] k (xs.take i++y::xs.drop i) (.slice (some ⟨b,0,none⟩) (n+1) c):=by
   intro M w' hMl hw' hroom m1 m2 m3
   have hheap:w'.heap[b]?=some (.cells M.toArray t (0,0)):=by
    rcases hw' with rfl|⟨M0,rfl⟩
    ·exact setRow_heap _ _ _ _ _ _ hb
    ·exact setRow_heap _ _ _ _ _ _ (setRow_heap w.drew _ _ _ _ _ hb)
   have hoth:∀q,q≠b→w'.heap[q]?=w.heap[q]?:=fun q hq=>by
    rcases hw' with rfl|⟨M0,rfl⟩
    ·exact setRow_other _ _ _ _ hq
    ·rw[setRow_other _ _ _ _ hq,setRow_other _ _ _ _ hq];rfl
   have hsz:w'.heap.size=w.heap.size:=by
    rcases hw' with rfl|⟨M0,rfl⟩<;>simp only[setRow_size]<;>rfl
   refine ⟨I,⟨by omega,by rcases hw' with rfl|⟨M0,rfl⟩<;>rfl,by rcases hw' with rfl|⟨M0,rfl⟩<;>rfl,by rcases hw' with rfl|⟨M0,rfl⟩<;>rfl,fun q hq hm=>hoth q (by simpa using hm),fun _ _ h=>h,fun _ _ h=>.inl h,fun q o h=>by have:=hIw q o h;omega⟩,
    some ⟨b,0,none⟩,c,by rw[hres],by omega,.inr ⟨b,_,t,rfl,hheap,by simp[hMl,hLl],.inr (by simp),hbI,?_⟩⟩
   intro i' hi' j d hj
   have:=zif (L:=L) (vs:=us) (M:=M) (Q:=fun v d=>DR S w' I I v d) sgk (by omega)
    (fun i hi j d hj=>by
     obtain ⟨v,a,e⟩:=hel' i hi j d hj
     exact ⟨v,a,zel sgk e (zcx sgk hj) (fun q o h=>⟨by simp only[World.cell?];rw[hoth q (fun e=>by subst e;exact hbI o h)],h⟩)⟩)
    (fun j d hj=>by
     obtain ⟨v,a,e⟩:=hud j d hj
     exact ⟨v,a,zel sgk e (zcx sgk hj) (fun q o h=>⟨by simp only[World.cell?];rw[hoth q (fun e=>by subst e;exact hbI o h)],h⟩)⟩) m1 m2 m3 i' hi' j d hj
   simpa using this
  have newb:∀(M:List Value) (cap:Nat) (w':World),M.length=cap*S.sz k→w'.heap=w.heap.push (.cells M.toArray E)→w'.os=w.os→w'.output=w.output→w'.tape=w.tape→n+1≤cap→
   (∀p:Nat,p<i*S.sz k→M[p]?=L[p]?)→(∀j:Nat,j<S.sz k→M[i*S.sz k+j]?=us[j]?)→(∀p:Nat,i*S.sz k≤p→p<xs.length*S.sz k→M[p+S.sz k]?=L[p]?)→
   ∃I',GrowM [b] w w' I I'∧NewO S w' I' w.heap.size [b] k (xs.take i++y::xs.drop i) (.slice (some ⟨w.heap.size,0,none⟩) (n+1) cap):=by
   intro M cap w' hMl hheap h1 h2 h3 hcap m1 m2 m3
   have hoth:∀q,q<w.heap.size→w'.heap[q]?=w.heap[q]?:=fun q hq=>by rw[hheap,Array.getElem?_push,if_neg (by omega)]
   refine ⟨I,⟨by rw[hheap];simp,h1,h2,h3,fun q hq _=>hoth q hq,fun _ _ h=>h,fun _ _ h=>.inl h,fun q o h=>by have:=hIw q o h;rw[hheap];simp;omega⟩,
    some ⟨w.heap.size,0,none⟩,cap,by rw[hres],by omega,.inr ⟨w.heap.size,_,E,rfl,by rw[hheap];exact Array.getElem?_push_size,by simp[hMl],.inl (Nat.le_refl _),fun o h=>absurd (hIw _ _ h) (by omega),?_⟩⟩
   intro i' hi' j d hj
   have:=zif (L:=L) (vs:=us) (M:=M) (Q:=fun v d=>DR S w' I I v d) sgk (by omega)
    (fun i hi j d hj=>by
     obtain ⟨v,a,e⟩:=hel' i hi j d hj
     exact ⟨v,a,zel sgk e (zcx sgk hj) (fun q o h=>⟨by simp only[World.cell?];rw[hoth q (hIw q o h)],h⟩)⟩)
    (fun j d hj=>by
     obtain ⟨v,a,e⟩:=hud j d hj
     exact ⟨v,a,zel sgk e (zcx sgk hj) (fun q o h=>⟨by simp only[World.cell?];rw[hoth q (hIw q o h)],h⟩)⟩) m1 m2 m3 i' hi' j d hj
   simpa using this
  rw[←hn]at hi hlim hnc ⊢
  by_cases hroom:n+1≤c
  ·have hn1c:(n+1)*S.sz k≤L.length:=by rw[hLl];exact Nat.mul_le_mul_right _ hroom
   by_cases hlt:i<n
   ·refine (W.shift (vc:=vc) hlt hroom hlim hne hb hLl husl huc hone1 hu1c).mono (fun e w' he=>?_)
    obtain ⟨rfl,rfl⟩:=he
    rw[←hC]
    have l1:(Go.splice L ((i+1)*S.sz k) C1).length=L.length:=length_splice _ _ _ (by omega)
    refine inpl _ _ ?_ (.inr ⟨_,rfl⟩) hroom ?_ ?_ ?_
    ·rw[length_splice _ _ _ (by omega),l1]
    ·intro p hp'
     rw[za6 (by omega),if_neg (by omega),za6 (by omega),if_neg (by omega)]
    ·intro j hj
     rw[za6 (by omega),if_pos (by omega)]
     congr 1;omega
    ·intro p h1 h2
     rw[←hn]at h2
     rw[za6 (by omega),if_neg (by omega),za6 (by omega),if_pos (by omega),hC1g _ (by omega)]
     congr 1;omega
   ·have hie:i=n:=by omega
    subst hie
    refine (W.room (vc:=vc) hroom hlim hb hLl husl huc hu1c).mono (fun e w' he=>?_)
    obtain ⟨rfl,rfl⟩:=he
    refine inpl _ _ (length_splice _ _ _ (by omega)) (.inl rfl) hroom ?_ ?_ ?_
    ·intro p hp'
     rw[za6 (by omega),if_neg (by omega)]
    ·intro j hj
     rw[za6 (by omega),if_pos (by omega)]
     congr 1;omega
    ·intro p h1 h2
     rw[←hn]at h2
     omega
  ·by_cases hlt:i<n
   ·refine (W.grow (vc:=vc) hlt hnc (by omega) hlim hne hb hLl husl huc hone1 hu1c).mono (fun e w' he=>?_)
    obtain ⟨cap,row,rfl,hcap,hrl,hrt,hheap,q1,q2,q3⟩:=he
    rw[←hC]at hheap
    have hrl':(n+1)*S.sz k≤row.length:=by rw[hrl];exact Nat.mul_le_mul_right _ hcap
    have l1:(Go.splice row (i*S.sz k) us).length=row.length:=length_splice _ _ _ (by omega)
    refine newb _ cap w' ?_ hheap q1 q2 q3 hcap ?_ ?_ ?_
    ·rw[length_splice _ _ _ (by omega),l1,hrl]
    ·intro p hp'
     rw[za6 (by omega),if_neg (by omega),za6 (by omega),if_neg (by omega)]
     have e1:(row.take (i*S.sz k))[p]?=row[p]?:=by rw[List.getElem?_take,if_pos hp']
     have e2:(L.take (i*S.sz k))[p]?=L[p]?:=by rw[List.getElem?_take,if_pos hp']
     rw[←e1,hrt,e2]
    ·intro j hj
     rw[za6 (by omega),if_neg (by omega),za6 (by omega),if_pos (by omega)]
     congr 1;omega
    ·intro p h1 h2
     rw[←hn]at h2
     rw[za6 (by omega),if_pos (by omega),hC1g _ (by omega)]
     congr 1;omega
   ·have hie:i=n:=by omega
    subst hie
    refine (W.new (base:=some ⟨b,0,none⟩) (vc:=vc) (olds:=L.take (i*S.sz k)) hnc (by omega) hlim husl (fun h=>by cases h) (by simp;omega) (fun a ha j v hj=>?_) huc).mono (fun e w' he=>?_)
    ·cases ha
     rw[List.getElem?_take]at hj
     split at hj
     ·rw[zbg,Nat.zero_add]
      simp only[World.cell?,hb]
      simpa using hj
     ·cases hj
    ·obtain ⟨cap,zs,rfl,rfl,hcap,hzl⟩:=he
     obtain ⟨q,rfl⟩:∃q,cap=q+(i+1):=⟨cap-(i+1),by omega⟩
     rw[Nat.add_sub_cancel]at hzl
     have hTl:(L.take (i*S.sz k)).length=i*S.sz k:=by simp;omega
     refine newb _ (q+(i+1)) _ ?_ rfl rfl rfl rfl hcap ?_ ?_ ?_
     ·simp only[List.length_append,hTl,husl,hzl]
      rw[Nat.add_mul,hi1];omega
     ·intro p hp'
      rw[List.getElem?_append_left (by omega),List.getElem?_take,if_pos hp']
     ·intro j hj
      rw[List.getElem?_append_right (by omega),List.getElem?_append_left (by omega)]
      congr 1;omega
     ·intro p h1 h2
      rw[←hn]at h2
      omega
theorem zly (sgk:SgOk S) {f E:Nat} {fn:Func} {code:Code} (fok:FnOk P f fn code) (hmd:S.md f=.cons) {k:κ} (W:InsOk P f (S.sz k) E)
 {xs vs r:List (El k)} {i:Int} {ds:List (D κ El)} (hwl:WL ds [.lst k xs,.int .i64 i,.lst k vs]) (hr:zig xs i vs=some r):Con P S f ds [] (.lst k r) []:=by
 unfold zig at hr
 split at hr
 ·rename_i y
  rw[zad]at hr
  split at hr
  ·rename_i h
   simp only[Bool.and_eq_true,decide_eq_true_eq]at h
   cases hr
   obtain ⟨n,rfl⟩:=Int.eq_ofNat_of_zero_le h.1.1
   exact zahw sgk fok hmd W (i:=n) (by omega) h.2 hwl
  ·cases hr
 ·cases hr
end
end Go.Proofs.YtpaidiaknfhclaaGreatDoor.Ev
