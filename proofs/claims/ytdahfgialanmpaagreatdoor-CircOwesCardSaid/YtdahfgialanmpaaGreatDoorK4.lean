/- CircOwes: a part of the proof of the given statement, which is proved without conditions. -/
import Derived.Test.YtdahfgialanmpaaGreatDoorK3
import Derived.KernelRfl
import Derived.Test.YtdahfgialanmpaaGreatDoorProg
import Derived.Shelf.RegionOpenPlain
import Derived.WalkKit
import Derived.Lib.Walk
import Derived.Lib.AppendZerosOnto
import Derived.Lib.AppendZeros
import Derived.Laws.Externs
import Derived.Laws.CopyOwn
import Derived.Deep.RegionLaw
set_option linter.all false
namespace Go.Proofs.YtdahfgialanmpaaGreatDoor
set_option maxRecDepth 100000
open Ev
open Go (IntKind)
def zvp:(Int×Circ×Unit)→Option ((Int×Circ×Unit)⊕((Circ×Unit)⊕(Bool×Unit))):=fun (i,c,_)=>
 bif decide (i<(c.Items.length:Int)) then match getI c.Items i with|some x =>bif decide (300<(x.Call.length:Int)) then some (.inr (.inr (false,()))) else some (.inl (wr .i64 (i+1),c,()))|none =>none else some (.inr (.inl (c,())))
def zvq:(Int×Circ×Unit)→Option ((Int×Circ×Unit)⊕((Circ×Unit)⊕(Bool×Unit))):=fun (i,c,_)=>
 bif decide (i<(c.Patrons.length:Int)) then match getI c.Patrons i with|some x =>bif decide (300<(x.Name.length:Int)) then some (.inr (.inr (false,()))) else some (.inl (wr .i64 (i+1),c,()))|none =>none else some (.inr (.inl (c,())))
def zgl:(Int×Circ×Unit)→Option ((Int×Circ×Unit)⊕((Unit)⊕(Bool×Unit))):=fun (i,c,_)=>
 bif decide (i<4) then let k (v:Int) (v8:List Int):Option ((Int×Circ×Unit)⊕((Unit)⊕(Bool×Unit))):=bif decide (20<(v8.length:Int)) then some (.inr (.inr (false,()))) else some (.inl (wr .i64 (i+1),c,()));bif i==0 then k c.Cals.x0.Week c.Cals.x0.Closed else bif i==1 then k c.Cals.x1.Week c.Cals.x1.Closed else bif i==2 then k c.Cals.x2.Week c.Cals.x2.Closed else bif i==3 then k c.Cals.x3.Week c.Cals.x3.Closed else none else some (.inr (.inl (())))
def qa (c:Circ):Option Bool:=
 let k16 (v:Bool):Option Bool:=let k15 (v1:Bool):Option Bool:=let k14 (v2:Bool):Option Bool:=let k13 (v3:Bool):Option Bool:=let k12 (v4:Bool):Option Bool:=let k (v5:Bool):Option Bool:=bif v5 then some false else match zai zvp (0,c,()) with|some (.inl (c6,_)) =>(match zai zvq (0,c6,()) with|some (.inl (c7,_)) =>(match zai zgl (0,c7,()) with|some (.inl (_)) =>some true|some (.inr (v9,_)) =>some v9|none =>none)|some (.inr (v10,_)) =>some v10|none =>none)|some (.inr (v11,_)) =>some v11|none =>none;bif v4 then k true else k (decide (200<(c.Moves.length:Int)));bif v3 then k12 true else k12 (decide (10<(c.Rules.length:Int)));bif v2 then k13 true else k13 (decide (30<(c.Charges.length:Int)));bif v1 then k14 true else k14 (decide (12<(c.Loans.length:Int)));bif v then k15 true else k15 (decide (12<(c.Holds.length:Int)));bif decide (10<(c.Items.length:Int)) then k16 true else k16 (decide (8<(c.Patrons.length:Int)))
def qbh (s:List UInt8) (i:Int):Option (Int×Int):=
 match getI s i with|some b =>let k35 (v:Bool):Option (Int×Int):=bif v then some (wr .i64 (b.toNat:Int),1) else let k34 (v1:Bool):Option (Int×Int):=let k33 (v2:Bool):Option (Int×Int):=let k32 (v4:Bool):Option (Int×Int):=let k31 (v6:Bool):Option (Int×Int):=let k (v8:Int) (v9:Int):Option (Int×Int):=some (v8,v9);bif v6 then match getI s (wr .i64 (i+1)) with|some b7 =>bif decide (160≤wr .i64 ((wr .i64 ((wr .i64 ((wr .i64 ((wr .i64 (b.toNat:Int))-192))*64))+(wr .i64 (b7.toNat:Int))))-128)) then k (wr .i64 ((wr .i64 ((wr .i64 ((wr .i64 ((wr .i64 (b.toNat:Int))-192))*64))+(wr .i64 (b7.toNat:Int))))-128)) 2 else k 0 0|none =>none else let k30 (v10:Bool):Option (Int×Int):=let k29 (v11:Bool):Option (Int×Int):=let k28 (v13:Bool):Option (Int×Int):=let k27 (v15:Bool):Option (Int×Int):=let k26 (v17:Bool):Option (Int×Int):=let k25 (v19:Bool):Option (Int×Int):=bif v19 then match getI s (wr .i64 (i+1)) with|some b20 =>(match getI s (wr .i64 (i+2)) with|some b21 =>let k24 (v23:Bool):Option (Int×Int):=bif v23 then some (wr .i64 ((wr .i64 ((wr .i64 ((wr .i64 ((wr .i64 ((wr .i64 (b.toNat:Int))-224))*4096))+(wr .i64 ((wr .i64 ((wr .i64 (b20.toNat:Int))-128))*64))))+(wr .i64 (b21.toNat:Int))))-128),3) else some (0,0);bif decide (2048≤wr .i64 ((wr .i64 ((wr .i64 ((wr .i64 ((wr .i64 ((wr .i64 (b.toNat:Int))-224))*4096))+(wr .i64 ((wr .i64 ((wr .i64 (b20.toNat:Int))-128))*64))))+(wr .i64 (b21.toNat:Int))))-128)) then bif decide (wr .i64 ((wr .i64 ((wr .i64 ((wr .i64 ((wr .i64 ((wr .i64 (b.toNat:Int))-224))*4096))+(wr .i64 ((wr .i64 ((wr .i64 (b20.toNat:Int))-128))*64))))+(wr .i64 (b21.toNat:Int))))-128)<55296) then k24 true else k24 (decide (57343<wr .i64 ((wr .i64 ((wr .i64 ((wr .i64 ((wr .i64 ((wr .i64 (b.toNat:Int))-224))*4096))+(wr .i64 ((wr .i64 ((wr .i64 (b20.toNat:Int))-128))*64))))+(wr .i64 (b21.toNat:Int))))-128))) else k24 false|none =>none)|none =>none else some (0,0);bif v17 then match getI s (wr .i64 (i+2)) with|some b18 =>k25 (decide ((b18.toNat:Int)<192))|none =>none else k25 false;bif v15 then match getI s (wr .i64 (i+2)) with|some b16 =>k26 (decide (128≤(b16.toNat:Int)))|none =>none else k26 false;bif v13 then match getI s (wr .i64 (i+1)) with|some b14 =>k27 (decide ((b14.toNat:Int)<192))|none =>none else k27 false;bif v11 then match getI s (wr .i64 (i+1)) with|some b12 =>k28 (decide (128≤(b12.toNat:Int)))|none =>none else k28 false;bif v10 then k29 (decide (wr .i64 (i+2)<(s.length:Int))) else k29 false;bif decide (224≤wr .i64 (b.toNat:Int)) then k30 (decide (wr .i64 (b.toNat:Int)<240)) else k30 false;bif v4 then match getI s (wr .i64 (i+1)) with|some b5 =>k31 (decide ((b5.toNat:Int)<192))|none =>none else k31 false;bif v2 then match getI s (wr .i64 (i+1)) with|some b3 =>k32 (decide (128≤(b3.toNat:Int)))|none =>none else k32 false;bif v1 then k33 (decide (wr .i64 (i+1)<(s.length:Int))) else k33 false;bif decide (194≤wr .i64 (b.toNat:Int)) then k34 (decide (wr .i64 (b.toNat:Int)<224)) else k34 false;bif decide (32≤wr .i64 (b.toNat:Int)) then k35 (decide (wr .i64 (b.toNat:Int)<127)) else k35 false|none =>none
def zki:((List UInt8)×Int×Unit)→Option (((List UInt8)×Int×Unit)⊕((Unit)⊕(Bool×Unit))):=fun (s,i,_)=>
 bif decide (i<(s.length:Int)) then match qbh s i with|some (r1,r2) =>bif r2==0 then some (.inr (.inr (false,()))) else some (.inl (s,wr .i64 (i+r2),()))|none =>none else some (.inr (.inl (())))
def qae (s:List UInt8):Option Bool:=
 match zai zki (s,0,()) with|some (.inl (_)) =>some true|some (.inr (v,_)) =>some v|none =>none
def qe (s:List UInt8) (i:Int):Option Int:=
 match qbh s i with|some (r1,r2) =>some (if r2<1 then 1 else r2)|none =>none
def qag (c:Int):Option Bool:=
 let k (v:Bool):Option Bool:=some v;bif c==32 then k true else k (c==160)
def zkq:((List UInt8)×(List UInt8)×Bool×Int×Unit)→Option (((List UInt8)×(List UInt8)×Bool×Int×Unit)⊕(((List UInt8)×Unit))):=fun (s,vout,gap,i,_)=>
 bif decide (i<(s.length:Int)) then match qbh s i with|some (r1,r2) =>(match qe s i with|some r4 =>(match qag r1 with|some r6 =>let k11 (vout9:List UInt8) (gap10:Bool):Option (((List UInt8)×(List UInt8)×Bool×Int×Unit)⊕(((List UInt8)×Unit))):=some (.inl (s,vout9,gap10,wr .i64 (i+r4),()));bif r6 then k11 vout true else let k8 (v:Bool):Option (((List UInt8)×(List UInt8)×Bool×Int×Unit)⊕(((List UInt8)×Unit))):=let k (vout7:List UInt8):Option (((List UInt8)×(List UInt8)×Bool×Int×Unit)⊕(((List UInt8)×Unit))):=bif decide (0≤(i:Int))&&(decide ((i:Int)≤wr .i64 (i+r4))&&decide (wr .i64 (i+r4)≤(s.length:Int))) then bif decide (vout7.length+((s.take (wr .i64 (i+r4)).toNat).drop (i:Int).toNat).length≤LIM) then k11 (vout7++((s.take (wr .i64 (i+r4)).toNat).drop (i:Int).toNat)) false else none else none;bif v then bif decide (vout.length+([32]).length≤LIM) then k (vout++([32])) else none else k vout;bif gap then k8 (!(vout==([]))) else k8 false|none =>none)|none =>none)|none =>none else some (.inr ((vout,())))
def qay (s:List UInt8):Option (List UInt8):=
 match zai zkq (s,[],false,0,()) with|some ((vout,_)) =>some vout|none =>none
def ziq:((List Patron)×Int×Unit)→Option (((List Patron)×Int×Unit)⊕((Unit)⊕(Int×Unit))):=fun (l,i,_)=>
 bif decide (i<(l.length:Int)) then match getI l i with|some x =>let k18 (v:Bool):Option (((List Patron)×Int×Unit)⊕((Unit)⊕(Int×Unit))):=bif v then some (.inr (.inr (2,()))) else let k17 (v2:Bool):Option (((List Patron)×Int×Unit)⊕((Unit)⊕(Int×Unit))):=bif v2 then some (.inr (.inr (7,()))) else let k16 (v3:Bool):Option (((List Patron)×Int×Unit)⊕((Unit)⊕(Int×Unit))):=let k15 (v4:Bool):Option (((List Patron)×Int×Unit)⊕((Unit)⊕(Int×Unit))):=let k14 (v5:Bool):Option (((List Patron)×Int×Unit)⊕((Unit)⊕(Int×Unit))):=bif v5 then some (.inr (.inr (1,()))) else let k13 (v6:Bool):Option (((List Patron)×Int×Unit)⊕((Unit)⊕(Int×Unit))):=bif v6 then some (.inr (.inr (2,()))) else let k12 (v8:Bool):Option (((List Patron)×Int×Unit)⊕((Unit)⊕(Int×Unit))):=let k (v11:Bool):Option (((List Patron)×Int×Unit)⊕((Unit)⊕(Int×Unit))):=bif v11 then some (.inr (.inr (3,()))) else bif decide (200<(x.Name.length:Int)) then some (.inr (.inr (4,()))) else some (.inl (l,wr .i64 (i+1),()));bif v8 then k true else match qay x.Name with|some r10 =>k (!(r10==x.Name))|none =>none;bif x.Name==([]) then k12 true else match qae x.Name with|some r7 =>k12 (!r7)|none =>none;bif decide (x.Until<0) then k13 true else k13 (decide (109572<x.Until));bif v4 then k14 true else k14 (decide (4<x.Branch));bif v3 then k15 true else k15 (decide (x.Branch<1));bif decide (x.Kind<1) then k16 true else k16 (decide (9<x.Kind));bif decide (0<i) then match getI l (wr .i64 (i-1)) with|some x1 =>k17 (decide (x.ID≤x1.ID))|none =>none else k17 false;bif decide (x.ID<1) then k18 true else k18 (decide (9999<x.ID))|none =>none else some (.inr (.inl (())))
def qal (l:List Patron):Option Int:=
 bif decide (32<(l.length:Int)) then some 13 else match zai ziq (l,0,()) with|some (.inl (_)) =>some 0|some (.inr (v,_)) =>some v|none =>none
def zip:((List Loan)×Int×Unit)→Option (((List Loan)×Int×Unit)⊕((Unit)⊕(Int×Unit))):=fun (l,i,_)=>
 bif decide (i<(l.length:Int)) then match getI l i with|some x =>let k21 (v:Bool):Option (((List Loan)×Int×Unit)⊕((Unit)⊕(Int×Unit))):=bif v then some (.inr (.inr (7,()))) else let k20 (v2:Bool):Option (((List Loan)×Int×Unit)⊕((Unit)⊕(Int×Unit))):=let k19 (v3:Bool):Option (((List Loan)×Int×Unit)⊕((Unit)⊕(Int×Unit))):=let k18 (v4:Bool):Option (((List Loan)×Int×Unit)⊕((Unit)⊕(Int×Unit))):=let k17 (v5:Bool):Option (((List Loan)×Int×Unit)⊕((Unit)⊕(Int×Unit))):=let k16 (v6:Bool):Option (((List Loan)×Int×Unit)⊕((Unit)⊕(Int×Unit))):=let k15 (v7:Bool):Option (((List Loan)×Int×Unit)⊕((Unit)⊕(Int×Unit))):=let k14 (v8:Bool):Option (((List Loan)×Int×Unit)⊕((Unit)⊕(Int×Unit))):=let k13 (v9:Bool):Option (((List Loan)×Int×Unit)⊕((Unit)⊕(Int×Unit))):=let k12 (v10:Bool):Option (((List Loan)×Int×Unit)⊕((Unit)⊕(Int×Unit))):=let k (v11:Bool):Option (((List Loan)×Int×Unit)⊕((Unit)⊕(Int×Unit))):=bif v11 then some (.inr (.inr (2,()))) else some (.inl (l,wr .i64 (i+1),()));bif v10 then k true else k (decide (10<x.Renewals));bif v9 then k12 true else k12 (decide (x.Renewals<0));bif v8 then k13 true else k13 (decide (x.Due<x.Out));bif v7 then k14 true else k14 (decide (109572<x.Due));bif v6 then k15 true else k15 (decide (x.Due<0));bif v5 then k16 true else k16 (decide (109572<x.Out));bif v4 then k17 true else k17 (decide (x.Out<0));bif v3 then k18 true else k18 (decide (9999<x.Patron));bif v2 then k19 true else k19 (decide (x.Patron<1));bif decide (x.Item<1) then k20 true else k20 (decide (9999<x.Item));bif decide (0<i) then match getI l (wr .i64 (i-1)) with|some x1 =>k21 (decide (x.Item≤x1.Item))|none =>none else k21 false|none =>none else some (.inr (.inl (())))
def qak (l:List Loan):Option Int:=
 bif decide (64<(l.length:Int)) then some 13 else match zai zip (l,0,()) with|some (.inl (_)) =>some 0|some (.inr (v,_)) =>some v|none =>none
def qd4 (n:Int):Option Bool:=
 let k (v:Bool):Option Bool:=some v;bif decide (1≤n) then k (decide (n≤9999)) else k false
def qel (n:Int):Option Bool:=
 let k (v:Bool):Option Bool:=some v;bif decide (0≤n) then k (decide (n≤109572)) else k false
def qdg (h:Hold):Option Int:=
 let k41 (v:Bool):Option Int:=let k40 (v2:Bool):Option Int:=let k39 (v5:Bool):Option Int:=let k38 (v9:Bool):Option Int:=let k37 (v10:Bool):Option Int:=let k36 (v11:Bool):Option Int:=let k35 (v14:Bool):Option Int:=let k34 (v18:Bool):Option Int:=let k33 (v21:Bool):Option Int:=let k32 (v24:Bool):Option Int:=let k31 (v25:Bool):Option Int:=let k30 (v26:Bool):Option Int:=bif v26 then some 2 else let k29 (v27:Bool):Option Int:=bif v27 then some 1 else let k (v28:Bool):Option Int:=bif v28 then some 12 else some 0;bif !((decide (0<h.Got))==(!(h.State==1))) then k true else k (!((decide (0<h.Until))==(h.State==3)));bif decide (h.State<1) then k29 true else k29 (decide (3<h.State));bif v25 then k30 true else k30 (decide (9<h.Rank));bif v24 then k31 true else k31 (decide (h.Rank<0));bif v21 then k32 true else match qel h.Asleep with|some r23 =>k32 (!r23)|none =>none;bif v18 then k33 true else match qel h.Until with|some r20 =>k33 (!r20)|none =>none;bif v14 then k34 true else bif !(h.Got==0) then match qd4 h.Got with|some r16 =>k34 (!r16)|none =>none else k34 false;bif v11 then k35 true else match qel h.Placed with|some r13 =>k35 (!r13)|none =>none;bif v10 then k36 true else k36 (decide (4<h.Pickup));bif v9 then k37 true else k37 (decide (h.Pickup<1));bif v5 then k38 true else bif !(h.Item==0) then match qd4 h.Item with|some r7 =>k38 (!r7)|none =>none else k38 false;bif v2 then k39 true else match qd4 h.Record with|some r4 =>k39 (!r4)|none =>none;bif v then k40 true else match qd4 h.Patron with|some r1 =>k40 (!r1)|none =>none;bif decide (h.ID<1) then k41 true else k41 (decide (99999<h.ID))
def zqf:((List Hold)×Int×Unit)→Option (((List Hold)×Int×Unit)⊕(((List Hold)×Unit)⊕(Int×Unit))):=fun (l,i,_)=>
 bif decide (i<(l.length:Int)) then let k (v:Bool):Option (((List Hold)×Int×Unit)⊕(((List Hold)×Unit)⊕(Int×Unit))):=bif v then some (.inr (.inr (7,()))) else match getI l i with|some x2 =>(match qdg x2 with|some r3 =>bif !(r3==0) then some (.inr (.inr (r3,()))) else some (.inl (l,wr .i64 (i+1),()))|none =>none)|none =>none;bif decide (0<i) then match getI l i with|some x =>(match getI l (wr .i64 (i-1)) with|some x1 =>k (decide (x.ID≤x1.ID))|none =>none)|none =>none else k false else some (.inr (.inl (l,())))
def ziu:((List Hold)×Int×Int×Unit)→Option (((List Hold)×Int×Int×Unit)⊕(((List Hold)×Int×Unit)⊕(Int×Unit))):=fun (l,i,k,_)=>
 bif decide (k<i) then match getI l i with|some x =>(match getI l k with|some x5 =>let k14 (v:Bool):Option (((List Hold)×Int×Int×Unit)⊕(((List Hold)×Int×Unit)⊕(Int×Unit))):=let k13 (v12:Bool):Option (((List Hold)×Int×Int×Unit)⊕(((List Hold)×Int×Unit)⊕(Int×Unit))):=bif v12 then some (.inr (.inr (7,()))) else some (.inl (l,i,wr .i64 (k+1),()));bif v then k13 true else match getI l i with|some x8 =>bif decide (0<x8.Got) then match getI l i with|some x9 =>(match getI l k with|some x10 =>k13 (x9.Got==x10.Got)|none =>none)|none =>none else k13 false|none =>none;bif x.Patron==x5.Patron then match getI l i with|some x6 =>(match getI l k with|some x7 =>k14 (x6.Record==x7.Record)|none =>none)|none =>none else k14 false|none =>none)|none =>none else some (.inr (.inl (l,i,())))
def zks:((List Hold)×Int×Unit)→Option (((List Hold)×Int×Unit)⊕((Unit)⊕(Int×Unit))):=fun (l,i,_)=>
 bif decide (i<(l.length:Int)) then match zai ziu (l,i,0,()) with|some (.inl (l15,i16,_)) =>some (.inl (l15,wr .i64 (i16+1),()))|some (.inr (v,_)) =>some (.inr (.inr (v,())))|none =>none else some (.inr (.inl (())))
def qk (l:List Hold):Option Int:=
 bif decide (64<(l.length:Int)) then some 13 else match zai zqf (l,0,()) with|some (.inl (l4,_)) =>(match zai zks (l4,0,()) with|some (.inl (_)) =>some 0|some (.inr (v,_)) =>some v|none =>none)|some (.inr (v17,_)) =>some v17|none =>none
def qey (n:Int):Option Bool:=
 let k (v:Bool):Option Bool:=some v;bif decide (0≤n) then k (decide (n≤109572)) else k false
def zir:((List Charge)×Int×Unit)→Option (((List Charge)×Int×Unit)⊕((Unit)⊕(Int×Unit))):=fun (l,i,_)=>
 bif decide (i<(l.length:Int)) then match getI l i with|some x =>let k22 (v:Bool):Option (((List Charge)×Int×Unit)⊕((Unit)⊕(Int×Unit))):=bif v then some (.inr (.inr (7,()))) else let k21 (v2:Bool):Option (((List Charge)×Int×Unit)⊕((Unit)⊕(Int×Unit))):=let k20 (v3:Bool):Option (((List Charge)×Int×Unit)⊕((Unit)⊕(Int×Unit))):=let k19 (v4:Bool):Option (((List Charge)×Int×Unit)⊕((Unit)⊕(Int×Unit))):=let k18 (v5:Bool):Option (((List Charge)×Int×Unit)⊕((Unit)⊕(Int×Unit))):=let k17 (v6:Bool):Option (((List Charge)×Int×Unit)⊕((Unit)⊕(Int×Unit))):=let k16 (v8:Bool):Option (((List Charge)×Int×Unit)⊕((Unit)⊕(Int×Unit))):=bif v8 then some (.inr (.inr (2,()))) else let k15 (v9:Bool):Option (((List Charge)×Int×Unit)⊕((Unit)⊕(Int×Unit))):=bif v9 then some (.inr (.inr (1,()))) else let k14 (v10:Bool):Option (((List Charge)×Int×Unit)⊕((Unit)⊕(Int×Unit))):=let k13 (v11:Bool):Option (((List Charge)×Int×Unit)⊕((Unit)⊕(Int×Unit))):=let k (v12:Bool):Option (((List Charge)×Int×Unit)⊕((Unit)⊕(Int×Unit))):=bif v12 then some (.inr (.inr (2,()))) else some (.inl (l,wr .i64 (i+1),()));bif v11 then k true else k (decide (x.Amount≤x.Paid));bif v10 then k13 true else k13 (decide (x.Paid<0));bif decide (x.Amount<1) then k14 true else k14 (decide (100000000<x.Amount));bif decide (x.Kind<1) then k15 true else k15 (decide (3<x.Kind));bif v6 then k16 true else match qey x.Day with|some r7 =>k16 (!r7)|none =>none;bif v5 then k17 true else k17 (decide (9999<x.Item));bif v4 then k18 true else k18 (decide (x.Item<1));bif v3 then k19 true else k19 (decide (9999<x.Patron));bif v2 then k20 true else k20 (decide (x.Patron<1));bif decide (x.ID<1) then k21 true else k21 (decide (99999<x.ID));bif decide (0<i) then match getI l (wr .i64 (i-1)) with|some x1 =>k22 (decide (x.ID≤x1.ID))|none =>none else k22 false|none =>none else some (.inr (.inl (())))
def qax (l:List Charge):Option Int:=
 bif decide (128<(l.length:Int)) then some 13 else match zai zir (l,0,()) with|some (.inl (_)) =>some 0|some (.inr (v,_)) =>some v|none =>none
def qbb (n:Int) (low:Int) (high:Int):Option Bool:=
 let k (v:Bool):Option Bool:=some v;bif decide (low≤n) then k (decide (n≤high)) else k false
def qct (r:Rule):Option Bool:=
 match qbb r.Patron 0 9 with|some r2 =>let k48 (v:Bool):Option Bool:=let k47 (v7:Bool):Option Bool:=match qbb r.Days 0 365 with|some r9 =>let k46 (v12:Bool):Option Bool:=let k45 (v15:Bool):Option Bool:=match qbb r.Fine 0 1000 with|some r17 =>let k44 (v20:Bool):Option Bool:=let k43 (v23:Bool):Option Bool:=let k42 (v24:Bool):Option Bool:=let k41 (v25:Bool):Option Bool:=let k40 (v28:Bool):Option Bool:=let k39 (v31:Bool):Option Bool:=let k38 (v34:Bool):Option Bool:=let k (v37:Bool):Option Bool:=some v37;bif v34 then match qbb r.Rank 0 9 with|some r36 =>k r36|none =>none else k false;bif v31 then match qbb r.Fixed 0 109572 with|some r33 =>k38 r33|none =>none else k38 false;bif v28 then match qbb r.Recall 1 60 with|some r30 =>k39 r30|none =>none else k39 false;bif v25 then match qbb r.Shelf 1 60 with|some r27 =>k40 r27|none =>none else k40 false;bif v24 then k41 v23 else k41 false;bif v7 then k42 v15 else k42 false;bif v20 then match qbb r.MaxFine 0 100000000 with|some r22 =>k43 r22|none =>none else k43 false;bif r17 then match qbb r.Grace 0 30 with|some r19 =>k44 r19|none =>none else k44 false|none =>none;bif v12 then match qbb r.Loans 0 99 with|some r14 =>k45 r14|none =>none else k45 false;bif r9 then match qbb r.Renewals 0 10 with|some r11 =>k46 r11|none =>none else k46 false|none =>none;bif v then match qbb r.Branch 0 4 with|some r6 =>k47 r6|none =>none else k47 false;bif r2 then match qbb r.Item 0 9 with|some r4 =>k48 r4|none =>none else k48 false|none =>none
def zqe:((List Rule)×Int×Int×Unit)→Option (((List Rule)×Int×Int×Unit)⊕(((List Rule)×Int×Unit)⊕(Int×Unit))):=fun (l,i,k,_)=>
 bif decide (k<i) then match getI l k with|some x =>(match getI l i with|some x2 =>let k9 (v:Bool):Option (((List Rule)×Int×Int×Unit)⊕(((List Rule)×Int×Unit)⊕(Int×Unit))):=let k8 (v7:Bool):Option (((List Rule)×Int×Int×Unit)⊕(((List Rule)×Int×Unit)⊕(Int×Unit))):=bif v7 then some (.inr (.inr (7,()))) else some (.inl (l,i,wr .i64 (k+1),()));bif v then match getI l k with|some x5 =>(match getI l i with|some x6 =>k8 (x5.Branch==x6.Branch)|none =>none)|none =>none else k8 false;bif x.Patron==x2.Patron then match getI l k with|some x3 =>(match getI l i with|some x4 =>k9 (x3.Item==x4.Item)|none =>none)|none =>none else k9 false|none =>none)|none =>none else some (.inr (.inl (l,i,())))
def zvw:((List Rule)×Int×Unit)→Option (((List Rule)×Int×Unit)⊕((Unit)⊕(Int×Unit))):=fun (l,i,_)=>
 bif decide (i<(l.length:Int)) then match getI l i with|some x =>(match qct x with|some r1 =>(bif !r1 then some (.inr (.inr (2,()))) else match zai zqe (l,i,0,()) with|some (.inl (l10,i11,_)) =>some (.inl (l10,wr .i64 (i11+1),()))|some (.inr (v,_)) =>some (.inr (.inr (v,())))|none =>none)|none =>none)|none =>none else some (.inr (.inl (())))
def qj (l:List Rule):Option Int:=
 bif decide (32<(l.length:Int)) then some 13 else match zai zvw (l,0,()) with|some (.inl (_)) =>some 0|some (.inr (v,_)) =>some v|none =>none
def zqh:(Int×Calendar×Unit)→Option ((Int×Calendar×Unit)⊕((Calendar×Unit)⊕(Int×Unit))):=fun (i,c,_)=>
 bif decide (i<(c.Closed.length:Int)) then match getI c.Closed i with|some x =>(let k (v:Bool):Option ((Int×Calendar×Unit)⊕((Calendar×Unit)⊕(Int×Unit))):=bif v then some (.inr (.inr (2,()))) else some (.inl (wr .i64 (i+1),c,()));bif decide (x<0) then k true else match getI c.Closed i with|some x1 =>k (decide (109572<x1))|none =>none)|none =>none else some (.inr (.inl (c,())))
def ziv:(Int×Calendar×Unit)→Option ((Int×Calendar×Unit)⊕((Unit)⊕(Int×Unit))):=fun (i,c,_)=>
 bif decide (i<(c.Closed.length:Int)) then match getI c.Closed i with|some x =>(match getI c.Closed (wr .i64 (i-1)) with|some x3 =>bif decide (x≤x3) then some (.inr (.inr (7,()))) else some (.inl (wr .i64 (i+1),c,()))|none =>none)|none =>none else some (.inr (.inl (())))
def qu (c:Calendar):Option Int:=
 let k (v:Bool):Option Int:=bif v then some 1 else bif decide (64<(c.Closed.length:Int)) then some 13 else match zai zqh (0,c,()) with|some (.inl (c2,_)) =>(match zai ziv (1,c2,()) with|some (.inl (_)) =>some 0|some (.inr (v4,_)) =>some v4|none =>none)|some (.inr (v5,_)) =>some v5|none =>none;bif decide (c.Week<0) then k true else k (decide (126<c.Week))
def zko:((List Patron)×Int×Int×Unit)→Option (((List Patron)×Int×Int×Unit)⊕((Unit)⊕(Int×Unit))):=fun (l,vid,i,_)=>
 bif decide (i<(l.length:Int)) then match getI l i with|some x =>bif x.ID==vid then some (.inr (.inr (i,()))) else some (.inl (l,vid,wr .i64 (i+1),()))|none =>none else some (.inr (.inl (())))
def qar (l:List Patron) (vid:Int):Option Int:=
 match zai zko (l,vid,0,()) with|some (.inl (_)) =>some (-1)|some (.inr (v,_)) =>some v|none =>none
def qb4 (l:List Patron) (vid:Int):Option (Patron×Bool):=
 match qar l vid with|some r1 =>(bif decide (r1<0) then some ((⟨0,0,0,0,false,[]⟩:Patron),false) else match getI l r1 with|some x =>some (x,true)|none =>none)|none =>none
def qdh (branch:Int):Option Custody:=
 some (⟨1,branch,0,0⟩:Custody)
def qe4 (state:Int):Option Bool:=
 let k6 (v:Bool):Option Bool:=let k5 (v1:Bool):Option Bool:=let k4 (v2:Bool):Option Bool:=let k (v3:Bool):Option Bool:=some v3;bif v2 then k true else k (state==10);bif v1 then k4 true else k4 (state==9);bif v then k5 true else k5 (state==8);bif state==4 then k6 true else k6 (state==5)
def qdi (c:Custody):Option Bool:=
 let k17 (v:Bool):Option Bool:=let k16 (v1:Bool):Option Bool:=let k15 (v2:Bool):Option Bool:=bif v2 then some false else let k10 (v9:Bool):Option Bool:=some v9;bif c.State==6 then let k8 (v3:Bool):Option Bool:=let k7 (v4:Bool):Option Bool:=let k (v5:Bool):Option Bool:=bif v5 then k10 (!(c.To==c.Branch)) else k10 false;bif v4 then k (decide (c.To≤4)) else k false;bif v3 then k7 (decide (1≤c.To)) else k7 false;bif decide (0≤c.Who) then k8 (decide (c.Who≤9999)) else k8 false else bif !(c.To==0) then some false else match qe4 c.State with|some r11 =>let k14 (v13:Bool):Option Bool:=some v13;bif r11 then bif decide (1≤c.Who) then k14 (decide (c.Who≤9999)) else k14 false else some (c.Who==0)|none =>none;bif v1 then k15 true else k15 (decide (4<c.Branch));bif v then k16 true else k16 (decide (c.Branch<1));bif decide (c.State<1) then k17 true else k17 (decide (12<c.State))
def qee (m:Move):Option Bool:=
 let k16 (v:Bool):Option Bool:=let k15 (v1:Bool):Option Bool:=let k14 (v2:Bool):Option Bool:=let k13 (v3:Bool):Option Bool:=let k12 (v4:Bool):Option Bool:=let k11 (v5:Bool):Option Bool:=let k10 (v6:Bool):Option Bool:=let k9 (v7:Bool):Option Bool:=let k (v8:Bool):Option Bool:=some v8;bif v7 then k (decide (m.Who≤9999)) else k false;bif v6 then k9 (decide (0≤m.Who)) else k9 false;bif v5 then k10 (decide (m.Branch≤4)) else k10 false;bif v4 then k11 (decide (1≤m.Branch)) else k11 false;bif v3 then k12 (decide (m.Kind≤15)) else k12 false;bif v2 then k13 (decide (1≤m.Kind)) else k13 false;bif v1 then k14 (decide (m.Item≤9999)) else k14 false;bif v then k15 (decide (1≤m.Item)) else k15 false;bif decide (0≤m.Day) then k16 (decide (m.Day≤109572)) else k16 false
def qdf (kind:Int):Option (List Int):=
 bif kind==1 then some ([1]) else bif kind==2 then some ([2,5]) else bif kind==3 then some ([3,5]) else bif kind==4 then some ([4,8,9,10]) else let k (v:Bool):Option (List Int):=bif v then some ([2,3]) else bif kind==6 then some ([2,3,5]) else bif kind==7 then some ([6]) else bif kind==9 then some ([7]) else bif kind==10 then some ([3]) else bif kind==11 then some ([4]) else bif kind==12 then some ([4,9]) else bif kind==13 then some ([2,3,5,6,7]) else bif kind==14 then some ([11]) else bif kind==15 then some ([1,2,3,11,10]) else some ([]);bif kind==5 then k (kind==5) else k (kind==8)
def zkm:(Int×(List Int)×Int×Unit)→Option ((Int×(List Int)×Int×Unit)⊕((Unit)⊕(Bool×Unit))):=fun (state,l,i,_)=>
 bif decide (i<(l.length:Int)) then match getI l i with|some x =>bif x==state then some (.inr (.inr (true,()))) else some (.inl (state,l,wr .i64 (i+1),()))|none =>none else some (.inr (.inl (())))
def qaj (state:Int) (kind:Int):Option Bool:=
 match qdf kind with|some r1 =>(match zai zkm (state,r1,0,()) with|some (.inl (_)) =>some false|some (.inr (v,_)) =>some v|none =>none)|none =>none
def qc4 (c:Custody) (m:Move):Option Bool:=
 let k14 (v2:Bool):Option Bool:=let k11 (v10:Bool):Option Bool:=some v10;bif v2 then k11 (m.Who==0) else bif m.Kind==7 then bif m.Who==0 then k11 (m.Branch==c.To) else k11 false else bif m.Kind==6 then k11 (!(m.Branch==c.Branch)) else let k (v5:Bool):Option Bool:=bif v5 then bif m.Branch==c.Branch then k11 (decide (1≤m.Who)) else k11 false else let k13 (v12:Bool):Option Bool:=some v12;bif m.Branch==c.Branch then k13 (m.Who==0) else k13 false;bif m.Kind==3 then k (m.Kind==3) else bif m.Kind==5 then k (m.Kind==5) else k (m.Kind==10);bif m.Kind==1 then k14 (m.Kind==1) else bif m.Kind==4 then k14 (m.Kind==4) else bif m.Kind==9 then k14 (m.Kind==9) else k14 (m.Kind==14)
def qfa (kind:Int):Option Int:=
 let k13 (v3:Bool):Option Int:=let k (v12:Int):Option Int:=some v12;bif v3 then k 2 else bif kind==2 then k 3 else bif kind==3 then k 4 else bif kind==5 then k 5 else bif kind==6 then k 6 else bif kind==8 then k 7 else bif kind==10 then k 8 else bif kind==11 then k 9 else bif kind==12 then k 10 else bif kind==13 then k 11 else some 12;bif kind==1 then k13 (kind==1) else bif kind==4 then k13 (kind==4) else bif kind==7 then k13 (kind==7) else bif kind==9 then k13 (kind==9) else k13 (kind==14)
def qck (c:Custody) (m:Move):Option (Custody×Int):=
 match qdi c with|some r1 =>(let k26 (v:Bool):Option (Custody×Int):=bif v then some ((⟨0,0,0,0⟩:Custody),1) else match qaj c.State m.Kind with|some r5 =>bif !r5 then some ((⟨0,0,0,0⟩:Custody),12) else let k25 (v6:Bool):Option (Custody×Int):=let k24 (v7:Bool):Option (Custody×Int):=bif v7 then some ((⟨0,0,0,0⟩:Custody),16) else match qc4 c m with|some r9 =>(bif !r9 then some ((⟨0,0,0,0⟩:Custody),1) else match qfa m.Kind with|some r11 =>let k23 (vout20:Int) (vout21:Int) (vout22:Int):Option (Custody×Int):=some ((⟨r11,vout20,vout21,vout22⟩:Custody),0);bif r11==2 then k23 m.Branch 0 0 else let k19 (v13:Bool):Option (Custody×Int):=bif v13 then k23 c.Branch m.Who 0 else bif r11==6 then k23 c.Branch m.Who m.Branch else let k (v14:Bool):Option (Custody×Int):=bif v14 then k23 c.Branch c.Who 0 else k23 c.Branch 0 0;bif r11==9 then k (r11==9) else k (r11==10);bif r11==4 then k19 (r11==4) else bif r11==5 then k19 (r11==5) else k19 (r11==8)|none =>none)|none =>none;bif v6 then k24 (!(m.Who==c.Who)) else k24 false;bif m.Kind==3 then k25 (c.State==5) else k25 false|none =>none;bif !r1 then k26 true else match qee m with|some r3 =>k26 (!r3)|none =>none)|none =>none
def zkk:((List Move)×Int×Int×Custody×Custody×Unit)→Option (((List Move)×Int×Int×Custody×Custody×Unit)⊕((Custody×Custody×Unit)⊕(Int×Int×Custody×Unit))):=fun (l,item,i,v,c,_)=>
 bif decide (i<(l.length:Int)) then match getI l i with|some x =>(bif !(x.Item==item) then some (.inl (l,item,wr .i64 (i+1),v,c,())) else match getI l i with|some x2 =>(match qck c x2 with|some (r3,r4) =>bif !(r4==0) then some (.inr (.inr (i,r4,(⟨0,0,0,0⟩:Custody),()))) else some (.inl (l,item,wr .i64 (i+1),v,r3,()))|none =>none)|none =>none)|none =>none else some (.inr (.inl (v,c,())))
def qah (branch:Int) (l:List Move) (item:Int):Option (Custody×Int×Int):=
 let k (v:Bool):Option (Custody×Int×Int):=bif v then some ((⟨0,0,0,0⟩:Custody),(-1),1) else match qdh branch with|some r1 =>(match zai zkk (l,item,0,(⟨0,0,0,0⟩:Custody),r1,()) with|some (.inl (v5,c,_)) =>some (c,(-1),0)|some (.inr (v6,v7,v8,_)) =>some (v8,v6,v7)|none =>none)|none =>none;bif decide (branch<1) then k true else k (decide (4<branch))
def zv0:(Int×Int×Circ×Unit)→Option ((Int×Int×Circ×Unit)⊕((Unit)⊕(Int×Unit))):=fun (item,i,c,_)=>
 bif decide (i<(c.Items.length:Int)) then match getI c.Items i with|some x =>bif x.ID==item then some (.inr (.inr (i,()))) else some (.inl (item,wr .i64 (i+1),c,()))|none =>none else some (.inr (.inl (())))
def qv (c:Circ) (item:Int):Option Int:=
 match zai zv0 (item,0,c,()) with|some (.inl (_)) =>some (-1)|some (.inr (v,_)) =>some v|none =>none
def zqa:(Int×Circ×Unit)→Option ((Int×Circ×Unit)⊕((Circ×Unit)⊕(Bool×Unit))):=fun (i,c,_)=>
 bif decide (i<(c.Items.length:Int)) then match getI c.Items i with|some x =>let k29 (v:Bool):Option ((Int×Circ×Unit)⊕((Circ×Unit)⊕(Bool×Unit))):=let k28 (v3:Bool):Option ((Int×Circ×Unit)⊕((Circ×Unit)⊕(Bool×Unit))):=let k27 (v4:Bool):Option ((Int×Circ×Unit)⊕((Circ×Unit)⊕(Bool×Unit))):=let k26 (v5:Bool):Option ((Int×Circ×Unit)⊕((Circ×Unit)⊕(Bool×Unit))):=let k25 (v6:Bool):Option ((Int×Circ×Unit)⊕((Circ×Unit)⊕(Bool×Unit))):=let k24 (v7:Bool):Option ((Int×Circ×Unit)⊕((Circ×Unit)⊕(Bool×Unit))):=bif v7 then some (.inr (.inr (false,()))) else let k23 (v8:Bool):Option ((Int×Circ×Unit)⊕((Circ×Unit)⊕(Bool×Unit))):=let k22 (v9:Bool):Option ((Int×Circ×Unit)⊕((Circ×Unit)⊕(Bool×Unit))):=let k21 (v10:Bool):Option ((Int×Circ×Unit)⊕((Circ×Unit)⊕(Bool×Unit))):=let k20 (v11:Bool):Option ((Int×Circ×Unit)⊕((Circ×Unit)⊕(Bool×Unit))):=let k19 (v13:Bool):Option ((Int×Circ×Unit)⊕((Circ×Unit)⊕(Bool×Unit))):=bif v13 then some (.inr (.inr (false,()))) else match qah x.Branch c.Moves x.ID with|some (r15,r16,r17) =>let k (v18:Bool):Option ((Int×Circ×Unit)⊕((Circ×Unit)⊕(Bool×Unit))):=bif v18 then some (.inr (.inr (false,()))) else some (.inl (wr .i64 (i+1),c,()));bif !(r17==0) then k true else k (!(zcm r15 x.Custody))|none =>none;bif v11 then k19 true else match qae x.Call with|some r12 =>k19 (!r12)|none =>none;bif v10 then k20 true else k20 (decide (200<(x.Call.length:Int)));bif v9 then k21 true else k21 (decide (100000000<x.Price));bif v8 then k22 true else k22 (decide (x.Price<0));bif decide (x.Kind<1) then k23 true else k23 (decide (9<x.Kind));bif v6 then k24 true else k24 (decide (4<x.Branch));bif v5 then k25 true else k25 (decide (x.Branch<1));bif v4 then k26 true else k26 (decide (9999<x.Record));bif v3 then k27 true else k27 (decide (x.Record<1));bif v then k28 true else bif decide (0<i) then match getI c.Items (wr .i64 (i-1)) with|some x1 =>k28 (decide (x.ID≤x1.ID))|none =>none else k28 false;bif decide (x.ID<1) then k29 true else k29 (decide (9999<x.ID))|none =>none else some (.inr (.inl (c,())))
def zio:(Int×Circ×Unit)→Option ((Int×Circ×Unit)⊕((Unit)⊕(Bool×Unit))):=fun (i,c,_)=>
 bif decide (i<(c.Moves.length:Int)) then match getI c.Moves i with|some x =>(match qv c x.Item with|some r31 =>bif decide (r31<0) then some (.inr (.inr (false,()))) else some (.inl (wr .i64 (i+1),c,()))|none =>none)|none =>none else some (.inr (.inl (())))
def q8 (c:Circ):Option Bool:=
 let k (v:Bool):Option Bool:=bif v then some false else match zai zqa (0,c,()) with|some (.inl (c30,_)) =>(match zai zio (0,c30,()) with|some (.inl (_)) =>some true|some (.inr (v32,_)) =>some v32|none =>none)|some (.inr (v33,_)) =>some v33|none =>none;bif decide (64<(c.Items.length:Int)) then k true else k (decide (2000<(c.Moves.length:Int)))
def qd7 (u:Custody):Option Bool:=
 let k2 (v:Bool):Option Bool:=let k (v1:Bool):Option Bool:=some v1;bif v then k true else k (u.State==10);bif u.State==4 then k2 true else k2 (u.State==9)
def zkl:((List Loan)×Int×Int×Unit)→Option (((List Loan)×Int×Int×Unit)⊕((Unit)⊕(Int×Unit))):=fun (l,item,i,_)=>
 bif decide (i<(l.length:Int)) then match getI l i with|some x =>bif x.Item==item then some (.inr (.inr (i,()))) else some (.inl (l,item,wr .i64 (i+1),()))|none =>none else some (.inr (.inl (())))
def qai (l:List Loan) (item:Int):Option Int:=
 match zai zkl (l,item,0,()) with|some (.inl (_)) =>some (-1)|some (.inr (v,_)) =>some v|none =>none
def qdj (l:List Loan) (item:Int):Option (Loan×Bool):=
 match qai l item with|some r1 =>(bif decide (r1<0) then some ((⟨0,0,0,0,0,false⟩:Loan),false) else match getI l r1 with|some x =>some (x,true)|none =>none)|none =>none
def zqi:(Int×Circ×Unit)→Option ((Int×Circ×Unit)⊕((Circ×Unit)⊕(Bool×Unit))):=fun (i,c,_)=>
 bif decide (i<(c.Loans.length:Int)) then match getI c.Loans i with|some x =>(match qv c x.Item with|some r1 =>(match qb4 c.Patrons x.Patron with|some (r3,r4) =>let k12 (v:Bool):Option ((Int×Circ×Unit)⊕((Circ×Unit)⊕(Bool×Unit))):=let k11 (v8:Bool):Option ((Int×Circ×Unit)⊕((Circ×Unit)⊕(Bool×Unit))):=let k (v10:Bool):Option ((Int×Circ×Unit)⊕((Circ×Unit)⊕(Bool×Unit))):=bif v10 then some (.inr (.inr (false,()))) else some (.inl (wr .i64 (i+1),c,()));bif v8 then k true else match getI c.Items r1 with|some x9 =>k (!(x9.Custody.Who==x.Patron))|none =>none;bif v then k11 true else match getI c.Items r1 with|some x5 =>(match qd7 x5.Custody with|some r7 =>k11 (!r7)|none =>none)|none =>none;bif decide (r1<0) then k12 true else k12 (!r4)|none =>none)|none =>none)|none =>none else some (.inr (.inl (c,())))
def zkt:(Int×Circ×Unit)→Option ((Int×Circ×Unit)⊕((Unit)⊕(Bool×Unit))):=fun (i,c,_)=>
 bif decide (i<(c.Items.length:Int)) then match getI c.Items i with|some x =>(match qdj c.Loans x.ID with|some (r14,r15) =>(match getI c.Items i with|some x16 =>(match qd7 x16.Custody with|some r18 =>bif !(r15==r18) then some (.inr (.inr (false,()))) else some (.inl (wr .i64 (i+1),c,()))|none =>none)|none =>none)|none =>none)|none =>none else some (.inr (.inl (())))
def qz (c:Circ):Option Bool:=
 match zai zqi (0,c,()) with|some (.inl (c13,_)) =>(match zai zkt (0,c13,()) with|some (.inl (_)) =>some true|some (.inr (v,_)) =>some v|none =>none)|some (.inr (v19,_)) =>some v19|none =>none
def zkn:(Int×Int×Circ×Hold×Unit)→Option ((Int×Int×Circ×Hold×Unit)⊕((Hold×Unit)⊕(Bool×Hold×Unit))):=fun (item,i,c,v,_)=>
 bif decide (i<(c.Holds.length:Int)) then match getI c.Holds i with|some x =>bif x.Got==item then match getI c.Holds i with|some x1 =>some (.inr (.inr (true,x1,())))|none =>none else some (.inl (item,wr .i64 (i+1),c,v,()))|none =>none else some (.inr (.inl (v,())))
def qao (c:Circ) (item:Int):Option (Hold×Bool):=
 match zai zkn (item,0,c,(⟨0,0,0,0,0,0,0,0,0,0,0⟩:Hold),()) with|some (.inl (v,_)) =>some ((⟨0,0,0,0,0,0,0,0,0,0,0⟩:Hold),false)|some (.inr (v2,v3,_)) =>some (v3,v2)|none =>none
def zqb:(Int×Circ×Unit)→Option ((Int×Circ×Unit)⊕((Circ×Unit)⊕(Bool×Unit))):=fun (i,c,_)=>
 bif decide (i<(c.Holds.length:Int)) then match getI c.Holds i with|some x =>(match qb4 c.Patrons x.Patron with|some (r1,r2) =>let k18 (v:Bool):Option ((Int×Circ×Unit)⊕((Circ×Unit)⊕(Bool×Unit))):=bif v then some (.inr (.inr (false,()))) else bif x.State==1 then some (.inl (wr .i64 (i+1),c,())) else match qv c x.Got with|some r4 =>(let k17 (v6:Bool):Option ((Int×Circ×Unit)⊕((Circ×Unit)⊕(Bool×Unit))):=bif v6 then some (.inr (.inr (false,()))) else match getI c.Items r4 with|some x7 =>let k16 (v10:Bool):Option ((Int×Circ×Unit)⊕((Circ×Unit)⊕(Bool×Unit))):=bif v10 then some (.inr (.inr (false,()))) else let k15 (v14:Bool):Option ((Int×Circ×Unit)⊕((Circ×Unit)⊕(Bool×Unit))):=bif v14 then some (.inr (.inr (false,()))) else some (.inl (wr .i64 (i+1),c,()));bif x.State==2 then let k13 (v11:Bool):Option ((Int×Circ×Unit)⊕((Circ×Unit)⊕(Bool×Unit))):=bif v11 then k15 true else k15 (!(x7.Custody.Who==x.Patron));bif !(x7.Custody.State==6) then k13 true else k13 (!(x7.Custody.To==x.Pickup)) else k15 false;bif x.State==3 then let k (v8:Bool):Option ((Int×Circ×Unit)⊕((Circ×Unit)⊕(Bool×Unit))):=bif v8 then k16 true else k16 (!(x7.Custody.Who==x.Patron));bif !(x7.Custody.State==5) then k true else k (!(x7.Custody.Branch==x.Pickup)) else k16 false|none =>none;bif decide (r4<0) then k17 true else match getI c.Items r4 with|some x5 =>k17 (!(x5.Record==x.Record))|none =>none)|none =>none;bif !r2 then k18 true else k18 (decide (c.NextHold≤x.ID))|none =>none)|none =>none else some (.inr (.inl (c,())))
def zkh:(Int×Circ×Unit)→Option ((Int×Circ×Unit)⊕((Unit)⊕(Bool×Unit))):=fun (i,c,_)=>
 bif decide (i<(c.Items.length:Int)) then match getI c.Items i with|some x =>(bif !(x.Custody.State==5) then some (.inl (wr .i64 (i+1),c,())) else match getI c.Items i with|some x20 =>(match qao c x20.ID with|some (r21,r22) =>let k (v:Bool):Option ((Int×Circ×Unit)⊕((Unit)⊕(Bool×Unit))):=bif v then some (.inr (.inr (false,()))) else some (.inl (wr .i64 (i+1),c,()));bif !r22 then k true else k (!(r21.State==3))|none =>none)|none =>none)|none =>none else some (.inr (.inl (())))
def q9 (c:Circ):Option Bool:=
 match zai zqb (0,c,()) with|some (.inl (c19,_)) =>(match zai zkh (0,c19,()) with|some (.inl (_)) =>some true|some (.inr (v,_)) =>some v|none =>none)|some (.inr (v23,_)) =>some v23|none =>none
def zgm:(Int×Circ×Unit)→Option ((Int×Circ×Unit)⊕((Circ×Unit)⊕(Bool×Unit))):=fun (i,c,_)=>
 bif decide (i<4) then let k (v:Int) (v18:List Int):Option ((Int×Circ×Unit)⊕((Circ×Unit)⊕(Bool×Unit))):=match qu (⟨v,v18⟩:Calendar) with|some r19 =>bif !(r19==0) then some (.inr (.inr (false,()))) else some (.inl (wr .i64 (i+1),c,()))|none =>none;bif i==0 then k c.Cals.x0.Week c.Cals.x0.Closed else bif i==1 then k c.Cals.x1.Week c.Cals.x1.Closed else bif i==2 then k c.Cals.x2.Week c.Cals.x2.Closed else bif i==3 then k c.Cals.x3.Week c.Cals.x3.Closed else none else some (.inr (.inl (c,())))
def zfa:(Int×Circ×Unit)→Option ((Int×Circ×Unit)⊕((Circ×Unit)⊕(Bool×Unit))):=fun (i,c,_)=>
 bif decide (i<(c.Charges.length:Int)) then match getI c.Charges i with|some x =>(match qb4 c.Patrons x.Patron with|some (r21,r22) =>(let k (v:Bool):Option ((Int×Circ×Unit)⊕((Circ×Unit)⊕(Bool×Unit))):=bif v then some (.inr (.inr (false,()))) else some (.inl (wr .i64 (i+1),c,()));bif !r22 then k true else match getI c.Charges i with|some x23 =>k (decide (c.NextCharge≤x23.ID))|none =>none)|none =>none)|none =>none else some (.inr (.inl (c,())))
def qad (c:Circ):Option Bool:=
 let k44 (v:Bool):Option Bool:=let k43 (v1:Bool):Option Bool:=let k42 (v2:Bool):Option Bool:=let k41 (v3:Bool):Option Bool:=let k40 (v4:Bool):Option Bool:=bif v4 then some false else match qal c.Patrons with|some r5 =>(let k39 (v8:Bool):Option Bool:=let k38 (v11:Bool):Option Bool:=let k37 (v14:Bool):Option Bool:=let k36 (v17:Bool):Option Bool:=bif v17 then some false else match zai zgm (0,c,()) with|some (.inl (c20,_)) =>(match zai zfa (0,c20,()) with|some (.inl (c24,_)) =>(match q8 c24 with|some r26 =>let k33 (v29:Bool):Option Bool:=let k (v32:Bool):Option Bool:=some v32;bif v29 then match q9 c24 with|some r31 =>k r31|none =>none else k false;bif r26 then match qz c24 with|some r28 =>k33 r28|none =>none else k33 false|none =>none)|some (.inr (v34,_)) =>some v34|none =>none)|some (.inr (v35,_)) =>some v35|none =>none;bif v14 then k36 true else match qj c.Rules with|some r16 =>k36 (!(r16==0))|none =>none;bif v11 then k37 true else match qax c.Charges with|some r13 =>k37 (!(r13==0))|none =>none;bif v8 then k38 true else match qk c.Holds with|some r10 =>k38 (!(r10==0))|none =>none;bif !(r5==0) then k39 true else match qak c.Loans with|some r7 =>k39 (!(r7==0))|none =>none)|none =>none;bif v3 then k40 true else k40 (decide (100000<c.NextCharge));bif v2 then k41 true else k41 (decide (c.NextCharge<1));bif v1 then k42 true else k42 (decide (100000<c.NextHold));bif v then k43 true else k43 (decide (c.NextHold<1));bif decide (c.Today<0) then k44 true else k44 (decide (109572<c.Today))
def qev (c:Circ):Option Bool:=
 match qa c with|some r1 =>let k (v:Bool):Option Bool:=some v;bif r1 then match qad c with|some r3 =>k r3|none =>none else k false|none =>none
def qd3 (today:Int):Option Circ:=
 some (⟨(if 109572<(if today<0 then 0 else today) then 109572 else (if today<0 then 0 else today)),[],[],[],[],[],[],⟨⟨0,[]⟩,⟨0,[]⟩,⟨0,[]⟩,⟨0,[]⟩⟩,[],1,1,false⟩:Circ)
def qcz (x:Item) (v:Int):Option Bool:=
 some (x.ID==v)
def z7y {γ0:Type} (p:γ0→Item→Option Bool):((List Item)×γ0×Int×Int×Unit)→Option (((List Item)×γ0×Int×Int×Unit)⊕((Unit)⊕(Int×Unit))):=fun (s,g,v,v1,_)=>
 bif decide (v1<v) then match getI s v1 with|some x =>(match p g x with|some r =>bif r then some (.inr (.inr (v1,()))) else some (.inl (s,g,v,wr .i64 (v1+1),()))|none =>none)|none =>none else some (.inr (.inl (())))
def qd {γ0:Type} (p:γ0→Item→Option Bool) (s:List Item) (g:γ0):Option Int:=
 match zai (z7y p) (s,g,(s.length:Int),0,()) with|some (.inl (_)) =>some (-1)|some (.inr (v,_)) =>some v|none =>none
def qx (c:Circ) (item:Int):Option Int:=
 match qd (fun g x0=>qcz x0 g.2.1) c.Items ((),(item,())) with|some r1 =>some r1|none =>none
def qdv (branch:Int):Option Custody:=
 some (⟨1,branch,0,0⟩:Custody)
def qcr (z:Item) (v:Item):Option Bool:=
 some (decide (v.ID<z.ID))
def qcb (s:List Item):Option (List Item):=
 bif decide (([]:List Item).length+s.length≤LIM) then some (([])++s) else none
def qbx (n:Int) (low:Int) (high:Int):Option Bool:=
 let k (v:Bool):Option Bool:=some v;bif decide (low≤n) then k (decide (n≤high)) else k false
def qdu (x:Item):Option Bool:=
 match qbx x.ID 1 9999 with|some r1 =>let k21 (v:Bool):Option Bool:=let k20 (v6:Bool):Option Bool:=let k19 (v9:Bool):Option Bool:=let k18 (v12:Bool):Option Bool:=let k17 (v13:Bool):Option Bool:=let k (v16:Bool):Option Bool:=some v16;bif v13 then match qc1 x.Call with|some r15 =>k r15|none =>none else k false;bif v12 then k17 (decide ((x.Call.length:Int)≤200)) else k17 false;bif v9 then match qbx x.Price 0 100000000 with|some r11 =>k18 r11|none =>none else k18 false;bif v6 then match qbx x.Kind 1 9 with|some r8 =>k19 r8|none =>none else k19 false;bif v then match qbx x.Branch 1 4 with|some r5 =>k20 r5|none =>none else k20 false;bif r1 then match qbx x.Record 1 9999 with|some r3 =>k21 r3|none =>none else k21 false|none =>none
def qbm (n:Int) (least:Int) (most:Int):Option Bool:=
 let k (v:Bool):Option Bool:=some v;bif decide (least≤n) then k (decide (n≤most)) else k false
def qe3 (c:Custody):Option Bool:=
 match qbm c.State 1 12 with|some r1 =>(let k23 (v:Bool):Option Bool:=bif v then some false else let k22 (v7:Bool):Option Bool:=let k19 (v18:Bool):Option Bool:=some v18;bif v7 then match qbm c.Who 1 9999 with|some r9 =>bif r9 then k19 (c.To==0) else k19 false|none =>none else bif c.State==6 then match qbm c.Who 0 9999 with|some r12 =>let k (v15:Bool):Option Bool:=bif v15 then k19 (!(c.To==c.Branch)) else k19 false;bif r12 then match qbm c.To 1 4 with|some r14 =>k r14|none =>none else k false|none =>none else let k21 (v20:Bool):Option Bool:=some v20;bif c.Who==0 then k21 (c.To==0) else k21 false;bif c.State==4 then k22 (c.State==4) else bif c.State==5 then k22 (c.State==5) else bif c.State==8 then k22 (c.State==8) else bif c.State==9 then k22 (c.State==9) else k22 (c.State==10);bif !r1 then k23 true else match qbm c.Branch 1 4 with|some r3 =>k23 (!r3)|none =>none)|none =>none
def qe2 (state:Int) (kind:Int):Option Bool:=
 match qbm state 1 12 with|some r1 =>let k5 (v:Bool):Option Bool:=let k (v4:Bool):Option Bool:=some v4;bif v then match getI zbt state with|some x =>bif decide (kind<0) then none else k ((wr .u16 (BitVec.ofInt 16 (x.fdiv (2 ^ (min kind.toNat 16))) &&& BitVec.ofInt 16 1).toNat)==1)|none =>none else k false;bif r1 then match qbm kind 1 15 with|some r3 =>k5 r3|none =>none else k5 false|none =>none
def qci (c:Custody) (ok:Bool):Option (Custody×Int):=
 bif !ok then some ((⟨0,0,0,0⟩:Custody),1) else some (c,0)
def qe5 (c:Custody) (m:Move):Option (Custody×Int):=
 match qci (⟨6,c.Branch,m.Who,m.Branch⟩:Custody) (!(m.Branch==c.Branch)) with|some (r1,r2) =>some (r1,r2)|none =>none
def qdw (c:Custody) (m:Move):Option (Custody×Int):=
 match qe3 c with|some r1 =>(let k95 (v:Bool):Option (Custody×Int):=let k94 (v6:Bool):Option (Custody×Int):=let k93 (v9:Bool):Option (Custody×Int):=let k92 (v12:Bool):Option (Custody×Int):=let k91 (v15:Bool):Option (Custody×Int):=bif v15 then some ((⟨0,0,0,0⟩:Custody),1) else match qe2 c.State m.Kind with|some r17 =>bif !r17 then some ((⟨0,0,0,0⟩:Custody),12) else let k90 (v18:Bool):Option (Custody×Int):=let k89 (v19:Bool):Option (Custody×Int):=bif v19 then some ((⟨0,0,0,0⟩:Custody),16) else let k88 (v22:Bool):Option (Custody×Int):=let k84 (state79:Int) (ok80:Bool):Option (Custody×Int):=match qci (⟨state79,m.Branch,m.Who,0⟩:Custody) ok80 with|some (r82,r83) =>some (r82,r83)|none =>none;let k87 (v85:Int) (v86:Custody):Option (Custody×Int):=some (v86,v85);bif v22 then k84 2 (m.Who==0) else bif m.Kind==7 then bif m.Who==0 then k84 2 (m.Branch==c.To) else k84 2 false else bif m.Kind==6 then match qe5 c m with|some (r25,r26) =>k87 r26 r25|none =>none else bif m.Kind==3 then bif m.Branch==c.Branch then k84 4 (!(m.Who==0)) else k84 4 false else bif m.Kind==5 then bif m.Branch==c.Branch then k84 5 (!(m.Who==0)) else k84 5 false else bif m.Kind==10 then bif m.Branch==c.Branch then k84 8 (!(m.Who==0)) else k84 8 false else bif m.Kind==2 then bif m.Branch==c.Branch then k84 3 (m.Who==0) else k84 3 false else bif m.Kind==8 then bif m.Branch==c.Branch then k84 7 (m.Who==0) else k84 7 false else bif m.Kind==11 then let k (v32:Bool):Option (Custody×Int):=match qci (⟨9,c.Branch,c.Who,0⟩:Custody) v32 with|some (r34,r35) =>k87 r35 r34|none =>none;bif m.Branch==c.Branch then k (m.Who==0) else k false else bif m.Kind==12 then let k40 (v36:Bool):Option (Custody×Int):=match qci (⟨10,c.Branch,c.Who,0⟩:Custody) v36 with|some (r38,r39) =>k87 r39 r38|none =>none;bif m.Branch==c.Branch then k40 (m.Who==0) else k40 false else bif m.Kind==13 then bif m.Branch==c.Branch then k84 11 (m.Who==0) else k84 11 false else bif m.Kind==15 then bif m.Branch==c.Branch then k84 12 (m.Who==0) else k84 12 false else k84 0 false;bif m.Kind==1 then k88 (m.Kind==1) else bif m.Kind==4 then k88 (m.Kind==4) else bif m.Kind==9 then k88 (m.Kind==9) else k88 (m.Kind==14);bif v18 then k89 (!(m.Who==c.Who)) else k89 false;bif m.Kind==3 then k90 (c.State==5) else k90 false|none =>none;bif v12 then k91 true else match qbm m.Who 0 9999 with|some r14 =>k91 (!r14)|none =>none;bif v9 then k92 true else match qbm m.Branch 1 4 with|some r11 =>k92 (!r11)|none =>none;bif v6 then k93 true else match qbm m.Kind 1 15 with|some r8 =>k93 (!r8)|none =>none;bif v then k94 true else match qbm m.Item 1 9999 with|some r5 =>k94 (!r5)|none =>none;bif !r1 then k95 true else match qbm m.Day 0 109572 with|some r3 =>k95 (!r3)|none =>none)|none =>none
def zabq:(Int×(List Move)×Int×Int×Custody×Custody×Unit)→Option ((Int×(List Move)×Int×Int×Custody×Custody×Unit)⊕((Custody×Custody×Unit)⊕(Int×Int×Custody×Unit))):=fun (item,v,v4,v5,v6,c,_)=>
 bif decide (v5<v4) then match getI v v5 with|some x =>(bif !(x.Item==item) then some (.inl (item,v,v4,wr .i64 (v5+1),v6,c,())) else match qdw c x with|some (r7,r8) =>bif !(r8==0) then some (.inr (.inr (v5,r8,(⟨0,0,0,0⟩:Custody),()))) else some (.inl (item,v,v4,wr .i64 (v5+1),v6,r7,()))|none =>none)|none =>none else some (.inr (.inl (v6,c,())))
def qbg (branch:Int) (l:List Move) (item:Int):Option (Custody×Int×Int):=
 match qbm branch 1 4 with|some r1 =>(bif !r1 then some ((⟨0,0,0,0⟩:Custody),(-1),1) else match qdv branch with|some r3 =>(match zai zabq (item,l,(l.length:Int),0,(⟨0,0,0,0⟩:Custody),r3,()) with|some (.inl (v,c,_)) =>some (c,(-1),0)|some (.inr (v9,v10,v11,_)) =>some (v11,v9,v10)|none =>none)|none =>none)|none =>none
def zaqu:((List Item)×Int×Int×Circ×Unit)→Option (((List Item)×Int×Int×Circ×Unit)⊕((Circ×Unit)⊕(Bool×Unit))):=fun (v,v1,v2,c,_)=>
 bif decide (v2<v1) then match getI v v2 with|some x =>(match qdu x with|some r3 =>let k (v6:Bool):Option (((List Item)×Int×Int×Circ×Unit)⊕((Circ×Unit)⊕(Bool×Unit))):=bif v6 then some (.inr (.inr (false,()))) else some (.inl (v,v1,wr .i64 (v2+1),c,()));bif !r3 then k true else bif decide (0<v2) then match getI c.Items (wr .i64 (v2-1)) with|some x4 =>k (decide (x.ID≤x4.ID))|none =>none else k false|none =>none)|none =>none else some (.inr (.inl (c,())))
def zab1:((List Move)×Int×Int×Circ×Unit)→Option (((List Move)×Int×Int×Circ×Unit)⊕((Circ×Unit)⊕(Bool×Unit))):=fun (v,v8,v9,c,_)=>
 bif decide (v9<v8) then match getI v v9 with|some x =>(match qx c x.Item with|some r10 =>bif decide (r10<0) then some (.inr (.inr (false,()))) else some (.inl (v,v8,wr .i64 (v9+1),c,()))|none =>none)|none =>none else some (.inr (.inl (c,())))
def zab2:((List Item)×Int×Int×Circ×Unit)→Option (((List Item)×Int×Int×Circ×Unit)⊕((Unit)⊕(Bool×Unit))):=fun (v,v12,v13,c,_)=>
 bif decide (v13<v12) then match getI v v13 with|some x =>(match qbg x.Branch c.Moves x.ID with|some (r14,r15,r16) =>let k (v17:Bool):Option (((List Item)×Int×Int×Circ×Unit)⊕((Unit)⊕(Bool×Unit))):=bif v17 then some (.inr (.inr (false,()))) else some (.inl (v,v12,wr .i64 (v13+1),c,()));bif !(r16==0) then k true else k (!(zcm r14 x.Custody))|none =>none)|none =>none else some (.inr (.inl (())))
def qp (c:Circ):Option Bool:=
 let k (v:Bool):Option Bool:=bif v then some false else match zai zaqu (c.Items,(c.Items.length:Int),0,c,()) with|some (.inl (c7,_)) =>(match zai zab1 (c7.Moves,(c7.Moves.length:Int),0,c7,()) with|some (.inl (c11,_)) =>(match zai zab2 (c11.Items,(c11.Items.length:Int),0,c11,()) with|some (.inl (_)) =>some true|some (.inr (v18,_)) =>some v18|none =>none)|some (.inr (v19,_)) =>some v19|none =>none)|some (.inr (v20,_)) =>some v20|none =>none;bif decide (64<(c.Items.length:Int)) then k true else k (decide (2000<(c.Moves.length:Int)))
def qbt (p:Patron):Option Int:=
 let k17 (v:Bool):Option Int:=let k16 (v1:Bool):Option Int:=let k15 (v2:Bool):Option Int:=let k14 (v13:Int):Option Int:=some v13;bif v2 then k14 1 else let k12 (v3:Bool):Option Int:=bif v3 then k14 2 else let k10 (v5:Bool):Option Int:=let k (v8:Bool):Option Int:=bif v8 then k14 3 else bif decide (200<(p.Name.length:Int)) then k14 4 else some 0;bif v5 then k true else match qd1 p.Name with|some r7 =>k (!(r7==p.Name))|none =>none;bif p.Name==([]) then k10 true else match qc1 p.Name with|some r4 =>k10 (!r4)|none =>none;bif decide (p.Until<0) then k12 true else k12 (decide (109572<p.Until));bif v1 then k15 true else k15 (decide (4<p.Branch));bif v then k16 true else k16 (decide (p.Branch<1));bif decide (p.Kind<1) then k17 true else k17 (decide (9<p.Kind))
def zaa9:(Int×(List Patron)×Int×Int×Unit)→Option ((Int×(List Patron)×Int×Int×Unit)⊕((Unit)⊕(Int×Unit))):=fun (last,v,v1,v2,_)=>
 bif decide (v2<v1) then match getI v v2 with|some x =>let k6 (v3:Bool):Option ((Int×(List Patron)×Int×Int×Unit)⊕((Unit)⊕(Int×Unit))):=let k (v4:Int):Option ((Int×(List Patron)×Int×Int×Unit)⊕((Unit)⊕(Int×Unit))):=some (.inr (.inr (v4,())));bif v3 then k 2 else bif decide (x.ID≤last) then k 7 else match qbt x with|some r5 =>bif !(r5==0) then some (.inr (.inr (r5,()))) else some (.inl (x.ID,v,v1,wr .i64 (v2+1),()))|none =>none;bif decide (x.ID<1) then k6 true else k6 (decide (9999<x.ID))|none =>none else some (.inr (.inl (())))
def qa2 (l:List Patron):Option Int:=
 bif decide (32<(l.length:Int)) then some 13 else match zai zaa9 (0,l,(l.length:Int),0,()) with|some (.inl (_)) =>some 0|some (.inr (v,_)) =>some v|none =>none
def qem (n:Int):Option Bool:=
 let k (v:Bool):Option Bool:=some v;bif decide (1≤n) then k (decide (n≤9999)) else k false
def qdk (n:Int):Option Bool:=
 let k (v:Bool):Option Bool:=some v;bif decide (0≤n) then k (decide (n≤109572)) else k false
def zabb:((List Loan)×(List Loan)×Int×Int×Unit)→Option (((List Loan)×(List Loan)×Int×Int×Unit)⊕((Unit)⊕(Int×Unit))):=fun (l,v,v1,v2,_)=>
 bif decide (v2<v1) then match getI v v2 with|some x =>let k25 (v4:Bool):Option (((List Loan)×(List Loan)×Int×Int×Unit)⊕((Unit)⊕(Int×Unit))):=let k24 (v23:Int):Option (((List Loan)×(List Loan)×Int×Int×Unit)⊕((Unit)⊕(Int×Unit))):=some (.inr (.inr (v23,())));bif v4 then k24 7 else match qem x.Item with|some r5 =>(let k22 (v8:Bool):Option (((List Loan)×(List Loan)×Int×Int×Unit)⊕((Unit)⊕(Int×Unit))):=let k21 (v11:Bool):Option (((List Loan)×(List Loan)×Int×Int×Unit)⊕((Unit)⊕(Int×Unit))):=let k20 (v14:Bool):Option (((List Loan)×(List Loan)×Int×Int×Unit)⊕((Unit)⊕(Int×Unit))):=let k19 (v15:Bool):Option (((List Loan)×(List Loan)×Int×Int×Unit)⊕((Unit)⊕(Int×Unit))):=let k18 (v16:Bool):Option (((List Loan)×(List Loan)×Int×Int×Unit)⊕((Unit)⊕(Int×Unit))):=let k (v17:Bool):Option (((List Loan)×(List Loan)×Int×Int×Unit)⊕((Unit)⊕(Int×Unit))):=bif v17 then k24 2 else some (.inl (l,v,v1,wr .i64 (v2+1),()));bif v16 then k true else k (decide (10<x.Renewals));bif v15 then k18 true else k18 (decide (x.Renewals<0));bif v14 then k19 true else k19 (decide (x.Due<x.Out));bif v11 then k20 true else match qdk x.Due with|some r13 =>k20 (!r13)|none =>none;bif v8 then k21 true else match qdk x.Out with|some r10 =>k21 (!r10)|none =>none;bif !r5 then k22 true else match qem x.Patron with|some r7 =>k22 (!r7)|none =>none)|none =>none;bif decide (0<v2) then match getI l (wr .i64 (v2-1)) with|some x3 =>k25 (decide (x.Item≤x3.Item))|none =>none else k25 false|none =>none else some (.inr (.inl (())))
def qa5 (l:List Loan):Option Int:=
 bif decide (64<(l.length:Int)) then some 13 else match zai zabb (l,l,(l.length:Int),0,()) with|some (.inl (_)) =>some 0|some (.inr (v,_)) =>some v|none =>none
def qbw (n:Int) (low:Int) (high:Int):Option Bool:=
 let k (v:Bool):Option Bool:=some v;bif decide (low≤n) then k (decide (n≤high)) else k false
def qef (n:Int):Option Bool:=
 match qbw n 0 109572 with|some r1 =>some r1|none =>none
def qeu (h:Hold):Option Int:=
 match qbw h.ID 1 99999 with|some r1 =>(let k41 (v:Bool):Option Int:=let k40 (v6:Bool):Option Int:=let k39 (v9:Bool):Option Int:=let k38 (v37:Int):Option Int:=some v37;bif v9 then k38 2 else match qbw h.Pickup 1 4 with|some r11 =>(let k36 (v14:Bool):Option Int:=let k35 (v17:Bool):Option Int:=let k34 (v20:Bool):Option Int:=let k33 (v23:Bool):Option Int:=let k32 (v26:Bool):Option Int:=bif v26 then k38 2 else match qbw h.State 1 3 with|some r28 =>bif !r28 then k38 1 else let k (v29:Bool):Option Int:=bif v29 then k38 12 else some 0;bif !((decide (0<h.Got))==(!(h.State==1))) then k true else k (!((decide (0<h.Until))==(h.State==3)))|none =>none;bif v23 then k32 true else match qbw h.Rank 0 9 with|some r25 =>k32 (!r25)|none =>none;bif v20 then k33 true else match qef h.Asleep with|some r22 =>k33 (!r22)|none =>none;bif v17 then k34 true else match qef h.Until with|some r19 =>k34 (!r19)|none =>none;bif v14 then k35 true else match qbw h.Got 0 9999 with|some r16 =>k35 (!r16)|none =>none;bif !r11 then k36 true else match qef h.Placed with|some r13 =>k36 (!r13)|none =>none)|none =>none;bif v6 then k39 true else match qbw h.Item 0 9999 with|some r8 =>k39 (!r8)|none =>none;bif v then k40 true else match qbw h.Record 1 9999 with|some r5 =>k40 (!r5)|none =>none;bif !r1 then k41 true else match qbw h.Patron 1 9999 with|some r3 =>k41 (!r3)|none =>none)|none =>none
def qb9 (a:Hold) (b:Hold):Option Bool:=
 let k (v:Bool):Option Bool:=some v;bif a.Patron==b.Patron then k (a.Record==b.Record) else k false
def zajm {γ0:Type} (p:γ0→Hold→Hold→Option Bool):((List Hold)×γ0×Int×Int×Int×Int×Int×Unit)→Option (((List Hold)×γ0×Int×Int×Int×Int×Int×Unit)⊕(((List Hold)×γ0×Int×Int×Unit)⊕(Bool×Unit))):=fun (l,g,i,v,v2,v3,v4,_)=>
 bif decide (v4<v3) then match getI l v4 with|some x =>(match getI l i with|some x5 =>(match p g x x5 with|some r =>bif r then some (.inr (.inr (true,()))) else some (.inl (l,g,i,v,v2,v3,wr .i64 (v4+1),()))|none =>none)|none =>none)|none =>none else some (.inr (.inl (l,g,v,v2,())))
def zajl {γ0:Type} (p:γ0→Hold→Hold→Option Bool):((List Hold)×γ0×Int×Int×Unit)→Option (((List Hold)×γ0×Int×Int×Unit)⊕((Unit)⊕(Bool×Unit))):=fun (l,g,v,v1,_)=>
 bif decide (v1<v) then match zai (zajm p) (l,g,v1,v,v1,v1,0,()) with|some (.inl (l6,g7,v8,v9,_)) =>some (.inl (l6,g7,v8,wr .i64 (v9+1),()))|some (.inr (v10,_)) =>some (.inr (.inr (v10,())))|none =>none else some (.inr (.inl (())))
def qc {γ0:Type} (p:γ0→Hold→Hold→Option Bool) (l:List Hold) (g:γ0):Option Bool:=
 match zai (zajl p) (l,g,(l.length:Int),0,()) with|some (.inl (_)) =>some false|some (.inr (v,_)) =>some v|none =>none
def qde (a:Hold) (b:Hold):Option Bool:=
 let k (v:Bool):Option Bool:=some v;bif a.Got==b.Got then k (decide (0<a.Got)) else k false
def zaqn:((List Hold)×(List Hold)×Int×Int×Unit)→Option (((List Hold)×(List Hold)×Int×Int×Unit)⊕(((List Hold)×Unit)⊕(Int×Unit))):=fun (l,v,v1,v2,_)=>
 bif decide (v2<v1) then match getI v v2 with|some x =>let k (v4:Bool):Option (((List Hold)×(List Hold)×Int×Int×Unit)⊕(((List Hold)×Unit)⊕(Int×Unit))):=bif v4 then some (.inr (.inr (7,()))) else match qeu x with|some r5 =>bif !(r5==0) then some (.inr (.inr (r5,()))) else some (.inl (l,v,v1,wr .i64 (v2+1),()))|none =>none;bif decide (0<v2) then match getI l (wr .i64 (v2-1)) with|some x3 =>k (decide (x.ID≤x3.ID))|none =>none else k false|none =>none else some (.inr (.inl (l,())))
def qh (l:List Hold):Option Int:=
 bif decide (64<(l.length:Int)) then some 13 else match zai zaqn (l,l,(l.length:Int),0,()) with|some (.inl (l6,_)) =>(match qc (fun g x0 x1=>qb9 x0 x1) l6 ((),()) with|some r7 =>(bif r7 then some 7 else match qc (fun g x0 x1=>qde x0 x1) l6 ((),()) with|some r9 =>bif r9 then some 7 else some 0|none =>none)|none =>none)|some (.inr (v,_)) =>some v|none =>none
def qes (n:Int):Option Bool:=
 let k (v:Bool):Option Bool:=some v;bif decide (1≤n) then k (decide (n≤9999)) else k false
def qd2 (n:Int):Option Bool:=
 let k (v:Bool):Option Bool:=some v;bif decide (0≤n) then k (decide (n≤109572)) else k false
def qb0 (x:Charge):Option Int:=
 let k22 (v:Bool):Option Int:=let k21 (v2:Bool):Option Int:=let k20 (v5:Bool):Option Int:=let k19 (v8:Bool):Option Int:=let k18 (v17:Int):Option Int:=some v17;bif v8 then k18 2 else let k16 (v9:Bool):Option Int:=bif v9 then k18 1 else let k14 (v10:Bool):Option Int:=let k13 (v11:Bool):Option Int:=let k (v12:Bool):Option Int:=bif v12 then k18 2 else some 0;bif v11 then k true else k (decide (x.Amount≤x.Paid));bif v10 then k13 true else k13 (decide (x.Paid<0));bif decide (x.Amount<1) then k14 true else k14 (decide (100000000<x.Amount));bif decide (x.Kind<1) then k16 true else k16 (decide (3<x.Kind));bif v5 then k19 true else match qd2 x.Day with|some r7 =>k19 (!r7)|none =>none;bif v2 then k20 true else match qes x.Item with|some r4 =>k20 (!r4)|none =>none;bif v then k21 true else match qes x.Patron with|some r1 =>k21 (!r1)|none =>none;bif decide (x.ID<1) then k22 true else k22 (decide (99999<x.ID))
def zabc:((List Charge)×(List Charge)×Int×Int×Unit)→Option (((List Charge)×(List Charge)×Int×Int×Unit)⊕((Unit)⊕(Int×Unit))):=fun (l,v,v1,v2,_)=>
 bif decide (v2<v1) then match getI v v2 with|some x =>let k (v4:Bool):Option (((List Charge)×(List Charge)×Int×Int×Unit)⊕((Unit)⊕(Int×Unit))):=bif v4 then some (.inr (.inr (7,()))) else match qb0 x with|some r5 =>bif !(r5==0) then some (.inr (.inr (r5,()))) else some (.inl (l,v,v1,wr .i64 (v2+1),()))|none =>none;bif decide (0<v2) then match getI l (wr .i64 (v2-1)) with|some x3 =>k (decide (x.ID≤x3.ID))|none =>none else k false|none =>none else some (.inr (.inl (())))
def qa6 (l:List Charge):Option Int:=
 bif decide (128<(l.length:Int)) then some 13 else match zai zabc (l,l,(l.length:Int),0,()) with|some (.inl (_)) =>some 0|some (.inr (v,_)) =>some v|none =>none
def qbo (n:Int) (least:Int) (most:Int):Option Bool:=
 let k (v:Bool):Option Bool:=some v;bif decide (least≤n) then k (decide (n≤most)) else k false
def qeq (r:Rule):Option Bool:=
 match qbo r.Patron 0 9 with|some r2 =>let k48 (v:Bool):Option Bool:=let k47 (v7:Bool):Option Bool:=let k46 (v10:Bool):Option Bool:=let k45 (v13:Bool):Option Bool:=let k44 (v16:Bool):Option Bool:=let k43 (v19:Bool):Option Bool:=let k42 (v22:Bool):Option Bool:=let k41 (v25:Bool):Option Bool:=let k40 (v28:Bool):Option Bool:=let k39 (v31:Bool):Option Bool:=let k38 (v34:Bool):Option Bool:=let k (v37:Bool):Option Bool:=some v37;bif v34 then match qbo r.Rank 0 9 with|some r36 =>k r36|none =>none else k false;bif v31 then match qbo r.Fixed 0 109572 with|some r33 =>k38 r33|none =>none else k38 false;bif v28 then match qbo r.Recall 1 60 with|some r30 =>k39 r30|none =>none else k39 false;bif v25 then match qbo r.Shelf 1 60 with|some r27 =>k40 r27|none =>none else k40 false;bif v22 then match qbo r.Loans 0 99 with|some r24 =>k41 r24|none =>none else k41 false;bif v19 then match qbo r.MaxFine 0 100000000 with|some r21 =>k42 r21|none =>none else k42 false;bif v16 then match qbo r.Grace 0 30 with|some r18 =>k43 r18|none =>none else k43 false;bif v13 then match qbo r.Fine 0 1000 with|some r15 =>k44 r15|none =>none else k44 false;bif v10 then match qbo r.Renewals 0 10 with|some r12 =>k45 r12|none =>none else k45 false;bif v7 then match qbo r.Days 0 365 with|some r9 =>k46 r9|none =>none else k46 false;bif v then match qbo r.Branch 0 4 with|some r6 =>k47 r6|none =>none else k47 false;bif r2 then match qbo r.Item 0 9 with|some r4 =>k48 r4|none =>none else k48 false|none =>none
def qcc (o:Rule) (v:Rule):Option Bool:=
 let k3 (v1:Bool):Option Bool:=let k (v2:Bool):Option Bool:=some v2;bif v1 then k (o.Branch==v.Branch) else k false;bif o.Patron==v.Patron then k3 (o.Item==v.Item) else k3 false
def zabn {γ0:Type} (p:γ0→Rule→Option Bool):((List Rule)×γ0×Int×Int×Unit)→Option (((List Rule)×γ0×Int×Int×Unit)⊕((Unit)⊕(Int×Unit))):=fun (s,g,v,v1,_)=>
 bif decide (v1<v) then match getI s v1 with|some x =>(match p g x with|some r =>bif r then some (.inr (.inr (v1,()))) else some (.inl (s,g,v,wr .i64 (v1+1),()))|none =>none)|none =>none else some (.inr (.inl (())))
def qaz {γ0:Type} (p:γ0→Rule→Option Bool) (s:List Rule) (g:γ0):Option Int:=
 match zai (zabn p) (s,g,(s.length:Int),0,()) with|some (.inl (_)) =>some (-1)|some (.inr (v,_)) =>some v|none =>none
def qen {γ0:Type} (p:γ0→Rule→Option Bool) (s:List Rule) (g:γ0):Option Bool:=
 match qaz p s g with|some r1 =>some (decide (0≤r1))|none =>none
def zaqx:((List Rule)×(List Rule)×Int×Int×Unit)→Option (((List Rule)×(List Rule)×Int×Int×Unit)⊕((Unit)⊕(Int×Unit))):=fun (l,v,v1,v2,_)=>
 bif decide (v2<v1) then match getI v v2 with|some x =>(match qeq x with|some r3 =>bif !r3 then some (.inr (.inr (2,()))) else bif decide (0≤(0:Int))&&(decide ((0:Int)≤v2)&&decide (v2≤(l.length:Int))) then match qen (fun g x0=>qcc x0 g.2.1) ((l.take v2.toNat).drop (0:Int).toNat) ((),(x,())) with|some r5 =>bif r5 then some (.inr (.inr (7,()))) else some (.inl (l,v,v1,wr .i64 (v2+1),()))|none =>none else none|none =>none)|none =>none else some (.inr (.inl (())))
def qt (l:List Rule):Option Int:=
 bif decide (32<(l.length:Int)) then some 13 else match zai zaqx (l,l,(l.length:Int),0,()) with|some (.inl (_)) =>some 0|some (.inr (v,_)) =>some v|none =>none
def qcs (d:Int):Option Bool:=
 let k (v:Bool):Option Bool:=some v;bif decide (0≤d) then k (decide (d≤109572)) else k false
def qco (d:Int):Option Bool:=
 match qcs d with|some r1 =>some (!r1)|none =>none
def zaa7 {γ0:Type} (p:γ0→Int→Option Bool):((List Int)×γ0×Int×Int×Unit)→Option (((List Int)×γ0×Int×Int×Unit)⊕((Unit)⊕(Int×Unit))):=fun (s,g,v,v1,_)=>
 bif decide (v1<v) then match getI s v1 with|some x =>(match p g x with|some r =>bif r then some (.inr (.inr (v1,()))) else some (.inl (s,g,v,wr .i64 (v1+1),()))|none =>none)|none =>none else some (.inr (.inl (())))
def qa0 {γ0:Type} (p:γ0→Int→Option Bool) (s:List Int) (g:γ0):Option Int:=
 match zai (zaa7 p) (s,g,(s.length:Int),0,()) with|some (.inl (_)) =>some (-1)|some (.inr (v,_)) =>some v|none =>none
def qeo {γ0:Type} (p:γ0→Int→Option Bool) (s:List Int) (g:γ0):Option Bool:=
 match qa0 p s g with|some r1 =>some (decide (0≤r1))|none =>none
def zaqw:((List Int)×Int×Int×Calendar×Unit)→Option (((List Int)×Int×Int×Calendar×Unit)⊕((Unit)⊕(Int×Unit))):=fun (v,v4,v5,c,_)=>
 bif decide (v5<v4) then match getI v v5 with|some x =>let k (v7:Bool):Option (((List Int)×Int×Int×Calendar×Unit)⊕((Unit)⊕(Int×Unit))):=bif v7 then some (.inr (.inr (7,()))) else some (.inl (v,v4,wr .i64 (v5+1),c,()));bif decide (0<v5) then match getI c.Closed (wr .i64 (v5-1)) with|some x6 =>k (decide (x≤x6))|none =>none else k false|none =>none else some (.inr (.inl (())))
def qs (c:Calendar):Option Int:=
 let k9 (v:Bool):Option Int:=let k (v3:Int):Option Int:=some v3;bif v then k 1 else bif decide (64<(c.Closed.length:Int)) then k 13 else match qeo (fun g x0=>qco x0) c.Closed ((),()) with|some r1 =>(bif r1 then k 2 else match zai zaqw (c.Closed,(c.Closed.length:Int),0,c,()) with|some (.inl (_)) =>some 0|some (.inr (v8,_)) =>some v8|none =>none)|none =>none;bif decide (c.Week<0) then k9 true else k9 (decide (127≤c.Week))
def zaqt:((V4 Calendar)×Int×Circ×Unit)→Option (((V4 Calendar)×Int×Circ×Unit)⊕((Circ×Unit)⊕(Bool×Unit))):=fun (v,v13,c,_)=>
 bif decide (v13<4) then let k (v14:Int) (v15:List Int):Option (((V4 Calendar)×Int×Circ×Unit)⊕((Circ×Unit)⊕(Bool×Unit))):=match qs (⟨v14,v15⟩:Calendar) with|some r16 =>bif !(r16==0) then some (.inr (.inr (false,()))) else some (.inl (v,wr .i64 (v13+1),c,()))|none =>none;bif v13==0 then k v.x0.Week v.x0.Closed else bif v13==1 then k v.x1.Week v.x1.Closed else bif v13==2 then k v.x2.Week v.x2.Closed else bif v13==3 then k v.x3.Week v.x3.Closed else none else some (.inr (.inl (c,())))
def zabz:((List Hold)×Int×Int×Circ×Unit)→Option (((List Hold)×Int×Int×Circ×Unit)⊕((Circ×Unit)⊕(Bool×Unit))):=fun (v,v23,v24,c,_)=>
 bif decide (v24<v23) then match getI v v24 with|some x =>bif decide (c.NextHold≤x.ID) then some (.inr (.inr (false,()))) else some (.inl (v,v23,wr .i64 (v24+1),c,()))|none =>none else some (.inr (.inl (c,())))
def zab0:((List Charge)×Int×Int×Circ×Unit)→Option (((List Charge)×Int×Int×Circ×Unit)⊕((Unit)⊕(Bool×Unit))):=fun (v,v26,v27,c,_)=>
 bif decide (v27<v26) then match getI v v27 with|some x =>bif decide (c.NextCharge≤x.ID) then some (.inr (.inr (false,()))) else some (.inl (v,v26,wr .i64 (v27+1),c,()))|none =>none else some (.inr (.inl (())))
def qo (c:Circ):Option Bool:=
 match qa2 c.Patrons with|some r1 =>(let k34 (v:Bool):Option Bool:=let k33 (v6:Bool):Option Bool:=let k32 (v9:Bool):Option Bool:=let k31 (v12:Bool):Option Bool:=bif v12 then some false else match zai zaqt (c.Cals,0,c,()) with|some (.inl (c17,_)) =>(match qbx c17.NextHold 1 100000 with|some r19 =>(let k (v22:Bool):Option Bool:=bif v22 then some false else match zai zabz (c17.Holds,(c17.Holds.length:Int),0,c17,()) with|some (.inl (c25,_)) =>(match zai zab0 (c25.Charges,(c25.Charges.length:Int),0,c25,()) with|some (.inl (_)) =>some true|some (.inr (v28,_)) =>some v28|none =>none)|some (.inr (v29,_)) =>some v29|none =>none;bif !r19 then k true else match qbx c17.NextCharge 1 100000 with|some r21 =>k (!r21)|none =>none)|none =>none)|some (.inr (v30,_)) =>some v30|none =>none;bif v9 then k31 true else match qt c.Rules with|some r11 =>k31 (!(r11==0))|none =>none;bif v6 then k32 true else match qa6 c.Charges with|some r8 =>k32 (!(r8==0))|none =>none;bif v then k33 true else match qh c.Holds with|some r5 =>k33 (!(r5==0))|none =>none;bif !(r1==0) then k34 true else match qa5 c.Loans with|some r3 =>k34 (!(r3==0))|none =>none)|none =>none
def qcp (p:Patron) (v:Int):Option Bool:=
 some (p.ID==v)
def zqg {γ0:Type} (p:γ0→Patron→Option Bool):((List Patron)×γ0×Int×Int×Unit)→Option (((List Patron)×γ0×Int×Int×Unit)⊕((Unit)⊕(Int×Unit))):=fun (s,g,v,v1,_)=>
 bif decide (v1<v) then match getI s v1 with|some x =>(match p g x with|some r =>bif r then some (.inr (.inr (v1,()))) else some (.inl (s,g,v,wr .i64 (v1+1),()))|none =>none)|none =>none else some (.inr (.inl (())))
def ql {γ0:Type} (p:γ0→Patron→Option Bool) (s:List Patron) (g:γ0):Option Int:=
 match zai (zqg p) (s,g,(s.length:Int),0,()) with|some (.inl (_)) =>some (-1)|some (.inr (v,_)) =>some v|none =>none
def qbp (l:List Patron) (vid:Int):Option Int:=
 match ql (fun g x0=>qcp x0 g.2.1) l ((),(vid,())) with|some r1 =>some r1|none =>none
def qb3 (l:List Patron) (vid:Int):Option (Patron×Bool):=
 match qbp l vid with|some r1 =>(bif decide (r1<0) then some ((⟨0,0,0,0,false,[]⟩:Patron),false) else match getI l r1 with|some x =>some (x,true)|none =>none)|none =>none
def qb2 (vid:Int) (v:Circ):Option Bool:=
 match qb3 v.Patrons vid with|some (r1,r2) =>some r2|none =>none
def zaqk:((List Loan)×Int×Int×Circ×Unit)→Option (((List Loan)×Int×Int×Circ×Unit)⊕((Circ×Unit)⊕(Bool×Unit))):=fun (v,v1,v2,c,_)=>
 bif decide (v2<v1) then match getI v v2 with|some x =>(match qb2 x.Patron c with|some r3 =>(let k (v6:Bool):Option (((List Loan)×Int×Int×Circ×Unit)⊕((Circ×Unit)⊕(Bool×Unit))):=bif v6 then some (.inr (.inr (false,()))) else some (.inl (v,v1,wr .i64 (v2+1),c,()));bif !r3 then k true else match qx c x.Item with|some r5 =>k (decide (r5<0))|none =>none)|none =>none)|none =>none else some (.inr (.inl (c,())))
def zaql:((List Hold)×Int×Int×Circ×Unit)→Option (((List Hold)×Int×Int×Circ×Unit)⊕((Circ×Unit)⊕(Bool×Unit))):=fun (v,v8,v9,c,_)=>
 bif decide (v9<v8) then match getI v v9 with|some x =>(match qb2 x.Patron c with|some r10 =>bif !r10 then some (.inr (.inr (false,()))) else some (.inl (v,v8,wr .i64 (v9+1),c,()))|none =>none)|none =>none else some (.inr (.inl (c,())))
def zaby:((List Charge)×Int×Int×Circ×Unit)→Option (((List Charge)×Int×Int×Circ×Unit)⊕((Unit)⊕(Bool×Unit))):=fun (v,v12,v13,c,_)=>
 bif decide (v13<v12) then match getI v v13 with|some x =>(match qb2 x.Patron c with|some r14 =>bif !r14 then some (.inr (.inr (false,()))) else some (.inl (v,v12,wr .i64 (v13+1),c,()))|none =>none)|none =>none else some (.inr (.inl (())))
def qf (c:Circ):Option Bool:=
 match zai zaqk (c.Loans,(c.Loans.length:Int),0,c,()) with|some (.inl (c7,_)) =>(match zai zaql (c7.Holds,(c7.Holds.length:Int),0,c7,()) with|some (.inl (c11,_)) =>(match zai zaby (c11.Charges,(c11.Charges.length:Int),0,c11,()) with|some (.inl (_)) =>some true|some (.inr (v,_)) =>some v|none =>none)|some (.inr (v15,_)) =>some v15|none =>none)|some (.inr (v16,_)) =>some v16|none =>none
def qy (item:Int):Option (Int×Unit):=
 some (item,())
def qb1 (n:Loan) (v:Int):Option Bool:=
 some (n.Item==v)
def zajn {γ0:Type} (p:γ0→Loan→Option Bool):((List Loan)×γ0×Int×Int×Unit)→Option (((List Loan)×γ0×Int×Int×Unit)⊕((Unit)⊕(Int×Unit))):=fun (s,g,v,v1,_)=>
 bif decide (v1<v) then match getI s v1 with|some x =>(match p g x with|some r =>bif r then some (.inr (.inr (v1,()))) else some (.inl (s,g,v,wr .i64 (v1+1),()))|none =>none)|none =>none else some (.inr (.inl (())))
def qi {γ0:Type} (p:γ0→Loan→Option Bool) (s:List Loan) (g:γ0):Option Int:=
 match zai (zajn p) (s,g,(s.length:Int),0,()) with|some (.inl (_)) =>some (-1)|some (.inr (v,_)) =>some v|none =>none
def qbf {γ0:Type} (p:γ0→Loan→Option Bool) (l:List Loan) (g:γ0):Option (Loan×Int):=
 match qi p l g with|some r1 =>(bif decide (r1<0) then some ((⟨0,0,0,0,0,false⟩:Loan),(-1)) else match getI l r1 with|some x =>some (x,r1)|none =>none)|none =>none
def qcl (l:List Loan) (item:Int):Option (Loan×Bool):=
 match qy item with|some r1 =>(match qbf (fun g x0=>qb1 x0 g.2.1) l ((),(r1.1,())) with|some (r3,r4) =>some (r3,decide (0≤r4))|none =>none)|none =>none
def zabr:((List Item)×Int×Int×Circ×Unit)→Option (((List Item)×Int×Int×Circ×Unit)⊕((Unit)⊕(Bool×Unit))):=fun (v,v1,v2,c,_)=>
 bif decide (v2<v1) then match getI v v2 with|some x =>(match qcl c.Loans x.ID with|some (r3,r4) =>let k10 (v5:Bool):Option (((List Item)×Int×Int×Circ×Unit)⊕((Unit)⊕(Bool×Unit))):=let k9 (v6:Bool):Option (((List Item)×Int×Int×Circ×Unit)⊕((Unit)⊕(Bool×Unit))):=let k (v8:Bool):Option (((List Item)×Int×Int×Circ×Unit)⊕((Unit)⊕(Bool×Unit))):=bif v8 then some (.inr (.inr (false,()))) else some (.inl (v,v1,wr .i64 (v2+1),c,()));bif !(r4==v6) then k true else bif r4 then k (!(r3.Patron==x.Custody.Who)) else k false;bif v5 then k9 true else k9 (x.Custody.State==10);bif x.Custody.State==4 then k10 true else k10 (x.Custody.State==9)|none =>none)|none =>none else some (.inr (.inl (())))
def qbj (c:Circ):Option Bool:=
 match zai zabr (c.Items,(c.Items.length:Int),0,c,()) with|some (.inl (_)) =>some true|some (.inr (v,_)) =>some v|none =>none
def qcj (h:Hold) (v:Int):Option Bool:=
 some (h.Got==v)
def zvv {γ0:Type} (p:γ0→Hold→Option Bool):((List Hold)×γ0×Int×Int×Unit)→Option (((List Hold)×γ0×Int×Int×Unit)⊕((Unit)⊕(Int×Unit))):=fun (s,g,v,v1,_)=>
 bif decide (v1<v) then match getI s v1 with|some x =>(match p g x with|some r =>bif r then some (.inr (.inr (v1,()))) else some (.inl (s,g,v,wr .i64 (v1+1),()))|none =>none)|none =>none else some (.inr (.inl (())))
def qb {γ0:Type} (p:γ0→Hold→Option Bool) (s:List Hold) (g:γ0):Option Int:=
 match zai (zvv p) (s,g,(s.length:Int),0,()) with|some (.inl (_)) =>some (-1)|some (.inr (v,_)) =>some v|none =>none
def qa4 (c:Circ) (item:Int):Option (Hold×Bool):=
 match qb (fun g x0=>qcj x0 g.2.1) c.Holds ((),(item,())) with|some r1 =>(bif decide (r1<0) then some ((⟨0,0,0,0,0,0,0,0,0,0,0⟩:Hold),false) else match getI c.Holds r1 with|some x =>some (x,true)|none =>none)|none =>none
def zabe:((List Hold)×Int×Int×Circ×Unit)→Option (((List Hold)×Int×Int×Circ×Unit)⊕((Circ×Unit)⊕(Bool×Unit))):=fun (v,v1,v2,c,_)=>
 bif decide (v2<v1) then match getI v v2 with|some x =>(bif x.State==1 then some (.inl (v,v1,wr .i64 (v2+1),c,())) else match qx c x.Got with|some r3 =>(let k9 (v5:Bool):Option (((List Hold)×Int×Int×Circ×Unit)⊕((Circ×Unit)⊕(Bool×Unit))):=bif v5 then some (.inr (.inr (false,()))) else match getI c.Items r3 with|some x6 =>let k (want:Int) (want7:Int) (want8:Int):Option (((List Hold)×Int×Int×Circ×Unit)⊕((Circ×Unit)⊕(Bool×Unit))):=bif !(zcm x6.Custody (⟨want,want7,x.Patron,want8⟩:Custody)) then some (.inr (.inr (false,()))) else some (.inl (v,v1,wr .i64 (v2+1),c,()));bif x.State==2 then k 6 x6.Custody.Branch x.Pickup else k 5 x.Pickup 0|none =>none;bif decide (r3<0) then k9 true else match getI c.Items r3 with|some x4 =>k9 (!(x4.Record==x.Record))|none =>none)|none =>none)|none =>none else some (.inr (.inl (c,())))
def z02:((List Item)×Int×Int×Circ×Unit)→Option (((List Item)×Int×Int×Circ×Unit)⊕((Unit)⊕(Bool×Unit))):=fun (v,v11,v12,c,_)=>
 bif decide (v12<v11) then match getI v v12 with|some x =>(match qa4 c x.ID with|some (r13,r14) =>let k (v16:Bool):Option (((List Item)×Int×Int×Circ×Unit)⊕((Unit)⊕(Bool×Unit))):=bif v16 then some (.inr (.inr (false,()))) else some (.inl (v,v11,wr .i64 (v12+1),c,()));bif x.Custody.State==5 then bif !r14 then k true else k (!(r13.State==3)) else k false|none =>none)|none =>none else some (.inr (.inl (())))
def qab (c:Circ):Option Bool:=
 match zai zabe (c.Holds,(c.Holds.length:Int),0,c,()) with|some (.inl (c10,_)) =>(match zai z02 (c10.Items,(c10.Items.length:Int),0,c10,()) with|some (.inl (_)) =>some true|some (.inr (v,_)) =>some v|none =>none)|some (.inr (v17,_)) =>some v17|none =>none
def qeh (c:Circ):Option Bool:=
 match qbx c.Today 0 109572 with|some r1 =>let k19 (v:Bool):Option Bool:=let k18 (v6:Bool):Option Bool:=let k17 (v9:Bool):Option Bool:=let k16 (v12:Bool):Option Bool:=let k (v15:Bool):Option Bool:=some v15;bif v12 then match qab c with|some r14 =>k r14|none =>none else k false;bif v9 then match qbj c with|some r11 =>k16 r11|none =>none else k16 false;bif v6 then match qf c with|some r8 =>k17 r8|none =>none else k17 false;bif v then match qo c with|some r5 =>k18 r5|none =>none else k18 false;bif r1 then match qp c with|some r3 =>k19 r3|none =>none else k19 false|none =>none
def qaw (c:Circ) (x:Item):Option (Circ×Int):=
 match qx c x.ID with|some r1 =>(bif decide (0≤r1) then some ((⟨0,[],[],[],[],[],[],⟨⟨0,[]⟩,⟨0,[]⟩,⟨0,[]⟩,⟨0,[]⟩⟩,[],0,0,false⟩:Circ),7) else bif decide (64≤(c.Items.length:Int)) then some ((⟨0,[],[],[],[],[],[],⟨⟨0,[]⟩,⟨0,[]⟩,⟨0,[]⟩,⟨0,[]⟩⟩,[],0,0,false⟩:Circ),13) else match qdv x.Branch with|some r3 =>(match qd (fun g x0=>qcr x0 g.2.1) c.Items ((),(x,())) with|some r5 =>let k (i:Int):Option (Circ×Int):=match qcb c.Items with|some l =>(match qdq l i ([(⟨x.ID,x.Record,x.Branch,x.Kind,x.Price,x.Call,r3⟩:Item)]) with|some l8 =>(match qeh (⟨c.Today,l8,c.Patrons,c.Loans,c.Holds,c.Charges,c.Rules,c.Cals,c.Moves,c.NextHold,c.NextCharge,c.Local⟩:Circ) with|some r10 =>bif !r10 then some ((⟨0,[],[],[],[],[],[],⟨⟨0,[]⟩,⟨0,[]⟩,⟨0,[]⟩,⟨0,[]⟩⟩,[],0,0,false⟩:Circ),1) else some ((⟨c.Today,l8,c.Patrons,c.Loans,c.Holds,c.Charges,c.Rules,c.Cals,c.Moves,c.NextHold,c.NextCharge,c.Local⟩:Circ),0)|none =>none)|none =>none)|none =>none;bif decide (r5<0) then k (c.Items.length:Int) else k r5|none =>none)|none =>none)|none =>none
def qcv (x:Patron) (v:Patron):Option Bool:=
 some (decide (v.ID<x.ID))
def qdo (s:List Patron):Option (List Patron):=
 bif decide (([]:List Patron).length+s.length≤LIM) then some (([])++s) else none
def qdt (l:List Patron):Option ((List Patron)×Int):=
 match qa2 l with|some r1 =>bif !(r1==0) then some ([],r1) else some (l,0)|none =>none
def qbr (l:List Patron) (p:Patron):Option ((List Patron)×Int):=
 match qbp l p.ID with|some r1 =>(bif decide (0≤r1) then some ([],7) else match ql (fun g x0=>qcv x0 g.2.1) l ((),(p,())) with|some r3 =>let k (i:Int):Option ((List Patron)×Int):=match qdo l with|some l5 =>(match qdn l5 i ([p]) with|some l7 =>(match qdt l7 with|some (r9,r10) =>some (r9,r10)|none =>none)|none =>none)|none =>none;bif decide (r3<0) then k (l.length:Int) else k r3|none =>none)|none =>none
def qdd (c:Circ) (p:Patron):Option (Circ×Int):=
 match qbr c.Patrons p with|some (r1,r2) =>bif !(r2==0) then some ((⟨0,[],[],[],[],[],[],⟨⟨0,[]⟩,⟨0,[]⟩,⟨0,[]⟩,⟨0,[]⟩⟩,[],0,0,false⟩:Circ),r2) else some ((⟨c.Today,c.Items,r1,c.Loans,c.Holds,c.Charges,c.Rules,c.Cals,c.Moves,c.NextHold,c.NextCharge,c.Local⟩:Circ),0)|none =>none
def qdx:Option Circ:=
 match qd3 100 with|some r1 =>(match qaw (⟨r1.Today,r1.Items,r1.Patrons,r1.Loans,r1.Holds,r1.Charges,[(⟨0,0,0,14,1,10,0,500,2,5,7,0,0⟩:Rule)],r1.Cals,r1.Moves,r1.NextHold,r1.NextCharge,r1.Local⟩:Circ) (⟨1,5,1,1,2000,[],⟨0,0,0,0⟩⟩:Item) with|some (r3,r4) =>(match qdd r3 (⟨7,1,1,5000,false,[65,110,110]⟩:Patron) with|some (r6,r7) =>(match qdd r6 (⟨8,1,1,5000,false,[66,111,98]⟩:Patron) with|some (r9,r10) =>some r9|none =>none)|none =>none)|none =>none)|none =>none
def qbz (c:Circ):Option Circ_desk:=
 some (⟨c,0⟩:Circ_desk)
def qq (e:Int) (d:Circ_desk):Option (Unit×Circ_desk):=
 let k (v:Int):Option (Unit×Circ_desk):=some ((),(⟨d.c,v⟩:Circ_desk));bif d.err==0 then k e else k d.err
def qdb (vid:Int) (d:Circ_desk):Option (Int×Circ_desk):=
 match qx d.c vid with|some r1 =>let k (v3:Circ_desk):Option (Int×Circ_desk):=some (r1,v3);bif decide (r1<0) then match qq 9 d with|some (_,v) =>k v|none =>none else k d|none =>none
def qc6 (s:List Move):Option (List Move):=
 bif decide (([]:List Move).length+s.length≤LIM) then some (([])++s) else none
def qa9 (i:Int) (kind:Int) (branch:Int) (who:Int) (d:Circ_desk):Option (Unit×Circ_desk):=
 bif !(d.err==0) then some ((),d) else match getI d.c.Items i with|some x =>(match getI d.c.Items i with|some x1 =>(match qdw x1.Custody (⟨d.c.Today,x.ID,kind,branch,who⟩:Move) with|some (r2,r3) =>let k10 (v:Bool):Option (Unit×Circ_desk):=let k (e:Int):Option (Unit×Circ_desk):=bif !(e==0) then match qq e d with|some (_,v5) =>some ((),v5)|none =>none else match qcb d.c.Items with|some l =>(match getI l i with|some _ =>(match l[i.toNat]? with|some x7 =>(match qc6 d.c.Moves with|some l9 =>bif decide (l9.length+([(⟨d.c.Today,x.ID,kind,branch,who⟩:Move)]:List Move).length≤LIM) then some ((),(⟨⟨d.c.Today,l.set i.toNat (⟨x7.ID,x7.Record,x7.Branch,x7.Kind,x7.Price,x7.Call,r2⟩:Item),d.c.Patrons,d.c.Loans,d.c.Holds,d.c.Charges,d.c.Rules,d.c.Cals,l9++([(⟨d.c.Today,x.ID,kind,branch,who⟩:Move)]:List Move),d.c.NextHold,d.c.NextCharge,d.c.Local⟩,d.err⟩:Circ_desk)) else none|none =>none)|none =>none)|none =>none)|none =>none;bif v then k 13 else k r3;bif r3==0 then k10 (decide (2000≤(d.c.Moves.length:Int))) else k10 false|none =>none)|none =>none)|none =>none
def qbu (a:Hold) (b:Hold):Option Int:=
 some (wr .i64 (b.Rank-a.Rank))
def zaqs {γ0:Type} (p:γ0→Hold→Hold→Option Int):(Int×Int×γ0×Int×Int×(List Hold)×Unit)→Option ((Int×Int×γ0×Int×Int×(List Hold)×Unit)⊕((Int×Int×γ0×Int×(List Hold)×Unit))):=fun (a,b,g,i,j,l,_)=>
 let k (v:Bool):Option ((Int×Int×γ0×Int×Int×(List Hold)×Unit)⊕((Int×Int×γ0×Int×(List Hold)×Unit))):=bif v then match getI l (wr .i64 (j-1)) with|some _ =>(match l[(wr .i64 (j-1)).toNat]? with|some x2 =>(match getI l j with|some _ =>(match l[j.toNat]? with|some x3 =>(match getI l j with|some _ =>(match l[j.toNat]? with|some x4 =>(match getI (l.set j.toNat x2) (wr .i64 (j-1)) with|some _ =>(match (l.set j.toNat x2)[(wr .i64 (j-1)).toNat]? with|some x5 =>some (.inl (a,b,g,i,wr .i64 (j-1),(l.set j.toNat x2).set (wr .i64 (j-1)).toNat x3,()))|none =>none)|none =>none)|none =>none)|none =>none)|none =>none)|none =>none)|none =>none)|none =>none else some (.inr ((a,b,g,i,l,())));bif decide (a<j) then match getI l j with|some _ =>(match l[j.toNat]? with|some x =>(match getI l (wr .i64 (j-1)) with|some _ =>(match l[(wr .i64 (j-1)).toNat]? with|some x1 =>(match p g x x1 with|some r =>k (decide (r<0))|none =>none)|none =>none)|none =>none)|none =>none)|none =>none else k false
def zaqr {γ0:Type} (p:γ0→Hold→Hold→Option Int):(Int×Int×γ0×Int×(List Hold)×Unit)→Option ((Int×Int×γ0×Int×(List Hold)×Unit)⊕(((List Hold)×Unit))):=fun (a,b,g,i,l,_)=>
 bif decide (i<b) then match zai (zaqs p) (a,b,g,i,i,l,()) with|some ((a6,b7,g8,i9,l10,_)) =>some (.inl (a6,b7,g8,wr .i64 (i9+1),l10,()))|none =>none else some (.inr ((l,())))
def qn {γ0:Type} (p:γ0→Hold→Hold→Option Int) (data:List Hold) (a:Int) (b:Int) (g:γ0):Option (List Hold):=
 match zai (zaqr p) (a,b,g,wr .i64 (a+1),data,()) with|some ((l,_)) =>some l|none =>none
def zaqo {γ0:Type} (p:γ0→Hold→Hold→Option Int):(Int×γ0×Int×Int×Int×(List Hold)×Unit)→Option ((Int×γ0×Int×Int×Int×(List Hold)×Unit)⊕((Int×γ0×Int×Int×(List Hold)×Unit))):=fun (n,g,blockSize,a,b,l,_)=>
 bif decide (b≤n) then match qn p l a b g with|some l1 =>some (.inl (n,g,blockSize,b,wr .i64 (b+blockSize),l1,()))|none =>none else some (.inr ((n,g,blockSize,a,l,())))
def zaqq {γ0:Type} (p:γ0→Hold→Hold→Option Int):(Int×γ0×Int×Int×Int×(List Hold)×Unit)→Option ((Int×γ0×Int×Int×Int×(List Hold)×Unit)⊕((Int×γ0×Int×Int×(List Hold)×Unit))):=fun (n,g,blockSize,a,b,l,_)=>
 bif decide (b≤n) then match qcm p l a (wr .i64 (a+blockSize)) b g with|some l5 =>some (.inl (n,g,blockSize,b,wr .i64 (b+(wr .i64 (2*blockSize))),l5,()))|none =>none else some (.inr ((n,g,blockSize,a,l,())))
def zaqp {γ0:Type} (p:γ0→Hold→Hold→Option Int):(Int×γ0×Int×(List Hold)×Unit)→Option ((Int×γ0×Int×(List Hold)×Unit)⊕(((List Hold)×Unit))):=fun (n,g,blockSize,l,_)=>
 bif decide (blockSize<n) then match zai (zaqq p) (n,g,blockSize,0,wr .i64 (2*blockSize),l,()) with|some ((n6,g7,blockSize8,a,l9,_)) =>let k (l11:List Hold):Option ((Int×γ0×Int×(List Hold)×Unit)⊕(((List Hold)×Unit))):=some (.inl (n6,g7,wr .i64 (blockSize8*2),l11,()));bif decide (wr .i64 (a+blockSize8)<n6) then match qcm p l9 a (wr .i64 (a+blockSize8)) n6 g7 with|some l10 =>k l10|none =>none else k l9|none =>none else some (.inr ((l,())))
def qm {γ0:Type} (p:γ0→Hold→Hold→Option Int) (data:List Hold) (n:Int) (g:γ0):Option (List Hold):=
 match zai (zaqo p) (n,g,20,0,20,data,()) with|some ((n2,g3,blockSize,a,l,_)) =>(match qn p l a n2 g3 with|some l4 =>(match zai (zaqp p) (n2,g3,blockSize,l4,()) with|some ((l12,_)) =>some l12|none =>none)|none =>none)|none =>none
def qdm {γ0:Type} (p:γ0→Hold→Hold→Option Int) (x:List Hold) (g:γ0):Option (List Hold):=
 match qm p x (x.length:Int) g with|some l =>some l|none =>none
def zaqm:(Int×Int×(List Hold)×Int×Int×(List Hold)×Unit)→Option ((Int×Int×(List Hold)×Int×Int×(List Hold)×Unit)⊕(((List Hold)×Unit))):=fun (record,day,v,v1,v2,l,_)=>
 bif decide (v2<v1) then match getI v v2 with|some x =>let k5 (v3:Bool):Option ((Int×Int×(List Hold)×Int×Int×(List Hold)×Unit)⊕(((List Hold)×Unit))):=let k (v4:Bool):Option ((Int×Int×(List Hold)×Int×Int×(List Hold)×Unit)⊕(((List Hold)×Unit))):=bif v4 then bif decide (l.length+([x]:List Hold).length≤LIM) then some (.inl (record,day,v,v1,wr .i64 (v2+1),l++([x]:List Hold),())) else none else some (.inl (record,day,v,v1,wr .i64 (v2+1),l,()));bif v3 then k (decide (x.Asleep≤day)) else k false;bif x.Record==record then k5 (x.State==1) else k5 false|none =>none else some (.inr ((l,())))
def qg (l:List Hold) (record:Int) (day:Int):Option (List Hold):=
 match zai zaqm (record,day,l,(l.length:Int),0,([]:List Hold),()) with|some ((l6,_)) =>(match qdm (fun g x0 x1=>qbu x0 x1) l6 ((),()) with|some l7 =>some l7|none =>none)|none =>none
def zabp:(Int×Bool×Int×(List Hold)×Int×Int×Item×Unit)→Option ((Int×Bool×Int×(List Hold)×Int×Int×Item×Unit)⊕((Int×Unit)⊕(Int×Unit))):=fun (branch,vlocal,first,v,v2,v3,x,_)=>
 bif decide (v3<v2) then match getI v v3 with|some x4 =>let k9 (v5:Bool):Option ((Int×Bool×Int×(List Hold)×Int×Int×Item×Unit)⊕((Int×Unit)⊕(Int×Unit))):=bif v5 then some (.inl (branch,vlocal,first,v,v2,wr .i64 (v3+1),x,())) else let k8 (v6:Bool):Option ((Int×Bool×Int×(List Hold)×Int×Int×Item×Unit)⊕((Int×Unit)⊕(Int×Unit))):=bif v6 then some (.inr (.inr (x4.ID,()))) else let k (first7:Int):Option ((Int×Bool×Int×(List Hold)×Int×Int×Item×Unit)⊕((Int×Unit)⊕(Int×Unit))):=some (.inl (branch,vlocal,first7,v,v2,wr .i64 (v3+1),x,()));bif first==0 then k x4.ID else k first;bif !vlocal then k8 true else k8 (x4.Pickup==branch);bif !(x4.Item==0) then k9 (!(x4.Item==x.ID)) else k9 false|none =>none else some (.inr (.inl (first,())))
def qbd (l:List Hold) (x:Item) (branch:Int) (day:Int) (vlocal:Bool):Option Int:=
 match qg l x.Record day with|some r1 =>(match zai zabp (branch,vlocal,0,r1,(r1.length:Int),0,x,()) with|some (.inl (first,_)) =>some first|some (.inr (v,_)) =>some v|none =>none)|none =>none
def qc3 (c:Circ) (x:Item):Option Int:=
 match qbd c.Holds x x.Custody.Branch c.Today c.Local with|some r1 =>some r1|none =>none
def qd0 (h:Hold) (v:Int):Option Bool:=
 some (h.ID==v)
def qbc (l:List Hold) (vid:Int):Option Int:=
 match qb (fun g x0=>qd0 x0 g.2.1) l ((),(vid,())) with|some r1 =>some r1|none =>none
def qdl (l:List Hold) (vid:Int):Option (Hold×Bool):=
 match qbc l vid with|some r1 =>bif decide (0≤r1) then match getI l r1 with|some x =>some (x,true)|none =>none else some ((⟨0,0,0,0,0,0,0,0,0,0,0⟩:Hold),false)|none =>none
def qdc (i:Int) (kind:Int) (d:Circ_desk):Option (Unit×Circ_desk):=
 let k (v1:Circ_desk):Option (Unit×Circ_desk):=some ((),v1);bif d.err==0 then match getI d.c.Items i with|some x =>(match qa9 i kind x.Custody.Branch 0 d with|some (_,v) =>k v|none =>none)|none =>none else k d
def qd8 (key:Int) (n:Int):Option Bool:=
 let k (v:Bool):Option Bool:=some v;bif key==0 then k true else k (key==n)
def qbv (r:Rule) (patron:Int) (item:Int) (branch:Int):Option Bool:=
 match qd8 r.Patron patron with|some r2 =>let k8 (v:Bool):Option Bool:=let k (v7:Bool):Option Bool:=some v7;bif v then match qd8 r.Branch branch with|some r6 =>k r6|none =>none else k false;bif r2 then match qd8 r.Item item with|some r4 =>k8 r4|none =>none else k8 false|none =>none
def zabo:(Int×Int×Int×(List Int)×Unit)→Option ((Int×Int×Int×(List Int)×Unit)⊕((Int×Unit))):=fun (n,v,v1,l,_)=>
 bif decide (v1<v) then match getI l v1 with|some _ =>(match l[v1.toNat]? with|some x =>let k (n2:Int):Option ((Int×Int×Int×(List Int)×Unit)⊕((Int×Unit))):=some (.inl (n2,v,wr .i64 (v1+1),l,()));bif !(x==0) then k (wr .i64 ((wr .i64 (n*2))+1)) else k (wr .i64 (n*2))|none =>none)|none =>none else some (.inr ((n,())))
def qba (r:Rule):Option Int:=
 match zai zabo (0,(([r.Patron,r.Item,r.Branch]).length:Int),0,[r.Patron,r.Item,r.Branch],()) with|some ((n,_)) =>some n|none =>none
def zaba:((List Rule)×Int×Int×Int×Int×(List Rule)×Int×Int×Unit)→Option (((List Rule)×Int×Int×Int×Int×(List Rule)×Int×Int×Unit)⊕((Int×Unit))):=fun (l,patron,item,branch,vat,v,v1,v2,_)=>
 bif decide (v2<v1) then match getI v v2 with|some x =>(match qbv x patron item branch with|some r3 =>let k12 (v10:Bool):Option (((List Rule)×Int×Int×Int×Int×(List Rule)×Int×Int×Unit)⊕((Int×Unit))):=let k (vat11:Int):Option (((List Rule)×Int×Int×Int×Int×(List Rule)×Int×Int×Unit)⊕((Int×Unit))):=some (.inl (l,patron,item,branch,vat11,v,v1,wr .i64 (v2+1),()));bif v10 then k v2 else k vat;bif r3 then bif decide (vat<0) then k12 true else match qba x with|some r5 =>(match getI l vat with|some x6 =>(match qba x6 with|some r8 =>k12 (decide (r8<r5))|none =>none)|none =>none)|none =>none else k12 false|none =>none)|none =>none else some (.inr ((vat,())))
def qa3 (l:List Rule) (patron:Int) (item:Int) (branch:Int):Option Int:=
 match zai zaba (l,patron,item,branch,(-1),l,(l.length:Int),0,()) with|some ((vat,_)) =>some vat|none =>none
def qdy (l:List Rule) (patron:Int) (item:Int) (branch:Int):Option (Rule×Bool):=
 match qa3 l patron item branch with|some r1 =>(bif decide (r1<0) then some ((⟨0,0,0,0,0,0,0,0,0,0,0,0,0⟩:Rule),false) else match getI l r1 with|some x =>some (x,true)|none =>none)|none =>none
def qby (c:Circ) (vid:Int) (x:Item):Option (Rule×Bool):=
 match qb3 c.Patrons vid with|some (r1,r2) =>(bif !r2 then some ((⟨0,0,0,0,0,0,0,0,0,0,0,0,0⟩:Rule),false) else match qdy c.Rules r1.Kind x.Kind x.Branch with|some (r4,r5) =>some (r4,r5)|none =>none)|none =>none
def qca (c:Circ) (branch:Int):Option Calendar:=
 match qbx branch 1 4 with|some r1 =>bif !r1 then some (⟨0,[]⟩:Calendar) else let k (v:Int) (v2:List Int):Option Calendar:=some (⟨v,v2⟩:Calendar);bif (wr .i64 (branch-1))==0 then k c.Cals.x0.Week c.Cals.x0.Closed else bif (wr .i64 (branch-1))==1 then k c.Cals.x1.Week c.Cals.x1.Closed else bif (wr .i64 (branch-1))==2 then k c.Cals.x2.Week c.Cals.x2.Closed else bif (wr .i64 (branch-1))==3 then k c.Cals.x3.Week c.Cals.x3.Closed else none|none =>none
def qer (x:Int):Option Bool:=
 some (!(x==x))
def qet (x:Int) (y:Int):Option Bool:=
 match qer x with|some r1 =>let k5 (v:Bool):Option Bool:=let k (v4:Bool):Option Bool:=some v4;bif v then k true else k (decide (x<y));bif r1 then match qer y with|some r3 =>k5 (!r3)|none =>none else k5 false|none =>none
def qd5 (x:Int):Option Bool:=
 some (!(x==x))
def zabk:((List Int)×Int×Int×Int×Int×Unit)→Option (((List Int)×Int×Int×Int×Int×Unit)⊕(((List Int)×Int×Int×Int×Unit))):=fun (x,target,n,i,j,_)=>
 bif decide (i<j) then match getI x (wr .i64 ((wr .u64 (wr .i64 (i+j))).fdiv (2 ^ 1))) with|some x1 =>(match qet x1 target with|some r2 =>let k (i3:Int) (j4:Int):Option (((List Int)×Int×Int×Int×Int×Unit)⊕(((List Int)×Int×Int×Int×Unit))):=some (.inl (x,target,n,i3,j4,()));bif r2 then k (wr .i64 ((wr .i64 ((wr .u64 (wr .i64 (i+j))).fdiv (2 ^ 1)))+1)) j else k i (wr .i64 ((wr .u64 (wr .i64 (i+j))).fdiv (2 ^ 1)))|none =>none)|none =>none else some (.inr ((x,target,n,i,())))
def qas (x:List Int) (target:Int):Option (Int×Bool):=
 match zai zabk (x,target,(x.length:Int),0,(x.length:Int),()) with|some ((x5,target6,n,i,_)) =>let k (v13:Bool):Option (Int×Bool):=some (i,v13);bif decide (i<n) then match getI x5 i with|some x7 =>(bif x7==target6 then k true else match getI x5 i with|some x8 =>(match qd5 x8 with|some r9 =>bif r9 then match qd5 target6 with|some r11 =>k r11|none =>none else k false|none =>none)|none =>none)|none =>none else k false|none =>none
def zabh:(Int×Calendar×(V7 Bool)×(V7 Bool)×Unit)→Option ((Int×Calendar×(V7 Bool)×(V7 Bool)×Unit)⊕(((V7 Bool)×(V7 Bool)×Unit))):=fun (v,c,v1,vopen,_)=>
 bif decide (v<7) then bif decide (v<0) then none else bif v==0 then some (.inl (wr .i64 (v+1),c,v1,(⟨(wr .i64 (BitVec.ofInt 64 (c.Week.fdiv (2 ^ (min v.toNat 64))) &&& BitVec.ofInt 64 1).toNat)==0,vopen.x1,vopen.x2,vopen.x3,vopen.x4,vopen.x5,vopen.x6⟩:V7 Bool),())) else bif v==1 then some (.inl (wr .i64 (v+1),c,v1,(⟨vopen.x0,(wr .i64 (BitVec.ofInt 64 (c.Week.fdiv (2 ^ (min v.toNat 64))) &&& BitVec.ofInt 64 1).toNat)==0,vopen.x2,vopen.x3,vopen.x4,vopen.x5,vopen.x6⟩:V7 Bool),())) else bif v==2 then some (.inl (wr .i64 (v+1),c,v1,(⟨vopen.x0,vopen.x1,(wr .i64 (BitVec.ofInt 64 (c.Week.fdiv (2 ^ (min v.toNat 64))) &&& BitVec.ofInt 64 1).toNat)==0,vopen.x3,vopen.x4,vopen.x5,vopen.x6⟩:V7 Bool),())) else bif v==3 then some (.inl (wr .i64 (v+1),c,v1,(⟨vopen.x0,vopen.x1,vopen.x2,(wr .i64 (BitVec.ofInt 64 (c.Week.fdiv (2 ^ (min v.toNat 64))) &&& BitVec.ofInt 64 1).toNat)==0,vopen.x4,vopen.x5,vopen.x6⟩:V7 Bool),())) else bif v==4 then some (.inl (wr .i64 (v+1),c,v1,(⟨vopen.x0,vopen.x1,vopen.x2,vopen.x3,(wr .i64 (BitVec.ofInt 64 (c.Week.fdiv (2 ^ (min v.toNat 64))) &&& BitVec.ofInt 64 1).toNat)==0,vopen.x5,vopen.x6⟩:V7 Bool),())) else bif v==5 then some (.inl (wr .i64 (v+1),c,v1,(⟨vopen.x0,vopen.x1,vopen.x2,vopen.x3,vopen.x4,(wr .i64 (BitVec.ofInt 64 (c.Week.fdiv (2 ^ (min v.toNat 64))) &&& BitVec.ofInt 64 1).toNat)==0,vopen.x6⟩:V7 Bool),())) else bif v==6 then some (.inl (wr .i64 (v+1),c,v1,(⟨vopen.x0,vopen.x1,vopen.x2,vopen.x3,vopen.x4,vopen.x5,(wr .i64 (BitVec.ofInt 64 (c.Week.fdiv (2 ^ (min v.toNat 64))) &&& BitVec.ofInt 64 1).toNat)==0⟩:V7 Bool),())) else none else some (.inr ((v1,vopen,())))
def qam (c:Calendar):Option (V7 Bool):=
 match zai zabh (0,c,(⟨false,false,false,false,false,false,false⟩:V7 Bool),(⟨false,false,false,false,false,false,false⟩:V7 Bool),()) with|some ((v,vopen,_)) =>some vopen|none =>none
def qe9 (day:Int):Option Bool:=
 let k (v:Bool):Option Bool:=some v;bif decide (0≤day) then k (decide (day≤109572)) else k false
def qcw (day:Int):Option Int:=
 match qe9 day with|some r1 =>bif !r1 then some (-1) else some (day.tmod 7)|none =>none
def qb8 (c:Calendar) (day:Int):Option Bool:=
 match qcs day with|some r1 =>(bif !r1 then some false else match qas c.Closed day with|some (r3,r4) =>let k (v9:Bool):Option Bool:=some v9;bif !r4 then match qam c with|some r6 =>(match qcw day with|some r8 =>bif r8==0 then k r6.x0 else bif r8==1 then k r6.x1 else bif r8==2 then k r6.x2 else bif r8==3 then k r6.x3 else bif r8==4 then k r6.x4 else bif r8==5 then k r6.x5 else bif r8==6 then k r6.x6 else none|none =>none)|none =>none else k false|none =>none)|none =>none
def zabm:(Int×Calendar×Unit)→Option ((Int×Calendar×Unit)⊕((Unit)⊕(Int×Int×Unit))):=fun (d,c,_)=>
 bif decide (d≤109572) then match qb8 c d with|some r1 =>bif r1 then some (.inr (.inr (d,0,()))) else some (.inl (wr .i64 (d+1),c,()))|none =>none else some (.inr (.inl (())))
def qav (c:Calendar) (day:Int):Option (Int×Int):=
 match zai zabm ((if day<0 then 0 else day),c,()) with|some (.inl (_)) =>some (0,2)|some (.inr (v,v2,_)) =>some (v,v2)|none =>none
def zaa8:(Int×Int×Int×Calendar×Unit)→Option ((Int×Int×Int×Calendar×Unit)⊕((Int×Unit)⊕(Int×Int×Unit))):=fun (d,v,v5,c,_)=>
 bif decide (v5<v) then match qav c (wr .i64 (d+1)) with|some (r6,r7) =>bif !(r7==0) then some (.inr (.inr (0,r7,()))) else some (.inl (r6,v,wr .i64 (v5+1),c,()))|none =>none else some (.inr (.inl (d,())))
def qa1 (c:Calendar) (day:Int) (n:Int):Option (Int×Int):=
 let k (v:Bool):Option (Int×Int):=bif v then some (0,1) else match qcs day with|some r1 =>(bif !r1 then some (0,2) else bif n==0 then match qav c day with|some (r3,r4) =>some (r3,r4)|none =>none else match zai zaa8 (day,n,0,c,()) with|some (.inl (d,_)) =>some (d,0)|some (.inr (v8,v9,_)) =>some (v8,v9)|none =>none)|none =>none;bif decide (n<0) then k true else k (decide (1000<n))
def qd6 (branch:Int) (n:Int) (d:Circ_desk):Option (Int×Circ_desk):=
 match qca d.c branch with|some r1 =>(match qa1 r1 d.c.Today n with|some (r3,r4) =>let k (v6:Circ_desk):Option (Int×Circ_desk):=some (r3,v6);bif !(r4==0) then match qq r4 d with|some (_,v) =>k v|none =>none else k d|none =>none)|none =>none
def qce (o:Hold) (v:Int) (v1:Int):Option Bool:=
 let k (v2:Bool):Option Bool:=some v2;bif o.Got==v then k (!(o.ID==v1)) else k false
def qch {γ0:Type} (p:γ0→Hold→Option Bool) (s:List Hold) (g:γ0):Option Bool:=
 match qb p s g with|some r1 =>some (decide (0≤r1))|none =>none
def qc8 (s:List Hold):Option (List Hold):=
 bif decide (([]:List Hold).length+s.length≤LIM) then some (([])++s) else none
def qek (l:List Hold) (i:Int) (h:Hold):Option (List Hold):=
 match qc8 l with|some l1 =>(match getI l1 i with|some _ =>(match l1[i.toNat]? with|some x =>some (l1.set i.toNat h)|none =>none)|none =>none)|none =>none
def qap (l:List Hold) (vid:Int) (item:Int) (state:Int) (vuntil:Int):Option ((List Hold)×Int):=
 match qbc l vid with|some r1 =>bif decide (r1<0) then some ([],9) else let k18 (v:Bool):Option ((List Hold)×Int):=match qbw item 1 9999 with|some r5 =>let k17 (v8:Bool):Option ((List Hold)×Int):=bif v8 then some ([],1) else match getI l r1 with|some x =>let k16 (v11:Bool):Option ((List Hold)×Int):=bif v11 then some ([],12) else match qch (fun g x0=>qce x0 g.2.1 g.2.2.1) l ((),(item,vid,())) with|some r13 =>(bif r13 then some ([],7) else match qek l r1 (⟨x.ID,x.Patron,x.Record,x.Item,x.Pickup,x.Placed,state,item,vuntil,x.Asleep,x.Rank⟩:Hold) with|some r15 =>some (r15,0)|none =>none)|none =>none;bif !(x.State==1) then let k (v9:Bool):Option ((List Hold)×Int):=bif v9 then k16 true else k16 (!(state==3));bif !(x.State==2) then k true else k (!(x.Got==item)) else k16 false|none =>none;bif !r5 then k17 true else bif !v then bif !(state==2) then k17 true else k17 (!(vuntil==0)) else k17 false|none =>none;bif state==3 then match qbw vuntil 1 109572 with|some r3 =>k18 r3|none =>none else k18 false|none =>none
def qb7 (l:List Hold) (e:Int) (d:Circ_desk):Option (Unit×Circ_desk):=
 let k3 (v1:Circ_desk):Option (Unit×Circ_desk):=let k (v2:List Hold):Option (Unit×Circ_desk):=some ((),(⟨⟨v1.c.Today,v1.c.Items,v1.c.Patrons,v1.c.Loans,v2,v1.c.Charges,v1.c.Rules,v1.c.Cals,v1.c.Moves,v1.c.NextHold,v1.c.NextCharge,v1.c.Local⟩,v1.err⟩:Circ_desk));bif v1.err==0 then k l else k v1.c.Holds;bif !(e==0) then match qq e d with|some (_,v) =>k3 v|none =>none else k3 d
def qc9 (i:Int) (h:Hold) (d:Circ_desk):Option (Unit×Circ_desk):=
 bif !(d.err==0) then some ((),d) else match getI d.c.Items i with|some x =>(match qby d.c h.Patron x with|some (r1,r2) =>let k13 (days:Int):Option (Unit×Circ_desk):=match qa9 i 5 x.Custody.Branch h.Patron d with|some (_,v) =>(match qd6 x.Custody.Branch days v with|some (r5,v6) =>let k (v12:Circ_desk):Option (Unit×Circ_desk):=some ((),v12);bif v6.err==0 then match qap v6.c.Holds h.ID x.ID 3 r5 with|some (r8,r9) =>(match qb7 r8 r9 v6 with|some (_,v11) =>k v11|none =>none)|none =>none else k v6|none =>none)|none =>none;bif r2 then k13 r1.Shelf else k13 7|none =>none)|none =>none
def qcn (i:Int) (d:Circ_desk):Option (Unit×Circ_desk):=
 bif !(d.err==0) then some ((),d) else match getI d.c.Items i with|some x =>(match qc3 d.c x with|some r1 =>(match qdl d.c.Holds r1 with|some (r3,r4) =>let k25 (v:Bool):Option (Unit×Circ_desk):=let k24 (v23:Circ_desk):Option (Unit×Circ_desk):=some ((),v23);bif v then match qa9 i 6 x.Branch 0 d with|some (_,v6) =>k24 v6|none =>none else let k (v7:Bool):Option (Unit×Circ_desk):=bif v7 then match qdc i 2 d with|some (_,v9) =>k24 v9|none =>none else bif !r4 then k24 d else bif r3.Pickup==x.Custody.Branch then match qc9 i r3 d with|some (_,v11) =>k24 v11|none =>none else match qa9 i 6 r3.Pickup r3.Patron d with|some (_,v13) =>bif v13.err==0 then match qap v13.c.Holds r1 x.ID 2 0 with|some (r15,r16) =>(match qb7 r15 r16 v13 with|some (_,v18) =>k24 v18|none =>none)|none =>none else k24 v13|none =>none;bif !r4 then k (!(x.Custody.State==3)) else k false;bif !r4 then k25 (!(x.Branch==x.Custody.Branch)) else k25 false|none =>none)|none =>none)|none =>none
def qaa (d:Circ_desk):Option ((Circ×Int)×Circ_desk):=
 bif !(d.err==0) then some (((⟨0,[],[],[],[],[],[],⟨⟨0,[]⟩,⟨0,[]⟩,⟨0,[]⟩,⟨0,[]⟩⟩,[],0,0,false⟩:Circ),d.err),d) else some ((d.c,0),d)
def qcy (c:Circ) (item:Int) (branch:Int):Option (Circ×Int):=
 match qbz c with|some d =>(match qdb item d with|some (r2,v) =>let k (v7:Circ_desk):Option (Circ×Int):=match qaa v7 with|some ((r9,r10),v11) =>some (r9,r10)|none =>none;bif decide (0≤r2) then match qa9 r2 1 branch 0 v with|some (_,v4) =>(match qcn r2 v4 with|some (_,v6) =>k v6|none =>none)|none =>none else k v|none =>none)|none =>none
def zkj:(Int×Int×(List Charge)×Int×Int×Unit)→Option ((Int×Int×(List Charge)×Int×Int×Unit)⊕((Int×Unit))):=fun (patron,vsum,v,v1,v2,_)=>
 bif decide (v2<v1) then match getI v v2 with|some x =>let k (vsum3:Int):Option ((Int×Int×(List Charge)×Int×Int×Unit)⊕((Int×Unit))):=some (.inl (patron,vsum3,v,v1,wr .i64 (v2+1),()));bif x.Patron==patron then k (wr .i64 (vsum+(wr .i64 (x.Amount-x.Paid)))) else k vsum|none =>none else some (.inr ((vsum,())))
def qaf (l:List Charge) (patron:Int):Option Int:=
 match zai zkj (patron,0,l,(l.length:Int),0,()) with|some ((vsum,_)) =>some vsum|none =>none
def zaqy:(Int×(List Loan)×Int×Int×(List Loan)×Unit)→Option ((Int×(List Loan)×Int×Int×(List Loan)×Unit)⊕(((List Loan)×Unit))):=fun (patron,v,v1,v2,l,_)=>
 bif decide (v2<v1) then match getI v v2 with|some x =>bif x.Patron==patron then bif decide (l.length+([x]:List Loan).length≤LIM) then some (.inl (patron,v,v1,wr .i64 (v2+1),l++([x]:List Loan),())) else none else some (.inl (patron,v,v1,wr .i64 (v2+1),l,()))|none =>none else some (.inr ((l,())))
def qw (l:List Loan) (patron:Int):Option (List Loan):=
 match zai zaqy (patron,l,(l.length:Int),0,([]:List Loan),()) with|some ((l3,_)) =>some l3|none =>none
def zabj:(Int×Int×(List Loan)×Int×Int×Unit)→Option ((Int×Int×(List Loan)×Int×Int×Unit)⊕((Int×Unit))):=fun (day,n,v,v2,v3,_)=>
 bif decide (v3<v2) then match getI v v3 with|some x =>let k (n4:Int):Option ((Int×Int×(List Loan)×Int×Int×Unit)⊕((Int×Unit))):=some (.inl (day,n4,v,v2,wr .i64 (v3+1),()));bif decide (x.Due<day) then k (wr .i64 (n+1)) else k n|none =>none else some (.inr ((n,())))
def qaq (l:List Loan) (patron:Int) (day:Int):Option Int:=
 match qw l patron with|some r1 =>(match zai zabj (day,0,r1,(r1.length:Int),0,()) with|some ((n,_)) =>some n|none =>none)|none =>none
def zabd:(Int×Int×(List Int)×(List Bool)×Unit)→Option ((Int×Int×(List Int)×(List Bool)×Unit)⊕(((List Int)×Unit))):=fun (v,v1,l,l2,_)=>
 bif decide (v1<v) then match getI l2 v1 with|some _ =>(match l2[v1.toNat]? with|some x =>bif x then bif decide (l.length+([wr .i64 (v1+1)]:List Int).length≤LIM) then some (.inl (v,wr .i64 (v1+1),l++([wr .i64 (v1+1)]:List Int),l2,())) else none else some (.inl (v,wr .i64 (v1+1),l,l2,()))|none =>none)|none =>none else some (.inr ((l,())))
def qa8 (p:Patron) (day:Int) (owed:Int) (late:Int):Option (List Int):=
 match zai zabd ((([p.Stopped,decide (p.Until<day),decide (1000<owed),decide (2<late)]).length:Int),0,([]:List Int),[p.Stopped,decide (p.Until<day),decide (1000<owed),decide (2<late)],()) with|some ((l,_)) =>some l|none =>none
def qcx (c:Circ) (p:Patron):Option Bool:=
 match qaf c.Charges p.ID with|some r1 =>(match qaq c.Loans p.ID c.Today with|some r3 =>(match qa8 p c.Today r1 r3 with|some r5 =>some (decide (0<(r5.length:Int)))|none =>none)|none =>none)|none =>none
def zabt:(Int×Calendar×Unit)→Option ((Int×Calendar×Unit)⊕((Unit)⊕(Int×Int×Unit))):=fun (d,c,_)=>
 bif decide (0≤d) then match qb8 c d with|some r1 =>bif r1 then some (.inr (.inr (d,0,()))) else some (.inl (wr .i64 (d-1),c,()))|none =>none else some (.inr (.inl (())))
def qbl (c:Calendar) (day:Int):Option (Int×Int):=
 match zai zabt ((if 109572<day then 109572 else day),c,()) with|some (.inl (_)) =>some (0,2)|some (.inr (v,v2,_)) =>some (v,v2)|none =>none
def qc2 (r:Rule) (c:Calendar) (day:Int) (vuntil:Int):Option (Int×Int):=
 match qbo day 0 109572 with|some r2 =>(let k17 (v:Bool):Option (Int×Int):=bif v then some (0,2) else let k16 (last:Int):Option (Int×Int):=let k15 (v5:Bool):Option (Int×Int):=bif v5 then some (0,15) else match qav c (if last<wr .i64 (day+r.Days) then last else wr .i64 (day+r.Days)) with|some (r7,r8) =>let k14 (v9:Bool):Option (Int×Int):=bif v9 then some (r7,0) else match qbl c last with|some (r11,r12) =>let k (v13:Bool):Option (Int×Int):=bif v13 then some (0,15) else some (r11,0);bif !(r12==0) then k true else k (decide (r11≤day))|none =>none;bif r8==0 then k14 (decide (r7≤last)) else k14 false|none =>none;bif r.Days==0 then k15 true else k15 (decide (last≤day));bif decide (0<r.Fixed) then k16 (if r.Fixed<vuntil then r.Fixed else vuntil) else k16 vuntil;bif !r2 then k17 true else match qbo vuntil 0 109572 with|some r4 =>k17 (!r4)|none =>none)|none =>none
def qeb (c:Circ) (x:Item) (p:Patron) (branch:Int):Option (Int×Int):=
 let k26 (v:Bool):Option (Int×Int):=let k4 (v3:Int):Option (Int×Int):=some (0,v3);bif v then k4 12 else bif !(x.Custody.Branch==branch) then k4 1 else let k (v1:Bool):Option (Int×Int):=bif v1 then k4 16 else let k25 (_:Unit):Option (Int×Int):=match qcx c p with|some r12 =>(bif r12 then some (0,14) else match qby c p.ID x with|some (r14,r15) =>(let k24 (v18:Bool):Option (Int×Int):=bif v18 then some (0,15) else match qca c branch with|some r20 =>(match qc2 r14 r20 c.Today p.Until with|some (r22,r23) =>some (r22,r23)|none =>none)|none =>none;bif !r15 then k24 true else match qw c.Loans p.ID with|some r17 =>k24 (decide (r14.Loans≤(r17.length:Int)))|none =>none)|none =>none)|none =>none;bif x.Custody.State==3 then match qc3 c x with|some r5 =>(match qdl c.Holds r5 with|some (r7,r8) =>let k10 (v9:Bool):Option (Int×Int):=bif v9 then some (0,16) else k25 ();bif r8 then k10 (!(r7.Patron==p.ID)) else k10 false|none =>none)|none =>none else k25 ();bif x.Custody.State==5 then k (!(x.Custody.Who==p.ID)) else k false;bif !(x.Custody.State==3) then k26 (!(x.Custody.State==5)) else k26 false
def qcg (x:Loan) (v:Loan):Option Bool:=
 some (decide (v.Item<x.Item))
def qc7 (s:List Loan):Option (List Loan):=
 bif decide (([]:List Loan).length+s.length≤LIM) then some (([])++s) else none
def qcd (l:List Loan):Option ((List Loan)×Int):=
 match qa5 l with|some r1 =>bif !(r1==0) then some ([],r1) else some (l,0)|none =>none
def qbn (l:List Loan) (n:Loan):Option ((List Loan)×Int):=
 match qy n.Item with|some r1 =>(match qbf (fun g x0=>qb1 x0 g.2.1) l ((),(r1.1,())) with|some (r3,r4) =>(bif decide (0≤r4) then some ([],7) else match qbf (fun g x0=>qcg x0 g.2.1) l ((),(n,())) with|some (r6,r7) =>let k (i:Int):Option ((List Loan)×Int):=match qc7 l with|some l9 =>(match qdp l9 i ([n]) with|some l11 =>(match qcd l11 with|some (r13,r14) =>some (r13,r14)|none =>none)|none =>none)|none =>none;bif decide (r7<0) then k (l.length:Int) else k r7|none =>none)|none =>none)|none =>none
def qb6 (l:List Loan) (e:Int) (d:Circ_desk):Option (Unit×Circ_desk):=
 let k3 (v1:Circ_desk):Option (Unit×Circ_desk):=let k (v2:List Loan):Option (Unit×Circ_desk):=some ((),(⟨⟨v1.c.Today,v1.c.Items,v1.c.Patrons,v2,v1.c.Holds,v1.c.Charges,v1.c.Rules,v1.c.Cals,v1.c.Moves,v1.c.NextHold,v1.c.NextCharge,v1.c.Local⟩,v1.err⟩:Circ_desk));bif v1.err==0 then k l else k v1.c.Loans;bif !(e==0) then match qq e d with|some (_,v) =>k3 v|none =>none else k3 d
def qec (l:List Hold) (vid:Int):Option ((List Hold)×Hold×Int):=
 match qbc l vid with|some r1 =>(bif decide (r1<0) then some ([],(⟨0,0,0,0,0,0,0,0,0,0,0⟩:Hold),9) else match qc8 l with|some l3 =>(match qds l3 r1 (wr .i64 (r1+1)) with|some l5 =>(match getI l r1 with|some x =>some (l5,x,0)|none =>none)|none =>none)|none =>none)|none =>none
def qep (vid:Int) (d:Circ_desk):Option (Unit×Circ_desk):=
 let k (v5:Circ_desk):Option (Unit×Circ_desk):=some ((),v5);bif d.err==0 then match qec d.c.Holds vid with|some (r1,r2,r3) =>(match qb7 r1 r3 d with|some (_,v) =>k v|none =>none)|none =>none else k d
def qa7 (n:Int) (d:Circ_desk):Option ((Circ×Int×Int)×Circ_desk):=
 bif !(d.err==0) then some (((⟨0,[],[],[],[],[],[],⟨⟨0,[]⟩,⟨0,[]⟩,⟨0,[]⟩,⟨0,[]⟩⟩,[],0,0,false⟩:Circ),0,d.err),d) else some ((d.c,n,0),d)
def qb5 (h:Hold) (x:Item):Option Bool:=
 let k (v1:Bool):Option Bool:=some v1;bif h.Record==x.Record then bif h.Item==0 then k true else k (h.Item==x.ID) else k false
def qc0 (h:Hold) (v:Int) (v1:Item):Option Bool:=
 let k5 (v2:Bool):Option Bool:=let k (v4:Bool):Option Bool:=some v4;bif v2 then match qb5 h v1 with|some r3 =>k r3|none =>none else k false;bif h.Patron==v then k5 (h.State==1) else k5 false
def qbi (c:Circ) (item:Int) (vid:Int) (branch:Int):Option (Circ×Int×Int):=
 match qbz c with|some d =>(match qdb item d with|some (r2,v) =>(match qb3 c.Patrons vid with|some (r4,r5) =>let k40 (v8:Circ_desk):Option (Circ×Int×Int):=bif !(v8.err==0) then some ((⟨0,[],[],[],[],[],[],⟨⟨0,[]⟩,⟨0,[]⟩,⟨0,[]⟩,⟨0,[]⟩⟩,[],0,0,false⟩:Circ),0,v8.err) else match getI c.Items r2 with|some x =>(match qeb c x r4 branch with|some (r10,r11) =>(bif !(r11==0) then some ((⟨0,[],[],[],[],[],[],⟨⟨0,[]⟩,⟨0,[]⟩,⟨0,[]⟩,⟨0,[]⟩⟩,[],0,0,false⟩:Circ),0,r11) else match qa9 r2 3 branch vid v8 with|some (_,v13) =>(match qbn c.Loans (⟨item,vid,c.Today,r10,0,false⟩:Loan) with|some (r15,r16) =>(match qb6 r15 r16 v13 with|some (_,v18) =>(match qa4 c item with|some (r20,r21) =>(bif r21 then match qep r20.ID v18 with|some (_,v23) =>(match qa7 r10 v23 with|some ((r25,r26,r27),v28) =>some (r25,r26,r27)|none =>none)|none =>none else match qb (fun g x0=>qc0 x0 g.2.1 g.2.2.1) c.Holds ((),(vid,x,())) with|some r30 =>let k (v34:Circ_desk):Option (Circ×Int×Int):=match qa7 r10 v34 with|some ((r36,r37,r38),v39) =>some (r36,r37,r38)|none =>none;bif decide (0≤r30) then match getI c.Holds r30 with|some x31 =>(match qep x31.ID v18 with|some (_,v33) =>k v33|none =>none)|none =>none else k v18|none =>none)|none =>none)|none =>none)|none =>none)|none =>none)|none =>none)|none =>none;bif !r5 then match qq 9 v with|some (_,v7) =>k40 v7|none =>none else k40 v|none =>none)|none =>none)|none =>none
def qed (x:Item) (record:Int):Option Bool:=
 let k (v:Bool):Option Bool:=some v;bif x.Record==record then k (!(x.Custody.State==12)) else k false
def qcq (x:Item) (v:Hold):Option Bool:=
 match qed x v.Record with|some r1 =>let k (v4:Bool):Option Bool:=some v4;bif r1 then match qb5 v x with|some r3 =>k r3|none =>none else k false|none =>none
def zaqv:(Int×(List Loan)×Int×Int×Circ×Hold×Item×Unit)→Option ((Int×(List Loan)×Int×Int×Circ×Hold×Item×Unit)⊕((Int×Circ×Item×Unit)⊕(Int×Item×Unit))):=fun (first,v,v6,v7,c,h,v8,_)=>
 bif decide (v7<v6) then match getI v v7 with|some x =>(match qx c x.Item with|some r9 =>let k (v11:Bool):Option ((Int×(List Loan)×Int×Int×Circ×Hold×Item×Unit)⊕((Int×Circ×Item×Unit)⊕(Int×Item×Unit))):=bif v11 then some (.inr (.inr (12,(⟨0,0,0,0,0,[],⟨0,0,0,0⟩⟩:Item),()))) else some (.inl (first,v,v6,wr .i64 (v7+1),c,h,v8,()));bif decide (0≤r9) then match getI c.Items r9 with|some x10 =>k (x10.Record==h.Record)|none =>none else k false|none =>none)|none =>none else some (.inr (.inl (first,c,v8,())))
def qr (c:Circ) (p:Patron) (h:Hold):Option (Item×Int):=
 match qd (fun g x0=>qcq x0 g.2.1) c.Items ((),(h,())) with|some r1 =>bif decide (r1<0) then some ((⟨0,0,0,0,0,[],⟨0,0,0,0⟩⟩:Item),9) else let k (v:Bool):Option (Item×Int):=bif v then some ((⟨0,0,0,0,0,[],⟨0,0,0,0⟩⟩:Item),2) else match qcx c p with|some r3 =>(bif r3 then some ((⟨0,0,0,0,0,[],⟨0,0,0,0⟩⟩:Item),14) else match qw c.Loans p.ID with|some r5 =>(match zai zaqv (r1,r5,(r5.length:Int),0,c,h,(⟨0,0,0,0,0,[],⟨0,0,0,0⟩⟩:Item),()) with|some (.inl (first,c12,v13,_)) =>(bif decide (99999<c12.NextHold) then some ((⟨0,0,0,0,0,[],⟨0,0,0,0⟩⟩:Item),13) else match getI c12.Items first with|some x =>some (x,0)|none =>none)|some (.inr (v14,v15,_)) =>some (v15,v14)|none =>none)|none =>none)|none =>none;bif decide (h.Pickup<1) then k true else k (decide (4<h.Pickup))|none =>none
def qeg (l:List Hold) (h:Hold):Option ((List Hold)×Int):=
 let k5 (v:Bool):Option ((List Hold)×Int):=let k (v1:Bool):Option ((List Hold)×Int):=bif v1 then some ([],12) else match qc8 l with|some l2 =>bif decide (l2.length+([h]:List Hold).length≤LIM) then match qh (l2++([h]:List Hold)) with|some r4 =>bif !(r4==0) then some ([],r4) else some (l2++([h]:List Hold),0)|none =>none else none|none =>none;bif v then k true else k (!(h.Until==0));bif !(h.State==1) then k5 true else k5 (!(h.Got==0))
def zabs:(Int×Int×Int×Circ_desk×Unit)→Option ((Int×Int×Int×Circ_desk×Unit)⊕((Circ_desk×Unit)⊕(Circ_desk×Unit))):=fun (record,v,v1,d,_)=>
 bif decide (v1<v) then bif !(d.err==0) then some (.inr (.inr (d,()))) else match getI d.c.Items v1 with|some x =>let k9 (v2:Bool):Option ((Int×Int×Int×Circ_desk×Unit)⊕((Circ_desk×Unit)⊕(Circ_desk×Unit))):=let k8 (v4:Bool):Option ((Int×Int×Int×Circ_desk×Unit)⊕((Circ_desk×Unit)⊕(Circ_desk×Unit))):=let k (v7:Circ_desk):Option ((Int×Int×Int×Circ_desk×Unit)⊕((Circ_desk×Unit)⊕(Circ_desk×Unit))):=some (.inl (record,v,wr .i64 (v1+1),v7,()));bif v4 then match qcn v1 d with|some (_,v6) =>k v6|none =>none else k d;bif v2 then match qc3 d.c x with|some r3 =>k8 (!(r3==0))|none =>none else k8 false;bif x.Record==record then k9 (x.Custody.State==3) else k9 false|none =>none else some (.inr (.inl (d,())))
def qbk (record:Int) (d:Circ_desk):Option (Unit×Circ_desk):=
 match zai zabs (record,(d.c.Items.length:Int),0,d,()) with|some (.inl (d10,_)) =>some ((),d10)|some (.inr (d11,_)) =>some ((),d11)|none =>none
def qej (c:Circ) (vid:Int) (record:Int) (item:Int) (pickup:Int):Option (Circ×Int×Int):=
 match qb3 c.Patrons vid with|some (r1,r2) =>(bif !r2 then some ((⟨0,[],[],[],[],[],[],⟨⟨0,[]⟩,⟨0,[]⟩,⟨0,[]⟩,⟨0,[]⟩⟩,[],0,0,false⟩:Circ),0,9) else match qr c r1 (⟨c.NextHold,vid,record,item,pickup,c.Today,1,0,0,0,0⟩:Hold) with|some (r4,r5) =>(bif !(r5==0) then some ((⟨0,[],[],[],[],[],[],⟨⟨0,[]⟩,⟨0,[]⟩,⟨0,[]⟩,⟨0,[]⟩⟩,[],0,0,false⟩:Circ),0,r5) else match qby c vid r4 with|some (r7,r8) =>let k (h:Int):Option (Circ×Int×Int):=match qbz c with|some d =>(match qeg c.Holds (⟨c.NextHold,vid,record,item,pickup,c.Today,1,0,0,0,h⟩:Hold) with|some (r11,r12) =>(match qb7 r11 r12 d with|some (_,v) =>(match qbk record (⟨⟨v.c.Today,v.c.Items,v.c.Patrons,v.c.Loans,v.c.Holds,v.c.Charges,v.c.Rules,v.c.Cals,v.c.Moves,wr .i64 (v.c.NextHold+1),v.c.NextCharge,v.c.Local⟩,v.err⟩:Circ_desk) with|some (_,v15) =>(match qa7 c.NextHold v15 with|some ((r17,r18,r19),v20) =>some (r17,r18,r19)|none =>none)|none =>none)|none =>none)|none =>none)|none =>none;bif r8 then k r7.Rank else k 0|none =>none)|none =>none)|none =>none
def qcf (h:Hold) (v:Circ) (v1:Item):Option Bool:=
 let k5 (v2:Bool):Option Bool:=let k (v4:Bool):Option Bool:=some v4;bif v2 then match qb5 h v1 with|some r3 =>k r3|none =>none else k false;bif h.State==1 then k5 (decide (h.Asleep≤v.Today)) else k5 false
def qea (r:Rule) (c:Calendar) (n:Loan) (day:Int) (vuntil:Int):Option (Int×Int):=
 let k (v:Bool):Option (Int×Int):=bif v then some (0,15) else match qc2 r c day vuntil with|some (r2,r3) =>bif !(r3==0) then some (0,r3) else bif decide (r2≤n.Due) then some (0,15) else some (r2,0)|none =>none;bif decide (r.Renewals≤n.Renewals) then k true else k n.Recalled
def qda (l:List Loan) (i:Int) (x:Loan):Option (List Loan):=
 match qc7 l with|some l1 =>(match getI l1 i with|some _ =>(match l1[i.toNat]? with|some x2 =>some (l1.set i.toNat x)|none =>none)|none =>none)|none =>none
def qe8 (l:List Loan) (item:Int) (due:Int):Option ((List Loan)×Int):=
 match qy item with|some r1 =>(match qbf (fun g x0=>qb1 x0 g.2.1) l ((),(r1.1,())) with|some (r3,r4) =>(let k (v:Int):Option ((List Loan)×Int):=some ([],v);bif decide (r4<0) then k 9 else bif r3.Recalled then k 12 else match qda l r4 (⟨r3.Item,r3.Patron,r3.Out,due,wr .i64 (r3.Renewals+1),r3.Recalled⟩:Loan) with|some r6 =>(match qcd r6 with|some (r8,r9) =>some (r8,r9)|none =>none)|none =>none)|none =>none)|none =>none
def qbs (c:Circ) (item:Int):Option (Circ×Int×Int):=
 match qcl c.Loans item with|some (r1,r2) =>(match qx c item with|some r4 =>let k (v:Bool):Option (Circ×Int×Int):=bif v then some ((⟨0,[],[],[],[],[],[],⟨⟨0,[]⟩,⟨0,[]⟩,⟨0,[]⟩,⟨0,[]⟩⟩,[],0,0,false⟩:Circ),0,9) else match getI c.Items r4 with|some x =>(bif !(x.Custody.State==4) then some ((⟨0,[],[],[],[],[],[],⟨⟨0,[]⟩,⟨0,[]⟩,⟨0,[]⟩,⟨0,[]⟩⟩,[],0,0,false⟩:Circ),0,12) else match qb3 c.Patrons r1.Patron with|some (r6,r7) =>(match qcx c r6 with|some r9 =>(bif r9 then some ((⟨0,[],[],[],[],[],[],⟨⟨0,[]⟩,⟨0,[]⟩,⟨0,[]⟩,⟨0,[]⟩⟩,[],0,0,false⟩:Circ),0,14) else match qch (fun g x0=>qcf x0 g.2.1 g.2.2.1) c.Holds ((),(c,x,())) with|some r11 =>(bif r11 then some ((⟨0,[],[],[],[],[],[],⟨⟨0,[]⟩,⟨0,[]⟩,⟨0,[]⟩,⟨0,[]⟩⟩,[],0,0,false⟩:Circ),0,16) else match qby c r6.ID x with|some (r13,r14) =>(bif !r14 then some ((⟨0,[],[],[],[],[],[],⟨⟨0,[]⟩,⟨0,[]⟩,⟨0,[]⟩,⟨0,[]⟩⟩,[],0,0,false⟩:Circ),0,15) else match qca c x.Custody.Branch with|some r16 =>(match qea r13 r16 r1 c.Today r6.Until with|some (r18,r19) =>(bif !(r19==0) then some ((⟨0,[],[],[],[],[],[],⟨⟨0,[]⟩,⟨0,[]⟩,⟨0,[]⟩,⟨0,[]⟩⟩,[],0,0,false⟩:Circ),0,r19) else match qbz c with|some d =>(match qe8 c.Loans item r18 with|some (r22,r23) =>(match qb6 r22 r23 d with|some (_,v25) =>(match qa7 r18 v25 with|some ((r27,r28,r29),v30) =>some (r27,r28,r29)|none =>none)|none =>none)|none =>none)|none =>none)|none =>none)|none =>none)|none =>none)|none =>none)|none =>none)|none =>none)|none =>none;bif !r2 then k true else k (decide (r4<0))|none =>none)|none =>none
def zabl:(Bool×(List Item)×Int×Int×Circ×Hold×Loan×Item×Unit)→Option ((Bool×(List Item)×Int×Int×Circ×Hold×Loan×Item×Unit)⊕((Bool×Loan×Item×Unit))):=fun (ok,v,v1,v2,c,h,best,vat,_)=>
 bif decide (v2<v1) then match getI v v2 with|some x =>(let k16 (v4:Bool):Option ((Bool×(List Item)×Int×Int×Circ×Hold×Loan×Item×Unit)⊕((Bool×Loan×Item×Unit))):=bif v4 then some (.inl (ok,v,v1,wr .i64 (v2+1),c,h,best,vat,())) else match qcl c.Loans x.ID with|some (r6,r7) =>let k15 (v8:Bool):Option ((Bool×(List Item)×Int×Int×Circ×Hold×Loan×Item×Unit)⊕((Bool×Loan×Item×Unit))):=let k14 (v10:Bool):Option ((Bool×(List Item)×Int×Int×Circ×Hold×Loan×Item×Unit)⊕((Bool×Loan×Item×Unit))):=let k (ok11:Bool) (best12:Loan) (vat13:Item):Option ((Bool×(List Item)×Int×Int×Circ×Hold×Loan×Item×Unit)⊕((Bool×Loan×Item×Unit))):=some (.inl (ok11,v,v1,wr .i64 (v2+1),c,h,best12,vat13,()));bif v10 then k true r6 x else k ok best vat;bif v8 then bif !ok then k14 true else k14 (decide (r6.Due<best.Due)) else k14 false;bif r7 then k15 (!r6.Recalled) else k15 false|none =>none;bif !(x.Custody.State==4) then k16 true else match qb5 h x with|some r3 =>k16 (!r3)|none =>none)|none =>none else some (.inr ((ok,best,vat,())))
def qat (c:Circ) (h:Hold):Option (Loan×Item×Bool):=
 match zai zabl (false,c.Items,(c.Items.length:Int),0,c,h,(⟨0,0,0,0,0,false⟩:Loan),(⟨0,0,0,0,0,[],⟨0,0,0,0⟩⟩:Item),()) with|some ((ok,best,vat,_)) =>some (best,vat,ok)|none =>none
def qe6 (l:List Loan) (item:Int) (due:Int):Option ((List Loan)×Int):=
 match qy item with|some r1 =>(match qbf (fun g x0=>qb1 x0 g.2.1) l ((),(r1.1,())) with|some (r3,r4) =>(let k (v7:Int):Option ((List Loan)×Int):=some ([],v7);bif decide (r4<0) then k 9 else bif r3.Recalled then k 12 else match qdk due with|some r6 =>(bif !r6 then k 2 else match qda l r4 (⟨r3.Item,r3.Patron,r3.Out,(if (if due<r3.Due then due else r3.Due)<r3.Out then r3.Out else (if due<r3.Due then due else r3.Due)),r3.Renewals,true⟩:Loan) with|some r9 =>some (r9,0)|none =>none)|none =>none)|none =>none)|none =>none
def qe7 (c:Circ) (vid:Int):Option (Circ×Int×Int):=
 match qdl c.Holds vid with|some (r1,r2) =>(bif !r2 then some ((⟨0,[],[],[],[],[],[],⟨⟨0,[]⟩,⟨0,[]⟩,⟨0,[]⟩,⟨0,[]⟩⟩,[],0,0,false⟩:Circ),0,9) else bif !(r1.State==1) then some ((⟨0,[],[],[],[],[],[],⟨⟨0,[]⟩,⟨0,[]⟩,⟨0,[]⟩,⟨0,[]⟩⟩,[],0,0,false⟩:Circ),0,12) else match qat c r1 with|some (r4,r5,r6) =>(bif !r6 then some ((⟨0,[],[],[],[],[],[],⟨⟨0,[]⟩,⟨0,[]⟩,⟨0,[]⟩,⟨0,[]⟩⟩,[],0,0,false⟩:Circ),0,9) else match qby c r4.Patron r5 with|some (r8,r9) =>(bif !r9 then some ((⟨0,[],[],[],[],[],[],⟨⟨0,[]⟩,⟨0,[]⟩,⟨0,[]⟩,⟨0,[]⟩⟩,[],0,0,false⟩:Circ),0,15) else match qbz c with|some d =>(match qd6 r5.Custody.Branch r8.Recall d with|some (r12,v) =>let k (v18:Circ_desk):Option (Circ×Int×Int):=match qa7 r5.ID v18 with|some ((r20,r21,r22),v23) =>some (r20,r21,r22)|none =>none;bif v.err==0 then match qe6 c.Loans r5.ID r12 with|some (r14,r15) =>(match qb6 r14 r15 v with|some (_,v17) =>k v17|none =>none)|none =>none else k v|none =>none)|none =>none)|none =>none)|none =>none)|none =>none
def qe0 (l:List Loan) (i:Int):Option (List Loan):=
 match qc7 l with|some l1 =>(match qdr l1 i (wr .i64 (i+1)) with|some l3 =>some l3|none =>none)|none =>none
def qei (l:List Loan) (item:Int):Option ((List Loan)×Loan×Int):=
 match qy item with|some r1 =>(match qbf (fun g x0=>qb1 x0 g.2.1) l ((),(r1.1,())) with|some (r3,r4) =>(bif decide (r4<0) then some ([],(⟨0,0,0,0,0,false⟩:Loan),9) else match qe0 l r4 with|some r6 =>some (r6,r3,0)|none =>none)|none =>none)|none =>none
def qd9 (day:Int) (weekday:Int):Option Int:=
 match qcw 0 with|some r1 =>bif decide (day<(wr .i64 ((wr .i64 (weekday-r1))+7)).tmod 7) then some 0 else some (wr .i64 ((wr .i64 ((wr .i64 (day-((wr .i64 ((wr .i64 (weekday-r1))+7)).tmod 7))).tdiv 7))+1))|none =>none
def zabf:(Int×Int×Int×(V7 Bool)×Int×Calendar×(V7 Bool)×Unit)→Option ((Int×Int×Int×(V7 Bool)×Int×Calendar×(V7 Bool)×Unit)⊕((Int×Int×Int×Calendar×(V7 Bool)×Unit))):=fun (vfrom,vto,n,v,v2,c,vopen,_)=>
 bif decide (v2<7) then let k8 (v3:Bool):Option ((Int×Int×Int×(V7 Bool)×Int×Calendar×(V7 Bool)×Unit)⊕((Int×Int×Int×Calendar×(V7 Bool)×Unit))):=let k (n7:Int):Option ((Int×Int×Int×(V7 Bool)×Int×Calendar×(V7 Bool)×Unit)⊕((Int×Int×Int×Calendar×(V7 Bool)×Unit))):=some (.inl (vfrom,vto,n7,v,wr .i64 (v2+1),c,vopen,()));bif v3 then match qd9 vto v2 with|some r4 =>(match qd9 (wr .i64 (vfrom-1)) v2 with|some r6 =>k (wr .i64 (n+(wr .i64 (r4-r6))))|none =>none)|none =>none else k n;bif v2==0 then k8 v.x0 else bif v2==1 then k8 v.x1 else bif v2==2 then k8 v.x2 else bif v2==3 then k8 v.x3 else bif v2==4 then k8 v.x4 else bif v2==5 then k8 v.x5 else bif v2==6 then k8 v.x6 else none else some (.inr ((vfrom,vto,n,c,vopen,())))
def z03:(Int×Int×Int×(List Int)×Int×Int×(V7 Bool)×Unit)→Option ((Int×Int×Int×(List Int)×Int×Int×(V7 Bool)×Unit)⊕((Int×Unit))):=fun (vfrom,vto,n,v,v12,v13,vopen,_)=>
 bif decide (v13<v12) then match getI v v13 with|some x =>let k20 (v14:Bool):Option ((Int×Int×Int×(List Int)×Int×Int×(V7 Bool)×Unit)⊕((Int×Unit))):=let k19 (v17:Bool):Option ((Int×Int×Int×(List Int)×Int×Int×(V7 Bool)×Unit)⊕((Int×Unit))):=let k (n18:Int):Option ((Int×Int×Int×(List Int)×Int×Int×(V7 Bool)×Unit)⊕((Int×Unit))):=some (.inl (vfrom,vto,n18,v,v12,wr .i64 (v13+1),vopen,()));bif v17 then k (wr .i64 (n-1)) else k n;bif v14 then match qcw x with|some r15 =>bif r15==0 then k19 vopen.x0 else bif r15==1 then k19 vopen.x1 else bif r15==2 then k19 vopen.x2 else bif r15==3 then k19 vopen.x3 else bif r15==4 then k19 vopen.x4 else bif r15==5 then k19 vopen.x5 else bif r15==6 then k19 vopen.x6 else none|none =>none else k19 false;bif decide (vfrom≤x) then k20 (decide (x≤vto)) else k20 false|none =>none else some (.inr ((n,())))
def qac (c:Calendar) (vfrom:Int) (vto:Int):Option Int:=
 bif decide ((if 109572<vto then 109572 else vto)<(if vfrom<0 then 0 else vfrom)) then some 0 else match qam c with|some r1 =>(match zai zabf ((if vfrom<0 then 0 else vfrom),(if 109572<vto then 109572 else vto),0,r1,0,c,r1,()) with|some ((vfrom9,vto10,n,c11,vopen,_)) =>(match zai z03 (vfrom9,vto10,n,c11.Closed,(c11.Closed.length:Int),0,vopen,()) with|some ((n21,_)) =>some n21|none =>none)|none =>none)|none =>none
def qfb (r:Rule) (c:Calendar) (due:Int) (back:Int):Option Int:=
 match qs c with|some r2 =>(let k10 (v:Bool):Option Int:=let k (v7:Bool):Option Int:=bif v7 then some 0 else match qac c (wr .i64 (due+1)) back with|some r9 =>bif decide (r9≤r.Grace) then some 0 else some (if r.MaxFine<wr .i64 (r9*r.Fine) then r.MaxFine else wr .i64 (r9*r.Fine))|none =>none;bif v then k true else match qd2 back with|some r6 =>k (!r6)|none =>none;bif !(r2==0) then k10 true else match qd2 due with|some r4 =>k10 (!r4)|none =>none)|none =>none
def qc5 (l:List Charge) (c:Charge):Option ((List Charge)×Int):=
 bif decide (l.length≤LIM) then bif decide (l.length+([c]:List Charge).length≤LIM) then match qa6 (l++([c]:List Charge)) with|some r1 =>bif !(r1==0) then some ([],r1) else some (l++([c]:List Charge),0)|none =>none else none else none
def qe1 (vid:Int) (item:Int) (kind:Int) (amount:Int) (d:Circ_desk):Option (Unit×Circ_desk):=
 bif !(d.err==0) then some ((),d) else bif decide (99999<d.c.NextCharge) then match qq 13 d with|some (_,v) =>some ((),v)|none =>none else match qc5 d.c.Charges (⟨d.c.NextCharge,vid,item,d.c.Today,kind,amount,0⟩:Charge) with|some (r2,r3) =>bif !(r3==0) then match qq r3 d with|some (_,v5) =>some ((),v5)|none =>none else some ((),(⟨⟨d.c.Today,d.c.Items,d.c.Patrons,d.c.Loans,d.c.Holds,r2,d.c.Rules,d.c.Cals,d.c.Moves,d.c.NextHold,wr .i64 (d.c.NextCharge+1),d.c.Local⟩,d.err⟩:Circ_desk))|none =>none
def qcu (x:Charge) (v:Int) (v1:Int) (v2:Int):Option Bool:=
 let k6 (v3:Bool):Option Bool:=let k (v5:Bool):Option Bool:=some v5;bif v3 then bif v2==0 then k true else k (x.Kind==v2) else k false;bif x.Patron==v then k6 (x.Item==v1) else k6 false
def zabi {γ0:Type} (p:γ0→Charge→Option Bool):(γ0×Int×Int×(List Charge)×Int×Int×(List Charge)×Unit)→Option ((γ0×Int×Int×(List Charge)×Int×Int×(List Charge)×Unit)⊕((Int×Int×(List Charge)×Unit))):=fun (g,paid,n,v,v1,v2,l,_)=>
 bif decide (v2<v1) then match getI v v2 with|some x =>(match p g x with|some r =>bif r then some (.inl (g,wr .i64 (paid+x.Paid),wr .i64 (n+1),v,v1,wr .i64 (v2+1),l,())) else bif decide (l.length+([x]:List Charge).length≤LIM) then some (.inl (g,paid,n,v,v1,wr .i64 (v2+1),l++([x]:List Charge),())) else none|none =>none)|none =>none else some (.inr ((paid,n,l,())))
def qan {γ0:Type} (p:γ0→Charge→Option Bool) (l:List Charge) (g:γ0):Option ((List Charge)×Int×Int):=
 match zai (zabi p) (g,0,0,l,(l.length:Int),0,([]:List Charge),()) with|some ((paid,n,l3,_)) =>some (l3,paid,n)|none =>none
def qbq (l:List Charge) (patron:Int) (item:Int) (kind:Int):Option ((List Charge)×Int):=
 match qan (fun g x0=>qcu x0 g.2.1 g.2.2.1 g.2.2.2.1) l ((),(patron,item,kind,())) with|some (r1,r2,r3) =>some (r1,r2)|none =>none
def qez (i:Int) (branch:Int) (d:Circ_desk):Option (Unit×Circ_desk):=
 match getI d.c.Items i with|some x =>(match qa9 i 4 branch 0 d with|some (_,v) =>(bif !(v.err==0) then some ((),v) else match qei v.c.Loans x.ID with|some (r2,r3,r4) =>(match qb6 r2 r4 v with|some (_,v6) =>(match qby v6.c r3.Patron x with|some (r8,r9) =>let k (v17:Circ_desk):Option (Unit×Circ_desk):=match qbq v17.c.Charges r3.Patron x.ID 2 with|some (r19,r20) =>some ((),(⟨⟨v17.c.Today,v17.c.Items,v17.c.Patrons,v17.c.Loans,v17.c.Holds,r19,v17.c.Rules,v17.c.Cals,v17.c.Moves,v17.c.NextHold,v17.c.NextCharge,v17.c.Local⟩,v17.err⟩:Circ_desk))|none =>none;bif r9 then match qca v6.c branch with|some r11 =>(match qfb r8 r11 r3.Due v6.c.Today with|some r13 =>bif !(r13==0) then match qe1 r3.Patron x.ID 1 r13 v6 with|some (_,v15) =>k v15|none =>none else k v6|none =>none)|none =>none else k v6|none =>none)|none =>none)|none =>none)|none =>none)|none =>none
def qew (c:Circ) (item:Int) (branch:Int):Option (Circ×Int×Int):=
 match qbz c with|some d =>(match qdb item d with|some (r2,v) =>(bif decide (r2<0) then match qa7 0 v with|some ((r4,r5,r6),v7) =>some (r4,r5,r6)|none =>none else match getI c.Items r2 with|some x =>let k43 (v9:Bool):Option (Circ×Int×Int):=let k42 (v23:Circ_desk):Option (Circ×Int×Int):=match qa4 v23.c item with|some (r25,r26) =>let k41 (v27:Bool):Option (Circ×Int×Int):=let k (v32:Circ_desk):Option (Circ×Int×Int):=match qa4 v32.c item with|some (r34,r35) =>(match qa7 r34.ID v32 with|some ((r37,r38,r39),v40) =>some (r37,r38,r39)|none =>none)|none =>none;bif v27 then match qc9 r2 r25 v23 with|some (_,v29) =>k v29|none =>none else match qcn r2 v23 with|some (_,v31) =>k v31|none =>none;bif r26 then k41 (r25.State==2) else k41 false|none =>none;bif v9 then match qez r2 branch v with|some (_,v11) =>k42 v11|none =>none else bif x.Custody.State==8 then match qa9 r2 4 branch 0 v with|some (_,v13) =>k42 v13|none =>none else bif x.Custody.State==11 then match qa9 r2 14 branch 0 v with|some (_,v15) =>k42 v15|none =>none else bif x.Custody.State==6 then match qa9 r2 7 branch 0 v with|some (_,v17) =>k42 v17|none =>none else match qq 12 v with|some (_,v19) =>k42 v19|none =>none;bif x.Custody.State==4 then k43 (x.Custody.State==4) else bif x.Custody.State==9 then k43 (x.Custody.State==9) else k43 (x.Custody.State==10)|none =>none)|none =>none)|none =>none
def qdz:Option Bool:=
 match qdx with|some r1 =>(match qcy r1 1 1 with|some (r3,r4) =>let k85 (v:Bool):Option Bool:=let k84 (v5:Bool):Option Bool:=bif v5 then some false else match qbi r3 1 7 1 with|some (r7,r8,r9) =>(match qbi r7 1 8 1 with|some (r11,r12,r13) =>let k83 (v14:Bool):Option Bool:=let k82 (v15:Bool):Option Bool:=bif v15 then some false else match qej r7 8 5 0 1 with|some (r17,r18,r19) =>(match qbs r17 1 with|some (r21,r22,r23) =>(match qe7 r17 r18 with|some (r25,r26,r27) =>let k81 (v28:Bool):Option Bool:=let k80 (v29:Bool):Option Bool:=let k79 (v30:Bool):Option Bool:=let k78 (v31:Bool):Option Bool:=let k77 (v32:Bool):Option Bool:=let k76 (v34:Bool):Option Bool:=bif v34 then some false else match qew r25 1 1 with|some (r36,r37,r38) =>(match qbi r36 1 7 1 with|some (r40,r41,r42) =>(match qbi r36 1 8 1 with|some (r44,r45,r46) =>let k75 (v47:Bool):Option Bool:=let k74 (v48:Bool):Option Bool:=let k73 (v50:Bool):Option Bool:=let k72 (v51:Bool):Option Bool:=let k71 (v52:Bool):Option Bool:=let k70 (v53:Bool):Option Bool:=let k69 (v56:Bool):Option Bool:=bif v56 then some false else match qew (⟨116,r7.Items,r7.Patrons,r7.Loans,r7.Holds,r7.Charges,r7.Rules,r7.Cals,r7.Moves,r7.NextHold,r7.NextCharge,r7.Local⟩:Circ) 1 1 with|some (r58,r59,r60) =>let k68 (v61:Bool):Option Bool:=let k67 (v64:Bool):Option Bool:=let k (v66:Bool):Option Bool:=some v66;bif v64 then match getI r58.Items 0 with|some x65 =>k (x65.Custody.State==3)|none =>none else k false;bif v61 then match qaf r58.Charges 7 with|some r63 =>k67 (r63==20)|none =>none else k67 false;bif r60==0 then k68 (r59==0) else k68 false|none =>none;bif v53 then k69 true else match qeh r44 with|some r55 =>k69 (!r55)|none =>none;bif v52 then k70 true else k70 (!((r44.Holds.length:Int)==0));bif v51 then k71 true else k71 (!(r46==0));bif v50 then k72 true else k72 (!(r42==16));bif v48 then k73 true else match getI r36.Holds 0 with|some x49 =>k73 (!(x49.Until==105))|none =>none;bif v47 then k74 true else k74 (!((r36.Holds.length:Int)==1));bif !(r38==0) then k75 true else k75 (!(r37==1))|none =>none)|none =>none)|none =>none;bif v32 then k76 true else match getI r25.Loans 0 with|some x33 =>k76 (!(x33.Due==107))|none =>none;bif v31 then k77 true else k77 (!((r25.Loans.length:Int)==1));bif v30 then k78 true else k78 (!(r26==1));bif v29 then k79 true else k79 (!(r27==0));bif v28 then k80 true else k80 (!(r23==16));bif !(r19==0) then k81 true else k81 (!(r18==1))|none =>none)|none =>none)|none =>none;bif v14 then k82 true else k82 (!(r13==12));bif !(r9==0) then k83 true else k83 (!(r8==114))|none =>none)|none =>none;bif v then k84 true else match getI r3.Items 0 with|some x =>k84 (!(x.Custody.State==3))|none =>none;bif !(r4==0) then k85 true else k85 (!((r3.Items.length:Int)==1))|none =>none)|none =>none
def zon:(Int×Int×(List Charge)×Int×Int×(List Charge)×Unit)→Option ((Int×Int×(List Charge)×Int×Int×(List Charge)×Unit)⊕((Int×(List Charge)×Unit))):=fun (patron,rest,v,v1,v2,l,_)=>
 bif decide (v2<v1) then match getI v v2 with|some x =>let k (rest3:Int) (x4:Int):Option ((Int×Int×(List Charge)×Int×Int×(List Charge)×Unit)⊕((Int×(List Charge)×Unit))):=bif decide (x4<x.Amount) then bif decide (l.length+([(⟨x.ID,x.Patron,x.Item,x.Day,x.Kind,x.Amount,x4⟩:Charge)]:List Charge).length≤LIM) then some (.inl (patron,rest3,v,v1,wr .i64 (v2+1),l++([(⟨x.ID,x.Patron,x.Item,x.Day,x.Kind,x.Amount,x4⟩:Charge)]:List Charge),())) else none else some (.inl (patron,rest3,v,v1,wr .i64 (v2+1),l,()));bif x.Patron==patron then k (wr .i64 (rest-(if wr .i64 (x.Amount-x.Paid)<rest then wr .i64 (x.Amount-x.Paid) else rest))) (wr .i64 (x.Paid+(if wr .i64 (x.Amount-x.Paid)<rest then wr .i64 (x.Amount-x.Paid) else rest))) else k rest x.Paid|none =>none else some (.inr ((rest,l,())))
def qbe (l:List Charge) (patron:Int) (amount:Int):Option ((List Charge)×Int×Int):=
 let k (v:Bool):Option ((List Charge)×Int×Int):=bif v then some ([],0,1) else match zai zon (patron,amount,l,(l.length:Int),0,([]:List Charge),()) with|some ((rest,l5,_)) =>some (l5,rest,0)|none =>none;bif decide (amount<1) then k true else k (decide (100000000<amount))
def qex (c:Circ) (vid:Int) (amount:Int):Option (Circ×Int×Int):=
 match qb3 c.Patrons vid with|some (r1,r2) =>(bif !r2 then some ((⟨0,[],[],[],[],[],[],⟨⟨0,[]⟩,⟨0,[]⟩,⟨0,[]⟩,⟨0,[]⟩⟩,[],0,0,false⟩:Circ),0,9) else match qbe c.Charges vid amount with|some (r4,r5,r6) =>bif !(r6==0) then some ((⟨0,[],[],[],[],[],[],⟨⟨0,[]⟩,⟨0,[]⟩,⟨0,[]⟩,⟨0,[]⟩⟩,[],0,0,false⟩:Circ),0,r6) else some ((⟨c.Today,c.Items,c.Patrons,c.Loans,c.Holds,r4,c.Rules,c.Cals,c.Moves,c.NextHold,c.NextCharge,c.Local⟩:Circ),r5,0)|none =>none)|none =>none
def zkp:(Int×Int×Int×Int×Circ×Circ×Unit)→Option ((Int×Int×Int×Int×Circ×Circ×Unit)⊕((Int×Int×Int×Circ×Unit)⊕(Bool×Unit))):=fun (patron,amount,rest,i,c,x,_)=>
 bif decide (i<(c.Patrons.length:Int)) then match getI c.Patrons i with|some x11 =>(match qaf c.Charges x11.ID with|some r12 =>let k (want:Int):Option ((Int×Int×Int×Int×Circ×Circ×Unit)⊕((Int×Int×Int×Circ×Unit)⊕(Bool×Unit))):=match qaf x.Charges x11.ID with|some r14 =>bif !(r14==want) then some (.inr (.inr (false,()))) else some (.inl (patron,amount,rest,wr .i64 (i+1),c,x,()))|none =>none;bif x11.ID==patron then k (wr .i64 ((wr .i64 (r12-amount))+rest)) else k r12|none =>none)|none =>none else some (.inr (.inl (patron,amount,rest,x,())))
def qau (c:Circ) (patron:Int) (amount:Int):Option Bool:=
 match qev c with|some r1 =>(bif !r1 then match qdz with|some r3 =>some r3|none =>none else match qex c patron amount with|some (r5,r6,r7) =>(let k (v10:Bool):Option Bool:=some v10;bif !(r7==0) then match qdz with|some r9 =>bif r9 then k (r6==0) else k false|none =>none else match zai zkp (patron,amount,r6,0,c,r5,()) with|some (.inl (patron15,amount16,rest,x,_)) =>(match qdz with|some r18 =>let k27 (v19:Bool):Option Bool:=let k26 (v20:Bool):Option Bool:=let k25 (v24:Bool):Option Bool:=some v24;bif v20 then bif rest==0 then k25 true else match qaf x.Charges patron15 with|some r22 =>k25 (r22==0)|none =>none else k25 false;bif v19 then k26 (decide (rest≤amount16)) else k26 false;bif r18 then k27 (decide (0≤rest)) else k27 false|none =>none)|some (.inr (v28,_)) =>some v28|none =>none)|none =>none)|none =>none
end Go.Proofs.YtdahfgialanmpaaGreatDoor
namespace Go.Proofs.YtdahfgialanmpaaGreatDoor
set_option maxRecDepth 100000
open Ev
open Go (IntKind)
open Go
theorem zmv:CCOk zax:=CCOk.iso (CCOk.cons (zah.int _) (CCOk.cons (zah.int _) (CCOk.cons (zah.int _) (CCOk.cons (zah.int _) CCOk.nil)))) (fun _=>rfl)
theorem zmx:CCOk za0:=CCOk.iso (CCOk.cons (zah.int _) (CCOk.cons (zah.int _) (CCOk.cons (zah.int _) (CCOk.cons (zah.int _) (CCOk.cons (zah.int _) (CCOk.cons zah.str (CCOk.cons (zah.int _) (CCOk.cons (zah.int _) (CCOk.cons (zah.int _) (CCOk.cons (zah.int _) CCOk.nil)))))))))) (fun _=>rfl)
theorem zhq:CCOk za8:=CCOk.iso (CCOk.cons (zah.int _) (CCOk.cons (zah.int _) (CCOk.cons (zah.int _) (CCOk.cons (zah.int _) (CCOk.cons zah.bool (CCOk.cons zah.str CCOk.nil)))))) (fun _=>rfl)
theorem zmy:CCOk zbs:=CCOk.iso (CCOk.cons (zah.int _) (CCOk.cons (zah.int _) (CCOk.cons (zah.int _) (CCOk.cons (zah.int _) (CCOk.cons (zah.int _) (CCOk.cons zah.bool CCOk.nil)))))) (fun _=>rfl)
theorem zmw:CCOk za2:=CCOk.iso (CCOk.cons (zah.int _) (CCOk.cons (zah.int _) (CCOk.cons (zah.int _) (CCOk.cons (zah.int _) (CCOk.cons (zah.int _) (CCOk.cons (zah.int _) (CCOk.cons (zah.int _) (CCOk.cons (zah.int _) (CCOk.cons (zah.int _) (CCOk.cons (zah.int _) (CCOk.cons (zah.int _) CCOk.nil))))))))))) (fun _=>rfl)
theorem zhp:CCOk zc9:=CCOk.iso (CCOk.cons (zah.int _) (CCOk.cons (zah.int _) (CCOk.cons (zah.int _) (CCOk.cons (zah.int _) (CCOk.cons (zah.int _) (CCOk.cons (zah.int _) (CCOk.cons (zah.int _) CCOk.nil))))))) (fun _=>rfl)
theorem zm0:CCOk zck:=CCOk.iso (CCOk.cons (zah.int _) (CCOk.cons (zah.int _) (CCOk.cons (zah.int _) (CCOk.cons (zah.int _) (CCOk.cons (zah.int _) (CCOk.cons (zah.int _) (CCOk.cons (zah.int _) (CCOk.cons (zah.int _) (CCOk.cons (zah.int _) (CCOk.cons (zah.int _) (CCOk.cons (zah.int _) (CCOk.cons (zah.int _) (CCOk.cons (zah.int _) CCOk.nil))))))))))))) (fun _=>rfl)
theorem zla:CCOk zav:=CCOk.iso (CCOk.cons (zah.int _) (CCOk.cons (zah.lst _) CCOk.nil)) (fun _=>rfl)
theorem zmz:CCOk zfy:=CCOk.iso (CCOk.cons (zah.int _) (CCOk.cons (zah.int _) (CCOk.cons (zah.int _) (CCOk.cons (zah.int _) (CCOk.cons (zah.int _) CCOk.nil))))) (fun _=>rfl)
theorem zxj:CCOk zan:=CCOk.iso (CCOk.cons (zah.int _) (CCOk.cons (zah.lst _) (CCOk.cons (zah.lst _) (CCOk.cons (zah.lst _) (CCOk.cons (zah.lst _) (CCOk.cons (zah.lst _) (CCOk.cons (zah.lst _) (CCOk.cons (zah.int _) (CCOk.cons (zah.lst _) (CCOk.cons (zah.int _) (CCOk.cons (zah.lst _) (CCOk.cons (zah.int _) (CCOk.cons (zah.lst _) (CCOk.cons (zah.int _) (CCOk.cons (zah.lst _) (CCOk.cons (zah.lst _) (CCOk.cons (zah.int _) (CCOk.cons (zah.int _) (CCOk.cons zah.bool CCOk.nil))))))))))))))))))) (fun _=>rfl)
theorem zjg:CCOk zar:=CCOk.iso (CCOk.cons (zah.int _) (CCOk.cons (zah.lst _) (CCOk.cons (zah.lst _) (CCOk.cons (zah.lst _) (CCOk.cons (zah.lst _) (CCOk.cons (zah.lst _) (CCOk.cons (zah.lst _) (CCOk.cons (zah.int _) (CCOk.cons (zah.lst _) (CCOk.cons (zah.int _) (CCOk.cons (zah.lst _) (CCOk.cons (zah.int _) (CCOk.cons (zah.lst _) (CCOk.cons (zah.int _) (CCOk.cons (zah.lst _) (CCOk.cons (zah.lst _) (CCOk.cons (zah.int _) (CCOk.cons (zah.int _) (CCOk.cons zah.bool (CCOk.cons (zah.int _) CCOk.nil)))))))))))))))))))) (fun _=>rfl)
theorem zcu:CCOk zb4:=CCOk.iso (CCOk.cons (zah.int _) (CCOk.cons (zah.int _) CCOk.nil)) (fun _=>rfl)
theorem zgr:CCOk zdm:=CCOk.iso (CCOk.cons (zah.int _) (CCOk.cons (zah.lst _) (CCOk.cons (zah.int _) (CCOk.cons (zah.lst _) (CCOk.cons (zah.int _) (CCOk.cons (zah.lst _) (CCOk.cons (zah.int _) (CCOk.cons (zah.lst _) CCOk.nil)))))))) (fun _=>rfl)
theorem zm1:CCOk zbj:=CCOk.iso (CCOk.cons zah.bool (CCOk.cons zah.bool (CCOk.cons zah.bool (CCOk.cons zah.bool (CCOk.cons zah.bool (CCOk.cons zah.bool (CCOk.cons zah.bool CCOk.nil))))))) (fun _=>rfl)
instance:CCC zax:=⟨zmv⟩
instance:CCC za0:=⟨zmx⟩
instance:CCC za8:=⟨zhq⟩
instance:CCC zbs:=⟨zmy⟩
instance:CCC za2:=⟨zmw⟩
instance:CCC zc9:=⟨zhp⟩
instance:CCC zck:=⟨zm0⟩
instance:CCC zav:=⟨zla⟩
instance:CCC zfy:=⟨zmz⟩
instance:CCC zan:=⟨zxj⟩
instance:CCC zar:=⟨zjg⟩
instance:CCC zb4:=⟨zcu⟩
instance:CCC zdm:=⟨zgr⟩
instance:CCC zbj:=⟨zm1⟩
end Go.Proofs.YtdahfgialanmpaaGreatDoor
namespace Go.Proofs.YtdahfgialanmpaaGreatDoor
set_option maxRecDepth 100000
open Ev
open Go (IntKind)
abbrev zfw:ZC (Circ×Unit):=Zc (Cod.agg zan) Zn
abbrev zau:ZD (Bool):=Zb
abbrev zara {R:Type}:Sm R:=semP zfw zau (fun a=>qa a.1)
def zadh {R:Type}:Nat→Sm R:=c0
abbrev zzi:=mkld [] [] [1,3] [1] [] (Zp 1 1 (Zs 3 Zi (Zx 1 zan Zz))) zvp (.xs 0 [1] [1] [] (Zp 1 1 (Zx 1 zan Zz)) (.r [2] [] [] (Zs 2 Zb Zz)))
abbrev zzj:=mkld [] [] [1,4] [1] [] (Zp 1 1 (Zs 4 Zi (Zx 1 zan Zz))) zvq (.xs 2 [1] [1] [] (Zp 1 1 (Zx 1 zan Zz)) (.r [2] [] [] (Zs 2 Zb Zz)))
abbrev zr3:=mkld [] [] [1,5] [1] [] (Zp 1 1 (Zs 5 Zi (Zx 1 zan Zz))) zgl (.xs 4 [] [] [] Zz (.r [2] [] [] (Zs 2 Zb Zz)))
def zg5 {R:Type}:Lp Kd El R:=lp 14 zr3.sem (lp 9 zzj.sem (lp 4 zzi.sem l0))
abbrev z8r:ZC ((List UInt8)×Int×Unit):=Zc Cod.str (Zc Zi Zn)
abbrev zix:ZD (Int×Int):=(Cod.tup2 (Zc Zi (Zc Zi Zn)))
abbrev zqr {R:Type}:Sm R:=semP z8r zix (fun a=>qbh a.1 a.2.1)
abbrev zq1:ZC ((List UInt8)×Unit):=Zc Cod.str Zn
abbrev zqp {R:Type}:Sm R:=semP zq1 zau (fun a=>qae a.1)
def z4q {R:Type}:Nat→Sm R:=cl 258 zqr c0
abbrev zr7:=mkld [] [] [0,3] [] [] (Zs 0 Cod.str (Zs 3 Zi Zz)) zki (.xs 0 [] [] [] Zz (.r [2] [] [] (Zs 2 Zb Zz)))
def znv {R:Type}:Lp Kd El R:=lp 2 zr7.sem l0
abbrev za6:ZD (Int):=Zi
abbrev zact {R:Type}:Sm R:=semP z8r za6 (fun a=>qe a.1 a.2.1)
abbrev zby:ZC (Int×Unit):=Zc Zi Zn
abbrev z1q {R:Type}:Sm R:=semP zby zau (fun a=>qag a.1)
abbrev zab6:ZD ((List UInt8)):=Cod.str
abbrev z1y {R:Type}:Sm R:=semP zq1 zab6 (fun a=>qay a.1)
def z49 {R:Type}:Nat→Sm R:=cl 258 zqr (cl 259 zact (cl 260 z1q c0))
abbrev zso:=mkld [] [] [0,3,4,5] [] [] (Zs 0 Cod.str (Zs 3 Cod.str (Zs 4 Zb (Zs 5 Zi Zz)))) zkq (.x 0 [3] [] [] (Zs 3 Cod.str Zz))
def zoc {R:Type}:Lp Kd El R:=lp 4 zso.sem l0
abbrev zq3:ZC ((List Patron)×Unit):=Zc (Zl .kPatron) Zn
abbrev z1t {R:Type}:Sm R:=semP zq3 za6 (fun a=>qal a.1)
def z4w {R:Type}:Nat→Sm R:=cl 174 zqp (cl 175 z1y c0)
abbrev zsd:=mkld [] [] [0,3] [] [] (Zs 0 (Zl .kPatron) (Zs 3 Zi Zz)) ziq (.xs 0 [] [] [] Zz (.r [2] [] [] (Zs 2 Zi Zz)))
def zn1 {R:Type}:Lp Kd El R:=lp 4 zsd.sem l0
abbrev zq2:ZC ((List Loan)×Unit):=Zc (Zl .kLoan) Zn
abbrev z1s {R:Type}:Sm R:=semP zq2 za6 (fun a=>qak a.1)
def z4v {R:Type}:Nat→Sm R:=c0
abbrev zsc:=mkld [] [] [0,3] [] [] (Zs 0 (Zl .kLoan) (Zs 3 Zi Zz)) zip (.xs 0 [] [] [] Zz (.r [2] [] [] (Zs 2 Zi Zz)))
def zn0 {R:Type}:Lp Kd El R:=lp 4 zsc.sem l0
abbrev zalg {R:Type}:Sm R:=semP zby zau (fun a=>qd4 a.1)
abbrev zame {R:Type}:Sm R:=semP zby zau (fun a=>qel a.1)
abbrev z8w:ZC (Hold×Unit):=Zc (Cod.agg za2) Zn
abbrev z28 {R:Type}:Sm R:=semP z8w za6 (fun a=>qdg a.1)
abbrev zac7:ZC ((List Hold)×Unit):=Zc (Zl .kHold) Zn
abbrev zacx {R:Type}:Sm R:=semP zac7 za6 (fun a=>qk a.1)
def zadq {R:Type}:Nat→Sm R:=cl 176 z28 c0
abbrev zzv:=mkld [] [] [0,3] [] [] (Zs 0 (Zl .kHold) (Zs 3 Zi Zz)) zqf (.xs 0 [0] [] [] (Zs 0 (Zl .kHold) Zz) (.r [2] [] [] (Zs 2 Zi Zz)))
abbrev zsz:=mkld [] [] [0,5,6] [] [] (Zs 0 (Zl .kHold) (Zs 5 Zi (Zs 6 Zi Zz))) ziu (.xs 4 [0,5] [] [] (Zs 0 (Zl .kHold) (Zs 5 Zi Zz)) (.r [2] [] [] (Zs 2 Zi Zz)))
abbrev zsy:=mkld [] [] [0,5] [] [] (Zs 0 (Zl .kHold) (Zs 5 Zi Zz)) zks (.xs 2 [] [] [] Zz (.r [2] [] [] (Zs 2 Zi Zz)))
def zg7 {R:Type}:Lp Kd El R:=lp 12 zsy.sem (lp 15 zsz.sem (lp 4 zzv.sem l0))
abbrev z3p {R:Type}:Sm R:=semP zby zau (fun a=>qey a.1)
abbrev z8p:ZC ((List Charge)×Unit):=Zc (Zl .kCharge) Zn
abbrev z1x {R:Type}:Sm R:=semP z8p za6 (fun a=>qax a.1)
def z48 {R:Type}:Nat→Sm R:=cl 177 z3p c0
abbrev zsn:=mkld [] [] [0,3] [] [] (Zs 0 (Zl .kCharge) (Zs 3 Zi Zz)) zir (.xs 0 [] [] [] Zz (.r [2] [] [] (Zs 2 Zi Zz)))
def zob {R:Type}:Lp Kd El R:=lp 4 zsn.sem l0
abbrev zmk:ZC (Int×Int×Int×Unit):=Zc Zi (Zc Zi (Zc Zi Zn))
abbrev zaki {R:Type}:Sm R:=semP zmk zau (fun a=>qbb a.1 a.2.1 a.2.2.1)
abbrev zwm:ZC (Rule×Unit):=Zc (Cod.agg zck) Zn
abbrev z2t {R:Type}:Sm R:=semP zwm zau (fun a=>qct a.1)
abbrev zan8:ZC ((List Rule)×Unit):=Zc (Zl .kRule) Zn
abbrev zacw {R:Type}:Sm R:=semP zan8 za6 (fun a=>qj a.1)
def zadp {R:Type}:Nat→Sm R:=cl 178 z2t c0
abbrev zzu:=mkld [] [] [0,3,4] [] [] (Zs 0 (Zl .kRule) (Zs 3 Zi (Zs 4 Zi Zz))) zqe (.xs 2 [0,3] [] [] (Zs 0 (Zl .kRule) (Zs 3 Zi Zz)) (.r [2] [] [] (Zs 2 Zi Zz)))
abbrev zzt:=mkld [] [] [0,3] [] [] (Zs 0 (Zl .kRule) (Zs 3 Zi Zz)) zvw (.xs 0 [] [] [] Zz (.r [2] [] [] (Zs 2 Zi Zz)))
def zl4 {R:Type}:Lp Kd El R:=lp 4 zzt.sem (lp 9 zzu.sem l0)
abbrev zac8:ZC (Calendar×Unit):=Zc (Cod.agg zav) Zn
abbrev zac1 {R:Type}:Sm R:=semP zac8 za6 (fun a=>qu a.1)
def zadz {R:Type}:Nat→Sm R:=c0
abbrev zz7:=mkld [] [] [1,3] [1] [] (Zp 1 1 (Zs 3 Zi (Zx 1 zav Zz))) zqh (.xs 0 [1] [1] [] (Zp 1 1 (Zx 1 zav Zz)) (.r [2] [] [] (Zs 2 Zi Zz)))
abbrev zs5:=mkld [] [] [1,4] [1] [] (Zp 1 1 (Zs 4 Zi (Zx 1 zav Zz))) ziv (.xs 2 [] [] [] Zz (.r [2] [] [] (Zs 2 Zi Zz)))
def zl6 {R:Type}:Lp Kd El R:=lp 11 zs5.sem (lp 6 zz7.sem l0)
abbrev zq5:ZC ((List Patron)×Int×Unit):=Zc (Zl .kPatron) (Zc Zi Zn)
abbrev zaj9 {R:Type}:Sm R:=semP zq5 za6 (fun a=>qar a.1 a.2.1)
def z42 {R:Type}:Nat→Sm R:=c0
abbrev zsi:=mkld [] [] [0,1,5] [] [] (Zs 0 (Zl .kPatron) (Zs 1 Zi (Zs 5 Zi Zz))) zko (.xs 0 [] [] [] Zz (.r [4] [] [] (Zs 4 Zi Zz)))
def zn6 {R:Type}:Lp Kd El R:=lp 2 zsi.sem l0
abbrev zab7:ZD (Patron×Bool):=(Cod.tup2 (Zc (Cod.agg za8) (Zc Zb Zn)))
abbrev zmf {R:Type}:Sm R:=semP zq5 zab7 (fun a=>qb4 a.1 a.2.1)
abbrev zacg:ZD (Custody):=(Cod.agg zax)
abbrev z29 {R:Type}:Sm R:=semP zby zacg (fun a=>qdh a.1)
abbrev zalx {R:Type}:Sm R:=semP zby zau (fun a=>qe4 a.1)
abbrev zwp:ZC (Custody×Unit):=Zc (Cod.agg zax) Zn
abbrev zaln {R:Type}:Sm R:=semP zwp zau (fun a=>qdi a.1)
abbrev zan3:ZC (Move×Unit):=Zc (Cod.agg zfy) Zn
abbrev zal7 {R:Type}:Sm R:=semP zan3 zau (fun a=>qee a.1)
abbrev zacf:ZD ((List Int)):=(Zl .ki64)
abbrev z27 {R:Type}:Sm R:=semP zby zacf (fun a=>qdf a.1)
abbrev zmj:ZC (Int×Int×Unit):=Zc Zi (Zc Zi Zn)
abbrev zaj5 {R:Type}:Sm R:=semP zmj zau (fun a=>qaj a.1 a.2.1)
def z4u {R:Type}:Nat→Sm R:=cl 307 z27 c0
abbrev zsb:=mkld [] [] [0,5,6] [] [] (Zs 0 Zi (Zs 5 (Zl .ki64) (Zs 6 Zi Zz))) zkm (.xs 0 [] [] [] Zz (.r [4] [] [] (Zs 4 Zb Zz)))
def znz {R:Type}:Lp Kd El R:=lp 3 zsb.sem l0
abbrev zq8:ZC (Custody×Move×Unit):=Zc (Cod.agg zax) (Zc (Cod.agg zfy) Zn)
abbrev zak1 {R:Type}:Sm R:=semP zq8 zau (fun a=>qc4 a.1 a.2.1)
abbrev zamk {R:Type}:Sm R:=semP zby za6 (fun a=>qfa a.1)
abbrev ztp:ZD (Custody×Int):=(Cod.tup2 (Zc (Cod.agg zax) (Zc Zi Zn)))
abbrev z2m {R:Type}:Sm R:=semP zq8 ztp (fun a=>qck a.1 a.2.1)
abbrev z8m:ZC (Int×(List Move)×Int×Unit):=Zc Zi (Zc (Zl .kMove) (Zc Zi Zn))
abbrev zab3:ZD (Custody×Int×Int):=(Cod.tup3 (Zc (Cod.agg zax) (Zc Zi (Zc Zi Zn))))
abbrev z1r {R:Type}:Sm R:=semP z8m zab3 (fun a=>qah a.1 a.2.1 a.2.2.1)
def z4s {R:Type}:Nat→Sm R:=cl 85 z29 (cl 200 z2m c0)
abbrev zr9:=mkld [] [] [1,2,6,9,10] [6,9] [] (Zs 1 (Zl .kMove) (Zs 2 Zi (Zp 6 6 (Zp 9 9 (Zs 10 Zi (Zx 6 zax (Zx 9 zax Zz))))))) zkk (.xs 0 [6,9] [6,9] [] (Zp 6 6 (Zp 9 9 (Zx 6 zax (Zx 9 zax Zz)))) (.r [7,8] [6] [6] (Zp 6 6 (Zs 7 Zi (Zs 8 Zi (Zx 6 zax Zz))))))
def znx {R:Type}:Lp Kd El R:=lp 5 zr9.sem l0
abbrev zo2:ZC (Circ×Int×Unit):=Zc (Cod.agg zan) (Zc Zi Zn)
abbrev ztt {R:Type}:Sm R:=semP zo2 za6 (fun a=>qv a.1 a.2.1)
def zad0 {R:Type}:Nat→Sm R:=c0
abbrev zz8:=mkld [] [] [1,2,5] [2] [] (Zs 1 Zi (Zp 2 2 (Zs 5 Zi (Zx 2 zan Zz)))) zv0 (.xs 0 [] [] [] Zz (.r [4] [] [] (Zs 4 Zi Zz)))
def ztj {R:Type}:Lp Kd El R:=lp 2 zz8.sem l0
abbrev zacq {R:Type}:Sm R:=semP zfw zau (fun a=>q8 a.1)
def zadf {R:Type}:Nat→Sm R:=cl 84 ztt (cl 174 zqp (cl 180 z1r c0))
abbrev zzg:=mkld [] [] [1,3] [1] [] (Zp 1 1 (Zs 3 Zi (Zx 1 zan Zz))) zqa (.xs 0 [1] [1] [] (Zp 1 1 (Zx 1 zan Zz)) (.r [2] [] [] (Zs 2 Zb Zz)))
abbrev zru:=mkld [] [] [1,8] [1] [] (Zp 1 1 (Zs 8 Zi (Zx 1 zan Zz))) zio (.xs 2 [] [] [] Zz (.r [2] [] [] (Zs 2 Zb Zz)))
def zl1 {R:Type}:Lp Kd El R:=lp 15 zru.sem (lp 4 zzg.sem l0)
abbrev z23 {R:Type}:Sm R:=semP zwp zau (fun a=>qd7 a.1)
abbrev zjs:ZC ((List Loan)×Int×Unit):=Zc (Zl .kLoan) (Zc Zi Zn)
abbrev zaj4 {R:Type}:Sm R:=semP zjs za6 (fun a=>qai a.1 a.2.1)
def z4t {R:Type}:Nat→Sm R:=c0
abbrev zsa:=mkld [] [] [0,1,5] [] [] (Zs 0 (Zl .kLoan) (Zs 1 Zi (Zs 5 Zi Zz))) zkl (.xs 0 [] [] [] Zz (.r [4] [] [] (Zs 4 Zi Zz)))
def zny {R:Type}:Lp Kd El R:=lp 2 zsa.sem l0
abbrev zach:ZD (Loan×Bool):=(Cod.tup2 (Zc (Cod.agg zbs) (Zc Zb Zn)))
abbrev z3a {R:Type}:Sm R:=semP zjs zach (fun a=>qdj a.1 a.2.1)
abbrev zac2 {R:Type}:Sm R:=semP zfw zau (fun a=>qz a.1)
def zad2 {R:Type}:Nat→Sm R:=cl 74 zmf (cl 84 ztt (cl 111 z23 (cl 122 z3a c0)))
abbrev z0a:=mkld [] [] [1,3] [1] [] (Zp 1 1 (Zs 3 Zi (Zx 1 zan Zz))) zqi (.xs 0 [1] [1] [] (Zp 1 1 (Zx 1 zan Zz)) (.r [2] [] [] (Zs 2 Zb Zz)))
abbrev zs6:=mkld [] [] [1,8] [1] [] (Zp 1 1 (Zs 8 Zi (Zx 1 zan Zz))) zkt (.xs 2 [] [] [] Zz (.r [2] [] [] (Zs 2 Zb Zz)))
def zl7 {R:Type}:Lp Kd El R:=lp 10 zs6.sem (lp 2 z0a.sem l0)
abbrev z1d:ZD (Hold×Bool):=(Cod.tup2 (Zc (Cod.agg za2) (Zc Zb Zn)))
abbrev z1v {R:Type}:Sm R:=semP zo2 z1d (fun a=>qao a.1 a.2.1)
def z4z {R:Type}:Nat→Sm R:=c0
abbrev zsg:=mkld [] [] [1,2,4,6] [2,4] [] (Zs 1 Zi (Zp 2 2 (Zp 4 4 (Zs 6 Zi (Zx 2 zan (Zx 4 za2 Zz)))))) zkn (.xs 0 [4] [4] [] (Zp 4 4 (Zx 4 za2 Zz)) (.r [5] [4] [4] (Zp 4 4 (Zs 5 Zb (Zx 4 za2 Zz)))))
def zn4 {R:Type}:Lp Kd El R:=lp 2 zsg.sem l0
abbrev zacr {R:Type}:Sm R:=semP zfw zau (fun a=>q9 a.1)
def zadg {R:Type}:Nat→Sm R:=cl 74 zmf (cl 84 ztt (cl 105 z1v c0))
abbrev zzh:=mkld [] [] [1,3] [1] [] (Zp 1 1 (Zs 3 Zi (Zx 1 zan Zz))) zqb (.xs 0 [1] [1] [] (Zp 1 1 (Zx 1 zan Zz)) (.r [2] [] [] (Zs 2 Zb Zz)))
abbrev zrv:=mkld [] [] [1,9] [1] [] (Zp 1 1 (Zs 9 Zi (Zx 1 zan Zz))) zkh (.xs 2 [] [] [] Zz (.r [2] [] [] (Zs 2 Zb Zz)))
def zl2 {R:Type}:Lp Kd El R:=lp 18 zrv.sem (lp 2 zzh.sem l0)
abbrev zaj3 {R:Type}:Sm R:=semP zfw zau (fun a=>qad a.1)
def z4p {R:Type}:Nat→Sm R:=cl 68 z1t (cl 69 z1s (cl 70 zacx (cl 71 z1x (cl 72 zacw (cl 73 zac1 (cl 74 zmf (cl 75 zacq (cl 76 zac2 (cl 77 zacr c0)))))))))
abbrev zr6:=mkld [] [] [1,3] [1] [] (Zp 1 1 (Zs 3 Zi (Zx 1 zan Zz))) zgm (.xs 0 [1] [1] [] (Zp 1 1 (Zx 1 zan Zz)) (.r [2] [] [] (Zs 2 Zb Zz)))
abbrev znj:=mkld [] [] [1,4] [1] [] (Zp 1 1 (Zs 4 Zi (Zx 1 zan Zz))) zfa (.xs 2 [1] [1] [] (Zp 1 1 (Zx 1 zan Zz)) (.r [2] [] [] (Zs 2 Zb Zz)))
def zic {R:Type}:Lp Kd El R:=lp 11 znj.sem (lp 6 zr6.sem l0)
abbrev z3n {R:Type}:Sm R:=semP zfw zau (fun a=>qev a.1)
abbrev zace:ZD (Circ):=(Cod.agg zan)
abbrev zalf {R:Type}:Sm R:=semP zby zace (fun a=>qd3 a.1)
abbrev zanw:ZC (Item×Int×Unit):=Zc (Cod.agg za0) (Zc (Cod.cptr (CC.one Zi)) Zn)
abbrev z2y {R:Type}:Sm R:=semP zanw zau (fun a=>qcz a.1 a.2.1)
abbrev zarr:ZC ((List Item)×((Unit)×(Int×Unit))×Unit):=Zc (Zl .kItem) (Zc (Cod.fnc 181 (Zn) (Zc (Cod.cptr (CC.one Zi)) Zn)) Zn)
abbrev zarc {R:Type}:Sm R:=semP zarr za6 (fun a=>qd (fun g x0=>qcz x0 g.2.1) a.1 a.2.1)
def zadk {R:Type}:Nat→Sm R:=cl 181 z2y c0
abbrev zzn:=mkld [] [] [0,1,7,8] [] [] (Zs 0 (Zl .kItem) (Zs 1 (Cod.fnc 181 (Zn) (Zc (Cod.cptr (CC.one Zi)) Zn)) (Zs 7 Zi (Zs 8 Zi Zz)))) (z7y (fun g x0=>qcz x0 g.2.1)) (.xs 0 [] [] [] Zz (.r [4] [] [] (Zs 4 Zi Zz)))
def ztb {R:Type}:Lp Kd El R:=lp 2 zzn.sem l0
abbrev zot {R:Type}:Sm R:=semP zo2 za6 (fun a=>qx a.1 a.2.1)
abbrev z3e {R:Type}:Sm R:=semP zby zacg (fun a=>qdv a.1)
abbrev zant:ZC (Item×Item×Unit):=Zc (Cod.agg za0) (Zc (Cod.cptr za0) Zn)
abbrev z2r {R:Type}:Sm R:=semP zant zau (fun a=>qcr a.1 a.2.1)
abbrev z33:ZC ((List Item)×((Unit)×(Item×Unit))×Unit):=Zc (Zl .kItem) (Zc (Cod.fnc 81 (Zn) (Zc (Cod.cptr za0) Zn)) Zn)
abbrev z25 {R:Type}:Sm R:=semP z33 za6 (fun a=>qd (fun g x0=>qcr x0 g.2.1) a.1 a.2.1)
def zuc {R:Type}:Nat→Sm R:=cl 81 z2r c0
abbrev zj9:=mkld [] [] [0,1,7,8] [] [] (Zs 0 (Zl .kItem) (Zs 1 (Cod.fnc 81 (Zn) (Zc (Cod.cptr za0) Zn)) (Zs 7 Zi (Zs 8 Zi Zz)))) (z7y (fun g x0=>qcr x0 g.2.1)) (.xs 0 [] [] [] Zz (.r [4] [] [] (Zs 4 Zi Zz)))
def zih {R:Type}:Lp Kd El R:=lp 2 zj9.sem l0
abbrev zanl:ZC ((List Item)×Unit):=Zc (Zl .kItem) Zn
abbrev zacb:ZD ((List Item)):=(Zl .kItem)
abbrev zak8 {R:Type}:Sm R:=semP zanl zacb (fun a=>qcb a.1)
abbrev zws:ZC ((List Item)×Int×(List Item)×Unit):=Zc (Zl .kItem) (Zc Zi (Zc (Zl .kItem) Zn))
abbrev zacl:ZD ((List Item)):=zacb
def zaa4 (a:(List Item)×Int×(List Item)×Unit):Option ((List Item)):=qdq a.1 a.2.1 a.2.2.1
abbrev zasc {R:Type}:Sm R:=semP zws zacl zaa4
abbrev z2e {R:Type}:Sm R:=semP zmk zau (fun a=>qbx a.1 a.2.1 a.2.2.1)
abbrev zwl:ZC ((List UInt8)×Unit):=zq1
abbrev zab9:ZD (Bool):=zau
def zaaz (a:(List UInt8)×Unit):Option (Bool):=qc1 a.1
abbrev zar8 {R:Type}:Sm R:=semP zwl zab9 zaaz
abbrev zanz:ZC (Item×Unit):=Zc (Cod.agg za0) Zn
abbrev z3d {R:Type}:Sm R:=semP zanz zau (fun a=>qdu a.1)
abbrev z2b {R:Type}:Sm R:=semP zmk zau (fun a=>qbm a.1 a.2.1 a.2.2.1)
abbrev zalw {R:Type}:Sm R:=semP zwp zau (fun a=>qe3 a.1)
abbrev zalv {R:Type}:Sm R:=semP zmj zau (fun a=>qe2 a.1 a.2.1)
abbrev zanq:ZC (Custody×Bool×Unit):=Zc (Cod.agg zax) (Zc Zb Zn)
abbrev zalb {R:Type}:Sm R:=semP zanq ztp (fun a=>qci a.1 a.2.1)
abbrev zaly {R:Type}:Sm R:=semP zq8 ztp (fun a=>qe5 a.1 a.2.1)
abbrev z3f {R:Type}:Sm R:=semP zq8 ztp (fun a=>qdw a.1 a.2.1)
abbrev z2a {R:Type}:Sm R:=semP z8m zab3 (fun a=>qbg a.1 a.2.1 a.2.2.1)
def z5e {R:Type}:Nat→Sm R:=cl 79 z3e (cl 162 z2b (cl 163 z3f c0))
abbrev zst:=mkld [] [] [2,6,9,20,21,22] [6,9] [] (Zs 2 Zi (Zp 6 6 (Zp 9 9 (Zs 20 (Zl .kMove) (Zs 21 Zi (Zs 22 Zi (Zx 6 zax (Zx 9 zax Zz)))))))) zabq (.xs 0 [6,9] [6,9] [] (Zp 6 6 (Zp 9 9 (Zx 6 zax (Zx 9 zax Zz)))) (.r [7,8] [6] [6] (Zp 6 6 (Zs 7 Zi (Zs 8 Zi (Zx 6 zax Zz))))))
def zoh {R:Type}:Lp Kd El R:=lp 5 zst.sem l0
abbrev zari {R:Type}:Sm R:=semP zfw zau (fun a=>qp a.1)
def zadv {R:Type}:Nat→Sm R:=cl 58 z2a (cl 78 zot (cl 166 z3d c0))
abbrev zz3:=mkld [] [] [1,23,24,25] [1] [] (Zp 1 1 (Zs 23 (Zl .kItem) (Zs 24 Zi (Zs 25 Zi (Zx 1 zan Zz))))) zaqu (.xs 0 [1] [1] [] (Zp 1 1 (Zx 1 zan Zz)) (.r [2] [] [] (Zs 2 Zb Zz)))
abbrev zs3:=mkld [] [] [1,51,52,53] [1] [] (Zp 1 1 (Zs 51 (Zl .kMove) (Zs 52 Zi (Zs 53 Zi (Zx 1 zan Zz))))) zab1 (.xs 2 [1] [1] [] (Zp 1 1 (Zx 1 zan Zz)) (.r [2] [] [] (Zs 2 Zb Zz)))
abbrev zs4:=mkld [] [] [1,64,65,66] [1] [] (Zp 1 1 (Zs 64 (Zl .kItem) (Zs 65 Zi (Zs 66 Zi (Zx 1 zan Zz))))) zab2 (.xs 4 [] [] [] Zz (.r [2] [] [] (Zs 2 Zb Zz)))
def zha {R:Type}:Lp Kd El R:=lp 16 zs4.sem (lp 10 zs3.sem (lp 4 zz3.sem l0))
abbrev zwn:ZC ((List UInt8)×Unit):=zq1
abbrev zacd:ZD ((List UInt8)):=zab6
def zaa1 (a:(List UInt8)×Unit):Option ((List UInt8)):=qd1 a.1
abbrev zar9 {R:Type}:Sm R:=semP zwn zacd zaa1
abbrev zand:ZC (Patron×Unit):=Zc (Cod.agg za8) Zn
abbrev z2c {R:Type}:Sm R:=semP zand za6 (fun a=>qbt a.1)
abbrev z1l {R:Type}:Sm R:=semP zq3 za6 (fun a=>qa2 a.1)
def z4i {R:Type}:Nat→Sm R:=cl 245 z2c c0
abbrev zry:=mkld [] [] [3,10,11,12] [] [] (Zs 3 Zi (Zs 10 (Zl .kPatron) (Zs 11 Zi (Zs 12 Zi Zz)))) zaa9 (.xs 0 [] [] [] Zz (.r [2] [] [] (Zs 2 Zi Zz)))
def znq {R:Type}:Lp Kd El R:=lp 5 zry.sem l0
abbrev z3h {R:Type}:Sm R:=semP zby zau (fun a=>qem a.1)
abbrev z3b {R:Type}:Sm R:=semP zby zau (fun a=>qdk a.1)
abbrev z1n {R:Type}:Sm R:=semP zq2 za6 (fun a=>qa5 a.1)
def z4k {R:Type}:Nat→Sm R:=cl 219 z3b (cl 246 z3h c0)
abbrev zr0:=mkld [] [] [0,8,9,10] [] [] (Zs 0 (Zl .kLoan) (Zs 8 (Zl .kLoan) (Zs 9 Zi (Zs 10 Zi Zz)))) zabb (.xs 0 [] [] [] Zz (.r [2] [] [] (Zs 2 Zi Zz)))
def zns {R:Type}:Lp Kd El R:=lp 4 zr0.sem l0
abbrev zakx {R:Type}:Sm R:=semP zmk zau (fun a=>qbw a.1 a.2.1 a.2.2.1)
abbrev zal8 {R:Type}:Sm R:=semP zby zau (fun a=>qef a.1)
abbrev z3m {R:Type}:Sm R:=semP z8w za6 (fun a=>qeu a.1)
abbrev zwj:ZC (Hold×Hold×Unit):=Zc (Cod.agg za2) (Zc (Cod.agg za2) Zn)
abbrev z14 {R:Type}:Sm R:=semP zwj zau (fun a=>qb9 a.1 a.2.1)
abbrev zang:ZC ((List Hold)×((Unit)×(Unit))×Unit):=Zc (Zl .kHold) (Zc (Cod.fnc 249 (Zn) (Zn)) Zn)
abbrev zacs {R:Type}:Sm R:=semP zang zau (fun a=>qc (fun g x0 x1=>qb9 x0 x1) a.1 a.2.1)
def zadj {R:Type}:Nat→Sm R:=cl 249 z14 c0
abbrev zzm:=mkld [] [] [0,1,5,8,9,12,13] [] [] (Zs 0 (Zl .kHold) (Zs 1 (Cod.fnc 249 (Zn) (Zn)) (Zs 5 Zi (Zs 8 Zi (Zs 9 Zi (Zs 12 Zi (Zs 13 Zi Zz))))))) (zajm (fun g x0 x1=>qb9 x0 x1)) (.xs 2 [0,1,8,9] [] [] (Zs 0 (Zl .kHold) (Zs 1 (Cod.fnc 249 (Zn) (Zn)) (Zs 8 Zi (Zs 9 Zi Zz)))) (.r [4] [] [] (Zs 4 Zb Zz)))
abbrev zzl:=mkld [] [] [0,1,8,9] [] [] (Zs 0 (Zl .kHold) (Zs 1 (Cod.fnc 249 (Zn) (Zn)) (Zs 8 Zi (Zs 9 Zi Zz)))) (zajl (fun g x0 x1=>qb9 x0 x1)) (.xs 0 [] [] [] Zz (.r [4] [] [] (Zs 4 Zb Zz)))
def zl3 {R:Type}:Lp Kd El R:=lp 2 zzl.sem (lp 5 zzm.sem l0)
abbrev z26 {R:Type}:Sm R:=semP zwj zau (fun a=>qde a.1 a.2.1)
abbrev zq9:ZC ((List Hold)×((Unit)×(Unit))×Unit):=Zc (Zl .kHold) (Zc (Cod.fnc 250 (Zn) (Zn)) Zn)
abbrev zor {R:Type}:Sm R:=semP zq9 zau (fun a=>qc (fun g x0 x1=>qde x0 x1) a.1 a.2.1)
def zub {R:Type}:Nat→Sm R:=cl 250 z26 c0
abbrev zj8:=mkld [] [] [0,1,5,8,9,12,13] [] [] (Zs 0 (Zl .kHold) (Zs 1 (Cod.fnc 250 (Zn) (Zn)) (Zs 5 Zi (Zs 8 Zi (Zs 9 Zi (Zs 12 Zi (Zs 13 Zi Zz))))))) (zajm (fun g x0 x1=>qde x0 x1)) (.xs 2 [0,1,8,9] [] [] (Zs 0 (Zl .kHold) (Zs 1 (Cod.fnc 250 (Zn) (Zn)) (Zs 8 Zi (Zs 9 Zi Zz)))) (.r [4] [] [] (Zs 4 Zb Zz)))
abbrev zj7:=mkld [] [] [0,1,8,9] [] [] (Zs 0 (Zl .kHold) (Zs 1 (Cod.fnc 250 (Zn) (Zn)) (Zs 8 Zi (Zs 9 Zi Zz)))) (zajl (fun g x0 x1=>qde x0 x1)) (.xs 0 [] [] [] Zz (.r [4] [] [] (Zs 4 Zb Zz)))
def ze8 {R:Type}:Lp Kd El R:=lp 2 zj7.sem (lp 5 zj8.sem l0)
abbrev zacv {R:Type}:Sm R:=semP zac7 za6 (fun a=>qh a.1)
def zadn {R:Type}:Nat→Sm R:=cl 247 z3m (cl 248 (si zang zacs (si zq9 zor s0)) c0)
abbrev zzr:=mkld [] [] [0,9,10,11] [] [] (Zs 0 (Zl .kHold) (Zs 9 (Zl .kHold) (Zs 10 Zi (Zs 11 Zi Zz)))) zaqn (.xs 0 [0] [] [] (Zs 0 (Zl .kHold) Zz) (.r [2] [] [] (Zs 2 Zi Zz)))
def ztd {R:Type}:Lp Kd El R:=lp 4 zzr.sem l0
abbrev zamh {R:Type}:Sm R:=semP zby zau (fun a=>qes a.1)
abbrev zale {R:Type}:Sm R:=semP zby zau (fun a=>qd2 a.1)
abbrev zam1:ZC (Charge×Unit):=Zc (Cod.agg zc9) Zn
abbrev z1z {R:Type}:Sm R:=semP zam1 za6 (fun a=>qb0 a.1)
abbrev z1o {R:Type}:Sm R:=semP z8p za6 (fun a=>qa6 a.1)
def z4l {R:Type}:Nat→Sm R:=cl 251 z1z c0
abbrev zr1:=mkld [] [] [0,9,10,11] [] [] (Zs 0 (Zl .kCharge) (Zs 9 (Zl .kCharge) (Zs 10 Zi (Zs 11 Zi Zz)))) zabc (.xs 0 [] [] [] Zz (.r [2] [] [] (Zs 2 Zi Zz)))
def znt {R:Type}:Lp Kd El R:=lp 4 zr1.sem l0
abbrev zaks {R:Type}:Sm R:=semP zmk zau (fun a=>qbo a.1 a.2.1 a.2.2.1)
abbrev z3k {R:Type}:Sm R:=semP zwm zau (fun a=>qeq a.1)
abbrev zanm:ZC (Rule×Rule×Unit):=Zc (Cod.agg zck) (Zc (Cod.cptr zck) Zn)
abbrev z2h {R:Type}:Sm R:=semP zanm zau (fun a=>qcc a.1 a.2.1)
abbrev z8q:ZC ((List Rule)×((Unit)×(Rule×Unit))×Unit):=Zc (Zl .kRule) (Zc (Cod.fnc 253 (Zn) (Zc (Cod.cptr zck) Zn)) Zn)
abbrev zake {R:Type}:Sm R:=semP z8q za6 (fun a=>qaz (fun g x0=>qcc x0 g.2.1) a.1 a.2.1)
def z5a {R:Type}:Nat→Sm R:=cl 253 z2h c0
abbrev zsp:=mkld [] [] [0,1,7,8] [] [] (Zs 0 (Zl .kRule) (Zs 1 (Cod.fnc 253 (Zn) (Zc (Cod.cptr zck) Zn)) (Zs 7 Zi (Zs 8 Zi Zz)))) (zabn (fun g x0=>qcc x0 g.2.1)) (.xs 0 [] [] [] Zz (.r [4] [] [] (Zs 4 Zi Zz)))
def zod {R:Type}:Lp Kd El R:=lp 2 zsp.sem l0
abbrev z3i {R:Type}:Sm R:=semP z8q zau (fun a=>qen (fun g x0=>qcc x0 g.2.1) a.1 a.2.1)
abbrev zac0 {R:Type}:Sm R:=semP zan8 za6 (fun a=>qt a.1)
def zady {R:Type}:Nat→Sm R:=cl 252 z3k (cl 254 z3i c0)
abbrev zz6:=mkld [] [] [0,9,10,11] [] [] (Zs 0 (Zl .kRule) (Zs 9 (Zl .kRule) (Zs 10 Zi (Zs 11 Zi Zz)))) zaqx (.xs 0 [] [] [] Zz (.r [2] [] [] (Zs 2 Zi Zz)))
def zti {R:Type}:Lp Kd El R:=lp 4 zz6.sem l0
abbrev z2s {R:Type}:Sm R:=semP zby zau (fun a=>qcs a.1)
abbrev z2o {R:Type}:Sm R:=semP zby zau (fun a=>qco a.1)
abbrev z8i:ZC ((List Int)×((Unit)×(Unit))×Unit):=Zc (Zl .ki64) (Zc (Cod.fnc 256 (Zn) (Zn)) Zn)
abbrev zaju {R:Type}:Sm R:=semP z8i za6 (fun a=>qa0 (fun g x0=>qco x0) a.1 a.2.1)
def z4g {R:Type}:Nat→Sm R:=cl 256 z2o c0
abbrev zrw:=mkld [] [] [0,1,7,8] [] [] (Zs 0 (Zl .ki64) (Zs 1 (Cod.fnc 256 (Zn) (Zn)) (Zs 7 Zi (Zs 8 Zi Zz)))) (zaa7 (fun g x0=>qco x0)) (.xs 0 [] [] [] Zz (.r [4] [] [] (Zs 4 Zi Zz)))
def zno {R:Type}:Lp Kd El R:=lp 2 zrw.sem l0
abbrev z3j {R:Type}:Sm R:=semP z8i zau (fun a=>qeo (fun g x0=>qco x0) a.1 a.2.1)
abbrev zacz {R:Type}:Sm R:=semP zac8 za6 (fun a=>qs a.1)
def zadx {R:Type}:Nat→Sm R:=cl 255 z3j c0
abbrev zz5:=mkld [] [] [1,24,25,26] [1] [] (Zp 1 1 (Zs 24 (Zl .ki64) (Zs 25 Zi (Zs 26 Zi (Zx 1 zav Zz))))) zaqw (.xs 1 [] [] [] Zz (.r [2] [] [] (Zs 2 Zi Zz)))
def zth {R:Type}:Lp Kd El R:=lp 8 zz5.sem l0
abbrev zarh {R:Type}:Sm R:=semP zfw zau (fun a=>qo a.1)
def zadu {R:Type}:Nat→Sm R:=cl 62 z2e (cl 167 z1l (cl 168 z1n (cl 169 zacv (cl 170 z1o (cl 171 zac0 (cl 172 zacz c0))))))
abbrev zz2:=mkld [] [] [1,38,39] [1] [] (Zp 1 1 (Zs 38 (Cod.agg zdm) (Zs 39 Zi (Zx 1 zan Zz)))) zaqt (.xs 0 [1] [1] [] (Zp 1 1 (Zx 1 zan Zz)) (.r [2] [] [] (Zs 2 Zb Zz)))
abbrev zs0:=mkld [] [] [1,57,58,59] [1] [] (Zp 1 1 (Zs 57 (Zl .kHold) (Zs 58 Zi (Zs 59 Zi (Zx 1 zan Zz))))) zabz (.xs 2 [1] [1] [] (Zp 1 1 (Zx 1 zan Zz)) (.r [2] [] [] (Zs 2 Zb Zz)))
abbrev zs1:=mkld [] [] [1,70,71,72] [1] [] (Zp 1 1 (Zs 70 (Zl .kCharge) (Zs 71 Zi (Zs 72 Zi (Zx 1 zan Zz))))) zab0 (.xs 4 [] [] [] Zz (.r [2] [] [] (Zs 2 Zb Zz)))
def zg9 {R:Type}:Lp Kd El R:=lp 18 zs1.sem (lp 12 zs0.sem (lp 4 zz2.sem l0))
abbrev zanr:ZC (Patron×Int×Unit):=Zc (Cod.agg za8) (Zc (Cod.cptr (CC.one Zi)) Zn)
abbrev z2p {R:Type}:Sm R:=semP zanr zau (fun a=>qcp a.1 a.2.1)
abbrev zars:ZC ((List Patron)×((Unit)×(Int×Unit))×Unit):=Zc (Zl .kPatron) (Zc (Cod.fnc 265 (Zn) (Zc (Cod.cptr (CC.one Zi)) Zn)) Zn)
abbrev zarf {R:Type}:Sm R:=semP zars za6 (fun a=>ql (fun g x0=>qcp x0 g.2.1) a.1 a.2.1)
def zadr {R:Type}:Nat→Sm R:=cl 265 z2p c0
abbrev zzw:=mkld [] [] [0,1,7,8] [] [] (Zs 0 (Zl .kPatron) (Zs 1 (Cod.fnc 265 (Zn) (Zc (Cod.cptr (CC.one Zi)) Zn)) (Zs 7 Zi (Zs 8 Zi Zz)))) (zqg (fun g x0=>qcp x0 g.2.1)) (.xs 0 [] [] [] Zz (.r [4] [] [] (Zs 4 Zi Zz)))
def ztf {R:Type}:Lp Kd El R:=lp 2 zzw.sem l0
abbrev zakt {R:Type}:Sm R:=semP zq5 za6 (fun a=>qbp a.1 a.2.1)
abbrev zakf {R:Type}:Sm R:=semP zq5 zab7 (fun a=>qb3 a.1 a.2.1)
abbrev zam3:ZC (Int×Circ×Unit):=Zc Zi (Zc (Cod.cptr zan) Zn)
abbrev z11 {R:Type}:Sm R:=semP zam3 zau (fun a=>qb2 a.1 a.2.1)
abbrev zard {R:Type}:Sm R:=semP zfw zau (fun a=>qf a.1)
def zadl {R:Type}:Nat→Sm R:=cl 78 zot (cl 173 z11 c0)
abbrev zzo:=mkld [] [] [1,3,12,13,14] [1] [] (Zp 1 1 (FC.clo 3 173 [] [1] (Zs 12 (Zl .kLoan) (Zs 13 Zi (Zs 14 Zi (Zx 1 zan Zz)))))) zaqk (.xs 0 [1,3] [1] [] (Zp 1 1 (FC.clo 3 173 [] [1] (Zx 1 zan Zz))) (.r [2] [] [] (Zs 2 Zb Zz)))
abbrev zzp:=mkld [] [] [1,3,32,33,34] [1] [] (Zp 1 1 (FC.clo 3 173 [] [1] (Zs 32 (Zl .kHold) (Zs 33 Zi (Zs 34 Zi (Zx 1 zan Zz)))))) zaql (.xs 2 [1,3] [1] [] (Zp 1 1 (FC.clo 3 173 [] [1] (Zx 1 zan Zz))) (.r [2] [] [] (Zs 2 Zb Zz)))
abbrev zsx:=mkld [] [] [3,45,46,47] [1] [] (FC.clo 3 173 [] [1] (Zs 45 (Zl .kCharge) (Zs 46 Zi (Zs 47 Zi (Zx 1 zan Zz))))) zaby (.xs 4 [] [] [] Zz (.r [2] [] [] (Zs 2 Zb Zz)))
def zg6 {R:Type}:Lp Kd El R:=lp 15 zsx.sem (lp 9 zzp.sem (lp 3 zzo.sem l0))
abbrev zar7:ZD ((Int×Unit)):=(Cod.clo 243 (Zc (Cod.cptr (CC.one Zi)) Zn))
abbrev zarl {R:Type}:Sm R:=semP zby zar7 (fun a=>qy a.1)
abbrev zam2:ZC (Loan×Int×Unit):=Zc (Cod.agg zbs) (Zc (Cod.cptr (CC.one Zi)) Zn)
abbrev z10 {R:Type}:Sm R:=semP zam2 zau (fun a=>qb1 a.1 a.2.1)
abbrev zac6:ZC ((List Loan)×((Unit)×(Int×Unit))×Unit):=Zc (Zl .kLoan) (Zc (Cod.fnc 243 (Zn) (Zc (Cod.cptr (CC.one Zi)) Zn)) Zn)
abbrev zare {R:Type}:Sm R:=semP zac6 za6 (fun a=>qi (fun g x0=>qb1 x0 g.2.1) a.1 a.2.1)
def zado {R:Type}:Nat→Sm R:=cl 243 z10 c0
abbrev zzs:=mkld [] [] [0,1,7,8] [] [] (Zs 0 (Zl .kLoan) (Zs 1 (Cod.fnc 243 (Zn) (Zc (Cod.cptr (CC.one Zi)) Zn)) (Zs 7 Zi (Zs 8 Zi Zz)))) (zajn (fun g x0=>qb1 x0 g.2.1)) (.xs 0 [] [] [] Zz (.r [4] [] [] (Zs 4 Zi Zz)))
def zte {R:Type}:Lp Kd El R:=lp 2 zzs.sem l0
abbrev zab8:ZD (Loan×Int):=(Cod.tup2 (Zc (Cod.agg zbs) (Zc Zi Zn)))
abbrev zakm {R:Type}:Sm R:=semP zac6 zab8 (fun a=>qbf (fun g x0=>qb1 x0 g.2.1) a.1 a.2.1)
abbrev zqt {R:Type}:Sm R:=semP zjs zach (fun a=>qcl a.1 a.2.1)
abbrev zako {R:Type}:Sm R:=semP zfw zau (fun a=>qbj a.1)
def z5f {R:Type}:Nat→Sm R:=cl 59 zqt c0
abbrev zsu:=mkld [] [] [1,9,10,11] [1] [] (Zp 1 1 (Zs 9 (Zl .kItem) (Zs 10 Zi (Zs 11 Zi (Zx 1 zan Zz))))) zabr (.xs 0 [] [] [] Zz (.r [2] [] [] (Zs 2 Zb Zz)))
def zoi {R:Type}:Lp Kd El R:=lp 2 zsu.sem l0
abbrev z8t:ZC (Hold×Int×Unit):=Zc (Cod.agg za2) (Zc (Cod.cptr (CC.one Zi)) Zn)
abbrev z2l {R:Type}:Sm R:=semP z8t zau (fun a=>qcj a.1 a.2.1)
abbrev zarq:ZC ((List Hold)×((Unit)×(Int×Unit))×Unit):=Zc (Zl .kHold) (Zc (Cod.fnc 197 (Zn) (Zc (Cod.cptr (CC.one Zi)) Zn)) Zn)
abbrev zarb {R:Type}:Sm R:=semP zarq za6 (fun a=>qb (fun g x0=>qcj x0 g.2.1) a.1 a.2.1)
def zadi {R:Type}:Nat→Sm R:=cl 197 z2l c0
abbrev zzk:=mkld [] [] [0,1,7,8] [] [] (Zs 0 (Zl .kHold) (Zs 1 (Cod.fnc 197 (Zn) (Zc (Cod.cptr (CC.one Zi)) Zn)) (Zs 7 Zi (Zs 8 Zi Zz)))) (zvv (fun g x0=>qcj x0 g.2.1)) (.xs 0 [] [] [] Zz (.r [4] [] [] (Zs 4 Zi Zz)))
def zta {R:Type}:Lp Kd El R:=lp 2 zzk.sem l0
abbrev z1m {R:Type}:Sm R:=semP zo2 z1d (fun a=>qa4 a.1 a.2.1)
abbrev zaj1 {R:Type}:Sm R:=semP zfw zau (fun a=>qab a.1)
def z4n {R:Type}:Nat→Sm R:=cl 78 zot (cl 96 z1m c0)
abbrev zr4:=mkld [] [] [1,13,14,15] [1] [] (Zp 1 1 (Zs 13 (Zl .kHold) (Zs 14 Zi (Zs 15 Zi (Zx 1 zan Zz))))) zabe (.xs 0 [1] [1] [] (Zp 1 1 (Zx 1 zan Zz)) (.r [2] [] [] (Zs 2 Zb Zz)))
abbrev znh:=mkld [] [] [1,65,66,67] [1] [] (Zp 1 1 (Zs 65 (Zl .kItem) (Zs 66 Zi (Zs 67 Zi (Zx 1 zan Zz))))) z02 (.xs 2 [] [] [] Zz (.r [2] [] [] (Zs 2 Zb Zz)))
def zia {R:Type}:Lp Kd El R:=lp 16 znh.sem (lp 2 zr4.sem l0)
abbrev zama {R:Type}:Sm R:=semP zfw zau (fun a=>qeh a.1)
abbrev z8o:ZC (Circ×Item×Unit):=Zc (Cod.agg zan) (Zc (Cod.agg za0) Zn)
abbrev ztn:ZD (Circ×Int):=(Cod.tup2 (Zc (Cod.agg zan) (Zc Zi Zn)))
abbrev zakd {R:Type}:Sm R:=semP z8o ztn (fun a=>qaw a.1 a.2.1)
abbrev zanv:ZC (Patron×Patron×Unit):=Zc (Cod.agg za8) (Zc (Cod.cptr za8) Zn)
abbrev z2v {R:Type}:Sm R:=semP zanv zau (fun a=>qcv a.1 a.2.1)
abbrev z35:ZC ((List Patron)×((Unit)×(Patron×Unit))×Unit):=Zc (Zl .kPatron) (Zc (Cod.fnc 186 (Zn) (Zc (Cod.cptr za8) Zn)) Zn)
abbrev z3r {R:Type}:Sm R:=semP z35 za6 (fun a=>ql (fun g x0=>qcv x0 g.2.1) a.1 a.2.1)
def zuf {R:Type}:Nat→Sm R:=cl 186 z2v c0
abbrev zkc:=mkld [] [] [0,1,7,8] [] [] (Zs 0 (Zl .kPatron) (Zs 1 (Cod.fnc 186 (Zn) (Zc (Cod.cptr za8) Zn)) (Zs 7 Zi (Zs 8 Zi Zz)))) (zqg (fun g x0=>qcv x0 g.2.1)) (.xs 0 [] [] [] Zz (.r [4] [] [] (Zs 4 Zi Zz)))
def zik {R:Type}:Lp Kd El R:=lp 2 zkc.sem l0
abbrev zacj:ZD ((List Patron)):=(Zl .kPatron)
abbrev zalp {R:Type}:Sm R:=semP zq3 zacj (fun a=>qdo a.1)
abbrev zwq:ZC ((List Patron)×Int×(List Patron)×Unit):=Zc (Zl .kPatron) (Zc Zi (Zc (Zl .kPatron) Zn))
abbrev zaci:ZD ((List Patron)):=zacj
def zaa2 (a:(List Patron)×Int×(List Patron)×Unit):Option ((List Patron)):=qdn a.1 a.2.1 a.2.2.1
abbrev zasa {R:Type}:Sm R:=semP zwq zaci zaa2
abbrev zaco:ZD ((List Patron)×Int):=(Cod.tup2 (Zc (Zl .kPatron) (Zc Zi Zn)))
abbrev zalq {R:Type}:Sm R:=semP zq3 zaco (fun a=>qdt a.1)
abbrev zanc:ZC ((List Patron)×Patron×Unit):=Zc (Zl .kPatron) (Zc (Cod.agg za8) Zn)
abbrev zakv {R:Type}:Sm R:=semP zanc zaco (fun a=>qbr a.1 a.2.1)
abbrev z8v:ZC (Circ×Patron×Unit):=Zc (Cod.agg zan) (Zc (Cod.agg za8) Zn)
abbrev zalm {R:Type}:Sm R:=semP z8v ztn (fun a=>qdd a.1 a.2.1)
abbrev z8x:ZC (Unit):=Zn
abbrev zalr {R:Type}:Sm R:=semP z8x zace (fun a=>qdx)
abbrev zaq3:ZC (Circ_desk):=zar
abbrev zakz {R:Type}:Sm R:=semN zfw zaq3 (fun a=>qbz a.1)
abbrev ztx:ZC (Unit×Int×Unit):=Zc (Cod.ptrc 100000) (Zc Zi Zn)
abbrev ziy:ZD (Unit):=Cod.unit
abbrev zarj {R:Type}:Sm R:=semM ztx (BC.one zar) ziy (fun a b=>qq a.2.1 b)
abbrev zalk {R:Type}:Sm R:=semM ztx (BC.one zar) za6 (fun a b=>qdb a.2.1 b)
abbrev zanj:ZC ((List Move)×Unit):=Zc (Zl .kMove) Zn
abbrev zaq4:ZD ((List Move)):=(Zl .kMove)
abbrev zak3 {R:Type}:Sm R:=semP zanj zaq4 (fun a=>qc6 a.1)
abbrev z8l:ZC (Unit×Int×Int×Int×Int×Unit):=Zc (Cod.ptrc 100000) (Zc Zi (Zc Zi (Zc Zi (Zc Zi Zn))))
abbrev zajz {R:Type}:Sm R:=semM z8l (BC.one zar) ziy (fun a b=>qa9 a.2.1 a.2.2.1 a.2.2.2.1 a.2.2.2.2.1 b)
abbrev zqs {R:Type}:Sm R:=semP zwj za6 (fun a=>qbu a.1 a.2.1)
abbrev zaru:ZC ((List Hold)×Int×Int×((Unit)×(Unit))×Unit):=Zc (Zl .kHold) (Zc Zi (Zc Zi (Zc (Cod.fnc 222 (Zn) (Zn)) Zn)))
abbrev z73:ZD (List Hold):=(Zl .kHold)
abbrev zacy {R:Type}:Sm R:=semP zaru z73 (fun a=>qn (fun g x0 x1=>qbu x0 x1) a.1 a.2.1 a.2.2.1 a.2.2.2.1)
def zadt {R:Type}:Nat→Sm R:=cl 222 zqs c0
abbrev zz1:=mkld [] [] [0,1,2,3,8,9] [] [99999] (FC.arr 0 99999 (Zs 1 Zi (Zs 2 Zi (Zs 3 (Cod.fnc 222 (Zn) (Zn)) (Zs 8 Zi (Zs 9 Zi (FC.own 99999 Kd.kHold false Zz))))))) (zaqs (fun g x0 x1=>qbu x0 x1)) (.x 2 [0,1,2,3,8] [] [99999] (FC.arr 0 99999 (Zs 1 Zi (Zs 2 Zi (Zs 3 (Cod.fnc 222 (Zn) (Zn)) (Zs 8 Zi (FC.own 99999 Kd.kHold false Zz)))))))
abbrev zz0:=mkld [] [] [0,1,2,3,8] [] [99999] (FC.arr 0 99999 (Zs 1 Zi (Zs 2 Zi (Zs 3 (Cod.fnc 222 (Zn) (Zn)) (Zs 8 Zi (FC.own 99999 Kd.kHold false Zz)))))) (zaqr (fun g x0 x1=>qbu x0 x1)) (.x 0 [] [] [99999] (FC.own 99999 Kd.kHold false Zz))
def zl5 {R:Type}:Lp Kd El R:=lp 1 zz0.sem (lp 4 zz1.sem l0)
abbrev z8u:ZC ((List Hold)×Int×Int×Int×((Unit)×(Unit))×Unit):=Zc (Zl .kHold) (Zc Zi (Zc Zi (Zc Zi (Zc (Cod.fnc 222 (Zn) (Zn)) Zn))))
abbrev zacc:ZD (List Hold):=z73
def zaa0 (a:(List Hold)×Int×Int×Int×((Unit)×(Unit))×Unit):Option (List Hold):=qcm (fun g x0 x1=>qbu x0 x1) a.1 a.2.1 a.2.2.1 a.2.2.2.1 a.2.2.2.2.1
abbrev zalc {R:Type}:Sm R:=semP z8u zacc zaa0
abbrev zart:ZC ((List Hold)×Int×((Unit)×(Unit))×Unit):=Zc (Zl .kHold) (Zc Zi (Zc (Cod.fnc 222 (Zn) (Zn)) Zn))
abbrev zarg {R:Type}:Sm R:=semP zart z73 (fun a=>qm (fun g x0 x1=>qbu x0 x1) a.1 a.2.1 a.2.2.1)
def zads {R:Type}:Nat→Sm R:=cl 222 zqs (cl 316 zacy (cl 317 zalc c0))
abbrev zzx:=mkld [] [] [0,1,2,6,7,8] [] [99999] (FC.arr 0 99999 (Zs 1 Zi (Zs 2 (Cod.fnc 222 (Zn) (Zn)) (Zs 6 Zi (Zs 7 Zi (Zs 8 Zi (FC.own 99999 Kd.kHold false Zz))))))) (zaqo (fun g x0 x1=>qbu x0 x1)) (.x 0 [0,1,2,6,7] [] [99999] (FC.arr 0 99999 (Zs 1 Zi (Zs 2 (Cod.fnc 222 (Zn) (Zn)) (Zs 6 Zi (Zs 7 Zi (FC.own 99999 Kd.kHold false Zz)))))))
abbrev zzz:=mkld [] [] [0,1,2,6,7,8] [] [99999] (FC.arr 0 99999 (Zs 1 Zi (Zs 2 (Cod.fnc 222 (Zn) (Zn)) (Zs 6 Zi (Zs 7 Zi (Zs 8 Zi (FC.own 99999 Kd.kHold false Zz))))))) (zaqq (fun g x0 x1=>qbu x0 x1)) (.x 4 [0,1,2,6,7] [] [99999] (FC.arr 0 99999 (Zs 1 Zi (Zs 2 (Cod.fnc 222 (Zn) (Zn)) (Zs 6 Zi (Zs 7 Zi (FC.own 99999 Kd.kHold false Zz)))))))
abbrev zzy:=mkld [] [] [0,1,2,6] [] [99999] (FC.arr 0 99999 (Zs 1 Zi (Zs 2 (Cod.fnc 222 (Zn) (Zn)) (Zs 6 Zi (FC.own 99999 Kd.kHold false Zz))))) (zaqp (fun g x0 x1=>qbu x0 x1)) (.x 2 [] [] [99999] (FC.own 99999 Kd.kHold false Zz))
def zg8 {R:Type}:Lp Kd El R:=lp 7 zzy.sem (lp 9 zzz.sem (lp 2 zzx.sem l0))
abbrev zany:ZC ((List Hold)×((Unit)×(Unit))×Unit):=Zc (Zl .kHold) (Zc (Cod.fnc 222 (Zn) (Zn)) Zn)
abbrev z3c {R:Type}:Sm R:=semP zany z73 (fun a=>qdm (fun g x0 x1=>qbu x0 x1) a.1 a.2.1)
abbrev zan7:ZC ((List Hold)×Int×Int×Unit):=Zc (Zl .kHold) (Zc Zi (Zc Zi Zn))
abbrev z71:ZD ((List Hold)):=(Zl .kHold)
abbrev zacu {R:Type}:Sm R:=semP zan7 z71 (fun a=>qg a.1 a.2.1 a.2.2.1)
def zadm {R:Type}:Nat→Sm R:=cl 221 z3c c0
abbrev zzq:=mkld [(7,7,Kd.kHold)] [] [1,2,7,10,11,12] [] [7] (Zs 1 Zi (Zs 2 Zi (FC.arr 7 7 (Zs 10 (Zl .kHold) (Zs 11 Zi (Zs 12 Zi (FC.own 7 Kd.kHold false Zz))))))) zaqm (.x 0 [7] [] [7] (FC.arr 7 7 (FC.own 7 Kd.kHold false Zz)))
def ztc {R:Type}:Lp Kd El R:=lp 3 zzq.sem l0
abbrev zam7:ZC ((List Hold)×Item×Int×Int×Bool×Unit):=Zc (Zl .kHold) (Zc (Cod.agg za0) (Zc Zi (Zc Zi (Zc Zb Zn))))
abbrev zakk {R:Type}:Sm R:=semP zam7 za6 (fun a=>qbd a.1 a.2.1 a.2.2.1 a.2.2.2.1 a.2.2.2.2.1)
def z5c {R:Type}:Nat→Sm R:=cl 135 zacu c0
abbrev zsr:=mkld [] [] [2,4,6,11,18,19,20] [6] [] (Zs 2 Zi (Zs 4 Zb (Zp 6 6 (Zs 11 Zi (Zs 18 (Zl .kHold) (Zs 19 Zi (Zs 20 Zi (Zx 6 za0 Zz)))))))) zabp (.xs 0 [11] [] [] (Zs 11 Zi Zz) (.r [10] [] [] (Zs 10 Zi Zz)))
def zof {R:Type}:Lp Kd El R:=lp 3 zsr.sem l0
abbrev z2g {R:Type}:Sm R:=semP z8o za6 (fun a=>qc3 a.1 a.2.1)
abbrev z2z {R:Type}:Sm R:=semP z8t zau (fun a=>qd0 a.1 a.2.1)
abbrev z30:ZC ((List Hold)×((Unit)×(Int×Unit))×Unit):=Zc (Zl .kHold) (Zc (Cod.fnc 289 (Zn) (Zc (Cod.cptr (CC.one Zi)) Zn)) Zn)
abbrev z15 {R:Type}:Sm R:=semP z30 za6 (fun a=>qb (fun g x0=>qd0 x0 g.2.1) a.1 a.2.1)
def zt7 {R:Type}:Nat→Sm R:=cl 289 z2z c0
abbrev zj3:=mkld [] [] [0,1,7,8] [] [] (Zs 0 (Zl .kHold) (Zs 1 (Cod.fnc 289 (Zn) (Zc (Cod.cptr (CC.one Zi)) Zn)) (Zs 7 Zi (Zs 8 Zi Zz)))) (zvv (fun g x0=>qd0 x0 g.2.1)) (.xs 0 [] [] [] Zz (.r [4] [] [] (Zs 4 Zi Zz)))
def zid {R:Type}:Lp Kd El R:=lp 2 zj3.sem l0
abbrev zwk:ZC ((List Hold)×Int×Unit):=Zc (Zl .kHold) (Zc Zi Zn)
abbrev zakj {R:Type}:Sm R:=semP zwk za6 (fun a=>qbc a.1 a.2.1)
abbrev zalo {R:Type}:Sm R:=semP zwk z1d (fun a=>qdl a.1 a.2.1)
abbrev zwo:ZC (Unit×Int×Int×Unit):=Zc (Cod.ptrc 100000) (Zc Zi (Zc Zi Zn))
abbrev zall {R:Type}:Sm R:=semM zwo (BC.one zar) ziy (fun a b=>qdc a.2.1 a.2.2.1 b)
abbrev zali {R:Type}:Sm R:=semP zmj zau (fun a=>qd8 a.1 a.2.1)
abbrev zane:ZC (Rule×Int×Int×Int×Unit):=Zc (Cod.agg zck) (Zc Zi (Zc Zi (Zc Zi Zn)))
abbrev z2d {R:Type}:Sm R:=semP zane zau (fun a=>qbv a.1 a.2.1 a.2.2.1 a.2.2.2.1)
abbrev z19 {R:Type}:Sm R:=semP zwm za6 (fun a=>qba a.1)
def z5b {R:Type}:Nat→Sm R:=c0
abbrev zsq:=mkld [] [] [3,12,13,14] [] [12] (Zs 3 Zi (FC.arr 12 12 (Zs 13 Zi (Zs 14 Zi (FC.own 12 Kd.ki64 false Zz))))) zabo (.x 0 [3] [] [] (Zs 3 Zi Zz))
def zoe {R:Type}:Lp Kd El R:=lp 3 zsq.sem l0
abbrev z8k:ZC ((List Rule)×Int×Int×Int×Unit):=Zc (Zl .kRule) (Zc Zi (Zc Zi (Zc Zi Zn)))
abbrev zajw {R:Type}:Sm R:=semP z8k za6 (fun a=>qa3 a.1 a.2.1 a.2.2.1 a.2.2.2.1)
def z4j {R:Type}:Nat→Sm R:=cl 311 z2d (cl 312 z19 c0)
abbrev zrz:=mkld [] [] [0,1,2,3,9,12,13,14] [] [] (Zs 0 (Zl .kRule) (Zs 1 Zi (Zs 2 Zi (Zs 3 Zi (Zs 9 Zi (Zs 12 (Zl .kRule) (Zs 13 Zi (Zs 14 Zi Zz)))))))) zaba (.x 0 [9] [] [] (Zs 9 Zi Zz))
def znr {R:Type}:Lp Kd El R:=lp 3 zrz.sem l0
abbrev zacp:ZD (Rule×Bool):=(Cod.tup2 (Zc (Cod.agg zck) (Zc Zb Zn)))
abbrev zals {R:Type}:Sm R:=semP z8k zacp (fun a=>qdy a.1 a.2.1 a.2.2.1 a.2.2.2.1)
abbrev zanf:ZC (Circ×Int×Item×Unit):=Zc (Cod.agg zan) (Zc Zi (Zc (Cod.agg za0) Zn))
abbrev zaky {R:Type}:Sm R:=semP zanf zacp (fun a=>qby a.1 a.2.1 a.2.2.1)
abbrev zaq5:ZD (Calendar):=(Cod.agg zav)
abbrev zak7 {R:Type}:Sm R:=semP zo2 zaq5 (fun a=>qca a.1 a.2.1)
abbrev zamg {R:Type}:Sm R:=semP zby zau (fun a=>qer a.1)
abbrev z3l {R:Type}:Sm R:=semP zmj zau (fun a=>qet a.1 a.2.1)
abbrev z22 {R:Type}:Sm R:=semP zby zau (fun a=>qd5 a.1)
abbrev zamz:ZC ((List Int)×Int×Unit):=Zc (Zl .ki64) (Zc Zi Zn)
abbrev zaq0:ZD (Int×Bool):=(Cod.tup2 (Zc Zi (Zc Zb Zn)))
abbrev zaka {R:Type}:Sm R:=semP zamz zaq0 (fun a=>qas a.1 a.2.1)
def z43 {R:Type}:Nat→Sm R:=cl 324 z3l (cl 349 z22 c0)
abbrev zsj:=mkld [] [] [0,1,6,7,8] [] [] (Zs 0 (Zl .ki64) (Zs 1 Zi (Zs 6 Zi (Zs 7 Zi (Zs 8 Zi Zz))))) zabk (.x 0 [0,1,6,7] [] [] (Zs 0 (Zl .ki64) (Zs 1 Zi (Zs 6 Zi (Zs 7 Zi Zz)))))
def zn7 {R:Type}:Lp Kd El R:=lp 3 zsj.sem l0
abbrev zaqz:ZD ((V7 Bool)):=(Cod.agg zbj)
abbrev z1u {R:Type}:Sm R:=semP zac8 zaqz (fun a=>qam a.1)
def z4x {R:Type}:Nat→Sm R:=c0
abbrev zse:=mkld [] [] [1,2,3,5] [1,2,3] [] (Zp 1 1 (Zp 2 2 (Zp 3 3 (Zs 5 Zi (Zx 1 zav (Zx 2 zbj (Zx 3 zbj Zz))))))) zabh (.x 0 [2,3] [2,3] [] (Zp 2 2 (Zp 3 3 (Zx 2 zbj (Zx 3 zbj Zz)))))
def zn2 {R:Type}:Lp Kd El R:=lp 3 zse.sem l0
abbrev zal2 {R:Type}:Sm R:=semP zby zau (fun a=>qe9 a.1)
abbrev z2w {R:Type}:Sm R:=semP zby za6 (fun a=>qcw a.1)
abbrev zwi:ZC (Calendar×Int×Unit):=Zc (Cod.agg zav) (Zc Zi Zn)
abbrev zqq {R:Type}:Sm R:=semP zwi zau (fun a=>qb8 a.1 a.2.1)
abbrev z1w {R:Type}:Sm R:=semP zwi zix (fun a=>qav a.1 a.2.1)
def z47 {R:Type}:Nat→Sm R:=cl 304 zqq c0
abbrev zsm:=mkld [] [] [2,6] [2] [] (Zp 2 2 (Zs 6 Zi (Zx 2 zav Zz))) zabm (.xs 0 [] [] [] Zz (.r [4,5] [] [] (Zs 4 Zi (Zs 5 Zi Zz))))
def zoa {R:Type}:Lp Kd El R:=lp 2 zsm.sem l0
abbrev z8j:ZC (Calendar×Int×Int×Unit):=Zc (Cod.agg zav) (Zc Zi (Zc Zi Zn))
abbrev zajv {R:Type}:Sm R:=semP z8j zix (fun a=>qa1 a.1 a.2.1 a.2.2.1)
def z4h {R:Type}:Nat→Sm R:=cl 257 z2s (cl 269 z1w c0)
abbrev zrx:=mkld [] [] [3,8,28,29] [3] [] (Zp 3 3 (Zs 8 Zi (Zs 28 Zi (Zs 29 Zi (Zx 3 zav Zz))))) zaa8 (.xs 0 [8] [] [] (Zs 8 Zi Zz) (.r [6,7] [] [] (Zs 6 Zi (Zs 7 Zi Zz))))
def znp {R:Type}:Lp Kd El R:=lp 9 zrx.sem l0
abbrev zalh {R:Type}:Sm R:=semM zwo (BC.one zar) za6 (fun a b=>qd6 a.2.1 a.2.2.1 b)
abbrev zann:ZC (Hold×Int×Int×Unit):=Zc (Cod.agg za2) (Zc (Cod.cptr (CC.one Zi)) (Zc (Cod.cptr (CC.one Zi)) Zn))
abbrev z2i {R:Type}:Sm R:=semP zann zau (fun a=>qce a.1 a.2.1 a.2.2.1)
abbrev zq6:ZC ((List Hold)×((Unit)×(Int×Int×Unit))×Unit):=Zc (Zl .kHold) (Zc (Cod.fnc 285 (Zn) (Zc (Cod.cptr (CC.one Zi)) (Zc (Cod.cptr (CC.one Zi)) Zn))) Zn)
abbrev z16 {R:Type}:Sm R:=semP zq6 za6 (fun a=>qb (fun g x0=>qce x0 g.2.1 g.2.2.1) a.1 a.2.1)
def zt8 {R:Type}:Nat→Sm R:=cl 285 z2i c0
abbrev zj4:=mkld [] [] [0,1,7,8] [] [] (Zs 0 (Zl .kHold) (Zs 1 (Cod.fnc 285 (Zn) (Zc (Cod.cptr (CC.one Zi)) (Zc (Cod.cptr (CC.one Zi)) Zn))) (Zs 7 Zi (Zs 8 Zi Zz)))) (zvv (fun g x0=>qce x0 g.2.1 g.2.2.1)) (.xs 0 [] [] [] Zz (.r [4] [] [] (Zs 4 Zi Zz)))
def zie {R:Type}:Lp Kd El R:=lp 2 zj4.sem l0
abbrev zala {R:Type}:Sm R:=semP zq6 zau (fun a=>qch (fun g x0=>qce x0 g.2.1 g.2.2.1) a.1 a.2.1)
abbrev zak5 {R:Type}:Sm R:=semP zac7 z71 (fun a=>qc8 a.1)
abbrev zan6:ZC ((List Hold)×Int×Hold×Unit):=Zc (Zl .kHold) (Zc Zi (Zc (Cod.agg za2) Zn))
abbrev zamd {R:Type}:Sm R:=semP zan6 z71 (fun a=>qek a.1 a.2.1 a.2.2.1)
abbrev zamy:ZC ((List Hold)×Int×Int×Int×Int×Unit):=Zc (Zl .kHold) (Zc Zi (Zc Zi (Zc Zi (Zc Zi Zn))))
abbrev zab5:ZD ((List Hold)×Int):=(Cod.tup2 (Zc (Zl .kHold) (Zc Zi Zn)))
abbrev zaj7 {R:Type}:Sm R:=semP zamy zab5 (fun a=>qap a.1 a.2.1 a.2.2.1 a.2.2.2.1 a.2.2.2.2.1)
abbrev zam6:ZC (Unit×(List Hold)×Int×Unit):=Zc (Cod.ptrc 100000) (Zc (Zl .kHold) (Zc Zi Zn))
abbrev zakh {R:Type}:Sm R:=semM zam6 (BC.one zar) ziy (fun a b=>qb7 a.2.1 a.2.2.1 b)
abbrev zank:ZC (Unit×Int×Hold×Unit):=Zc (Cod.ptrc 100000) (Zc Zi (Zc (Cod.agg za2) Zn))
abbrev zak6 {R:Type}:Sm R:=semM zank (BC.one zar) ziy (fun a b=>qc9 a.2.1 a.2.2.1 b)
abbrev z2n {R:Type}:Sm R:=semM ztx (BC.one zar) ziy (fun a b=>qcn a.2.1 b)
abbrev zamv:ZC (Unit×Unit):=Zc (Cod.ptrc 100000) Zn
abbrev zaj0 {R:Type}:Sm R:=semM zamv (BC.one zar) ztn (fun a b=>qaa b)
abbrev zra:ZC (Circ×Int×Int×Unit):=Zc (Cod.agg zan) (Zc Zi (Zc Zi Zn))
abbrev zald {R:Type}:Sm R:=semP zra ztn (fun a=>qcy a.1 a.2.1 a.2.2.1)
abbrev zamw:ZC ((List Charge)×Int×Unit):=Zc (Zl .kCharge) (Zc Zi Zn)
abbrev z1p {R:Type}:Sm R:=semP zamw za6 (fun a=>qaf a.1 a.2.1)
def z4r {R:Type}:Nat→Sm R:=c0
abbrev zr8:=mkld [] [] [1,5,8,9,10] [] [] (Zs 1 Zi (Zs 5 Zi (Zs 8 (Zl .kCharge) (Zs 9 Zi (Zs 10 Zi Zz))))) zkj (.x 0 [5] [] [] (Zs 5 Zi Zz))
def znw {R:Type}:Lp Kd El R:=lp 3 zr8.sem l0
abbrev zv1:ZD ((List Loan)):=(Zl .kLoan)
abbrev z3s {R:Type}:Sm R:=semP zjs zv1 (fun a=>qw a.1 a.2.1)
def zad1 {R:Type}:Nat→Sm R:=c0
abbrev zz9:=mkld [(5,5,Kd.kLoan)] [] [1,5,8,9,10] [] [5] (Zs 1 Zi (FC.arr 5 5 (Zs 8 (Zl .kLoan) (Zs 9 Zi (Zs 10 Zi (FC.own 5 Kd.kLoan false Zz)))))) zaqy (.x 0 [5] [] [5] (FC.arr 5 5 (FC.own 5 Kd.kLoan false Zz)))
def ztk {R:Type}:Lp Kd El R:=lp 3 zz9.sem l0
abbrev zq4:ZC ((List Loan)×Int×Int×Unit):=Zc (Zl .kLoan) (Zc Zi (Zc Zi Zn))
abbrev zaj8 {R:Type}:Sm R:=semP zq4 za6 (fun a=>qaq a.1 a.2.1 a.2.2.1)
def z41 {R:Type}:Nat→Sm R:=cl 190 z3s c0
abbrev zsh:=mkld [] [] [2,7,12,13,14] [] [] (Zs 2 Zi (Zs 7 Zi (Zs 12 (Zl .kLoan) (Zs 13 Zi (Zs 14 Zi Zz))))) zabj (.x 0 [7] [] [] (Zs 7 Zi Zz))
def zn5 {R:Type}:Lp Kd El R:=lp 3 zsh.sem l0
abbrev zamu:ZC (Patron×Int×Int×Int×Unit):=Zc (Cod.agg za8) (Zc Zi (Zc Zi (Zc Zi Zn)))
abbrev zajy {R:Type}:Sm R:=semP zamu zacf (fun a=>qa8 a.1 a.2.1 a.2.2.1 a.2.2.2.1)
def z4m {R:Type}:Nat→Sm R:=c0
abbrev zr2:=mkld [(9,9,Kd.ki64)] [] [9,22,23,24] [] [9,22] (FC.arr 9 9 (FC.arr 22 22 (Zs 23 Zi (Zs 24 Zi (FC.own 9 Kd.ki64 false (FC.own 22 Kd.kbool false Zz)))))) zabd (.x 0 [9] [] [9] (FC.arr 9 9 (FC.own 9 Kd.ki64 false Zz)))
def znu {R:Type}:Lp Kd El R:=lp 3 zr2.sem l0
abbrev z2x {R:Type}:Sm R:=semP z8v zau (fun a=>qcx a.1 a.2.1)
abbrev zakq {R:Type}:Sm R:=semP zwi zix (fun a=>qbl a.1 a.2.1)
def z5h {R:Type}:Nat→Sm R:=cl 304 zqq c0
abbrev zsw:=mkld [] [] [2,6] [2] [] (Zp 2 2 (Zs 6 Zi (Zx 2 zav Zz))) zabt (.xs 0 [] [] [] Zz (.r [4,5] [] [] (Zs 4 Zi (Zs 5 Zi Zz))))
def zok {R:Type}:Lp Kd El R:=lp 2 zsw.sem l0
abbrev z8s:ZC (Rule×Calendar×Int×Int×Unit):=Zc (Cod.agg zck) (Zc (Cod.agg zav) (Zc Zi (Zc Zi Zn)))
abbrev zak0 {R:Type}:Sm R:=semP z8s zix (fun a=>qc2 a.1 a.2.1 a.2.2.1 a.2.2.2.1)
abbrev zan1:ZC (Circ×Item×Patron×Int×Unit):=Zc (Cod.agg zan) (Zc (Cod.agg za0) (Zc (Cod.agg za8) (Zc Zi Zn)))
abbrev zal4 {R:Type}:Sm R:=semP zan1 zix (fun a=>qeb a.1 a.2.1 a.2.2.1 a.2.2.2.1)
abbrev zanp:ZC (Loan×Loan×Unit):=Zc (Cod.agg zbs) (Zc (Cod.cptr zbs) Zn)
abbrev z2k {R:Type}:Sm R:=semP zanp zau (fun a=>qcg a.1 a.2.1)
abbrev zk1:ZC ((List Loan)×((Unit)×(Loan×Unit))×Unit):=Zc (Zl .kLoan) (Zc (Cod.fnc 193 (Zn) (Zc (Cod.cptr zbs) Zn)) Zn)
abbrev z3q {R:Type}:Sm R:=semP zk1 za6 (fun a=>qi (fun g x0=>qcg x0 g.2.1) a.1 a.2.1)
def zue {R:Type}:Nat→Sm R:=cl 193 z2k c0
abbrev zkb:=mkld [] [] [0,1,7,8] [] [] (Zs 0 (Zl .kLoan) (Zs 1 (Cod.fnc 193 (Zn) (Zc (Cod.cptr zbs) Zn)) (Zs 7 Zi (Zs 8 Zi Zz)))) (zajn (fun g x0=>qcg x0 g.2.1)) (.xs 0 [] [] [] Zz (.r [4] [] [] (Zs 4 Zi Zz)))
def zij {R:Type}:Lp Kd El R:=lp 2 zkb.sem l0
abbrev zv8 {R:Type}:Sm R:=semP zk1 zab8 (fun a=>qbf (fun g x0=>qcg x0 g.2.1) a.1 a.2.1)
abbrev zak4 {R:Type}:Sm R:=semP zq2 zv1 (fun a=>qc7 a.1)
abbrev zwr:ZC ((List Loan)×Int×(List Loan)×Unit):=Zc (Zl .kLoan) (Zc Zi (Zc (Zl .kLoan) Zn))
abbrev zack:ZD ((List Loan)):=zv1
def zaa3 (a:(List Loan)×Int×(List Loan)×Unit):Option ((List Loan)):=qdp a.1 a.2.1 a.2.2.1
abbrev zasb {R:Type}:Sm R:=semP zwr zack zaa3
abbrev zto:ZD ((List Loan)×Int):=(Cod.tup2 (Zc (Zl .kLoan) (Zc Zi Zn)))
abbrev zak9 {R:Type}:Sm R:=semP zq2 zto (fun a=>qcd a.1)
abbrev zana:ZC ((List Loan)×Loan×Unit):=Zc (Zl .kLoan) (Zc (Cod.agg zbs) Zn)
abbrev zakr {R:Type}:Sm R:=semP zana zto (fun a=>qbn a.1 a.2.1)
abbrev zam5:ZC (Unit×(List Loan)×Int×Unit):=Zc (Cod.ptrc 100000) (Zc (Zl .kLoan) (Zc Zi Zn))
abbrev zakg {R:Type}:Sm R:=semM zam5 (BC.one zar) ziy (fun a b=>qb6 a.2.1 a.2.2.1 b)
abbrev zwu:ZC ((List Hold)×Int×Int×Unit):=zan7
abbrev zacn:ZD ((List Hold)):=z71
def zaa6 (a:(List Hold)×Int×Int×Unit):Option ((List Hold)):=qds a.1 a.2.1 a.2.2.1
abbrev zase {R:Type}:Sm R:=semP zwu zacn zaa6
abbrev zaq6:ZD ((List Hold)×Hold×Int):=(Cod.tup3 (Zc (Zl .kHold) (Zc (Cod.agg za2) (Zc Zi Zn))))
abbrev zal5 {R:Type}:Sm R:=semP zwk zaq6 (fun a=>qec a.1 a.2.1)
abbrev zamf {R:Type}:Sm R:=semM ztx (BC.one zar) ziy (fun a b=>qep a.2.1 b)
abbrev ziw:ZD (Circ×Int×Int):=(Cod.tup3 (Zc (Cod.agg zan) (Zc Zi (Zc Zi Zn))))
abbrev zajx {R:Type}:Sm R:=semM ztx (BC.one zar) ziw (fun a b=>qa7 a.2.1 b)
abbrev zam4:ZC (Hold×Item×Unit):=Zc (Cod.agg za2) (Zc (Cod.agg za0) Zn)
abbrev z13 {R:Type}:Sm R:=semP zam4 zau (fun a=>qb5 a.1 a.2.1)
abbrev zanh:ZC (Hold×Int×Item×Unit):=Zc (Cod.agg za2) (Zc (Cod.cptr (CC.one Zi)) (Zc (Cod.cptr za0) Zn))
abbrev z2f {R:Type}:Sm R:=semP zanh zau (fun a=>qc0 a.1 a.2.1 a.2.2.1)
abbrev z32:ZC ((List Hold)×((Unit)×(Int×Item×Unit))×Unit):=Zc (Zl .kHold) (Zc (Cod.fnc 100 (Zn) (Zc (Cod.cptr (CC.one Zi)) (Zc (Cod.cptr za0) Zn))) Zn)
abbrev z17 {R:Type}:Sm R:=semP z32 za6 (fun a=>qb (fun g x0=>qc0 x0 g.2.1 g.2.2.1) a.1 a.2.1)
def zt9 {R:Type}:Nat→Sm R:=cl 100 z2f c0
abbrev zj5:=mkld [] [] [0,1,7,8] [] [] (Zs 0 (Zl .kHold) (Zs 1 (Cod.fnc 100 (Zn) (Zc (Cod.cptr (CC.one Zi)) (Zc (Cod.cptr za0) Zn))) (Zs 7 Zi (Zs 8 Zi Zz)))) (zvv (fun g x0=>qc0 x0 g.2.1 g.2.2.1)) (.xs 0 [] [] [] Zz (.r [4] [] [] (Zs 4 Zi Zz)))
def zif {R:Type}:Lp Kd El R:=lp 2 zj5.sem l0
abbrev zam9:ZC (Circ×Int×Int×Int×Unit):=Zc (Cod.agg zan) (Zc Zi (Zc Zi (Zc Zi Zn)))
abbrev zakn {R:Type}:Sm R:=semP zam9 ziw (fun a=>qbi a.1 a.2.1 a.2.2.1 a.2.2.2.1)
abbrev zan2:ZC (Item×Int×Unit):=Zc (Cod.agg za0) (Zc Zi Zn)
abbrev zal6 {R:Type}:Sm R:=semP zan2 zau (fun a=>qed a.1 a.2.1)
abbrev zans:ZC (Item×Hold×Unit):=Zc (Cod.agg za0) (Zc (Cod.cptr za2) Zn)
abbrev z2q {R:Type}:Sm R:=semP zans zau (fun a=>qcq a.1 a.2.1)
abbrev z34:ZC ((List Item)×((Unit)×(Hold×Unit))×Unit):=Zc (Zl .kItem) (Zc (Cod.fnc 223 (Zn) (Zc (Cod.cptr za2) Zn)) Zn)
abbrev zos {R:Type}:Sm R:=semP z34 za6 (fun a=>qd (fun g x0=>qcq x0 g.2.1) a.1 a.2.1)
def zud {R:Type}:Nat→Sm R:=cl 223 z2q c0
abbrev zka:=mkld [] [] [0,1,7,8] [] [] (Zs 0 (Zl .kItem) (Zs 1 (Cod.fnc 223 (Zn) (Zc (Cod.cptr za2) Zn)) (Zs 7 Zi (Zs 8 Zi Zz)))) (z7y (fun g x0=>qcq x0 g.2.1)) (.xs 0 [] [] [] Zz (.r [4] [] [] (Zs 4 Zi Zz)))
def zii {R:Type}:Lp Kd El R:=lp 2 zka.sem l0
abbrev zarv:ZC (Circ×Patron×Hold×Unit):=Zc (Cod.agg zan) (Zc (Cod.agg za8) (Zc (Cod.agg za2) Zn))
abbrev zar6:ZD (Item×Int):=(Cod.tup2 (Zc (Cod.agg za0) (Zc Zi Zn)))
abbrev zark {R:Type}:Sm R:=semP zarv zar6 (fun a=>qr a.1 a.2.1 a.2.2.1)
def zadw {R:Type}:Nat→Sm R:=cl 78 zot (cl 80 zos (cl 115 z2x (cl 190 z3s c0)))
abbrev zz4:=mkld [] [] [3,5,6,8,36,37,38] [3,5,6] [] (Zp 3 3 (Zp 5 5 (Zp 6 6 (Zs 8 Zi (Zs 36 (Zl .kLoan) (Zs 37 Zi (Zs 38 Zi (Zx 3 zan (Zx 5 za2 (Zx 6 za0 Zz)))))))))) zaqv (.xs 0 [3,6,8] [3,6] [] (Zp 3 3 (Zp 6 6 (Zs 8 Zi (Zx 3 zan (Zx 6 za0 Zz))))) (.r [7] [6] [6] (Zp 6 6 (Zs 7 Zi (Zx 6 za0 Zz)))))
def ztg {R:Type}:Lp Kd El R:=lp 9 zz4.sem l0
abbrev zan4:ZC ((List Hold)×Hold×Unit):=Zc (Zl .kHold) (Zc (Cod.agg za2) Zn)
abbrev zal9 {R:Type}:Sm R:=semP zan4 zab5 (fun a=>qeg a.1 a.2.1)
abbrev zakp {R:Type}:Sm R:=semM ztx (BC.one zar) ziy (fun a b=>qbk a.2.1 b)
def z5g {R:Type}:Nat→Sm R:=cl 110 z2n (cl 156 z2g c0)
abbrev zsv:=mkld [] [] [0,1,11,12] [100000] [] (Zp 0 100000 (Zs 1 Zi (Zs 11 Zi (Zs 12 Zi (Zx 100000 zar Zz))))) zabs (.xs 0 [] [100000] [] (Zx 100000 zar Zz) (.r [] [] [100000] (Zx 100000 zar Zz)))
def zoj {R:Type}:Lp Kd El R:=lp 1 zsv.sem l0
abbrev zan5:ZC (Circ×Int×Int×Int×Int×Unit):=Zc (Cod.agg zan) (Zc Zi (Zc Zi (Zc Zi (Zc Zi Zn))))
abbrev zamc {R:Type}:Sm R:=semP zan5 ziw (fun a=>qej a.1 a.2.1 a.2.2.1 a.2.2.2.1 a.2.2.2.2.1)
abbrev zano:ZC (Hold×Circ×Item×Unit):=Zc (Cod.agg za2) (Zc (Cod.cptr zan) (Zc (Cod.cptr za0) Zn))
abbrev z2j {R:Type}:Sm R:=semP zano zau (fun a=>qcf a.1 a.2.1 a.2.2.1)
abbrev zq7:ZC ((List Hold)×((Unit)×(Circ×Item×Unit))×Unit):=Zc (Zl .kHold) (Zc (Cod.fnc 116 (Zn) (Zc (Cod.cptr zan) (Zc (Cod.cptr za0) Zn))) Zn)
abbrev z18 {R:Type}:Sm R:=semP zq7 za6 (fun a=>qb (fun g x0=>qcf x0 g.2.1 g.2.2.1) a.1 a.2.1)
def zua {R:Type}:Nat→Sm R:=cl 116 z2j c0
abbrev zj6:=mkld [] [] [0,1,7,8] [] [] (Zs 0 (Zl .kHold) (Zs 1 (Cod.fnc 116 (Zn) (Zc (Cod.cptr zan) (Zc (Cod.cptr za0) Zn))) (Zs 7 Zi (Zs 8 Zi Zz)))) (zvv (fun g x0=>qcf x0 g.2.1 g.2.2.1)) (.xs 0 [] [] [] Zz (.r [4] [] [] (Zs 4 Zi Zz)))
def zig {R:Type}:Lp Kd El R:=lp 2 zj6.sem l0
abbrev zv9 {R:Type}:Sm R:=semP zq7 zau (fun a=>qch (fun g x0=>qcf x0 g.2.1 g.2.2.1) a.1 a.2.1)
abbrev zan0:ZC (Rule×Calendar×Loan×Int×Int×Unit):=Zc (Cod.agg zck) (Zc (Cod.agg zav) (Zc (Cod.agg zbs) (Zc Zi (Zc Zi Zn))))
abbrev zal3 {R:Type}:Sm R:=semP zan0 zix (fun a=>qea a.1 a.2.1 a.2.2.1 a.2.2.2.1 a.2.2.2.2.1)
abbrev zanx:ZC ((List Loan)×Int×Loan×Unit):=Zc (Zl .kLoan) (Zc Zi (Zc (Cod.agg zbs) Zn))
abbrev zalj {R:Type}:Sm R:=semP zanx zv1 (fun a=>qda a.1 a.2.1 a.2.2.1)
abbrev zal1 {R:Type}:Sm R:=semP zq4 zto (fun a=>qe8 a.1 a.2.1 a.2.2.1)
abbrev zakw {R:Type}:Sm R:=semP zo2 ziw (fun a=>qbs a.1 a.2.1)
abbrev zam0:ZC (Circ×Hold×Unit):=Zc (Cod.agg zan) (Zc (Cod.agg za2) Zn)
abbrev zaq1:ZD (Loan×Item×Bool):=(Cod.tup3 (Zc (Cod.agg zbs) (Zc (Cod.agg za0) (Zc Zb Zn))))
abbrev zakb {R:Type}:Sm R:=semP zam0 zaq1 (fun a=>qat a.1 a.2.1)
def z44 {R:Type}:Nat→Sm R:=cl 59 zqt (cl 101 z13 c0)
abbrev zsk:=mkld [] [] [2,3,4,5,6,12,13,14] [2,3,4,5] [] (Zp 2 2 (Zp 3 3 (Zp 4 4 (Zp 5 5 (Zs 6 Zb (Zs 12 (Zl .kItem) (Zs 13 Zi (Zs 14 Zi (Zx 2 zan (Zx 3 za2 (Zx 4 zbs (Zx 5 za0 Zz)))))))))))) zabl (.x 0 [4,5,6] [4,5] [] (Zp 4 4 (Zp 5 5 (Zs 6 Zb (Zx 4 zbs (Zx 5 za0 Zz))))))
def zn8 {R:Type}:Lp Kd El R:=lp 2 zsk.sem l0
abbrev zalz {R:Type}:Sm R:=semP zq4 zto (fun a=>qe6 a.1 a.2.1 a.2.2.1)
abbrev zal0 {R:Type}:Sm R:=semP zo2 ziw (fun a=>qe7 a.1 a.2.1)
abbrev zwt:ZC ((List Loan)×Int×Int×Unit):=zq4
abbrev zacm:ZD ((List Loan)):=zv1
def zaa5 (a:(List Loan)×Int×Int×Unit):Option ((List Loan)):=qdr a.1 a.2.1 a.2.2.1
abbrev zasd {R:Type}:Sm R:=semP zwt zacm zaa5
abbrev zalt {R:Type}:Sm R:=semP zjs zv1 (fun a=>qe0 a.1 a.2.1)
abbrev zaq7:ZD ((List Loan)×Loan×Int):=(Cod.tup3 (Zc (Zl .kLoan) (Zc (Cod.agg zbs) (Zc Zi Zn))))
abbrev zamb {R:Type}:Sm R:=semP zjs zaq7 (fun a=>qei a.1 a.2.1)
abbrev z24 {R:Type}:Sm R:=semP zmj za6 (fun a=>qd9 a.1 a.2.1)
abbrev zaj2 {R:Type}:Sm R:=semP z8j za6 (fun a=>qac a.1 a.2.1 a.2.2.1)
def z4o {R:Type}:Nat→Sm R:=cl 308 z1u (cl 309 z24 (cl 310 z2w c0))
abbrev zr5:=mkld [] [] [1,2,3,7,8,22,23] [3,7] [] (Zs 1 Zi (Zs 2 Zi (Zp 3 3 (Zp 7 7 (Zs 8 Zi (Zs 22 (Cod.agg zbj) (Zs 23 Zi (Zx 3 zav (Zx 7 zbj Zz))))))))) zabf (.x 0 [1,2,3,7,8] [3,7] [] (Zs 1 Zi (Zs 2 Zi (Zp 3 3 (Zp 7 7 (Zs 8 Zi (Zx 3 zav (Zx 7 zbj Zz))))))))
abbrev zni:=mkld [] [] [1,2,7,8,40,41,42] [7] [] (Zs 1 Zi (Zs 2 Zi (Zp 7 7 (Zs 8 Zi (Zs 40 (Zl .ki64) (Zs 41 Zi (Zs 42 Zi (Zx 7 zbj Zz)))))))) z03 (.x 2 [8] [] [] (Zs 8 Zi Zz))
def zib {R:Type}:Lp Kd El R:=lp 13 zni.sem (lp 7 zr5.sem l0)
abbrev zaml {R:Type}:Sm R:=semP z8s za6 (fun a=>qfb a.1 a.2.1 a.2.2.1 a.2.2.2.1)
abbrev zani:ZC ((List Charge)×Charge×Unit):=Zc (Zl .kCharge) (Zc (Cod.agg zc9) Zn)
abbrev zaca:ZD ((List Charge)×Int):=(Cod.tup2 (Zc (Zl .kCharge) (Zc Zi Zn)))
abbrev zak2 {R:Type}:Sm R:=semP zani zaca (fun a=>qc5 a.1 a.2.1)
abbrev zalu {R:Type}:Sm R:=semM z8l (BC.one zar) ziy (fun a b=>qe1 a.2.1 a.2.2.1 a.2.2.2.1 a.2.2.2.2.1 b)
abbrev zanu:ZC (Charge×Int×Int×Int×Unit):=Zc (Cod.agg zc9) (Zc (Cod.cptr (CC.one Zi)) (Zc (Cod.cptr (CC.one Zi)) (Zc (Cod.cptr (CC.one Zi)) Zn)))
abbrev z2u {R:Type}:Sm R:=semP zanu zau (fun a=>qcu a.1 a.2.1 a.2.2.1 a.2.2.2.1)
abbrev zamx:ZC ((List Charge)×((Unit)×(Int×Int×Int×Unit))×Unit):=Zc (Zl .kCharge) (Zc (Cod.fnc 283 (Zn) (Zc (Cod.cptr (CC.one Zi)) (Zc (Cod.cptr (CC.one Zi)) (Zc (Cod.cptr (CC.one Zi)) Zn)))) Zn)
abbrev zab4:ZD ((List Charge)×Int×Int):=(Cod.tup3 (Zc (Zl .kCharge) (Zc Zi (Zc Zi Zn))))
abbrev zaj6 {R:Type}:Sm R:=semP zamx zab4 (fun a=>qan (fun g x0=>qcu x0 g.2.1 g.2.2.1 g.2.2.2.1) a.1 a.2.1)
def z4y {R:Type}:Nat→Sm R:=cl 283 z2u c0
abbrev zsf:=mkld [(4,4,Kd.kCharge)] [] [1,4,5,6,9,10,11] [] [4] (Zs 1 (Cod.fnc 283 (Zn) (Zc (Cod.cptr (CC.one Zi)) (Zc (Cod.cptr (CC.one Zi)) (Zc (Cod.cptr (CC.one Zi)) Zn)))) (FC.arr 4 4 (Zs 5 Zi (Zs 6 Zi (Zs 9 (Zl .kCharge) (Zs 10 Zi (Zs 11 Zi (FC.own 4 Kd.kCharge false Zz)))))))) (zabi (fun g x0=>qcu x0 g.2.1 g.2.2.1 g.2.2.2.1)) (.x 0 [4,5,6] [] [4] (FC.arr 4 4 (Zs 5 Zi (Zs 6 Zi (FC.own 4 Kd.kCharge false Zz)))))
def zn3 {R:Type}:Lp Kd El R:=lp 2 zsf.sem l0
abbrev zanb:ZC ((List Charge)×Int×Int×Int×Unit):=Zc (Zl .kCharge) (Zc Zi (Zc Zi (Zc Zi Zn)))
abbrev zaku {R:Type}:Sm R:=semP zanb zaca (fun a=>qbq a.1 a.2.1 a.2.2.1 a.2.2.2.1)
abbrev zamj {R:Type}:Sm R:=semM zwo (BC.one zar) ziy (fun a b=>qez a.2.1 a.2.2.1 b)
abbrev zami {R:Type}:Sm R:=semP zra ziw (fun a=>qew a.1 a.2.1 a.2.2.1)
abbrev z3g {R:Type}:Sm R:=semP z8x zau (fun a=>qdz)
abbrev zam8:ZC ((List Charge)×Int×Int×Unit):=Zc (Zl .kCharge) (Zc Zi (Zc Zi Zn))
abbrev zakl {R:Type}:Sm R:=semP zam8 zab4 (fun a=>qbe a.1 a.2.1 a.2.2.1)
def z5d {R:Type}:Nat→Sm R:=c0
abbrev zss:=mkld [(9,9,Kd.kCharge)] [] [1,9,10,21,22,23] [] [9] (Zs 1 Zi (FC.arr 9 9 (Zs 10 Zi (Zs 21 (Zl .kCharge) (Zs 22 Zi (Zs 23 Zi (FC.own 9 Kd.kCharge false Zz))))))) zon (.x 0 [9,10] [] [9] (FC.arr 9 9 (Zs 10 Zi (FC.own 9 Kd.kCharge false Zz))))
def zog {R:Type}:Lp Kd El R:=lp 6 zss.sem l0
abbrev z3o {R:Type}:Sm R:=semP zra ziw (fun a=>qex a.1 a.2.1 a.2.2.1)
abbrev z8n:ZC (Circ×Int×Int×Unit):=zra
abbrev zaq2:ZD (Bool):=zau
def zaay (a:Circ×Int×Int×Unit):Option (Bool):=qau a.1 a.2.1 a.2.2.1
abbrev zakc {R:Type}:Sm R:=semP z8n zaq2 zaay
def z45 {R:Type}:Nat→Sm R:=cl 15 z3g (cl 22 z3n (cl 44 z3o (cl 45 z1p c0)))
abbrev zsl:=mkld [] [] [1,2,3,7,8,10] [3,7] [] (Zs 1 Zi (Zs 2 Zi (Zp 3 3 (Zp 7 7 (Zs 8 Zi (Zs 10 Zi (Zx 3 zan (Zx 7 zan Zz)))))))) zkp (.xs 0 [1,2,7,8] [7] [] (Zs 1 Zi (Zs 2 Zi (Zp 7 7 (Zs 8 Zi (Zx 7 zan Zz))))) (.r [6] [] [] (Zs 6 Zb Zz)))
def zn9 {R:Type}:Lp Kd El R:=lp 7 zsl.sem l0
end Go.Proofs.YtdahfgialanmpaaGreatDoor
namespace Go.Proofs.YtdahfgialanmpaaGreatDoor
set_option maxRecDepth 100000
open Ev
open Go (IntKind)
open Go
theorem zaom:∀k,CCOk (ccK k)
 |.kItem=>zmx
 |.kPatron=>zhq
 |.kLoan=>zmy
 |.kHold=>zmw
 |.kCharge=>zhp
 |.kRule=>zm0
 |.ki64=>CCOk.one (zah.int _)
 |.kMove=>zmz
 |.kbool=>CCOk.one zah.bool
 |.ku16=>CCOk.one (zah.int _)
 |.ku8=>CCOk.one (zah.int _)
 |.kUtf8_acceptRange=>zcu
theorem sgok:SgOk sg:=zamm (cc:=ccK) (fun _=>rfl) (fun _=>rfl) zaom (by intro k x;cases k<;>rfl) (by intro k x;cases k<;>rfl) (by intro k;cases k<;>decide)
theorem eok:∀t,zapa t=true→EqOk Tryz.prog t:=z50 (by kernel_rfl) (zahw)
theorem good:GoodP Tryz.prog sg:=⟨prOk (by kernel_rfl) (by kernel_rfl),sgok,eok⟩
end Go.Proofs.YtdahfgialanmpaaGreatDoor
namespace Go.Proofs.YtdahfgialanmpaaGreatDoor.Ev
open Go
section
variable {P:Program} {w:World}
theorem zbc {dT sT ty elem:TypeId} {i0:TypeInfo} {g o dLen dCap sLen sCap z:Nat} {a:Addr} {L cs:List Value} {t:TypeId} (hu:P.underlying dT=some (.slice elem)) (hi:P.info? elem=some i0) (hz:i0.size=z)
 (hg:w.heap[g]?=some (.cells L.toArray t (0,0))) (hn:cs.length=Nat.min sLen dLen*z) (hsrc:∀j v,cs[j]?=some v→w.cell? (a.add j)=some v) (hfit:o+cs.length≤L.length) (h1:∀v∈cs,v.oneCell'=true) :
 (Builtin.copy_ #[dT,sT] ty #[.slice (some ⟨g,o,none⟩) dLen dCap,.slice (some a) sLen sCap]).run P w=.ok (goInt (Nat.min sLen dLen)) (w.setRow g (Go.splice L o cs).toArray):=by
 have hl:=run_firstCells_some (P:=P) w z (Nat.min sLen dLen) a sLen sCap cs hn hsrc
 have hst:=run_storeCells_at P g o t cs 0 L.toArray w hg (by simpa using hfit) h1
 simp only[Nat.add_zero]at hst
 subst hz
 simp[Builtin.copy_,run_underlying hu,Builtin.lenOf,sizeOf,typeInfo,hi,hl,hst,Go.splice]
theorem zjd {ops:Array Oper} {rest:List Oper} {o:Oper} {a:Act} {Q:Exit→Act→World→Prop} (hgd:o.guard=none) (d s:Operand) (t t':TypeId)
 (ho:o.op=.call {callee:=.builtin .copy,args:=#[d,s],argTypes:=#[t,t']}) (v u:Value) (hd:a.eval d=v) (hs:a.eval s=u) {v':Value} {w':World}
 (hr:(Builtin.copy_ #[t,t'] o.type #[v,u]).run P w=.ok v' w') (h:wpList P ops Q rest (a.put o.dst v') w'):wpList P ops Q (o::rest) a w:=
 wpList_plain hgd fun _ hK=>by
  unfold Oper.wp execOp
  simp only[ho,resolve,invoke,builtin,Sem.run_bind,Sem.run_pure,Result.andThen_ok,List.map_toArray,List.map_cons,List.map_nil,hd,hs,hr]
  exact hK _ _ h
theorem zcp {ops:Array Oper} {o:Oper} {a:Act} {K:Act→World→Prop} {Q:Exit→Act→World→Prop} {E:Prop}
 (hg:o.guard=none) (d x:Operand) (dT sT:TypeId) (hop:o.op=Op.call {callee:=Callee.builtin Builtin.copy,args:=#[d,x],argTypes:=#[dT,sT]})
 (v u:Value) (hd:a.eval d=v) (hx:a.eval x=u) {v':Value} {w':World} (hr:(Builtin.copy_ #[dT,sT] o.type #[v,u]).run P w=.ok v' w') (hK:K (a.put o.dst v') w') :
 if Region.wanted o (yielded ops a.tmps)=true then Oper.wp P o a w K Q else E:=by
 have hw:Region.wanted o (yielded ops a.tmps)=true:=by simp[Region.wanted,hg]
 rw[if_pos hw]
 unfold Oper.wp
 simp[execOp,hop,resolve,invoke,builtin,hd,hx,hr,Result.andThen]
 exact hK
theorem zkx {ops:Array Oper} {o:Oper} {a:Act} {K:Act→World→Prop} {Q:Exit→Act→World→Prop} {E:Prop}
 (hg:o.guard=none) (d x:Operand) (dT sT:TypeId) (hop:o.op=Op.call {callee:=Callee.builtin Builtin.append,args:=#[d,x],argTypes:=#[dT,sT]})
 (v u:Value) (hd:a.eval d=v) (hx:a.eval x=u) {v':Value} {w':World} (hr:(Builtin.append_ #[dT,sT] o.type #[v,u]).run P w=.ok v' w') (hK:K (a.put o.dst v') w') :
 if Region.wanted o (yielded ops a.tmps)=true then Oper.wp P o a w K Q else E:=by
 have hw:Region.wanted o (yielded ops a.tmps)=true:=by simp[Region.wanted,hg]
 rw[if_pos hw]
 unfold Oper.wp
 simp[execOp,hop,resolve,invoke,builtin,hd,hx,hr,Result.andThen]
 exact hK
theorem zbd {ops:Array Oper} {rest:List Oper} {o:Oper} {a:Act} {Q:Exit→Act→World→Prop} (hgd:o.guard=none) (s x:Operand) (t tn:TypeId)
 (ho:o.op=.call {callee:=.builtin .append,args:=#[s,x],argTypes:=#[t,tn]}) (vs vx:Value) (hs:a.eval s=vs) (hx:a.eval x=vx)
 {v':Value} {w':World} (hr:(Builtin.append_ #[t,tn] o.type #[vs,vx]).run P w=.ok v' w') (h:wpList P ops Q rest (a.put o.dst v') w'):wpList P ops Q (o::rest) a w:=
 Lib.wpList_append_run w hgd s x t tn ho vs vx hs hx v' w' hr h
theorem zi0 {t e ty:TypeId} {i0:TypeInfo} {z0:Value} {b o n c:Nat} {L:List Value} {tt:TypeId} (ht:P.underlying t=some (.slice e)) (hi:P.info? e=some i0) (hz:i0.zero=some z0)
 (hn:0<n) (hb:w.heap[b]?=some (.cells L.toArray tt (0,0))) (hfit:o+n*z0.cells.size≤L.length) (h1:∀v∈z0.cells,v.oneCell'=true) :
 (Builtin.clear_ #[t] ty #[.slice (some ⟨b,o,none⟩) n c]).run P w=.ok (.tuple #[]) (w.setRow b (Go.splice L o (Builtin.zeroCells z0.cells n).toList).toArray):=by
 have hl:(Builtin.zeroCells z0.cells n).toList.length=n*z0.cells.size:=by rw[Array.length_toList,Go.size_zeroCells]
 have hst:=run_storeCells_at P b o tt (Builtin.zeroCells z0.cells n).toList 0 L.toArray w hb (by rw[hl];simpa using hfit) (fun v hv=>by
  simp only[Builtin.zeroCells,Array.toList_map,List.mem_map,Array.toList_range,List.mem_range]at hv
  obtain ⟨q,hq,rfl⟩:=hv
  have hp:0<z0.cells.size:=Nat.pos_of_ne_zero (fun h=>by rw[h]at hq;omega)
  rw[getElem!_pos z0.cells _ (Nat.mod_lt _ hp)]
  exact h1 _ (Array.getElem_mem _))
 simp only[Nat.add_zero]at hst
 obtain ⟨m,rfl⟩:∃m,n=m+1:=⟨n-1,by omega⟩
 simp only[List.append_assoc]at hst
 simp[Builtin.clear_,run_underlying ht,sizeOf,typeInfo,zeroValue,hi,hz,hst,Go.splice]
theorem zc0 {tS tR e:TypeId} {i0:TypeInfo} (ht:P.underlying tS=some (.slice e)) (hi:P.info? e=some i0) {a b:Addr} {la ca lb cb:Nat} (hne:a.block≠b.block)
 {va vb:Array Value} {ta tb:TypeId} {fa:Nat×Nat} (ha:w.heap[a.block]?=some (.cells va ta fa)) (ha0:0<va.size) (hb:w.heap[b.block]?=some (.cells vb tb (0,0))) (hb0:0<vb.size) :
 (Extern.SlicesOverlaps.overlaps #[tS,tS] #[tR] #[.slice (some a) la ca,.slice (some b) lb cb]).run P w=.ok (.bool false) w:=by
 have hnb:(a.block != b.block)=true:=by simpa using hne
 have hnb':(a.block==b.block)=false:=by simpa using hne
 have hsa:w.shape? a.block=some (ta,va.size):=by simp[World.shape?,ha]
 have hsb:w.shape? b.block=some (tb,vb.size):=by simp[World.shape?,hb]
 have hfb:w.frozen? b=false:=by simp[World.frozen?,hb]
 have hfb':w.frozen? {block:=b.block,off:=vb.size}=false:=by simp[World.frozen?,hb]
 change Sem.run P (α:=Value) (do
  let some t:=(#[tS,tS]:Array TypeId)[0]?|stuck "slices.overlaps: no parameter types"
  let .slice elem ←underlying t|stuck "slices.overlaps: slice type expected"
  let size ←sizeOf elem
  match (some a:Option Addr),(some b:Option Addr) with
  |some a,some b=>
   if la=0∨lb=0∨size=0 then pure (Value.bool false)
   else if a.block != b.block&&(←frozen a)&&(←frozen b) then unsupported .addressObserved
   else do
    if a.block != b.block then do
     noView a;noView b
     if ←mayBeOne a b then return Value.bool ((←choose (.extern "sameAddr.stringBytes" 2))==1)
    pure (Value.bool (a.block==b.block&&a.off<b.off+lb*size&&b.off<a.off+la*size))
  |_,_=>pure (Value.bool false)) w=_
 have hz:(Go.sizeOf e).run P w=.ok i0.size w:=by simp[sizeOf,typeInfo,hi]
 by_cases h0:la=0∨lb=0∨i0.size=0
 ·simp[run_underlying ht,hz,h0]
 ·obtain ⟨ka,hka⟩:∃k,va.size=k+1:=⟨va.size-1,by omega⟩
  obtain ⟨kb,hkb⟩:∃k,vb.size=k+1:=⟨vb.size-1,by omega⟩
  rw[hka]at hsa
  rw[hkb]at hsb hfb'
  by_cases hfa:w.frozen? a=true
  ·simp[run_underlying ht,hz,h0,hnb,hnb',frozen,noView,viewAt,mayBeOne,stringish,shape,Sem.run,hsa,hsb,hfa,hfb,hfb']
  ·have hfa:w.frozen? a=false:=by simpa using hfa
   by_cases hfe:w.frozen? {block:=a.block,off:=ka+1}=true
   ·simp[run_underlying ht,hz,h0,hnb,hnb',frozen,noView,viewAt,mayBeOne,stringish,shape,Sem.run,hsa,hsb,hfa,hfb,hfb',hfe]
   ·have hfe:w.frozen? {block:=a.block,off:=ka+1}=false:=by simpa using hfe
    simp[run_underlying ht,hz,h0,hnb,hnb',frozen,noView,viewAt,mayBeOne,stringish,shape,Sem.run,hsa,hsb,hfa,hfb,hfb',hfe]
end
end Go.Proofs.YtdahfgialanmpaaGreatDoor.Ev
namespace Go.Proofs.YtdahfgialanmpaaGreatDoor.Ev
open Go
section
variable {κ:Type} {El:κ→Type} {S:Sg κ El} {P:Program}
theorem za5 {α:Type} {L new:List α} {off j:Nat} (h:off+new.length≤L.length):(Go.splice L off new)[j]?=if off≤j∧j<off+new.length then new[j-off]? else L[j]?:=by
 unfold Go.splice
 rw[←List.append_assoc]
 exact zme L new off j h
theorem zej (sgk:SgOk S) {w w':World} {I J I':Nat→Nat→Prop} {v:Value} {d:D κ El} (h:DR S w I J v d) (hp:zeq d=true) (H:∀b o,I b o→w'.cell? ⟨b,o,none⟩=w.cell? ⟨b,o,none⟩∧I' b o):DR S w' I' I' v d:=
 (h.relendL sgk (J':=I) (zcn hp)).mono H H
theorem zcx (sgk:SgOk S) {k:κ} {x:El k} {j:Nat} {d:D κ El} (h:(S.enc k x)[j]?=some d):zeq d=true:=sgk.plain k x d (List.mem_of_getElem? h)
theorem z0v {w:World} {I J:Nat→Nat→Prop} {v:Value} {d:D κ El} (h:DR S w I J v d) (hp:zeq d=true):v.oneCell'=true:=
 (h.lone (by cases d<;>simp_all[zeq,solid])).one
structure InsOk (P:Program) (f z E:Nat):Prop where
 shift:∀{w:World} {b n c i vb vo vc:Nat} {L vs:List Value} {t:TypeId},i<n→n+1≤c→n+1≤1073741824→vb≠b→w.heap[b]?=some (.cells L.toArray t (0,0))→L.length=c*z→vs.length=z→
  (∀j v,vs[j]?=some v→w.cell? ⟨vb,vo+j,none⟩=some v)→(∀v∈(L.drop (i*z)).take ((n-i)*z),v.oneCell'=true)→(∀v∈vs,v.oneCell'=true)→
  Calls P f #[.slice (some ⟨b,0,none⟩) n c,.int .i64 i,.slice (some ⟨vb,vo,none⟩) 1 vc] w fun e w'=>
   e=.returned (.slice (some ⟨b,0,none⟩) (n+1) c)∧w'=(w.drew.setRow b (Go.splice L ((i+1)*z) ((L.drop (i*z)).take ((n-i)*z))).toArray).setRow b (Go.splice (Go.splice L ((i+1)*z) ((L.drop (i*z)).take ((n-i)*z))) (i*z) vs).toArray
 room:∀{w:World} {b n c vb vo vc:Nat} {L vs:List Value} {t:TypeId},n+1≤c→n+1≤1073741824→w.heap[b]?=some (.cells L.toArray t (0,0))→L.length=c*z→vs.length=z→
  (∀j v,vs[j]?=some v→w.cell? ⟨vb,vo+j,none⟩=some v)→(∀v∈vs,v.oneCell'=true)→
  Calls P f #[.slice (some ⟨b,0,none⟩) n c,.int .i64 n,.slice (some ⟨vb,vo,none⟩) 1 vc] w fun e w'=>
   e=.returned (.slice (some ⟨b,0,none⟩) (n+1) c)∧w'=w.setRow b (Go.splice L (n*z) vs).toArray
 new:∀{w:World} {base:Option Addr} {n c vb vo vc:Nat} {olds vs:List Value},n≤c→c<n+1→n+1≤1073741824→vs.length=z→(base=none→n=0)→olds.length=n*z→
  (∀a,base=some a→∀j v,olds[j]?=some v→w.cell? (a.add j)=some v)→(∀j v,vs[j]?=some v→w.cell? ⟨vb,vo+j,none⟩=some v)→
  Calls P f #[.slice base n c,.int .i64 n,.slice (some ⟨vb,vo,none⟩) 1 vc] w fun e w'=>
   ∃cap zs,e=.returned (.slice (some ⟨w.heap.size,0,none⟩) (n+1) cap)∧w'=w.drew.alloc (.cells (olds++(vs++zs)).toArray E)∧n+1≤cap∧zs.length=(cap-(n+1))*z
 grow:∀{w:World} {b n c i vb vo vc:Nat} {L vs:List Value} {t:TypeId},i<n→n≤c→c<n+1→n+1≤1073741824→vb≠b→w.heap[b]?=some (.cells L.toArray t (0,0))→L.length=c*z→vs.length=z→
  (∀j v,vs[j]?=some v→w.cell? ⟨vb,vo+j,none⟩=some v)→(∀v∈(L.drop (i*z)).take ((n-i)*z),v.oneCell'=true)→(∀v∈vs,v.oneCell'=true)→
  Calls P f #[.slice (some ⟨b,0,none⟩) n c,.int .i64 i,.slice (some ⟨vb,vo,none⟩) 1 vc] w fun e w'=>
   ∃cap row,e=.returned (.slice (some ⟨w.heap.size,0,none⟩) (n+1) cap)∧n+1≤cap∧row.length=cap*z∧row.take (i*z)=L.take (i*z)∧
    w'.heap=(w.heap.push (.cells (Go.splice (Go.splice row (i*z) vs) ((i+1)*z) ((L.drop (i*z)).take ((n-i)*z))).toArray E))∧w'.os=w.os∧w'.output=w.output∧w'.tape=w.tape
theorem zh5 {k:κ} {xs:List (El k)} {y:El k} {i:Nat} {L vs M:List Value} {Q:Value→D κ El→Prop} (sgk:SgOk S) (hi:i≤xs.length)
 (h1:∀(i:Nat) (hi:i<xs.length) (j:Nat) (d:D κ El),(S.enc k xs[i])[j]?=some d→∃v,L[i*S.sz k+j]?=some v∧Q v d)
 (h2:∀(j:Nat) (d:D κ El),(S.enc k y)[j]?=some d→∃v,vs[j]?=some v∧Q v d)
 (m1:∀p:Nat,p<i*S.sz k→M[p]?=L[p]?) (m2:∀j:Nat,j<S.sz k→M[i*S.sz k+j]?=vs[j]?) (m3:∀p:Nat,i*S.sz k≤p→p<xs.length*S.sz k→M[p+S.sz k]?=L[p]?) :
 ∀(i':Nat) (hi':i'<(xs.take i++y::xs.drop i).length) (j:Nat) (d:D κ El),(S.enc k (xs.take i++y::xs.drop i)[i'])[j]?=some d→∃v,M[i'*S.sz k+j]?=some v∧Q v d:=by
 intro i' hi' j d hj
 have hj':j<S.sz k:=by have:=(List.getElem?_eq_some_iff.1 hj).1;rwa [sgk.sz]at this
 have hl:(xs.take i).length=i:=by simp;omega
 by_cases hlt:i'<i
 ·have e:(xs.take i++y::xs.drop i)[i']=xs[i']'(by omega):=by rw[List.getElem_append_left (by omega)];simp
  rw[e]at hj
  obtain ⟨v,a,b⟩:=h1 i' (by omega) j d hj
  exact ⟨v,by rw[m1 _ (zcr hj' hlt)];exact a,b⟩
 ·by_cases heq:i'=i
  ·subst heq
   have e:(xs.take i'++y::xs.drop i')[i']=y:=by rw[List.getElem_append_right (by omega)];simp[hl]
   rw[e]at hj
   obtain ⟨v,a,b⟩:=h2 j d hj
   exact ⟨v,by rw[m2 j hj'];exact a,b⟩
  ·obtain ⟨p,rfl⟩:∃p,i'=p+1:=⟨i'-1,by omega⟩
   have hp:p<xs.length:=by simp at hi';omega
   have e:(xs.take i++y::xs.drop i)[p+1]=xs[p]:=by
    rw[List.getElem_append_right (by omega)]
    have e2:p+1-(xs.take i).length=(p-i)+1:=by omega
    simp only[e2,List.getElem_cons_succ,List.getElem_drop]
    congr 1;omega
   rw[e]at hj
   obtain ⟨v,a,b⟩:=h1 p hp j d hj
   refine ⟨v,?_,b⟩
   have:=m3 (p*S.sz k+j) (by have:=Nat.mul_le_mul_right (S.sz k) (show i≤p by omega);omega) (zcr hj' hp)
   rw[←a,←this]
   congr 1
   rw[Nat.add_mul];omega
theorem zaec (sgk:SgOk S) {f E:Nat} {fn:Func} {code:Code} (fok:FnOk P f fn code) (hmd:S.md f=.cons) {k:κ} (W:InsOk P f (S.sz k) E)
 {xs:List (El k)} {y:El k} {i:Nat} {ds:List (D κ El)} (hi:i≤xs.length) (hlim:xs.length+1≤1073741824) (hwl:WL ds [.lst k xs,.int .i64 (i:Int),.lst k [y]]) :
 Con P S f ds [] (.lst k (xs.take i++y::xs.drop i)) []:=by
 unfold Con
 rw[hmd]
 intro _ k' xs' ds0 hds k2 xs2 hd w I J mb v0 vs hp ho ha
 subst hds
 cases hd
 have hw0:=hwl.2 0 _ _ rfl rfl
 cases hw0 with
 |leaf _ _ hw0=>
 cases hw0
 have ha:=WL.args (cs':=[.int .i64 (i:Int),.lst k [y]]) ⟨by simpa using hwl.1,fun q d d' h1 h2=>hwl.2 (q+1) d d' (by simpa using h1) (by simpa using h2)⟩ ha
 obtain ⟨base,c,rfl,hnc,hz⟩:=ho
 obtain ⟨hvs,hav⟩:=ha
 obtain ⟨u1,u2,rfl⟩:∃u1 u2,vs = #[u1,u2]:=by
  simp at hvs
  exact ⟨vs[0],vs[1],by
   apply Array.ext
   ·simp[hvs]
   ·intro j h1 h2;simp at h2;rcases (show j=0∨j=1 by omega) with rfl|rfl<;>rfl⟩
 have hu1:u1=.int .i64 i:=(hav 0 u1 _ rfl rfl).int_inv
 have hu2:=hav 1 u2 _ rfl rfl
 subst hu1
 obtain ⟨n,hn⟩:∃n,n=xs.length:=⟨_,rfl⟩
 have hpos:=sgk.pos k
 cases hu2 with
 |lst vb vo vc _ _ cv hvcap hvc hvv=>
 obtain ⟨us,hus⟩:∃us,us=(List.range (S.sz k)).map (cv 0):=⟨_,rfl⟩
 have husl:us.length=S.sz k:=by rw[hus];simp
 have hug:∀j,j<S.sz k→us[j]?=some (cv 0 j):=fun j hj=>by rw[hus];simp[hj]
 have huc:∀j v,us[j]?=some v→w.cell? ⟨vb,vo+j,none⟩=some v:=fun j v hj=>by
  have hlt:=(List.getElem?_eq_some_iff.1 hj).1
  rw[husl]at hlt
  rw[hug j hlt]at hj;cases hj
  have:=(hvc 0 j (by simp) hlt).1
  simpa using this
 have huI:∀j,j<S.sz k→I vb (vo+j):=fun j hlt=>by have:=(hvc 0 j (by simp) hlt).2;simpa using this
 have hud:∀j d,(S.enc k y)[j]?=some d→∃v,us[j]?=some v∧DR S w I J v d:=fun j d hj=>by
  have hlt:=(List.getElem?_eq_some_iff.1 hj).1
  rw[sgk.sz]at hlt
  exact ⟨_,hug j hlt,hvv 0 (by simp) j d hj⟩
 have hu1c:∀v∈us,v.oneCell'=true:=fun v hv=>by
  obtain ⟨j,hj⟩:=List.getElem?_of_mem hv
  have hlt:=(List.getElem?_eq_some_iff.1 hj).1
  have hlt':j<(S.enc k y).length:=by rw[sgk.sz,←husl];exact hlt
  obtain ⟨v',e1,e2⟩:=hud j _ (List.getElem?_eq_getElem hlt')
  rw[hj]at e1;cases e1
  exact z0v e2 (sgk.plain k y _ (List.getElem_mem hlt'))
 have hIw:∀b o,I b o→b<w.heap.size:=hp.ib
 have hres:(xs.take i++y::xs.drop i).length=n+1:=by simp;omega
 unfold zcg
 rw[MuLone.run_callFunc_enter fok.at_ fok.name fok.body _ w]
 simp only
 show Calls P f #[.slice base xs.length c,.int .i64 (i:Int),.slice (some ⟨vb,vo,none⟩) 1 vc] w _
 rcases hz with ⟨rfl,rfl⟩|⟨b,vals,t,rfl,rfl,hb,hvsz,hel⟩
 ·have hx0:xs=[]:=List.eq_nil_of_length_eq_zero (by omega)
  subst hx0
  have hi0:i=0:=by simpa using hi
  subst hi0
  have hnew:=W.new (w:=w) (base:=base) (n:=0) (c:=0) (vb:=vb) (vo:=vo) (vc:=vc) (olds:=[]) (vs:=us) (by omega) (by omega) (by omega) husl (fun _=>rfl) (by simp) (fun a _ j v hj=>by simp at hj) huc
  refine hnew.mono (fun e w' he=>?_)
  obtain ⟨cap,zs,rfl,rfl,hcap,hzl⟩:=he
  refine ⟨I,⟨by rw[World.size_alloc];show w.heap.size≤w.heap.size+1;omega,rfl,rfl,rfl,fun q hq _=>?_,fun _ _ h=>h,fun _ _ h=>.inl h,fun q o h=>by have:=hIw q o h;rw[World.size_alloc];show q<w.heap.size+1;omega⟩,
   some ⟨w.heap.size,0,none⟩,cap,by simp,by simp;omega,.inr ⟨w.heap.size,_,E,rfl,zc6 w.drew _,?_,.inl (Nat.le_refl _),fun o h=>absurd (hIw _ _ h) (by omega),?_⟩⟩
  ·simp only[World.alloc];rw[Array.getElem?_push,if_neg (by show ¬q=w.heap.size;omega)];rfl
  ·simp[husl,hzl]
   obtain ⟨q,rfl⟩:∃q,cap=q+1:=⟨cap-1,by omega⟩
   rw[Nat.add_sub_cancel,Nat.add_mul];omega
  ·intro i' hi' j d hj
   have:=zh5 (L:=[]) (vs:=us) (M:=us++zs) (Q:=fun v d=>DR S (w.drew.alloc (.cells ([]++(us++zs)).toArray E)) I I v d) sgk (i:=0) (xs:=[]) (y:=y) (by simp) (fun i hi=>absurd hi (by simp))
    (fun j d hj=>by
     obtain ⟨v,a,b⟩:=hud j d hj
     exact ⟨v,a,zej sgk b (zcx sgk hj) (fun q o h=>⟨by
      have:=hIw q o h
      simp only[World.cell?,World.alloc];rw[Array.getElem?_push,if_neg (by show ¬q=w.heap.size;omega)];rfl,h⟩)⟩)
    (fun p hp=>absurd hp (by omega)) (fun j hj=>by rw[Nat.zero_mul,Nat.zero_add,List.getElem?_append_left (by omega)]) (fun p _ hp=>by simp at hp) i' hi' j d hj
   simpa using this
 ·have hbw:b<w.heap.size:=(Array.getElem?_eq_some_iff.1 hb).1
  have hbI:∀o,¬I b o:=fun o h=>(hp.jb b o (hp.ij b o h)).2 (by simp)
  have hne:vb≠b:=fun e=>by subst e;exact hbI _ (huI 0 hpos)
  obtain ⟨L,hL⟩:∃L,L=vals.toList:=⟨_,rfl⟩
  have hLa:vals=L.toArray:=by rw[hL]
  have hLl:L.length=c*S.sz k:=by rw[hL];simpa using hvsz
  rw[hLa]at hb
  have hel':∀i (hi:i<xs.length) j d,(S.enc k xs[i])[j]?=some d→∃v,L[i*S.sz k+j]?=some v∧DR S w I J v d:=fun i hi j d hj=>by
   obtain ⟨v,a,e⟩:=hel i hi j d hj
   exact ⟨v,by rw[hL];simpa using a,e⟩
  have hnL:n*S.sz k≤L.length:=by rw[hLl];exact Nat.mul_le_mul_right _ (by omega)
  have hone:∀v∈L.take (n*S.sz k),v.oneCell'=true:=fun v hv=>by
   obtain ⟨p,hp'⟩:=List.getElem?_of_mem hv
   have hlt:=(List.getElem?_eq_some_iff.1 hp').1
   simp only[List.length_take]at hlt
   have h1:p / S.sz k<n:=(Nat.div_lt_iff_lt_mul hpos).2 (by omega)
   have h2:=Nat.mod_lt p hpos
   have h3:p % S.sz k<(S.enc k (xs[p / S.sz k]'(by omega))).length:=by rw[sgk.sz];exact h2
   obtain ⟨v',a,e⟩:=hel' (p / S.sz k) (by omega) _ _ (List.getElem?_eq_getElem h3)
   rw[Nat.div_add_mod']at a
   rw[List.getElem?_take,if_pos (by omega),a]at hp'
   cases hp'
   exact z0v e (sgk.plain k _ _ (List.getElem_mem h3))
  have hC1:(L.drop (i*S.sz k)).take ((n-i)*S.sz k)=(L.take (n*S.sz k)).drop (i*S.sz k):=by
   rw[List.drop_take];congr 1;rw[Nat.sub_mul]
  have hone1:∀v∈(L.drop (i*S.sz k)).take ((n-i)*S.sz k),v.oneCell'=true:=fun v hv=>hone v (by rw[hC1]at hv;exact List.mem_of_mem_drop hv)
  have hin:i*S.sz k≤n*S.sz k:=Nat.mul_le_mul_right _ (by omega)
  have hi1:(i+1)*S.sz k=i*S.sz k+S.sz k:=by rw[Nat.add_mul,Nat.one_mul]
  have hn1:(n+1)*S.sz k=n*S.sz k+S.sz k:=by rw[Nat.add_mul,Nat.one_mul]
  obtain ⟨C1,hC⟩:∃C1,C1=(L.drop (i*S.sz k)).take ((n-i)*S.sz k):=⟨_,rfl⟩
  have hC1l:C1.length=n*S.sz k-i*S.sz k:=by rw[hC,hC1];simp;omega
  have hC1g:∀q,q<n*S.sz k-i*S.sz k→C1[q]?=L[i*S.sz k+q]?:=fun q hq=>by rw[hC,hC1,List.getElem?_drop,List.getElem?_take,if_pos (by omega)]
  have inpl:∀(M:List Value) (w':World),M.length=L.length→(w'=w.setRow b M.toArray∨∃M0:Array Value,w'=(w.drew.setRow b M0).setRow b M.toArray)→n+1≤c→
   (∀p:Nat,p<i*S.sz k→M[p]?=L[p]?)→(∀j:Nat,j<S.sz k→M[i*S.sz k+j]?=us[j]?)→(∀p:Nat,i*S.sz k≤p→p<xs.length*S.sz k→M[p+S.sz k]?=L[p]?)→
   ∃I',GrowM [b] w w' I I'∧NewO S w' I' w.heap.size [b] k (xs.take i++y::xs.drop i) (.slice (some ⟨b,0,none⟩) (n+1) c):=by
   intro M w' hMl hw' hroom m1 m2 m3
   have hheap:w'.heap[b]?=some (.cells M.toArray t (0,0)):=by
    rcases hw' with rfl|⟨M0,rfl⟩
    ·exact setRow_heap _ _ _ _ _ _ hb
    ·exact setRow_heap _ _ _ _ _ _ (setRow_heap w.drew _ _ _ _ _ hb)
   have hoth:∀q,q≠b→w'.heap[q]?=w.heap[q]?:=fun q hq=>by
    rcases hw' with rfl|⟨M0,rfl⟩
    ·exact setRow_other _ _ _ _ hq
    ·rw[setRow_other _ _ _ _ hq,setRow_other _ _ _ _ hq];rfl
   have hsz:w'.heap.size=w.heap.size:=by
    rcases hw' with rfl|⟨M0,rfl⟩<;>simp only[setRow_size]<;>rfl
   refine ⟨I,⟨by omega,by rcases hw' with rfl|⟨M0,rfl⟩<;>rfl,by rcases hw' with rfl|⟨M0,rfl⟩<;>rfl,by rcases hw' with rfl|⟨M0,rfl⟩<;>rfl,fun q hq hm=>hoth q (by simpa using hm),fun _ _ h=>h,fun _ _ h=>.inl h,fun q o h=>by have:=hIw q o h;omega⟩,
    some ⟨b,0,none⟩,c,by rw[hres],by omega,.inr ⟨b,_,t,rfl,hheap,by simp[hMl,hLl],.inr (by simp),hbI,?_⟩⟩
   intro i' hi' j d hj
   have:=zh5 (L:=L) (vs:=us) (M:=M) (Q:=fun v d=>DR S w' I I v d) sgk (by omega)
    (fun i hi j d hj=>by
     obtain ⟨v,a,e⟩:=hel' i hi j d hj
     exact ⟨v,a,zej sgk e (zcx sgk hj) (fun q o h=>⟨by simp only[World.cell?];rw[hoth q (fun e=>by subst e;exact hbI o h)],h⟩)⟩)
    (fun j d hj=>by
     obtain ⟨v,a,e⟩:=hud j d hj
     exact ⟨v,a,zej sgk e (zcx sgk hj) (fun q o h=>⟨by simp only[World.cell?];rw[hoth q (fun e=>by subst e;exact hbI o h)],h⟩)⟩) m1 m2 m3 i' hi' j d hj
   simpa using this
  have newb:∀(M:List Value) (cap:Nat) (w':World),M.length=cap*S.sz k→w'.heap=w.heap.push (.cells M.toArray E)→w'.os=w.os→w'.output=w.output→w'.tape=w.tape→n+1≤cap→
   (∀p:Nat,p<i*S.sz k→M[p]?=L[p]?)→(∀j:Nat,j<S.sz k→M[i*S.sz k+j]?=us[j]?)→(∀p:Nat,i*S.sz k≤p→p<xs.length*S.sz k→M[p+S.sz k]?=L[p]?)→
   ∃I',GrowM [b] w w' I I'∧NewO S w' I' w.heap.size [b] k (xs.take i++y::xs.drop i) (.slice (some ⟨w.heap.size,0,none⟩) (n+1) cap):=by
   intro M cap w' hMl hheap h1 h2 h3 hcap m1 m2 m3
   have hoth:∀q,q<w.heap.size→w'.heap[q]?=w.heap[q]?:=fun q hq=>by rw[hheap,Array.getElem?_push,if_neg (by omega)]
   refine ⟨I,⟨by rw[hheap];simp,h1,h2,h3,fun q hq _=>hoth q hq,fun _ _ h=>h,fun _ _ h=>.inl h,fun q o h=>by have:=hIw q o h;rw[hheap];simp;omega⟩,
    some ⟨w.heap.size,0,none⟩,cap,by rw[hres],by omega,.inr ⟨w.heap.size,_,E,rfl,by rw[hheap];exact Array.getElem?_push_size,by simp[hMl],.inl (Nat.le_refl _),fun o h=>absurd (hIw _ _ h) (by omega),?_⟩⟩
   intro i' hi' j d hj
   have:=zh5 (L:=L) (vs:=us) (M:=M) (Q:=fun v d=>DR S w' I I v d) sgk (by omega)
    (fun i hi j d hj=>by
     obtain ⟨v,a,e⟩:=hel' i hi j d hj
     exact ⟨v,a,zej sgk e (zcx sgk hj) (fun q o h=>⟨by simp only[World.cell?];rw[hoth q (hIw q o h)],h⟩)⟩)
    (fun j d hj=>by
     obtain ⟨v,a,e⟩:=hud j d hj
     exact ⟨v,a,zej sgk e (zcx sgk hj) (fun q o h=>⟨by simp only[World.cell?];rw[hoth q (hIw q o h)],h⟩)⟩) m1 m2 m3 i' hi' j d hj
   simpa using this
  rw[←hn]at hi hlim hnc ⊢
  by_cases hroom:n+1≤c
  ·have hn1c:(n+1)*S.sz k≤L.length:=by rw[hLl];exact Nat.mul_le_mul_right _ hroom
   by_cases hlt:i<n
   ·refine (W.shift (vc:=vc) hlt hroom hlim hne hb hLl husl huc hone1 hu1c).mono (fun e w' he=>?_)
    obtain ⟨rfl,rfl⟩:=he
    rw[←hC]
    have l1:(Go.splice L ((i+1)*S.sz k) C1).length=L.length:=length_splice _ _ _ (by omega)
    refine inpl _ _ ?_ (.inr ⟨_,rfl⟩) hroom ?_ ?_ ?_
    ·rw[length_splice _ _ _ (by omega),l1]
    ·intro p hp'
     rw[za5 (by omega),if_neg (by omega),za5 (by omega),if_neg (by omega)]
    ·intro j hj
     rw[za5 (by omega),if_pos (by omega)]
     congr 1;omega
    ·intro p h1 h2
     rw[←hn]at h2
     rw[za5 (by omega),if_neg (by omega),za5 (by omega),if_pos (by omega),hC1g _ (by omega)]
     congr 1;omega
   ·have hie:i=n:=by omega
    subst hie
    refine (W.room (vc:=vc) hroom hlim hb hLl husl huc hu1c).mono (fun e w' he=>?_)
    obtain ⟨rfl,rfl⟩:=he
    refine inpl _ _ (length_splice _ _ _ (by omega)) (.inl rfl) hroom ?_ ?_ ?_
    ·intro p hp'
     rw[za5 (by omega),if_neg (by omega)]
    ·intro j hj
     rw[za5 (by omega),if_pos (by omega)]
     congr 1;omega
    ·intro p h1 h2
     rw[←hn]at h2
     omega
  ·by_cases hlt:i<n
   ·refine (W.grow (vc:=vc) hlt hnc (by omega) hlim hne hb hLl husl huc hone1 hu1c).mono (fun e w' he=>?_)
    obtain ⟨cap,row,rfl,hcap,hrl,hrt,hheap,q1,q2,q3⟩:=he
    rw[←hC]at hheap
    have hrl':(n+1)*S.sz k≤row.length:=by rw[hrl];exact Nat.mul_le_mul_right _ hcap
    have l1:(Go.splice row (i*S.sz k) us).length=row.length:=length_splice _ _ _ (by omega)
    refine newb _ cap w' ?_ hheap q1 q2 q3 hcap ?_ ?_ ?_
    ·rw[length_splice _ _ _ (by omega),l1,hrl]
    ·intro p hp'
     rw[za5 (by omega),if_neg (by omega),za5 (by omega),if_neg (by omega)]
     have e1:(row.take (i*S.sz k))[p]?=row[p]?:=by rw[List.getElem?_take,if_pos hp']
     have e2:(L.take (i*S.sz k))[p]?=L[p]?:=by rw[List.getElem?_take,if_pos hp']
     rw[←e1,hrt,e2]
    ·intro j hj
     rw[za5 (by omega),if_neg (by omega),za5 (by omega),if_pos (by omega)]
     congr 1;omega
    ·intro p h1 h2
     rw[←hn]at h2
     rw[za5 (by omega),if_pos (by omega),hC1g _ (by omega)]
     congr 1;omega
   ·have hie:i=n:=by omega
    subst hie
    refine (W.new (base:=some ⟨b,0,none⟩) (vc:=vc) (olds:=L.take (i*S.sz k)) hnc (by omega) hlim husl (fun h=>by cases h) (by simp;omega) (fun a ha j v hj=>?_) huc).mono (fun e w' he=>?_)
    ·cases ha
     rw[List.getElem?_take]at hj
     split at hj
     ·rw[zbf,Nat.zero_add]
      simp only[World.cell?,hb]
      simpa using hj
     ·cases hj
    ·obtain ⟨cap,zs,rfl,rfl,hcap,hzl⟩:=he
     obtain ⟨q,rfl⟩:∃q,cap=q+(i+1):=⟨cap-(i+1),by omega⟩
     rw[Nat.add_sub_cancel]at hzl
     have hTl:(L.take (i*S.sz k)).length=i*S.sz k:=by simp;omega
     refine newb _ (q+(i+1)) _ ?_ rfl rfl rfl rfl hcap ?_ ?_ ?_
     ·simp only[List.length_append,hTl,husl,hzl]
      rw[Nat.add_mul,hi1];omega
     ·intro p hp'
      rw[List.getElem?_append_left (by omega),List.getElem?_take,if_pos hp']
     ·intro j hj
      rw[List.getElem?_append_right (by omega),List.getElem?_append_left (by omega)]
      congr 1;omega
     ·intro p h1 h2
      rw[←hn]at h2
      omega
theorem zlc (sgk:SgOk S) {f E:Nat} {fn:Func} {code:Code} (fok:FnOk P f fn code) (hmd:S.md f=.cons) {k:κ} (W:InsOk P f (S.sz k) E)
 {xs vs r:List (El k)} {i:Int} {ds:List (D κ El)} (hwl:WL ds [.lst k xs,.int .i64 i,.lst k vs]) (hr:zh6 xs i vs=some r):Con P S f ds [] (.lst k r) []:=by
 unfold zh6 at hr
 split at hr
 ·rename_i y
  rw[zad]at hr
  split at hr
  ·rename_i h
   simp only[Bool.and_eq_true,decide_eq_true_eq]at h
   cases hr
   obtain ⟨n,rfl⟩:=Int.eq_ofNat_of_zero_le h.1.1
   exact zaec sgk fok hmd W (i:=n) (by omega) h.2 hwl
  ·cases hr
 ·cases hr
end
end Go.Proofs.YtdahfgialanmpaaGreatDoor.Ev
namespace Go.Proofs.YtdahfgialanmpaaGreatDoor.Ev
open Go
section
variable {κ:Type} {El:κ→Type} {S:Sg κ El} {P:Program}
structure DelOk (P:Program) (f z:Nat):Prop where
 non:∀{w:World} {base:Option Addr} {n c i:Nat},n≤c→i≤n→Calls P f #[.slice base n c,.int .i64 i,.int .i64 i] w fun e w'=>e=.returned (.slice base n c)∧w'=w
 som:∀{w:World} {b n c i j:Nat} {L:List Value} {t:TypeId},i<j→j≤n→n≤c→w.heap[b]?=some (.cells L.toArray t (0,0))→L.length=c*z→(∀v∈(L.drop (j*z)).take ((n-j)*z),v.oneCell'=true)→
  Calls P f #[.slice (some ⟨b,0,none⟩) n c,.int .i64 i,.int .i64 j] w fun e w'=>
   e=.returned (.slice (some ⟨b,0,none⟩) (i+(n-j)) c)∧∃(M0:Array Value) (zs:List Value),zs.length=(j-i)*z∧w'=(w.drew.setRow b M0).setRow b (Go.splice (Go.splice L (i*z) ((L.drop (j*z)).take ((n-j)*z))) ((i+(n-j))*z) zs).toArray
theorem zaeb (sgk:SgOk S) {f:Nat} {fn:Func} {code:Code} (fok:FnOk P f fn code) (hmd:S.md f=.cons) {k:κ} (W:DelOk P f (S.sz k))
 {xs:List (El k)} {i j:Nat} {ds:List (D κ El)} (hij:i≤j) (hj:j≤xs.length) (hwl:WL ds [.lst k xs,.int .i64 (i:Int),.int .i64 (j:Int)]) :
 Con P S f ds [] (.lst k (xs.take i++xs.drop j)) []:=by
 unfold Con
 rw[hmd]
 intro _ k' xs' ds0 hds k2 xs2 hd w I J mb v0 vs hp ho ha
 subst hds
 cases hd
 have hw0:=hwl.2 0 _ _ rfl rfl
 cases hw0 with
 |leaf _ _ hw0=>
 cases hw0
 have ha:=WL.args (cs':=[.int .i64 (i:Int),.int .i64 (j:Int)]) ⟨by simpa using hwl.1,fun q d d' h1 h2=>hwl.2 (q+1) d d' (by simpa using h1) (by simpa using h2)⟩ ha
 obtain ⟨base,c,rfl,hnc,hz⟩:=ho
 obtain ⟨hvs,hav⟩:=ha
 obtain ⟨u1,u2,rfl⟩:∃u1 u2,vs = #[u1,u2]:=by
  simp at hvs
  exact ⟨vs[0],vs[1],by
   apply Array.ext
   ·simp[hvs]
   ·intro j h1 h2;simp at h2;rcases (show j=0∨j=1 by omega) with rfl|rfl<;>rfl⟩
 have hu1:u1=.int .i64 i:=(hav 0 u1 _ rfl rfl).int_inv
 have hu2:u2=.int .i64 j:=(hav 1 u2 _ rfl rfl).int_inv
 subst hu1 hu2
 obtain ⟨n,hn⟩:∃n,n=xs.length:=⟨_,rfl⟩
 have hpos:=sgk.pos k
 have hIw:∀b o,I b o→b<w.heap.size:=hp.ib
 have hres:(xs.take i++xs.drop j).length=i+(n-j):=by simp;omega
 unfold zcg
 rw[MuLone.run_callFunc_enter fok.at_ fok.name fok.body _ w]
 simp only
 show Calls P f #[.slice base xs.length c,.int .i64 (i:Int),.int .i64 (j:Int)] w _
 by_cases heq:i=j
 ·subst heq
  refine (W.non hnc hj).mono (fun e w' he=>?_)
  obtain ⟨rfl,rfl⟩:=he
  have e:xs.take i++xs.drop i=xs:=by simp
  rw[e]
  refine ⟨I,⟨Nat.le_refl _,rfl,rfl,rfl,fun _ _ _=>rfl,fun _ _ h=>h,fun _ _ h=>.inl h,hIw⟩,base,c,rfl,hnc,?_⟩
  rcases hz with ⟨h,_⟩|⟨b,vals,t,rfl,rfl,hb,hvsz,hel⟩
  ·exact .inl h
  ·have hbI:∀o,¬I b o:=fun o h=>(hp.jb b o (hp.ij b o h)).2 (by simp)
   refine .inr ⟨b,vals,t,rfl,hb,hvsz,.inr (by simp),hbI,fun q hq j d hj=>?_⟩
   obtain ⟨v,a,e⟩:=hel q hq j d hj
   exact ⟨v,a,zej sgk e (zcx sgk hj) (fun _ _ h=>⟨rfl,h⟩)⟩
 ·have hlt:i<j:=by omega
  rcases hz with ⟨rfl,rfl⟩|⟨b,vals,t,rfl,rfl,hb,hvsz,hel⟩
  ·exfalso;omega
  ·have hbw:b<w.heap.size:=(Array.getElem?_eq_some_iff.1 hb).1
   have hbI:∀o,¬I b o:=fun o h=>(hp.jb b o (hp.ij b o h)).2 (by simp)
   obtain ⟨L,hL⟩:∃L,L=vals.toList:=⟨_,rfl⟩
   have hLa:vals=L.toArray:=by rw[hL]
   have hLl:L.length=c*S.sz k:=by rw[hL];simpa using hvsz
   rw[hLa]at hb
   have hel':∀i (hi:i<xs.length) j d,(S.enc k xs[i])[j]?=some d→∃v,L[i*S.sz k+j]?=some v∧DR S w I J v d:=fun i hi j d hj=>by
    obtain ⟨v,a,e⟩:=hel i hi j d hj
    exact ⟨v,by rw[hL];simpa using a,e⟩
   have hnL:n*S.sz k≤L.length:=by rw[hLl];exact Nat.mul_le_mul_right _ (by omega)
   have hone:∀v∈L.take (n*S.sz k),v.oneCell'=true:=fun v hv=>by
    obtain ⟨p,hp'⟩:=List.getElem?_of_mem hv
    have hlt:=(List.getElem?_eq_some_iff.1 hp').1
    simp only[List.length_take]at hlt
    have h1:p / S.sz k<n:=(Nat.div_lt_iff_lt_mul hpos).2 (by omega)
    have h2:=Nat.mod_lt p hpos
    have h3:p % S.sz k<(S.enc k (xs[p / S.sz k]'(by omega))).length:=by rw[sgk.sz];exact h2
    obtain ⟨v',a,e⟩:=hel' (p / S.sz k) (by omega) _ _ (List.getElem?_eq_getElem h3)
    rw[Nat.div_add_mod']at a
    rw[List.getElem?_take,if_pos (by omega),a]at hp'
    cases hp'
    exact z0v e (sgk.plain k _ _ (List.getElem_mem h3))
   have hjn:j*S.sz k≤n*S.sz k:=Nat.mul_le_mul_right _ (by omega)
   have hC1:(L.drop (j*S.sz k)).take ((n-j)*S.sz k)=(L.take (n*S.sz k)).drop (j*S.sz k):=by
    rw[List.drop_take];congr 1;rw[Nat.sub_mul]
   have hone1:∀v∈(L.drop (j*S.sz k)).take ((n-j)*S.sz k),v.oneCell'=true:=fun v hv=>hone v (by rw[hC1]at hv;exact List.mem_of_mem_drop hv)
   obtain ⟨C1,hC⟩:∃C1,C1=(L.drop (j*S.sz k)).take ((n-j)*S.sz k):=⟨_,rfl⟩
   have hC1l:C1.length=n*S.sz k-j*S.sz k:=by rw[hC,hC1];simp;omega
   have hC1g:∀q,q<n*S.sz k-j*S.sz k→C1[q]?=L[j*S.sz k+q]?:=fun q hq=>by rw[hC,hC1,List.getElem?_drop,List.getElem?_take,if_pos (by omega)]
   have hij':i*S.sz k≤j*S.sz k:=Nat.mul_le_mul_right _ (by omega)
   have hm:(i+(n-j))*S.sz k=i*S.sz k+(n*S.sz k-j*S.sz k):=by rw[Nat.add_mul,Nat.sub_mul]
   have hz2:(j-i)*S.sz k=j*S.sz k-i*S.sz k:=by rw[Nat.sub_mul]
   refine (W.som hlt hj hnc hb hLl (by rw[←hn];exact hone1)).mono (fun e w' he=>?_)
   obtain ⟨rfl,M0,zs,hzl,rfl⟩:=he
   rw[←hn,←hC]
   have l1:(Go.splice L (i*S.sz k) C1).length=L.length:=length_splice _ _ _ (by omega)
   have l2:(Go.splice (Go.splice L (i*S.sz k) C1) ((i+(n-j))*S.sz k) zs).length=L.length:=by rw[length_splice _ _ _ (by omega),l1]
   generalize hM:Go.splice (Go.splice L (i*S.sz k) C1) ((i+(n-j))*S.sz k) zs=M at l2 ⊢
   have hMg:∀p,p<(i+(n-j))*S.sz k→M[p]?=if p<i*S.sz k then L[p]? else L[p+(j*S.sz k-i*S.sz k)]?:=fun p hp=>by
    rw[←hM,za5 (by omega),if_neg (by omega),za5 (by omega)]
    by_cases h:p<i*S.sz k
    ·rw[if_neg (by omega),if_pos h]
    ·rw[if_pos (by omega),if_neg h,hC1g _ (by omega)]
     congr 1;omega
   have hheap:((w.drew.setRow b M0).setRow b M.toArray).heap[b]?=some (.cells M.toArray t (0,0)):=setRow_heap _ _ _ _ _ _ (setRow_heap w.drew _ _ _ _ _ hb)
   have hoth:∀q,q≠b→((w.drew.setRow b M0).setRow b M.toArray).heap[q]?=w.heap[q]?:=fun q hq=>by rw[setRow_other _ _ _ _ hq,setRow_other _ _ _ _ hq];rfl
   have hsz:((w.drew.setRow b M0).setRow b M.toArray).heap.size=w.heap.size:=by simp only[setRow_size];rfl
   refine ⟨I,⟨by omega,rfl,rfl,rfl,fun q hq hm=>hoth q (by simpa using hm),fun _ _ h=>h,fun _ _ h=>.inl h,fun q o h=>by have:=hIw q o h;omega⟩,
    some ⟨b,0,none⟩,c,by rw[hres],by omega,.inr ⟨b,_,t,rfl,hheap,by simp[l2,hLl],.inr (by simp),hbI,?_⟩⟩
   intro q hq s d hs
   have hs':s<S.sz k:=by have:=(List.getElem?_eq_some_iff.1 hs).1;rwa [sgk.sz]at this
   rw[hres]at hq
   have hlt2:=zcr hs' hq
   by_cases hqi:q<i
   ·have e:(xs.take i++xs.drop j)[q]'(by omega)=xs[q]'(by omega):=by rw[List.getElem_append_left (by simp;omega)];simp
    rw[e]at hs
    obtain ⟨v,a,e2⟩:=hel' q (by omega) s d hs
    refine ⟨v,?_,zej sgk e2 (zcx sgk hs) (fun q o h=>⟨by simp only[World.cell?];rw[hoth q (fun e=>by subst e;exact hbI o h)],h⟩)⟩
    rw[←a,List.getElem?_toArray,hMg _ hlt2,if_pos (zcr hs' hqi)]
   ·have e:(xs.take i++xs.drop j)[q]'(by omega)=xs[q+(j-i)]'(by omega):=by
     have hl:(xs.take i).length=i:=by simp;omega
     rw[List.getElem_append_right (by omega)]
     simp only[hl,List.getElem_drop]
     congr 1;omega
    rw[e]at hs
    obtain ⟨v,a,e2⟩:=hel' (q+(j-i)) (by omega) s d hs
    refine ⟨v,?_,zej sgk e2 (zcx sgk hs) (fun q o h=>⟨by simp only[World.cell?];rw[hoth q (fun e=>by subst e;exact hbI o h)],h⟩)⟩
    have hqz:i*S.sz k≤q*S.sz k:=Nat.mul_le_mul_right _ (by omega)
    rw[←a,List.getElem?_toArray,hMg _ hlt2,if_neg (by omega)]
    congr 1
    rw[Nat.add_mul,hz2];omega
theorem zro (sgk:SgOk S) {f:Nat} {fn:Func} {code:Code} (fok:FnOk P f fn code) (hmd:S.md f=.cons) {k:κ} (W:DelOk P f (S.sz k))
 {xs r:List (El k)} {i j:Int} {ds:List (D κ El)} (hwl:WL ds [.lst k xs,.int .i64 i,.int .i64 j]) (hr:zlo xs i j=some r):Con P S f ds [] (.lst k r) []:=by
 unfold zlo at hr
 rw[zad]at hr
 split at hr
 ·rename_i h
  simp only[Bool.and_eq_true,decide_eq_true_eq]at h
  cases hr
  obtain ⟨n,rfl⟩:=Int.eq_ofNat_of_zero_le h.1.1.1
  obtain ⟨m,rfl⟩:=Int.eq_ofNat_of_zero_le (Int.le_trans h.1.1.1 h.1.1.2)
  exact zaeb sgk fok hmd W (i:=n) (j:=m) (by omega) (by omega) hwl
 ·cases hr
end
end Go.Proofs.YtdahfgialanmpaaGreatDoor.Ev
