/- WeedWithdraws: a part of the proof of the given statement, which is proved without conditions. -/
import Derived.Test.YtpaidiaknfhclaaGreatDoorW3
import Derived.KernelRfl
import Derived.Test.YtpaidiaknfhclaaGreatDoorProg
import Derived.Shelf.RegionOpenPlain
import Derived.WalkKit
import Derived.Lib.Walk
import Derived.Lib.AppendZerosOnto
import Derived.Lib.AppendZeros
import Derived.Laws.Externs
import Derived.Laws.CopyOwn
import Derived.Deep.RegionLaw
set_option linter.all false
namespace Go.Proofs.YtpaidiaknfhclaaGreatDoor
set_option maxRecDepth 100000
open Ev
open Go (IntKind)
def zz5:(Int×Circ×Unit)→Option ((Int×Circ×Unit)⊕((Circ×Unit)⊕(Bool×Unit))):=fun (i,c,_)=>
 bif decide (i<(c.Items.length:Int)) then match getI c.Items i with|some x =>bif decide (300<(x.Call.length:Int)) then some (.inr (.inr (false,()))) else some (.inl (wr .i64 (i+1),c,()))|none =>none else some (.inr (.inl (c,())))
def zz6:(Int×Circ×Unit)→Option ((Int×Circ×Unit)⊕((Circ×Unit)⊕(Bool×Unit))):=fun (i,c,_)=>
 bif decide (i<(c.Patrons.length:Int)) then match getI c.Patrons i with|some x =>bif decide (300<(x.Name.length:Int)) then some (.inr (.inr (false,()))) else some (.inl (wr .i64 (i+1),c,()))|none =>none else some (.inr (.inl (c,())))
def zhx:(Int×Circ×Unit)→Option ((Int×Circ×Unit)⊕((Unit)⊕(Bool×Unit))):=fun (i,c,_)=>
 bif decide (i<4) then let k (v:Int) (v8:List Int):Option ((Int×Circ×Unit)⊕((Unit)⊕(Bool×Unit))):=bif decide (20<(v8.length:Int)) then some (.inr (.inr (false,()))) else some (.inl (wr .i64 (i+1),c,()));bif i==0 then k c.Cals.x0.Week c.Cals.x0.Closed else bif i==1 then k c.Cals.x1.Week c.Cals.x1.Closed else bif i==2 then k c.Cals.x2.Week c.Cals.x2.Closed else bif i==3 then k c.Cals.x3.Week c.Cals.x3.Closed else none else some (.inr (.inl (())))
def qa (c:Circ):Option Bool:=
 let k16 (v:Bool):Option Bool:=let k15 (v1:Bool):Option Bool:=let k14 (v2:Bool):Option Bool:=let k13 (v3:Bool):Option Bool:=let k12 (v4:Bool):Option Bool:=let k (v5:Bool):Option Bool:=bif v5 then some false else match zae zz5 (0,c,()) with|some (.inl (c6,_)) =>(match zae zz6 (0,c6,()) with|some (.inl (c7,_)) =>(match zae zhx (0,c7,()) with|some (.inl (_)) =>some true|some (.inr (v9,_)) =>some v9|none =>none)|some (.inr (v10,_)) =>some v10|none =>none)|some (.inr (v11,_)) =>some v11|none =>none;bif v4 then k true else k (decide (200<(c.Moves.length:Int)));bif v3 then k12 true else k12 (decide (10<(c.Rules.length:Int)));bif v2 then k13 true else k13 (decide (30<(c.Charges.length:Int)));bif v1 then k14 true else k14 (decide (12<(c.Loans.length:Int)));bif v then k15 true else k15 (decide (12<(c.Holds.length:Int)));bif decide (10<(c.Items.length:Int)) then k16 true else k16 (decide (8<(c.Patrons.length:Int)))
def qbq (s:List UInt8) (i:Int):Option (Int×Int):=
 match getI s i with|some b =>let k35 (v:Bool):Option (Int×Int):=bif v then some (wr .i64 (b.toNat:Int),1) else let k34 (v1:Bool):Option (Int×Int):=let k33 (v2:Bool):Option (Int×Int):=let k32 (v4:Bool):Option (Int×Int):=let k31 (v6:Bool):Option (Int×Int):=let k (v8:Int) (v9:Int):Option (Int×Int):=some (v8,v9);bif v6 then match getI s (wr .i64 (i+1)) with|some b7 =>bif decide (160≤wr .i64 ((wr .i64 ((wr .i64 ((wr .i64 ((wr .i64 (b.toNat:Int))-192))*64))+(wr .i64 (b7.toNat:Int))))-128)) then k (wr .i64 ((wr .i64 ((wr .i64 ((wr .i64 ((wr .i64 (b.toNat:Int))-192))*64))+(wr .i64 (b7.toNat:Int))))-128)) 2 else k 0 0|none =>none else let k30 (v10:Bool):Option (Int×Int):=let k29 (v11:Bool):Option (Int×Int):=let k28 (v13:Bool):Option (Int×Int):=let k27 (v15:Bool):Option (Int×Int):=let k26 (v17:Bool):Option (Int×Int):=let k25 (v19:Bool):Option (Int×Int):=bif v19 then match getI s (wr .i64 (i+1)) with|some b20 =>(match getI s (wr .i64 (i+2)) with|some b21 =>let k24 (v23:Bool):Option (Int×Int):=bif v23 then some (wr .i64 ((wr .i64 ((wr .i64 ((wr .i64 ((wr .i64 ((wr .i64 (b.toNat:Int))-224))*4096))+(wr .i64 ((wr .i64 ((wr .i64 (b20.toNat:Int))-128))*64))))+(wr .i64 (b21.toNat:Int))))-128),3) else some (0,0);bif decide (2048≤wr .i64 ((wr .i64 ((wr .i64 ((wr .i64 ((wr .i64 ((wr .i64 (b.toNat:Int))-224))*4096))+(wr .i64 ((wr .i64 ((wr .i64 (b20.toNat:Int))-128))*64))))+(wr .i64 (b21.toNat:Int))))-128)) then bif decide (wr .i64 ((wr .i64 ((wr .i64 ((wr .i64 ((wr .i64 ((wr .i64 (b.toNat:Int))-224))*4096))+(wr .i64 ((wr .i64 ((wr .i64 (b20.toNat:Int))-128))*64))))+(wr .i64 (b21.toNat:Int))))-128)<55296) then k24 true else k24 (decide (57343<wr .i64 ((wr .i64 ((wr .i64 ((wr .i64 ((wr .i64 ((wr .i64 (b.toNat:Int))-224))*4096))+(wr .i64 ((wr .i64 ((wr .i64 (b20.toNat:Int))-128))*64))))+(wr .i64 (b21.toNat:Int))))-128))) else k24 false|none =>none)|none =>none else some (0,0);bif v17 then match getI s (wr .i64 (i+2)) with|some b18 =>k25 (decide ((b18.toNat:Int)<192))|none =>none else k25 false;bif v15 then match getI s (wr .i64 (i+2)) with|some b16 =>k26 (decide (128≤(b16.toNat:Int)))|none =>none else k26 false;bif v13 then match getI s (wr .i64 (i+1)) with|some b14 =>k27 (decide ((b14.toNat:Int)<192))|none =>none else k27 false;bif v11 then match getI s (wr .i64 (i+1)) with|some b12 =>k28 (decide (128≤(b12.toNat:Int)))|none =>none else k28 false;bif v10 then k29 (decide (wr .i64 (i+2)<(s.length:Int))) else k29 false;bif decide (224≤wr .i64 (b.toNat:Int)) then k30 (decide (wr .i64 (b.toNat:Int)<240)) else k30 false;bif v4 then match getI s (wr .i64 (i+1)) with|some b5 =>k31 (decide ((b5.toNat:Int)<192))|none =>none else k31 false;bif v2 then match getI s (wr .i64 (i+1)) with|some b3 =>k32 (decide (128≤(b3.toNat:Int)))|none =>none else k32 false;bif v1 then k33 (decide (wr .i64 (i+1)<(s.length:Int))) else k33 false;bif decide (194≤wr .i64 (b.toNat:Int)) then k34 (decide (wr .i64 (b.toNat:Int)<224)) else k34 false;bif decide (32≤wr .i64 (b.toNat:Int)) then k35 (decide (wr .i64 (b.toNat:Int)<127)) else k35 false|none =>none
def zmk:((List UInt8)×Int×Unit)→Option (((List UInt8)×Int×Unit)⊕((Unit)⊕(Bool×Unit))):=fun (s,i,_)=>
 bif decide (i<(s.length:Int)) then match qbq s i with|some (r1,r2) =>bif r2==0 then some (.inr (.inr (false,()))) else some (.inl (s,wr .i64 (i+r2),()))|none =>none else some (.inr (.inl (())))
def qai (s:List UInt8):Option Bool:=
 match zae zmk (s,0,()) with|some (.inl (_)) =>some true|some (.inr (v,_)) =>some v|none =>none
def qf (s:List UInt8) (i:Int):Option Int:=
 match qbq s i with|some (r1,r2) =>some (if r2<1 then 1 else r2)|none =>none
def qal (c:Int):Option Bool:=
 let k (v:Bool):Option Bool:=some v;bif c==32 then k true else k (c==160)
def zmh:((List UInt8)×(List UInt8)×Bool×Int×Unit)→Option (((List UInt8)×(List UInt8)×Bool×Int×Unit)⊕(((List UInt8)×Unit))):=fun (s,vout,gap,i,_)=>
 bif decide (i<(s.length:Int)) then match qbq s i with|some (r1,r2) =>(match qf s i with|some r4 =>(match qal r1 with|some r6 =>let k11 (vout9:List UInt8) (gap10:Bool):Option (((List UInt8)×(List UInt8)×Bool×Int×Unit)⊕(((List UInt8)×Unit))):=some (.inl (s,vout9,gap10,wr .i64 (i+r4),()));bif r6 then k11 vout true else let k8 (v:Bool):Option (((List UInt8)×(List UInt8)×Bool×Int×Unit)⊕(((List UInt8)×Unit))):=let k (vout7:List UInt8):Option (((List UInt8)×(List UInt8)×Bool×Int×Unit)⊕(((List UInt8)×Unit))):=bif decide (0≤(i:Int))&&(decide ((i:Int)≤wr .i64 (i+r4))&&decide (wr .i64 (i+r4)≤(s.length:Int))) then bif decide (vout7.length+((s.take (wr .i64 (i+r4)).toNat).drop (i:Int).toNat).length≤LIM) then k11 (vout7++((s.take (wr .i64 (i+r4)).toNat).drop (i:Int).toNat)) false else none else none;bif v then bif decide (vout.length+([32]).length≤LIM) then k (vout++([32])) else none else k vout;bif gap then k8 (!(vout==([]))) else k8 false|none =>none)|none =>none)|none =>none else some (.inr ((vout,())))
def qa1 (s:List UInt8):Option (List UInt8):=
 match zae zmh (s,[],false,0,()) with|some ((vout,_)) =>some vout|none =>none
def zkc:((List Patron)×Int×Unit)→Option (((List Patron)×Int×Unit)⊕((Unit)⊕(Int×Unit))):=fun (l,i,_)=>
 bif decide (i<(l.length:Int)) then match getI l i with|some x =>let k18 (v:Bool):Option (((List Patron)×Int×Unit)⊕((Unit)⊕(Int×Unit))):=bif v then some (.inr (.inr (2,()))) else let k17 (v2:Bool):Option (((List Patron)×Int×Unit)⊕((Unit)⊕(Int×Unit))):=bif v2 then some (.inr (.inr (7,()))) else let k16 (v3:Bool):Option (((List Patron)×Int×Unit)⊕((Unit)⊕(Int×Unit))):=let k15 (v4:Bool):Option (((List Patron)×Int×Unit)⊕((Unit)⊕(Int×Unit))):=let k14 (v5:Bool):Option (((List Patron)×Int×Unit)⊕((Unit)⊕(Int×Unit))):=bif v5 then some (.inr (.inr (1,()))) else let k13 (v6:Bool):Option (((List Patron)×Int×Unit)⊕((Unit)⊕(Int×Unit))):=bif v6 then some (.inr (.inr (2,()))) else let k12 (v8:Bool):Option (((List Patron)×Int×Unit)⊕((Unit)⊕(Int×Unit))):=let k (v11:Bool):Option (((List Patron)×Int×Unit)⊕((Unit)⊕(Int×Unit))):=bif v11 then some (.inr (.inr (3,()))) else bif decide (200<(x.Name.length:Int)) then some (.inr (.inr (4,()))) else some (.inl (l,wr .i64 (i+1),()));bif v8 then k true else match qa1 x.Name with|some r10 =>k (!(r10==x.Name))|none =>none;bif x.Name==([]) then k12 true else match qai x.Name with|some r7 =>k12 (!r7)|none =>none;bif decide (x.Until<0) then k13 true else k13 (decide (109572<x.Until));bif v4 then k14 true else k14 (decide (4<x.Branch));bif v3 then k15 true else k15 (decide (x.Branch<1));bif decide (x.Kind<1) then k16 true else k16 (decide (9<x.Kind));bif decide (0<i) then match getI l (wr .i64 (i-1)) with|some x1 =>k17 (decide (x.ID≤x1.ID))|none =>none else k17 false;bif decide (x.ID<1) then k18 true else k18 (decide (9999<x.ID))|none =>none else some (.inr (.inl (())))
def qaq (l:List Patron):Option Int:=
 bif decide (32<(l.length:Int)) then some 13 else match zae zkc (l,0,()) with|some (.inl (_)) =>some 0|some (.inr (v,_)) =>some v|none =>none
def zkb:((List Loan)×Int×Unit)→Option (((List Loan)×Int×Unit)⊕((Unit)⊕(Int×Unit))):=fun (l,i,_)=>
 bif decide (i<(l.length:Int)) then match getI l i with|some x =>let k21 (v:Bool):Option (((List Loan)×Int×Unit)⊕((Unit)⊕(Int×Unit))):=bif v then some (.inr (.inr (7,()))) else let k20 (v2:Bool):Option (((List Loan)×Int×Unit)⊕((Unit)⊕(Int×Unit))):=let k19 (v3:Bool):Option (((List Loan)×Int×Unit)⊕((Unit)⊕(Int×Unit))):=let k18 (v4:Bool):Option (((List Loan)×Int×Unit)⊕((Unit)⊕(Int×Unit))):=let k17 (v5:Bool):Option (((List Loan)×Int×Unit)⊕((Unit)⊕(Int×Unit))):=let k16 (v6:Bool):Option (((List Loan)×Int×Unit)⊕((Unit)⊕(Int×Unit))):=let k15 (v7:Bool):Option (((List Loan)×Int×Unit)⊕((Unit)⊕(Int×Unit))):=let k14 (v8:Bool):Option (((List Loan)×Int×Unit)⊕((Unit)⊕(Int×Unit))):=let k13 (v9:Bool):Option (((List Loan)×Int×Unit)⊕((Unit)⊕(Int×Unit))):=let k12 (v10:Bool):Option (((List Loan)×Int×Unit)⊕((Unit)⊕(Int×Unit))):=let k (v11:Bool):Option (((List Loan)×Int×Unit)⊕((Unit)⊕(Int×Unit))):=bif v11 then some (.inr (.inr (2,()))) else some (.inl (l,wr .i64 (i+1),()));bif v10 then k true else k (decide (10<x.Renewals));bif v9 then k12 true else k12 (decide (x.Renewals<0));bif v8 then k13 true else k13 (decide (x.Due<x.Out));bif v7 then k14 true else k14 (decide (109572<x.Due));bif v6 then k15 true else k15 (decide (x.Due<0));bif v5 then k16 true else k16 (decide (109572<x.Out));bif v4 then k17 true else k17 (decide (x.Out<0));bif v3 then k18 true else k18 (decide (9999<x.Patron));bif v2 then k19 true else k19 (decide (x.Patron<1));bif decide (x.Item<1) then k20 true else k20 (decide (9999<x.Item));bif decide (0<i) then match getI l (wr .i64 (i-1)) with|some x1 =>k21 (decide (x.Item≤x1.Item))|none =>none else k21 false|none =>none else some (.inr (.inl (())))
def qap (l:List Loan):Option Int:=
 bif decide (64<(l.length:Int)) then some 13 else match zae zkb (l,0,()) with|some (.inl (_)) =>some 0|some (.inr (v,_)) =>some v|none =>none
def qec (n:Int):Option Bool:=
 let k (v:Bool):Option Bool:=some v;bif decide (1≤n) then k (decide (n≤9999)) else k false
def qev (n:Int):Option Bool:=
 let k (v:Bool):Option Bool:=some v;bif decide (0≤n) then k (decide (n≤109572)) else k false
def qdp (h:Hold):Option Int:=
 let k41 (v:Bool):Option Int:=let k40 (v2:Bool):Option Int:=let k39 (v5:Bool):Option Int:=let k38 (v9:Bool):Option Int:=let k37 (v10:Bool):Option Int:=let k36 (v11:Bool):Option Int:=let k35 (v14:Bool):Option Int:=let k34 (v18:Bool):Option Int:=let k33 (v21:Bool):Option Int:=let k32 (v24:Bool):Option Int:=let k31 (v25:Bool):Option Int:=let k30 (v26:Bool):Option Int:=bif v26 then some 2 else let k29 (v27:Bool):Option Int:=bif v27 then some 1 else let k (v28:Bool):Option Int:=bif v28 then some 12 else some 0;bif !((decide (0<h.Got))==(!(h.State==1))) then k true else k (!((decide (0<h.Until))==(h.State==3)));bif decide (h.State<1) then k29 true else k29 (decide (3<h.State));bif v25 then k30 true else k30 (decide (9<h.Rank));bif v24 then k31 true else k31 (decide (h.Rank<0));bif v21 then k32 true else match qev h.Asleep with|some r23 =>k32 (!r23)|none =>none;bif v18 then k33 true else match qev h.Until with|some r20 =>k33 (!r20)|none =>none;bif v14 then k34 true else bif !(h.Got==0) then match qec h.Got with|some r16 =>k34 (!r16)|none =>none else k34 false;bif v11 then k35 true else match qev h.Placed with|some r13 =>k35 (!r13)|none =>none;bif v10 then k36 true else k36 (decide (4<h.Pickup));bif v9 then k37 true else k37 (decide (h.Pickup<1));bif v5 then k38 true else bif !(h.Item==0) then match qec h.Item with|some r7 =>k38 (!r7)|none =>none else k38 false;bif v2 then k39 true else match qec h.Record with|some r4 =>k39 (!r4)|none =>none;bif v then k40 true else match qec h.Patron with|some r1 =>k40 (!r1)|none =>none;bif decide (h.ID<1) then k41 true else k41 (decide (99999<h.ID))
def zt1:((List Hold)×Int×Unit)→Option (((List Hold)×Int×Unit)⊕(((List Hold)×Unit)⊕(Int×Unit))):=fun (l,i,_)=>
 bif decide (i<(l.length:Int)) then let k (v:Bool):Option (((List Hold)×Int×Unit)⊕(((List Hold)×Unit)⊕(Int×Unit))):=bif v then some (.inr (.inr (7,()))) else match getI l i with|some x2 =>(match qdp x2 with|some r3 =>bif !(r3==0) then some (.inr (.inr (r3,()))) else some (.inl (l,wr .i64 (i+1),()))|none =>none)|none =>none;bif decide (0<i) then match getI l i with|some x =>(match getI l (wr .i64 (i-1)) with|some x1 =>k (decide (x.ID≤x1.ID))|none =>none)|none =>none else k false else some (.inr (.inl (l,())))
def zkn:((List Hold)×Int×Int×Unit)→Option (((List Hold)×Int×Int×Unit)⊕(((List Hold)×Int×Unit)⊕(Int×Unit))):=fun (l,i,k,_)=>
 bif decide (k<i) then match getI l i with|some x =>(match getI l k with|some x5 =>let k14 (v:Bool):Option (((List Hold)×Int×Int×Unit)⊕(((List Hold)×Int×Unit)⊕(Int×Unit))):=let k13 (v12:Bool):Option (((List Hold)×Int×Int×Unit)⊕(((List Hold)×Int×Unit)⊕(Int×Unit))):=bif v12 then some (.inr (.inr (7,()))) else some (.inl (l,i,wr .i64 (k+1),()));bif v then k13 true else match getI l i with|some x8 =>bif decide (0<x8.Got) then match getI l i with|some x9 =>(match getI l k with|some x10 =>k13 (x9.Got==x10.Got)|none =>none)|none =>none else k13 false|none =>none;bif x.Patron==x5.Patron then match getI l i with|some x6 =>(match getI l k with|some x7 =>k14 (x6.Record==x7.Record)|none =>none)|none =>none else k14 false|none =>none)|none =>none else some (.inr (.inl (l,i,())))
def zms:((List Hold)×Int×Unit)→Option (((List Hold)×Int×Unit)⊕((Unit)⊕(Int×Unit))):=fun (l,i,_)=>
 bif decide (i<(l.length:Int)) then match zae zkn (l,i,0,()) with|some (.inl (l15,i16,_)) =>some (.inl (l15,wr .i64 (i16+1),()))|some (.inr (v,_)) =>some (.inr (.inr (v,())))|none =>none else some (.inr (.inl (())))
def qn (l:List Hold):Option Int:=
 bif decide (64<(l.length:Int)) then some 13 else match zae zt1 (l,0,()) with|some (.inl (l4,_)) =>(match zae zms (l4,0,()) with|some (.inl (_)) =>some 0|some (.inr (v,_)) =>some v|none =>none)|some (.inr (v17,_)) =>some v17|none =>none
def qe8 (n:Int):Option Bool:=
 let k (v:Bool):Option Bool:=some v;bif decide (0≤n) then k (decide (n≤109572)) else k false
def zj7:((List Charge)×Int×Unit)→Option (((List Charge)×Int×Unit)⊕((Unit)⊕(Int×Unit))):=fun (l,i,_)=>
 bif decide (i<(l.length:Int)) then match getI l i with|some x =>let k22 (v:Bool):Option (((List Charge)×Int×Unit)⊕((Unit)⊕(Int×Unit))):=bif v then some (.inr (.inr (7,()))) else let k21 (v2:Bool):Option (((List Charge)×Int×Unit)⊕((Unit)⊕(Int×Unit))):=let k20 (v3:Bool):Option (((List Charge)×Int×Unit)⊕((Unit)⊕(Int×Unit))):=let k19 (v4:Bool):Option (((List Charge)×Int×Unit)⊕((Unit)⊕(Int×Unit))):=let k18 (v5:Bool):Option (((List Charge)×Int×Unit)⊕((Unit)⊕(Int×Unit))):=let k17 (v6:Bool):Option (((List Charge)×Int×Unit)⊕((Unit)⊕(Int×Unit))):=let k16 (v8:Bool):Option (((List Charge)×Int×Unit)⊕((Unit)⊕(Int×Unit))):=bif v8 then some (.inr (.inr (2,()))) else let k15 (v9:Bool):Option (((List Charge)×Int×Unit)⊕((Unit)⊕(Int×Unit))):=bif v9 then some (.inr (.inr (1,()))) else let k14 (v10:Bool):Option (((List Charge)×Int×Unit)⊕((Unit)⊕(Int×Unit))):=let k13 (v11:Bool):Option (((List Charge)×Int×Unit)⊕((Unit)⊕(Int×Unit))):=let k (v12:Bool):Option (((List Charge)×Int×Unit)⊕((Unit)⊕(Int×Unit))):=bif v12 then some (.inr (.inr (2,()))) else some (.inl (l,wr .i64 (i+1),()));bif v11 then k true else k (decide (x.Amount≤x.Paid));bif v10 then k13 true else k13 (decide (x.Paid<0));bif decide (x.Amount<1) then k14 true else k14 (decide (100000000<x.Amount));bif decide (x.Kind<1) then k15 true else k15 (decide (3<x.Kind));bif v6 then k16 true else match qe8 x.Day with|some r7 =>k16 (!r7)|none =>none;bif v5 then k17 true else k17 (decide (9999<x.Item));bif v4 then k18 true else k18 (decide (x.Item<1));bif v3 then k19 true else k19 (decide (9999<x.Patron));bif v2 then k20 true else k20 (decide (x.Patron<1));bif decide (x.ID<1) then k21 true else k21 (decide (99999<x.ID));bif decide (0<i) then match getI l (wr .i64 (i-1)) with|some x1 =>k22 (decide (x.ID≤x1.ID))|none =>none else k22 false|none =>none else some (.inr (.inl (())))
def qa0 (l:List Charge):Option Int:=
 bif decide (128<(l.length:Int)) then some 13 else match zae zj7 (l,0,()) with|some (.inl (_)) =>some 0|some (.inr (v,_)) =>some v|none =>none
def qbj (n:Int) (low:Int) (high:Int):Option Bool:=
 let k (v:Bool):Option Bool:=some v;bif decide (low≤n) then k (decide (n≤high)) else k false
def qc5 (r:Rule):Option Bool:=
 match qbj r.Patron 0 9 with|some r2 =>let k48 (v:Bool):Option Bool:=let k47 (v7:Bool):Option Bool:=match qbj r.Days 0 365 with|some r9 =>let k46 (v12:Bool):Option Bool:=let k45 (v15:Bool):Option Bool:=match qbj r.Fine 0 1000 with|some r17 =>let k44 (v20:Bool):Option Bool:=let k43 (v23:Bool):Option Bool:=let k42 (v24:Bool):Option Bool:=let k41 (v25:Bool):Option Bool:=let k40 (v28:Bool):Option Bool:=let k39 (v31:Bool):Option Bool:=let k38 (v34:Bool):Option Bool:=let k (v37:Bool):Option Bool:=some v37;bif v34 then match qbj r.Rank 0 9 with|some r36 =>k r36|none =>none else k false;bif v31 then match qbj r.Fixed 0 109572 with|some r33 =>k38 r33|none =>none else k38 false;bif v28 then match qbj r.Recall 1 60 with|some r30 =>k39 r30|none =>none else k39 false;bif v25 then match qbj r.Shelf 1 60 with|some r27 =>k40 r27|none =>none else k40 false;bif v24 then k41 v23 else k41 false;bif v7 then k42 v15 else k42 false;bif v20 then match qbj r.MaxFine 0 100000000 with|some r22 =>k43 r22|none =>none else k43 false;bif r17 then match qbj r.Grace 0 30 with|some r19 =>k44 r19|none =>none else k44 false|none =>none;bif v12 then match qbj r.Loans 0 99 with|some r14 =>k45 r14|none =>none else k45 false;bif r9 then match qbj r.Renewals 0 10 with|some r11 =>k46 r11|none =>none else k46 false|none =>none;bif v then match qbj r.Branch 0 4 with|some r6 =>k47 r6|none =>none else k47 false;bif r2 then match qbj r.Item 0 9 with|some r4 =>k48 r4|none =>none else k48 false|none =>none
def zt0:((List Rule)×Int×Int×Unit)→Option (((List Rule)×Int×Int×Unit)⊕(((List Rule)×Int×Unit)⊕(Int×Unit))):=fun (l,i,k,_)=>
 bif decide (k<i) then match getI l k with|some x =>(match getI l i with|some x2 =>let k9 (v:Bool):Option (((List Rule)×Int×Int×Unit)⊕(((List Rule)×Int×Unit)⊕(Int×Unit))):=let k8 (v7:Bool):Option (((List Rule)×Int×Int×Unit)⊕(((List Rule)×Int×Unit)⊕(Int×Unit))):=bif v7 then some (.inr (.inr (7,()))) else some (.inl (l,i,wr .i64 (k+1),()));bif v then match getI l k with|some x5 =>(match getI l i with|some x6 =>k8 (x5.Branch==x6.Branch)|none =>none)|none =>none else k8 false;bif x.Patron==x2.Patron then match getI l k with|some x3 =>(match getI l i with|some x4 =>k9 (x3.Item==x4.Item)|none =>none)|none =>none else k9 false|none =>none)|none =>none else some (.inr (.inl (l,i,())))
def z0d:((List Rule)×Int×Unit)→Option (((List Rule)×Int×Unit)⊕((Unit)⊕(Int×Unit))):=fun (l,i,_)=>
 bif decide (i<(l.length:Int)) then match getI l i with|some x =>(match qc5 x with|some r1 =>(bif !r1 then some (.inr (.inr (2,()))) else match zae zt0 (l,i,0,()) with|some (.inl (l10,i11,_)) =>some (.inl (l10,wr .i64 (i11+1),()))|some (.inr (v,_)) =>some (.inr (.inr (v,())))|none =>none)|none =>none)|none =>none else some (.inr (.inl (())))
def qm (l:List Rule):Option Int:=
 bif decide (32<(l.length:Int)) then some 13 else match zae z0d (l,0,()) with|some (.inl (_)) =>some 0|some (.inr (v,_)) =>some v|none =>none
def zt6:(Int×Calendar×Unit)→Option ((Int×Calendar×Unit)⊕((Calendar×Unit)⊕(Int×Unit))):=fun (i,c,_)=>
 bif decide (i<(c.Closed.length:Int)) then match getI c.Closed i with|some x =>(let k (v:Bool):Option ((Int×Calendar×Unit)⊕((Calendar×Unit)⊕(Int×Unit))):=bif v then some (.inr (.inr (2,()))) else some (.inl (wr .i64 (i+1),c,()));bif decide (x<0) then k true else match getI c.Closed i with|some x1 =>k (decide (109572<x1))|none =>none)|none =>none else some (.inr (.inl (c,())))
def zko:(Int×Calendar×Unit)→Option ((Int×Calendar×Unit)⊕((Unit)⊕(Int×Unit))):=fun (i,c,_)=>
 bif decide (i<(c.Closed.length:Int)) then match getI c.Closed i with|some x =>(match getI c.Closed (wr .i64 (i-1)) with|some x3 =>bif decide (x≤x3) then some (.inr (.inr (7,()))) else some (.inl (wr .i64 (i+1),c,()))|none =>none)|none =>none else some (.inr (.inl (())))
def qy (c:Calendar):Option Int:=
 let k (v:Bool):Option Int:=bif v then some 1 else bif decide (64<(c.Closed.length:Int)) then some 13 else match zae zt6 (0,c,()) with|some (.inl (c2,_)) =>(match zae zko (1,c2,()) with|some (.inl (_)) =>some 0|some (.inr (v4,_)) =>some v4|none =>none)|some (.inr (v5,_)) =>some v5|none =>none;bif decide (c.Week<0) then k true else k (decide (126<c.Week))
def zmp:((List Patron)×Int×Int×Unit)→Option (((List Patron)×Int×Int×Unit)⊕((Unit)⊕(Int×Unit))):=fun (l,vid,i,_)=>
 bif decide (i<(l.length:Int)) then match getI l i with|some x =>bif x.ID==vid then some (.inr (.inr (i,()))) else some (.inl (l,vid,wr .i64 (i+1),()))|none =>none else some (.inr (.inl (())))
def qau (l:List Patron) (vid:Int):Option Int:=
 match zae zmp (l,vid,0,()) with|some (.inl (_)) =>some (-1)|some (.inr (v,_)) =>some v|none =>none
def qca (l:List Patron) (vid:Int):Option (Patron×Bool):=
 match qau l vid with|some r1 =>(bif decide (r1<0) then some ((⟨0,0,0,0,false,[]⟩:Patron),false) else match getI l r1 with|some x =>some (x,true)|none =>none)|none =>none
def qdq (branch:Int):Option Custody:=
 some (⟨1,branch,0,0⟩:Custody)
def qff (state:Int):Option Bool:=
 let k6 (v:Bool):Option Bool:=let k5 (v1:Bool):Option Bool:=let k4 (v2:Bool):Option Bool:=let k (v3:Bool):Option Bool:=some v3;bif v2 then k true else k (state==10);bif v1 then k4 true else k4 (state==9);bif v then k5 true else k5 (state==8);bif state==4 then k6 true else k6 (state==5)
def qdr (c:Custody):Option Bool:=
 let k17 (v:Bool):Option Bool:=let k16 (v1:Bool):Option Bool:=let k15 (v2:Bool):Option Bool:=bif v2 then some false else let k10 (v9:Bool):Option Bool:=some v9;bif c.State==6 then let k8 (v3:Bool):Option Bool:=let k7 (v4:Bool):Option Bool:=let k (v5:Bool):Option Bool:=bif v5 then k10 (!(c.To==c.Branch)) else k10 false;bif v4 then k (decide (c.To≤4)) else k false;bif v3 then k7 (decide (1≤c.To)) else k7 false;bif decide (0≤c.Who) then k8 (decide (c.Who≤9999)) else k8 false else bif !(c.To==0) then some false else match qff c.State with|some r11 =>let k14 (v13:Bool):Option Bool:=some v13;bif r11 then bif decide (1≤c.Who) then k14 (decide (c.Who≤9999)) else k14 false else some (c.Who==0)|none =>none;bif v1 then k15 true else k15 (decide (4<c.Branch));bif v then k16 true else k16 (decide (c.Branch<1));bif decide (c.State<1) then k17 true else k17 (decide (12<c.State))
def qeo (m:Move):Option Bool:=
 let k16 (v:Bool):Option Bool:=let k15 (v1:Bool):Option Bool:=let k14 (v2:Bool):Option Bool:=let k13 (v3:Bool):Option Bool:=let k12 (v4:Bool):Option Bool:=let k11 (v5:Bool):Option Bool:=let k10 (v6:Bool):Option Bool:=let k9 (v7:Bool):Option Bool:=let k (v8:Bool):Option Bool:=some v8;bif v7 then k (decide (m.Who≤9999)) else k false;bif v6 then k9 (decide (0≤m.Who)) else k9 false;bif v5 then k10 (decide (m.Branch≤4)) else k10 false;bif v4 then k11 (decide (1≤m.Branch)) else k11 false;bif v3 then k12 (decide (m.Kind≤15)) else k12 false;bif v2 then k13 (decide (1≤m.Kind)) else k13 false;bif v1 then k14 (decide (m.Item≤9999)) else k14 false;bif v then k15 (decide (1≤m.Item)) else k15 false;bif decide (0≤m.Day) then k16 (decide (m.Day≤109572)) else k16 false
def qcx (kind:Int):Option (List Int):=
 bif kind==1 then some ([1]) else bif kind==2 then some ([2,5]) else bif kind==3 then some ([3,5]) else bif kind==4 then some ([4,8,9,10]) else let k (v:Bool):Option (List Int):=bif v then some ([2,3]) else bif kind==6 then some ([2,3,5]) else bif kind==7 then some ([6]) else bif kind==9 then some ([7]) else bif kind==10 then some ([3]) else bif kind==11 then some ([4]) else bif kind==12 then some ([4,9]) else bif kind==13 then some ([2,3,5,6,7]) else bif kind==14 then some ([11]) else bif kind==15 then some ([1,2,3,11,10]) else some ([]);bif kind==5 then k (kind==5) else k (kind==8)
def zmm:(Int×(List Int)×Int×Unit)→Option ((Int×(List Int)×Int×Unit)⊕((Unit)⊕(Bool×Unit))):=fun (state,l,i,_)=>
 bif decide (i<(l.length:Int)) then match getI l i with|some x =>bif x==state then some (.inr (.inr (true,()))) else some (.inl (state,l,wr .i64 (i+1),()))|none =>none else some (.inr (.inl (())))
def qan (state:Int) (kind:Int):Option Bool:=
 match qcx kind with|some r1 =>(match zae zmm (state,r1,0,()) with|some (.inl (_)) =>some false|some (.inr (v,_)) =>some v|none =>none)|none =>none
def qde (c:Custody) (m:Move):Option Bool:=
 let k14 (v2:Bool):Option Bool:=let k11 (v10:Bool):Option Bool:=some v10;bif v2 then k11 (m.Who==0) else bif m.Kind==7 then bif m.Who==0 then k11 (m.Branch==c.To) else k11 false else bif m.Kind==6 then k11 (!(m.Branch==c.Branch)) else let k (v5:Bool):Option Bool:=bif v5 then bif m.Branch==c.Branch then k11 (decide (1≤m.Who)) else k11 false else let k13 (v12:Bool):Option Bool:=some v12;bif m.Branch==c.Branch then k13 (m.Who==0) else k13 false;bif m.Kind==3 then k (m.Kind==3) else bif m.Kind==5 then k (m.Kind==5) else k (m.Kind==10);bif m.Kind==1 then k14 (m.Kind==1) else bif m.Kind==4 then k14 (m.Kind==4) else bif m.Kind==9 then k14 (m.Kind==9) else k14 (m.Kind==14)
def qfk (kind:Int):Option Int:=
 let k13 (v3:Bool):Option Int:=let k (v12:Int):Option Int:=some v12;bif v3 then k 2 else bif kind==2 then k 3 else bif kind==3 then k 4 else bif kind==5 then k 5 else bif kind==6 then k 6 else bif kind==8 then k 7 else bif kind==10 then k 8 else bif kind==11 then k 9 else bif kind==12 then k 10 else bif kind==13 then k 11 else some 12;bif kind==1 then k13 (kind==1) else bif kind==4 then k13 (kind==4) else bif kind==7 then k13 (kind==7) else bif kind==9 then k13 (kind==9) else k13 (kind==14)
def qcb (c:Custody) (m:Move):Option (Custody×Int):=
 match qdr c with|some r1 =>(let k26 (v:Bool):Option (Custody×Int):=bif v then some ((⟨0,0,0,0⟩:Custody),1) else match qan c.State m.Kind with|some r5 =>bif !r5 then some ((⟨0,0,0,0⟩:Custody),12) else let k25 (v6:Bool):Option (Custody×Int):=let k24 (v7:Bool):Option (Custody×Int):=bif v7 then some ((⟨0,0,0,0⟩:Custody),16) else match qde c m with|some r9 =>(bif !r9 then some ((⟨0,0,0,0⟩:Custody),1) else match qfk m.Kind with|some r11 =>let k23 (vout20:Int) (vout21:Int) (vout22:Int):Option (Custody×Int):=some ((⟨r11,vout20,vout21,vout22⟩:Custody),0);bif r11==2 then k23 m.Branch 0 0 else let k19 (v13:Bool):Option (Custody×Int):=bif v13 then k23 c.Branch m.Who 0 else bif r11==6 then k23 c.Branch m.Who m.Branch else let k (v14:Bool):Option (Custody×Int):=bif v14 then k23 c.Branch c.Who 0 else k23 c.Branch 0 0;bif r11==9 then k (r11==9) else k (r11==10);bif r11==4 then k19 (r11==4) else bif r11==5 then k19 (r11==5) else k19 (r11==8)|none =>none)|none =>none;bif v6 then k24 (!(m.Who==c.Who)) else k24 false;bif m.Kind==3 then k25 (c.State==5) else k25 false|none =>none;bif !r1 then k26 true else match qeo m with|some r3 =>k26 (!r3)|none =>none)|none =>none
def zmn:((List Move)×Int×Int×Custody×Custody×Unit)→Option (((List Move)×Int×Int×Custody×Custody×Unit)⊕((Custody×Custody×Unit)⊕(Int×Int×Custody×Unit))):=fun (l,item,i,v,c,_)=>
 bif decide (i<(l.length:Int)) then match getI l i with|some x =>(bif !(x.Item==item) then some (.inl (l,item,wr .i64 (i+1),v,c,())) else match getI l i with|some x2 =>(match qcb c x2 with|some (r3,r4) =>bif !(r4==0) then some (.inr (.inr (i,r4,(⟨0,0,0,0⟩:Custody),()))) else some (.inl (l,item,wr .i64 (i+1),v,r3,()))|none =>none)|none =>none)|none =>none else some (.inr (.inl (v,c,())))
def qao (branch:Int) (l:List Move) (item:Int):Option (Custody×Int×Int):=
 let k (v:Bool):Option (Custody×Int×Int):=bif v then some ((⟨0,0,0,0⟩:Custody),(-1),1) else match qdq branch with|some r1 =>(match zae zmn (l,item,0,(⟨0,0,0,0⟩:Custody),r1,()) with|some (.inl (v5,c,_)) =>some (c,(-1),0)|some (.inr (v6,v7,v8,_)) =>some (v8,v6,v7)|none =>none)|none =>none;bif decide (branch<1) then k true else k (decide (4<branch))
def z0g:(Int×Int×Circ×Unit)→Option ((Int×Int×Circ×Unit)⊕((Unit)⊕(Int×Unit))):=fun (item,i,c,_)=>
 bif decide (i<(c.Items.length:Int)) then match getI c.Items i with|some x =>bif x.ID==item then some (.inr (.inr (i,()))) else some (.inl (item,wr .i64 (i+1),c,()))|none =>none else some (.inr (.inl (())))
def qp (c:Circ) (item:Int):Option Int:=
 match zae z0g (item,0,c,()) with|some (.inl (_)) =>some (-1)|some (.inr (v,_)) =>some v|none =>none
def ztm:(Int×Circ×Unit)→Option ((Int×Circ×Unit)⊕((Circ×Unit)⊕(Bool×Unit))):=fun (i,c,_)=>
 bif decide (i<(c.Items.length:Int)) then match getI c.Items i with|some x =>let k29 (v:Bool):Option ((Int×Circ×Unit)⊕((Circ×Unit)⊕(Bool×Unit))):=let k28 (v3:Bool):Option ((Int×Circ×Unit)⊕((Circ×Unit)⊕(Bool×Unit))):=let k27 (v4:Bool):Option ((Int×Circ×Unit)⊕((Circ×Unit)⊕(Bool×Unit))):=let k26 (v5:Bool):Option ((Int×Circ×Unit)⊕((Circ×Unit)⊕(Bool×Unit))):=let k25 (v6:Bool):Option ((Int×Circ×Unit)⊕((Circ×Unit)⊕(Bool×Unit))):=let k24 (v7:Bool):Option ((Int×Circ×Unit)⊕((Circ×Unit)⊕(Bool×Unit))):=bif v7 then some (.inr (.inr (false,()))) else let k23 (v8:Bool):Option ((Int×Circ×Unit)⊕((Circ×Unit)⊕(Bool×Unit))):=let k22 (v9:Bool):Option ((Int×Circ×Unit)⊕((Circ×Unit)⊕(Bool×Unit))):=let k21 (v10:Bool):Option ((Int×Circ×Unit)⊕((Circ×Unit)⊕(Bool×Unit))):=let k20 (v11:Bool):Option ((Int×Circ×Unit)⊕((Circ×Unit)⊕(Bool×Unit))):=let k19 (v13:Bool):Option ((Int×Circ×Unit)⊕((Circ×Unit)⊕(Bool×Unit))):=bif v13 then some (.inr (.inr (false,()))) else match qao x.Branch c.Moves x.ID with|some (r15,r16,r17) =>let k (v18:Bool):Option ((Int×Circ×Unit)⊕((Circ×Unit)⊕(Bool×Unit))):=bif v18 then some (.inr (.inr (false,()))) else some (.inl (wr .i64 (i+1),c,()));bif !(r17==0) then k true else k (!(za9 r15 x.Custody))|none =>none;bif v11 then k19 true else match qai x.Call with|some r12 =>k19 (!r12)|none =>none;bif v10 then k20 true else k20 (decide (200<(x.Call.length:Int)));bif v9 then k21 true else k21 (decide (100000000<x.Price));bif v8 then k22 true else k22 (decide (x.Price<0));bif decide (x.Kind<1) then k23 true else k23 (decide (9<x.Kind));bif v6 then k24 true else k24 (decide (4<x.Branch));bif v5 then k25 true else k25 (decide (x.Branch<1));bif v4 then k26 true else k26 (decide (9999<x.Record));bif v3 then k27 true else k27 (decide (x.Record<1));bif v then k28 true else bif decide (0<i) then match getI c.Items (wr .i64 (i-1)) with|some x1 =>k28 (decide (x.ID≤x1.ID))|none =>none else k28 false;bif decide (x.ID<1) then k29 true else k29 (decide (9999<x.ID))|none =>none else some (.inr (.inl (c,())))
def zj6:(Int×Circ×Unit)→Option ((Int×Circ×Unit)⊕((Unit)⊕(Bool×Unit))):=fun (i,c,_)=>
 bif decide (i<(c.Moves.length:Int)) then match getI c.Moves i with|some x =>(match qp c x.Item with|some r31 =>bif decide (r31<0) then some (.inr (.inr (false,()))) else some (.inl (wr .i64 (i+1),c,()))|none =>none)|none =>none else some (.inr (.inl (())))
def q9 (c:Circ):Option Bool:=
 let k (v:Bool):Option Bool:=bif v then some false else match zae ztm (0,c,()) with|some (.inl (c30,_)) =>(match zae zj6 (0,c30,()) with|some (.inl (_)) =>some true|some (.inr (v32,_)) =>some v32|none =>none)|some (.inr (v33,_)) =>some v33|none =>none;bif decide (64<(c.Items.length:Int)) then k true else k (decide (2000<(c.Moves.length:Int)))
def qej (u:Custody):Option Bool:=
 let k2 (v:Bool):Option Bool:=let k (v1:Bool):Option Bool:=some v1;bif v then k true else k (u.State==10);bif u.State==4 then k2 true else k2 (u.State==9)
def zmj:((List Loan)×Int×Int×Unit)→Option (((List Loan)×Int×Int×Unit)⊕((Unit)⊕(Int×Unit))):=fun (l,item,i,_)=>
 bif decide (i<(l.length:Int)) then match getI l i with|some x =>bif x.Item==item then some (.inr (.inr (i,()))) else some (.inl (l,item,wr .i64 (i+1),()))|none =>none else some (.inr (.inl (())))
def qah (l:List Loan) (item:Int):Option Int:=
 match zae zmj (l,item,0,()) with|some (.inl (_)) =>some (-1)|some (.inr (v,_)) =>some v|none =>none
def qds (l:List Loan) (item:Int):Option (Loan×Bool):=
 match qah l item with|some r1 =>(bif decide (r1<0) then some ((⟨0,0,0,0,0,false⟩:Loan),false) else match getI l r1 with|some x =>some (x,true)|none =>none)|none =>none
def ztl:(Int×Circ×Unit)→Option ((Int×Circ×Unit)⊕((Circ×Unit)⊕(Bool×Unit))):=fun (i,c,_)=>
 bif decide (i<(c.Loans.length:Int)) then match getI c.Loans i with|some x =>(match qp c x.Item with|some r1 =>(match qca c.Patrons x.Patron with|some (r3,r4) =>let k12 (v:Bool):Option ((Int×Circ×Unit)⊕((Circ×Unit)⊕(Bool×Unit))):=let k11 (v8:Bool):Option ((Int×Circ×Unit)⊕((Circ×Unit)⊕(Bool×Unit))):=let k (v10:Bool):Option ((Int×Circ×Unit)⊕((Circ×Unit)⊕(Bool×Unit))):=bif v10 then some (.inr (.inr (false,()))) else some (.inl (wr .i64 (i+1),c,()));bif v8 then k true else match getI c.Items r1 with|some x9 =>k (!(x9.Custody.Who==x.Patron))|none =>none;bif v then k11 true else match getI c.Items r1 with|some x5 =>(match qej x5.Custody with|some r7 =>k11 (!r7)|none =>none)|none =>none;bif decide (r1<0) then k12 true else k12 (!r4)|none =>none)|none =>none)|none =>none else some (.inr (.inl (c,())))
def zmg:(Int×Circ×Unit)→Option ((Int×Circ×Unit)⊕((Unit)⊕(Bool×Unit))):=fun (i,c,_)=>
 bif decide (i<(c.Items.length:Int)) then match getI c.Items i with|some x =>(match qds c.Loans x.ID with|some (r14,r15) =>(match getI c.Items i with|some x16 =>(match qej x16.Custody with|some r18 =>bif !(r15==r18) then some (.inr (.inr (false,()))) else some (.inl (wr .i64 (i+1),c,()))|none =>none)|none =>none)|none =>none)|none =>none else some (.inr (.inl (())))
def q8 (c:Circ):Option Bool:=
 match zae ztl (0,c,()) with|some (.inl (c13,_)) =>(match zae zmg (0,c13,()) with|some (.inl (_)) =>some true|some (.inr (v,_)) =>some v|none =>none)|some (.inr (v19,_)) =>some v19|none =>none
def zmo:(Int×Int×Circ×Hold×Unit)→Option ((Int×Int×Circ×Hold×Unit)⊕((Hold×Unit)⊕(Bool×Hold×Unit))):=fun (item,i,c,v,_)=>
 bif decide (i<(c.Holds.length:Int)) then match getI c.Holds i with|some x =>bif x.Got==item then match getI c.Holds i with|some x1 =>some (.inr (.inr (true,x1,())))|none =>none else some (.inl (item,wr .i64 (i+1),c,v,()))|none =>none else some (.inr (.inl (v,())))
def qat (c:Circ) (item:Int):Option (Hold×Bool):=
 match zae zmo (item,0,c,(⟨0,0,0,0,0,0,0,0,0,0,0⟩:Hold),()) with|some (.inl (v,_)) =>some ((⟨0,0,0,0,0,0,0,0,0,0,0⟩:Hold),false)|some (.inr (v2,v3,_)) =>some (v3,v2)|none =>none
def zj8:(Int×Circ×Unit)→Option ((Int×Circ×Unit)⊕((Circ×Unit)⊕(Bool×Unit))):=fun (i,c,_)=>
 bif decide (i<(c.Holds.length:Int)) then match getI c.Holds i with|some x =>(match qca c.Patrons x.Patron with|some (r1,r2) =>let k18 (v:Bool):Option ((Int×Circ×Unit)⊕((Circ×Unit)⊕(Bool×Unit))):=bif v then some (.inr (.inr (false,()))) else bif x.State==1 then some (.inl (wr .i64 (i+1),c,())) else match qp c x.Got with|some r4 =>(let k17 (v6:Bool):Option ((Int×Circ×Unit)⊕((Circ×Unit)⊕(Bool×Unit))):=bif v6 then some (.inr (.inr (false,()))) else match getI c.Items r4 with|some x7 =>let k16 (v10:Bool):Option ((Int×Circ×Unit)⊕((Circ×Unit)⊕(Bool×Unit))):=bif v10 then some (.inr (.inr (false,()))) else let k15 (v14:Bool):Option ((Int×Circ×Unit)⊕((Circ×Unit)⊕(Bool×Unit))):=bif v14 then some (.inr (.inr (false,()))) else some (.inl (wr .i64 (i+1),c,()));bif x.State==2 then let k13 (v11:Bool):Option ((Int×Circ×Unit)⊕((Circ×Unit)⊕(Bool×Unit))):=bif v11 then k15 true else k15 (!(x7.Custody.Who==x.Patron));bif !(x7.Custody.State==6) then k13 true else k13 (!(x7.Custody.To==x.Pickup)) else k15 false;bif x.State==3 then let k (v8:Bool):Option ((Int×Circ×Unit)⊕((Circ×Unit)⊕(Bool×Unit))):=bif v8 then k16 true else k16 (!(x7.Custody.Who==x.Patron));bif !(x7.Custody.State==5) then k true else k (!(x7.Custody.Branch==x.Pickup)) else k16 false|none =>none;bif decide (r4<0) then k17 true else match getI c.Items r4 with|some x5 =>k17 (!(x5.Record==x.Record))|none =>none)|none =>none;bif !r2 then k18 true else k18 (decide (c.NextHold≤x.ID))|none =>none)|none =>none else some (.inr (.inl (c,())))
def zhm:(Int×Circ×Unit)→Option ((Int×Circ×Unit)⊕((Unit)⊕(Bool×Unit))):=fun (i,c,_)=>
 bif decide (i<(c.Items.length:Int)) then match getI c.Items i with|some x =>(bif !(x.Custody.State==5) then some (.inl (wr .i64 (i+1),c,())) else match getI c.Items i with|some x20 =>(match qat c x20.ID with|some (r21,r22) =>let k (v:Bool):Option ((Int×Circ×Unit)⊕((Unit)⊕(Bool×Unit))):=bif v then some (.inr (.inr (false,()))) else some (.inl (wr .i64 (i+1),c,()));bif !r22 then k true else k (!(r21.State==3))|none =>none)|none =>none)|none =>none else some (.inr (.inl (())))
def qaa (c:Circ):Option Bool:=
 match zae zj8 (0,c,()) with|some (.inl (c19,_)) =>(match zae zhm (0,c19,()) with|some (.inl (_)) =>some true|some (.inr (v,_)) =>some v|none =>none)|some (.inr (v23,_)) =>some v23|none =>none
def zhy:(Int×Circ×Unit)→Option ((Int×Circ×Unit)⊕((Circ×Unit)⊕(Bool×Unit))):=fun (i,c,_)=>
 bif decide (i<4) then let k (v:Int) (v18:List Int):Option ((Int×Circ×Unit)⊕((Circ×Unit)⊕(Bool×Unit))):=match qy (⟨v,v18⟩:Calendar) with|some r19 =>bif !(r19==0) then some (.inr (.inr (false,()))) else some (.inl (wr .i64 (i+1),c,()))|none =>none;bif i==0 then k c.Cals.x0.Week c.Cals.x0.Closed else bif i==1 then k c.Cals.x1.Week c.Cals.x1.Closed else bif i==2 then k c.Cals.x2.Week c.Cals.x2.Closed else bif i==3 then k c.Cals.x3.Week c.Cals.x3.Closed else none else some (.inr (.inl (c,())))
def zf7:(Int×Circ×Unit)→Option ((Int×Circ×Unit)⊕((Circ×Unit)⊕(Bool×Unit))):=fun (i,c,_)=>
 bif decide (i<(c.Charges.length:Int)) then match getI c.Charges i with|some x =>(match qca c.Patrons x.Patron with|some (r21,r22) =>(let k (v:Bool):Option ((Int×Circ×Unit)⊕((Circ×Unit)⊕(Bool×Unit))):=bif v then some (.inr (.inr (false,()))) else some (.inl (wr .i64 (i+1),c,()));bif !r22 then k true else match getI c.Charges i with|some x23 =>k (decide (c.NextCharge≤x23.ID))|none =>none)|none =>none)|none =>none else some (.inr (.inl (c,())))
def qag (c:Circ):Option Bool:=
 let k44 (v:Bool):Option Bool:=let k43 (v1:Bool):Option Bool:=let k42 (v2:Bool):Option Bool:=let k41 (v3:Bool):Option Bool:=let k40 (v4:Bool):Option Bool:=bif v4 then some false else match qaq c.Patrons with|some r5 =>(let k39 (v8:Bool):Option Bool:=let k38 (v11:Bool):Option Bool:=let k37 (v14:Bool):Option Bool:=let k36 (v17:Bool):Option Bool:=bif v17 then some false else match zae zhy (0,c,()) with|some (.inl (c20,_)) =>(match zae zf7 (0,c20,()) with|some (.inl (c24,_)) =>(match q9 c24 with|some r26 =>let k33 (v29:Bool):Option Bool:=let k (v32:Bool):Option Bool:=some v32;bif v29 then match qaa c24 with|some r31 =>k r31|none =>none else k false;bif r26 then match q8 c24 with|some r28 =>k33 r28|none =>none else k33 false|none =>none)|some (.inr (v34,_)) =>some v34|none =>none)|some (.inr (v35,_)) =>some v35|none =>none;bif v14 then k36 true else match qm c.Rules with|some r16 =>k36 (!(r16==0))|none =>none;bif v11 then k37 true else match qa0 c.Charges with|some r13 =>k37 (!(r13==0))|none =>none;bif v8 then k38 true else match qn c.Holds with|some r10 =>k38 (!(r10==0))|none =>none;bif !(r5==0) then k39 true else match qap c.Loans with|some r7 =>k39 (!(r7==0))|none =>none)|none =>none;bif v3 then k40 true else k40 (decide (100000<c.NextCharge));bif v2 then k41 true else k41 (decide (c.NextCharge<1));bif v1 then k42 true else k42 (decide (100000<c.NextHold));bif v then k43 true else k43 (decide (c.NextHold<1));bif decide (c.Today<0) then k44 true else k44 (decide (109572<c.Today))
def qfl (c:Circ):Option Bool:=
 match qa c with|some r1 =>let k (v:Bool):Option Bool:=some v;bif r1 then match qag c with|some r3 =>k r3|none =>none else k false|none =>none
def qeb (today:Int):Option Circ:=
 some (⟨(if 109572<(if today<0 then 0 else today) then 109572 else (if today<0 then 0 else today)),[],[],[],[],[],[],⟨⟨0,[]⟩,⟨0,[]⟩,⟨0,[]⟩,⟨0,[]⟩⟩,[],1,1,false⟩:Circ)
def qcw (x:Item) (v:Int):Option Bool:=
 some (x.ID==v)
def zom {γ0:Type} (p:γ0→Item→Option Bool):((List Item)×γ0×Int×Int×Unit)→Option (((List Item)×γ0×Int×Int×Unit)⊕((Unit)⊕(Int×Unit))):=fun (s,g,v,v1,_)=>
 bif decide (v1<v) then match getI s v1 with|some x =>(match p g x with|some r =>bif r then some (.inr (.inr (v1,()))) else some (.inl (s,g,v,wr .i64 (v1+1),()))|none =>none)|none =>none else some (.inr (.inl (())))
def qc {γ0:Type} (p:γ0→Item→Option Bool) (s:List Item) (g:γ0):Option Int:=
 match zae (zom p) (s,g,(s.length:Int),0,()) with|some (.inl (_)) =>some (-1)|some (.inr (v,_)) =>some v|none =>none
def qam (c:Circ) (item:Int):Option Int:=
 match qc (fun g x0=>qcw x0 g.2.1) c.Items ((),(item,())) with|some r1 =>some r1|none =>none
def qd2 (branch:Int):Option Custody:=
 some (⟨1,branch,0,0⟩:Custody)
def qct (z:Item) (v:Item):Option Bool:=
 some (decide (v.ID<z.ID))
def qcj (s:List Item):Option (List Item):=
 bif decide (([]:List Item).length+s.length≤LIM) then some (([])++s) else none
def qb7 (n:Int) (low:Int) (high:Int):Option Bool:=
 let k (v:Bool):Option Bool:=some v;bif decide (low≤n) then k (decide (n≤high)) else k false
def qd1 (x:Item):Option Bool:=
 match qb7 x.ID 1 9999 with|some r1 =>let k21 (v:Bool):Option Bool:=let k20 (v6:Bool):Option Bool:=let k19 (v9:Bool):Option Bool:=let k18 (v12:Bool):Option Bool:=let k17 (v13:Bool):Option Bool:=let k (v16:Bool):Option Bool:=some v16;bif v13 then match qdc x.Call with|some r15 =>k r15|none =>none else k false;bif v12 then k17 (decide ((x.Call.length:Int)≤200)) else k17 false;bif v9 then match qb7 x.Price 0 100000000 with|some r11 =>k18 r11|none =>none else k18 false;bif v6 then match qb7 x.Kind 1 9 with|some r8 =>k19 r8|none =>none else k19 false;bif v then match qb7 x.Branch 1 4 with|some r5 =>k20 r5|none =>none else k20 false;bif r1 then match qb7 x.Record 1 9999 with|some r3 =>k21 r3|none =>none else k21 false|none =>none
def qbt (n:Int) (least:Int) (most:Int):Option Bool:=
 let k (v:Bool):Option Bool:=some v;bif decide (least≤n) then k (decide (n≤most)) else k false
def qfe (c:Custody):Option Bool:=
 match qbt c.State 1 12 with|some r1 =>(let k23 (v:Bool):Option Bool:=bif v then some false else let k22 (v7:Bool):Option Bool:=let k19 (v18:Bool):Option Bool:=some v18;bif v7 then match qbt c.Who 1 9999 with|some r9 =>bif r9 then k19 (c.To==0) else k19 false|none =>none else bif c.State==6 then match qbt c.Who 0 9999 with|some r12 =>let k (v15:Bool):Option Bool:=bif v15 then k19 (!(c.To==c.Branch)) else k19 false;bif r12 then match qbt c.To 1 4 with|some r14 =>k r14|none =>none else k false|none =>none else let k21 (v20:Bool):Option Bool:=some v20;bif c.Who==0 then k21 (c.To==0) else k21 false;bif c.State==4 then k22 (c.State==4) else bif c.State==5 then k22 (c.State==5) else bif c.State==8 then k22 (c.State==8) else bif c.State==9 then k22 (c.State==9) else k22 (c.State==10);bif !r1 then k23 true else match qbt c.Branch 1 4 with|some r3 =>k23 (!r3)|none =>none)|none =>none
def qfc (state:Int) (kind:Int):Option Bool:=
 match qbt state 1 12 with|some r1 =>let k5 (v:Bool):Option Bool:=let k (v4:Bool):Option Bool:=some v4;bif v then match getI zb2 state with|some x =>bif decide (kind<0) then none else k ((wr .u16 (BitVec.ofInt 16 (x.fdiv (2 ^ (min kind.toNat 16))) &&& BitVec.ofInt 16 1).toNat)==1)|none =>none else k false;bif r1 then match qbt kind 1 15 with|some r3 =>k5 r3|none =>none else k5 false|none =>none
def qco (c:Custody) (ok:Bool):Option (Custody×Int):=
 bif !ok then some ((⟨0,0,0,0⟩:Custody),1) else some (c,0)
def qfg (c:Custody) (m:Move):Option (Custody×Int):=
 match qco (⟨6,c.Branch,m.Who,m.Branch⟩:Custody) (!(m.Branch==c.Branch)) with|some (r1,r2) =>some (r1,r2)|none =>none
def qd3 (c:Custody) (m:Move):Option (Custody×Int):=
 match qfe c with|some r1 =>(let k95 (v:Bool):Option (Custody×Int):=let k94 (v6:Bool):Option (Custody×Int):=let k93 (v9:Bool):Option (Custody×Int):=let k92 (v12:Bool):Option (Custody×Int):=let k91 (v15:Bool):Option (Custody×Int):=bif v15 then some ((⟨0,0,0,0⟩:Custody),1) else match qfc c.State m.Kind with|some r17 =>bif !r17 then some ((⟨0,0,0,0⟩:Custody),12) else let k90 (v18:Bool):Option (Custody×Int):=let k89 (v19:Bool):Option (Custody×Int):=bif v19 then some ((⟨0,0,0,0⟩:Custody),16) else let k88 (v22:Bool):Option (Custody×Int):=let k84 (state79:Int) (ok80:Bool):Option (Custody×Int):=match qco (⟨state79,m.Branch,m.Who,0⟩:Custody) ok80 with|some (r82,r83) =>some (r82,r83)|none =>none;let k87 (v85:Int) (v86:Custody):Option (Custody×Int):=some (v86,v85);bif v22 then k84 2 (m.Who==0) else bif m.Kind==7 then bif m.Who==0 then k84 2 (m.Branch==c.To) else k84 2 false else bif m.Kind==6 then match qfg c m with|some (r25,r26) =>k87 r26 r25|none =>none else bif m.Kind==3 then bif m.Branch==c.Branch then k84 4 (!(m.Who==0)) else k84 4 false else bif m.Kind==5 then bif m.Branch==c.Branch then k84 5 (!(m.Who==0)) else k84 5 false else bif m.Kind==10 then bif m.Branch==c.Branch then k84 8 (!(m.Who==0)) else k84 8 false else bif m.Kind==2 then bif m.Branch==c.Branch then k84 3 (m.Who==0) else k84 3 false else bif m.Kind==8 then bif m.Branch==c.Branch then k84 7 (m.Who==0) else k84 7 false else bif m.Kind==11 then let k (v32:Bool):Option (Custody×Int):=match qco (⟨9,c.Branch,c.Who,0⟩:Custody) v32 with|some (r34,r35) =>k87 r35 r34|none =>none;bif m.Branch==c.Branch then k (m.Who==0) else k false else bif m.Kind==12 then let k40 (v36:Bool):Option (Custody×Int):=match qco (⟨10,c.Branch,c.Who,0⟩:Custody) v36 with|some (r38,r39) =>k87 r39 r38|none =>none;bif m.Branch==c.Branch then k40 (m.Who==0) else k40 false else bif m.Kind==13 then bif m.Branch==c.Branch then k84 11 (m.Who==0) else k84 11 false else bif m.Kind==15 then bif m.Branch==c.Branch then k84 12 (m.Who==0) else k84 12 false else k84 0 false;bif m.Kind==1 then k88 (m.Kind==1) else bif m.Kind==4 then k88 (m.Kind==4) else bif m.Kind==9 then k88 (m.Kind==9) else k88 (m.Kind==14);bif v18 then k89 (!(m.Who==c.Who)) else k89 false;bif m.Kind==3 then k90 (c.State==5) else k90 false|none =>none;bif v12 then k91 true else match qbt m.Who 0 9999 with|some r14 =>k91 (!r14)|none =>none;bif v9 then k92 true else match qbt m.Branch 1 4 with|some r11 =>k92 (!r11)|none =>none;bif v6 then k93 true else match qbt m.Kind 1 15 with|some r8 =>k93 (!r8)|none =>none;bif v then k94 true else match qbt m.Item 1 9999 with|some r5 =>k94 (!r5)|none =>none;bif !r1 then k95 true else match qbt m.Day 0 109572 with|some r3 =>k95 (!r3)|none =>none)|none =>none
def zajb:(Int×(List Move)×Int×Int×Custody×Custody×Unit)→Option ((Int×(List Move)×Int×Int×Custody×Custody×Unit)⊕((Custody×Custody×Unit)⊕(Int×Int×Custody×Unit))):=fun (item,v,v4,v5,v6,c,_)=>
 bif decide (v5<v4) then match getI v v5 with|some x =>(bif !(x.Item==item) then some (.inl (item,v,v4,wr .i64 (v5+1),v6,c,())) else match qd3 c x with|some (r7,r8) =>bif !(r8==0) then some (.inr (.inr (v5,r8,(⟨0,0,0,0⟩:Custody),()))) else some (.inl (item,v,v4,wr .i64 (v5+1),v6,r7,()))|none =>none)|none =>none else some (.inr (.inl (v6,c,())))
def qbo (branch:Int) (l:List Move) (item:Int):Option (Custody×Int×Int):=
 match qbt branch 1 4 with|some r1 =>(bif !r1 then some ((⟨0,0,0,0⟩:Custody),(-1),1) else match qd2 branch with|some r3 =>(match zae zajb (item,l,(l.length:Int),0,(⟨0,0,0,0⟩:Custody),r3,()) with|some (.inl (v,c,_)) =>some (c,(-1),0)|some (.inr (v9,v10,v11,_)) =>some (v11,v9,v10)|none =>none)|none =>none)|none =>none
def zaz8:((List Item)×Int×Int×Circ×Unit)→Option (((List Item)×Int×Int×Circ×Unit)⊕((Circ×Unit)⊕(Bool×Unit))):=fun (v,v1,v2,c,_)=>
 bif decide (v2<v1) then match getI v v2 with|some x =>(match qd1 x with|some r3 =>let k (v6:Bool):Option (((List Item)×Int×Int×Circ×Unit)⊕((Circ×Unit)⊕(Bool×Unit))):=bif v6 then some (.inr (.inr (false,()))) else some (.inl (v,v1,wr .i64 (v2+1),c,()));bif !r3 then k true else bif decide (0<v2) then match getI c.Items (wr .i64 (v2-1)) with|some x4 =>k (decide (x.ID≤x4.ID))|none =>none else k false|none =>none)|none =>none else some (.inr (.inl (c,())))
def zajs:((List Move)×Int×Int×Circ×Unit)→Option (((List Move)×Int×Int×Circ×Unit)⊕((Circ×Unit)⊕(Bool×Unit))):=fun (v,v8,v9,c,_)=>
 bif decide (v9<v8) then match getI v v9 with|some x =>(match qam c x.Item with|some r10 =>bif decide (r10<0) then some (.inr (.inr (false,()))) else some (.inl (v,v8,wr .i64 (v9+1),c,()))|none =>none)|none =>none else some (.inr (.inl (c,())))
def zajt:((List Item)×Int×Int×Circ×Unit)→Option (((List Item)×Int×Int×Circ×Unit)⊕((Unit)⊕(Bool×Unit))):=fun (v,v12,v13,c,_)=>
 bif decide (v13<v12) then match getI v v13 with|some x =>(match qbo x.Branch c.Moves x.ID with|some (r14,r15,r16) =>let k (v17:Bool):Option (((List Item)×Int×Int×Circ×Unit)⊕((Unit)⊕(Bool×Unit))):=bif v17 then some (.inr (.inr (false,()))) else some (.inl (v,v12,wr .i64 (v13+1),c,()));bif !(r16==0) then k true else k (!(za9 r14 x.Custody))|none =>none)|none =>none else some (.inr (.inl (())))
def qt (c:Circ):Option Bool:=
 let k (v:Bool):Option Bool:=bif v then some false else match zae zaz8 (c.Items,(c.Items.length:Int),0,c,()) with|some (.inl (c7,_)) =>(match zae zajs (c7.Moves,(c7.Moves.length:Int),0,c7,()) with|some (.inl (c11,_)) =>(match zae zajt (c11.Items,(c11.Items.length:Int),0,c11,()) with|some (.inl (_)) =>some true|some (.inr (v18,_)) =>some v18|none =>none)|some (.inr (v19,_)) =>some v19|none =>none)|some (.inr (v20,_)) =>some v20|none =>none;bif decide (64<(c.Items.length:Int)) then k true else k (decide (2000<(c.Moves.length:Int)))
def qb3 (p:Patron):Option Int:=
 let k17 (v:Bool):Option Int:=let k16 (v1:Bool):Option Int:=let k15 (v2:Bool):Option Int:=let k14 (v13:Int):Option Int:=some v13;bif v2 then k14 1 else let k12 (v3:Bool):Option Int:=bif v3 then k14 2 else let k10 (v5:Bool):Option Int:=let k (v8:Bool):Option Int:=bif v8 then k14 3 else bif decide (200<(p.Name.length:Int)) then k14 4 else some 0;bif v5 then k true else match qd7 p.Name with|some r7 =>k (!(r7==p.Name))|none =>none;bif p.Name==([]) then k10 true else match qdc p.Name with|some r4 =>k10 (!r4)|none =>none;bif decide (p.Until<0) then k12 true else k12 (decide (109572<p.Until));bif v1 then k15 true else k15 (decide (4<p.Branch));bif v then k16 true else k16 (decide (p.Branch<1));bif decide (p.Kind<1) then k17 true else k17 (decide (9<p.Kind))
def zaio:(Int×(List Patron)×Int×Int×Unit)→Option ((Int×(List Patron)×Int×Int×Unit)⊕((Unit)⊕(Int×Unit))):=fun (last,v,v1,v2,_)=>
 bif decide (v2<v1) then match getI v v2 with|some x =>let k6 (v3:Bool):Option ((Int×(List Patron)×Int×Int×Unit)⊕((Unit)⊕(Int×Unit))):=let k (v4:Int):Option ((Int×(List Patron)×Int×Int×Unit)⊕((Unit)⊕(Int×Unit))):=some (.inr (.inr (v4,())));bif v3 then k 2 else bif decide (x.ID≤last) then k 7 else match qb3 x with|some r5 =>bif !(r5==0) then some (.inr (.inr (r5,()))) else some (.inl (x.ID,v,v1,wr .i64 (v2+1),()))|none =>none;bif decide (x.ID<1) then k6 true else k6 (decide (9999<x.ID))|none =>none else some (.inr (.inl (())))
def qa6 (l:List Patron):Option Int:=
 bif decide (32<(l.length:Int)) then some 13 else match zae zaio (0,l,(l.length:Int),0,()) with|some (.inl (_)) =>some 0|some (.inr (v,_)) =>some v|none =>none
def qew (n:Int):Option Bool:=
 let k (v:Bool):Option Bool:=some v;bif decide (1≤n) then k (decide (n≤9999)) else k false
def qes (n:Int):Option Bool:=
 let k (v:Bool):Option Bool:=some v;bif decide (0≤n) then k (decide (n≤109572)) else k false
def zaiq:((List Loan)×(List Loan)×Int×Int×Unit)→Option (((List Loan)×(List Loan)×Int×Int×Unit)⊕((Unit)⊕(Int×Unit))):=fun (l,v,v1,v2,_)=>
 bif decide (v2<v1) then match getI v v2 with|some x =>let k25 (v4:Bool):Option (((List Loan)×(List Loan)×Int×Int×Unit)⊕((Unit)⊕(Int×Unit))):=let k24 (v23:Int):Option (((List Loan)×(List Loan)×Int×Int×Unit)⊕((Unit)⊕(Int×Unit))):=some (.inr (.inr (v23,())));bif v4 then k24 7 else match qew x.Item with|some r5 =>(let k22 (v8:Bool):Option (((List Loan)×(List Loan)×Int×Int×Unit)⊕((Unit)⊕(Int×Unit))):=let k21 (v11:Bool):Option (((List Loan)×(List Loan)×Int×Int×Unit)⊕((Unit)⊕(Int×Unit))):=let k20 (v14:Bool):Option (((List Loan)×(List Loan)×Int×Int×Unit)⊕((Unit)⊕(Int×Unit))):=let k19 (v15:Bool):Option (((List Loan)×(List Loan)×Int×Int×Unit)⊕((Unit)⊕(Int×Unit))):=let k18 (v16:Bool):Option (((List Loan)×(List Loan)×Int×Int×Unit)⊕((Unit)⊕(Int×Unit))):=let k (v17:Bool):Option (((List Loan)×(List Loan)×Int×Int×Unit)⊕((Unit)⊕(Int×Unit))):=bif v17 then k24 2 else some (.inl (l,v,v1,wr .i64 (v2+1),()));bif v16 then k true else k (decide (10<x.Renewals));bif v15 then k18 true else k18 (decide (x.Renewals<0));bif v14 then k19 true else k19 (decide (x.Due<x.Out));bif v11 then k20 true else match qes x.Due with|some r13 =>k20 (!r13)|none =>none;bif v8 then k21 true else match qes x.Out with|some r10 =>k21 (!r10)|none =>none;bif !r5 then k22 true else match qew x.Patron with|some r7 =>k22 (!r7)|none =>none)|none =>none;bif decide (0<v2) then match getI l (wr .i64 (v2-1)) with|some x3 =>k25 (decide (x.Item≤x3.Item))|none =>none else k25 false|none =>none else some (.inr (.inl (())))
def qa9 (l:List Loan):Option Int:=
 bif decide (64<(l.length:Int)) then some 13 else match zae zaiq (l,l,(l.length:Int),0,()) with|some (.inl (_)) =>some 0|some (.inr (v,_)) =>some v|none =>none
def qb6 (n:Int) (low:Int) (high:Int):Option Bool:=
 let k (v:Bool):Option Bool:=some v;bif decide (low≤n) then k (decide (n≤high)) else k false
def qep (n:Int):Option Bool:=
 match qb6 n 0 109572 with|some r1 =>some r1|none =>none
def qe5 (h:Hold):Option Int:=
 match qb6 h.ID 1 99999 with|some r1 =>(let k41 (v:Bool):Option Int:=let k40 (v6:Bool):Option Int:=let k39 (v9:Bool):Option Int:=let k38 (v37:Int):Option Int:=some v37;bif v9 then k38 2 else match qb6 h.Pickup 1 4 with|some r11 =>(let k36 (v14:Bool):Option Int:=let k35 (v17:Bool):Option Int:=let k34 (v20:Bool):Option Int:=let k33 (v23:Bool):Option Int:=let k32 (v26:Bool):Option Int:=bif v26 then k38 2 else match qb6 h.State 1 3 with|some r28 =>bif !r28 then k38 1 else let k (v29:Bool):Option Int:=bif v29 then k38 12 else some 0;bif !((decide (0<h.Got))==(!(h.State==1))) then k true else k (!((decide (0<h.Until))==(h.State==3)))|none =>none;bif v23 then k32 true else match qb6 h.Rank 0 9 with|some r25 =>k32 (!r25)|none =>none;bif v20 then k33 true else match qep h.Asleep with|some r22 =>k33 (!r22)|none =>none;bif v17 then k34 true else match qep h.Until with|some r19 =>k34 (!r19)|none =>none;bif v14 then k35 true else match qb6 h.Got 0 9999 with|some r16 =>k35 (!r16)|none =>none;bif !r11 then k36 true else match qep h.Placed with|some r13 =>k36 (!r13)|none =>none)|none =>none;bif v6 then k39 true else match qb6 h.Item 0 9999 with|some r8 =>k39 (!r8)|none =>none;bif v then k40 true else match qb6 h.Record 1 9999 with|some r5 =>k40 (!r5)|none =>none;bif !r1 then k41 true else match qb6 h.Patron 1 9999 with|some r3 =>k41 (!r3)|none =>none)|none =>none
def qcf (a:Hold) (b:Hold):Option Bool:=
 let k (v:Bool):Option Bool:=some v;bif a.Patron==b.Patron then k (a.Record==b.Record) else k false
def zar4 {γ0:Type} (p:γ0→Hold→Hold→Option Bool):((List Hold)×γ0×Int×Int×Int×Int×Int×Unit)→Option (((List Hold)×γ0×Int×Int×Int×Int×Int×Unit)⊕(((List Hold)×γ0×Int×Int×Unit)⊕(Bool×Unit))):=fun (l,g,i,v,v2,v3,v4,_)=>
 bif decide (v4<v3) then match getI l v4 with|some x =>(match getI l i with|some x5 =>(match p g x x5 with|some r =>bif r then some (.inr (.inr (true,()))) else some (.inl (l,g,i,v,v2,v3,wr .i64 (v4+1),()))|none =>none)|none =>none)|none =>none else some (.inr (.inl (l,g,v,v2,())))
def zar3 {γ0:Type} (p:γ0→Hold→Hold→Option Bool):((List Hold)×γ0×Int×Int×Unit)→Option (((List Hold)×γ0×Int×Int×Unit)⊕((Unit)⊕(Bool×Unit))):=fun (l,g,v,v1,_)=>
 bif decide (v1<v) then match zae (zar4 p) (l,g,v1,v,v1,v1,0,()) with|some (.inl (l6,g7,v8,v9,_)) =>some (.inl (l6,g7,v8,wr .i64 (v9+1),()))|some (.inr (v10,_)) =>some (.inr (.inr (v10,())))|none =>none else some (.inr (.inl (())))
def qe {γ0:Type} (p:γ0→Hold→Hold→Option Bool) (l:List Hold) (g:γ0):Option Bool:=
 match zae (zar3 p) (l,g,(l.length:Int),0,()) with|some (.inl (_)) =>some false|some (.inr (v,_)) =>some v|none =>none
def qdm (a:Hold) (b:Hold):Option Bool:=
 let k (v:Bool):Option Bool:=some v;bif a.Got==b.Got then k (decide (0<a.Got)) else k false
def zaz1:((List Hold)×(List Hold)×Int×Int×Unit)→Option (((List Hold)×(List Hold)×Int×Int×Unit)⊕(((List Hold)×Unit)⊕(Int×Unit))):=fun (l,v,v1,v2,_)=>
 bif decide (v2<v1) then match getI v v2 with|some x =>let k (v4:Bool):Option (((List Hold)×(List Hold)×Int×Int×Unit)⊕(((List Hold)×Unit)⊕(Int×Unit))):=bif v4 then some (.inr (.inr (7,()))) else match qe5 x with|some r5 =>bif !(r5==0) then some (.inr (.inr (r5,()))) else some (.inl (l,v,v1,wr .i64 (v2+1),()))|none =>none;bif decide (0<v2) then match getI l (wr .i64 (v2-1)) with|some x3 =>k (decide (x.ID≤x3.ID))|none =>none else k false|none =>none else some (.inr (.inl (l,())))
def ql (l:List Hold):Option Int:=
 bif decide (64<(l.length:Int)) then some 13 else match zae zaz1 (l,l,(l.length:Int),0,()) with|some (.inl (l6,_)) =>(match qe (fun g x0 x1=>qcf x0 x1) l6 ((),()) with|some r7 =>(bif r7 then some 7 else match qe (fun g x0 x1=>qdm x0 x1) l6 ((),()) with|some r9 =>bif r9 then some 7 else some 0|none =>none)|none =>none)|some (.inr (v,_)) =>some v|none =>none
def qe2 (n:Int):Option Bool:=
 let k (v:Bool):Option Bool:=some v;bif decide (1≤n) then k (decide (n≤9999)) else k false
def qd9 (n:Int):Option Bool:=
 let k (v:Bool):Option Bool:=some v;bif decide (0≤n) then k (decide (n≤109572)) else k false
def qb8 (x:Charge):Option Int:=
 let k22 (v:Bool):Option Int:=let k21 (v2:Bool):Option Int:=let k20 (v5:Bool):Option Int:=let k19 (v8:Bool):Option Int:=let k18 (v17:Int):Option Int:=some v17;bif v8 then k18 2 else let k16 (v9:Bool):Option Int:=bif v9 then k18 1 else let k14 (v10:Bool):Option Int:=let k13 (v11:Bool):Option Int:=let k (v12:Bool):Option Int:=bif v12 then k18 2 else some 0;bif v11 then k true else k (decide (x.Amount≤x.Paid));bif v10 then k13 true else k13 (decide (x.Paid<0));bif decide (x.Amount<1) then k14 true else k14 (decide (100000000<x.Amount));bif decide (x.Kind<1) then k16 true else k16 (decide (3<x.Kind));bif v5 then k19 true else match qd9 x.Day with|some r7 =>k19 (!r7)|none =>none;bif v2 then k20 true else match qe2 x.Item with|some r4 =>k20 (!r4)|none =>none;bif v then k21 true else match qe2 x.Patron with|some r1 =>k21 (!r1)|none =>none;bif decide (x.ID<1) then k22 true else k22 (decide (99999<x.ID))
def zai1:((List Charge)×(List Charge)×Int×Int×Unit)→Option (((List Charge)×(List Charge)×Int×Int×Unit)⊕((Unit)⊕(Int×Unit))):=fun (l,v,v1,v2,_)=>
 bif decide (v2<v1) then match getI v v2 with|some x =>let k (v4:Bool):Option (((List Charge)×(List Charge)×Int×Int×Unit)⊕((Unit)⊕(Int×Unit))):=bif v4 then some (.inr (.inr (7,()))) else match qb8 x with|some r5 =>bif !(r5==0) then some (.inr (.inr (r5,()))) else some (.inl (l,v,v1,wr .i64 (v2+1),()))|none =>none;bif decide (0<v2) then match getI l (wr .i64 (v2-1)) with|some x3 =>k (decide (x.ID≤x3.ID))|none =>none else k false|none =>none else some (.inr (.inl (())))
def qba (l:List Charge):Option Int:=
 bif decide (128<(l.length:Int)) then some 13 else match zae zai1 (l,l,(l.length:Int),0,()) with|some (.inl (_)) =>some 0|some (.inr (v,_)) =>some v|none =>none
def qbx (n:Int) (least:Int) (most:Int):Option Bool:=
 let k (v:Bool):Option Bool:=some v;bif decide (least≤n) then k (decide (n≤most)) else k false
def qe0 (r:Rule):Option Bool:=
 match qbx r.Patron 0 9 with|some r2 =>let k48 (v:Bool):Option Bool:=let k47 (v7:Bool):Option Bool:=let k46 (v10:Bool):Option Bool:=let k45 (v13:Bool):Option Bool:=let k44 (v16:Bool):Option Bool:=let k43 (v19:Bool):Option Bool:=let k42 (v22:Bool):Option Bool:=let k41 (v25:Bool):Option Bool:=let k40 (v28:Bool):Option Bool:=let k39 (v31:Bool):Option Bool:=let k38 (v34:Bool):Option Bool:=let k (v37:Bool):Option Bool:=some v37;bif v34 then match qbx r.Rank 0 9 with|some r36 =>k r36|none =>none else k false;bif v31 then match qbx r.Fixed 0 109572 with|some r33 =>k38 r33|none =>none else k38 false;bif v28 then match qbx r.Recall 1 60 with|some r30 =>k39 r30|none =>none else k39 false;bif v25 then match qbx r.Shelf 1 60 with|some r27 =>k40 r27|none =>none else k40 false;bif v22 then match qbx r.Loans 0 99 with|some r24 =>k41 r24|none =>none else k41 false;bif v19 then match qbx r.MaxFine 0 100000000 with|some r21 =>k42 r21|none =>none else k42 false;bif v16 then match qbx r.Grace 0 30 with|some r18 =>k43 r18|none =>none else k43 false;bif v13 then match qbx r.Fine 0 1000 with|some r15 =>k44 r15|none =>none else k44 false;bif v10 then match qbx r.Renewals 0 10 with|some r12 =>k45 r12|none =>none else k45 false;bif v7 then match qbx r.Days 0 365 with|some r9 =>k46 r9|none =>none else k46 false;bif v then match qbx r.Branch 0 4 with|some r6 =>k47 r6|none =>none else k47 false;bif r2 then match qbx r.Item 0 9 with|some r4 =>k48 r4|none =>none else k48 false|none =>none
def qck (o:Rule) (v:Rule):Option Bool:=
 let k3 (v1:Bool):Option Bool:=let k (v2:Bool):Option Bool:=some v2;bif v1 then k (o.Branch==v.Branch) else k false;bif o.Patron==v.Patron then k3 (o.Item==v.Item) else k3 false
def zail {γ0:Type} (p:γ0→Rule→Option Bool):((List Rule)×γ0×Int×Int×Unit)→Option (((List Rule)×γ0×Int×Int×Unit)⊕((Unit)⊕(Int×Unit))):=fun (s,g,v,v1,_)=>
 bif decide (v1<v) then match getI s v1 with|some x =>(match p g x with|some r =>bif r then some (.inr (.inr (v1,()))) else some (.inl (s,g,v,wr .i64 (v1+1),()))|none =>none)|none =>none else some (.inr (.inl (())))
def qa2 {γ0:Type} (p:γ0→Rule→Option Bool) (s:List Rule) (g:γ0):Option Int:=
 match zae (zail p) (s,g,(s.length:Int),0,()) with|some (.inl (_)) =>some (-1)|some (.inr (v,_)) =>some v|none =>none
def qex {γ0:Type} (p:γ0→Rule→Option Bool) (s:List Rule) (g:γ0):Option Bool:=
 match qa2 p s g with|some r1 =>some (decide (0≤r1))|none =>none
def za0a:((List Rule)×(List Rule)×Int×Int×Unit)→Option (((List Rule)×(List Rule)×Int×Int×Unit)⊕((Unit)⊕(Int×Unit))):=fun (l,v,v1,v2,_)=>
 bif decide (v2<v1) then match getI v v2 with|some x =>(match qe0 x with|some r3 =>bif !r3 then some (.inr (.inr (2,()))) else bif decide (0≤(0:Int))&&(decide ((0:Int)≤v2)&&decide (v2≤(l.length:Int))) then match qex (fun g x0=>qck x0 g.2.1) ((l.take v2.toNat).drop (0:Int).toNat) ((),(x,())) with|some r5 =>bif r5 then some (.inr (.inr (7,()))) else some (.inl (l,v,v1,wr .i64 (v2+1),()))|none =>none else none|none =>none)|none =>none else some (.inr (.inl (())))
def qx (l:List Rule):Option Int:=
 bif decide (32<(l.length:Int)) then some 13 else match zae za0a (l,l,(l.length:Int),0,()) with|some (.inl (_)) =>some 0|some (.inr (v,_)) =>some v|none =>none
def qc4 (d:Int):Option Bool:=
 let k (v:Bool):Option Bool:=some v;bif decide (0≤d) then k (decide (d≤109572)) else k false
def qc1 (d:Int):Option Bool:=
 match qc4 d with|some r1 =>some (!r1)|none =>none
def zaim {γ0:Type} (p:γ0→Int→Option Bool):((List Int)×γ0×Int×Int×Unit)→Option (((List Int)×γ0×Int×Int×Unit)⊕((Unit)⊕(Int×Unit))):=fun (s,g,v,v1,_)=>
 bif decide (v1<v) then match getI s v1 with|some x =>(match p g x with|some r =>bif r then some (.inr (.inr (v1,()))) else some (.inl (s,g,v,wr .i64 (v1+1),()))|none =>none)|none =>none else some (.inr (.inl (())))
def qa3 {γ0:Type} (p:γ0→Int→Option Bool) (s:List Int) (g:γ0):Option Int:=
 match zae (zaim p) (s,g,(s.length:Int),0,()) with|some (.inl (_)) =>some (-1)|some (.inr (v,_)) =>some v|none =>none
def qey {γ0:Type} (p:γ0→Int→Option Bool) (s:List Int) (g:γ0):Option Bool:=
 match qa3 p s g with|some r1 =>some (decide (0≤r1))|none =>none
def zaz9:((List Int)×Int×Int×Calendar×Unit)→Option (((List Int)×Int×Int×Calendar×Unit)⊕((Unit)⊕(Int×Unit))):=fun (v,v4,v5,c,_)=>
 bif decide (v5<v4) then match getI v v5 with|some x =>let k (v7:Bool):Option (((List Int)×Int×Int×Calendar×Unit)⊕((Unit)⊕(Int×Unit))):=bif v7 then some (.inr (.inr (7,()))) else some (.inl (v,v4,wr .i64 (v5+1),c,()));bif decide (0<v5) then match getI c.Closed (wr .i64 (v5-1)) with|some x6 =>k (decide (x≤x6))|none =>none else k false|none =>none else some (.inr (.inl (())))
def qv (c:Calendar):Option Int:=
 let k9 (v:Bool):Option Int:=let k (v3:Int):Option Int:=some v3;bif v then k 1 else bif decide (64<(c.Closed.length:Int)) then k 13 else match qey (fun g x0=>qc1 x0) c.Closed ((),()) with|some r1 =>(bif r1 then k 2 else match zae zaz9 (c.Closed,(c.Closed.length:Int),0,c,()) with|some (.inl (_)) =>some 0|some (.inr (v8,_)) =>some v8|none =>none)|none =>none;bif decide (c.Week<0) then k9 true else k9 (decide (127≤c.Week))
def zaz7:((V4 Calendar)×Int×Circ×Unit)→Option (((V4 Calendar)×Int×Circ×Unit)⊕((Circ×Unit)⊕(Bool×Unit))):=fun (v,v13,c,_)=>
 bif decide (v13<4) then let k (v14:Int) (v15:List Int):Option (((V4 Calendar)×Int×Circ×Unit)⊕((Circ×Unit)⊕(Bool×Unit))):=match qv (⟨v14,v15⟩:Calendar) with|some r16 =>bif !(r16==0) then some (.inr (.inr (false,()))) else some (.inl (v,wr .i64 (v13+1),c,()))|none =>none;bif v13==0 then k v.x0.Week v.x0.Closed else bif v13==1 then k v.x1.Week v.x1.Closed else bif v13==2 then k v.x2.Week v.x2.Closed else bif v13==3 then k v.x3.Week v.x3.Closed else none else some (.inr (.inl (c,())))
def zajq:((List Hold)×Int×Int×Circ×Unit)→Option (((List Hold)×Int×Int×Circ×Unit)⊕((Circ×Unit)⊕(Bool×Unit))):=fun (v,v23,v24,c,_)=>
 bif decide (v24<v23) then match getI v v24 with|some x =>bif decide (c.NextHold≤x.ID) then some (.inr (.inr (false,()))) else some (.inl (v,v23,wr .i64 (v24+1),c,()))|none =>none else some (.inr (.inl (c,())))
def zajr:((List Charge)×Int×Int×Circ×Unit)→Option (((List Charge)×Int×Int×Circ×Unit)⊕((Unit)⊕(Bool×Unit))):=fun (v,v26,v27,c,_)=>
 bif decide (v27<v26) then match getI v v27 with|some x =>bif decide (c.NextCharge≤x.ID) then some (.inr (.inr (false,()))) else some (.inl (v,v26,wr .i64 (v27+1),c,()))|none =>none else some (.inr (.inl (())))
def qs (c:Circ):Option Bool:=
 match qa6 c.Patrons with|some r1 =>(let k34 (v:Bool):Option Bool:=let k33 (v6:Bool):Option Bool:=let k32 (v9:Bool):Option Bool:=let k31 (v12:Bool):Option Bool:=bif v12 then some false else match zae zaz7 (c.Cals,0,c,()) with|some (.inl (c17,_)) =>(match qb7 c17.NextHold 1 100000 with|some r19 =>(let k (v22:Bool):Option Bool:=bif v22 then some false else match zae zajq (c17.Holds,(c17.Holds.length:Int),0,c17,()) with|some (.inl (c25,_)) =>(match zae zajr (c25.Charges,(c25.Charges.length:Int),0,c25,()) with|some (.inl (_)) =>some true|some (.inr (v28,_)) =>some v28|none =>none)|some (.inr (v29,_)) =>some v29|none =>none;bif !r19 then k true else match qb7 c17.NextCharge 1 100000 with|some r21 =>k (!r21)|none =>none)|none =>none)|some (.inr (v30,_)) =>some v30|none =>none;bif v9 then k31 true else match qx c.Rules with|some r11 =>k31 (!(r11==0))|none =>none;bif v6 then k32 true else match qba c.Charges with|some r8 =>k32 (!(r8==0))|none =>none;bif v then k33 true else match ql c.Holds with|some r5 =>k33 (!(r5==0))|none =>none;bif !(r1==0) then k34 true else match qa9 c.Loans with|some r3 =>k34 (!(r3==0))|none =>none)|none =>none
def qc3 (p:Patron) (v:Int):Option Bool:=
 some (p.ID==v)
def zar6 {γ0:Type} (p:γ0→Patron→Option Bool):((List Patron)×γ0×Int×Int×Unit)→Option (((List Patron)×γ0×Int×Int×Unit)⊕((Unit)⊕(Int×Unit))):=fun (s,g,v,v1,_)=>
 bif decide (v1<v) then match getI s v1 with|some x =>(match p g x with|some r =>bif r then some (.inr (.inr (v1,()))) else some (.inl (s,g,v,wr .i64 (v1+1),()))|none =>none)|none =>none else some (.inr (.inl (())))
def qo {γ0:Type} (p:γ0→Patron→Option Bool) (s:List Patron) (g:γ0):Option Int:=
 match zae (zar6 p) (s,g,(s.length:Int),0,()) with|some (.inl (_)) =>some (-1)|some (.inr (v,_)) =>some v|none =>none
def qby (l:List Patron) (vid:Int):Option Int:=
 match qo (fun g x0=>qc3 x0 g.2.1) l ((),(vid,())) with|some r1 =>some r1|none =>none
def qdo (l:List Patron) (vid:Int):Option (Patron×Bool):=
 match qby l vid with|some r1 =>(bif decide (r1<0) then some ((⟨0,0,0,0,false,[]⟩:Patron),false) else match getI l r1 with|some x =>some (x,true)|none =>none)|none =>none
def qb9 (vid:Int) (v:Circ):Option Bool:=
 match qdo v.Patrons vid with|some (r1,r2) =>some r2|none =>none
def zazx:((List Loan)×Int×Int×Circ×Unit)→Option (((List Loan)×Int×Int×Circ×Unit)⊕((Circ×Unit)⊕(Bool×Unit))):=fun (v,v1,v2,c,_)=>
 bif decide (v2<v1) then match getI v v2 with|some x =>(match qb9 x.Patron c with|some r3 =>(let k (v6:Bool):Option (((List Loan)×Int×Int×Circ×Unit)⊕((Circ×Unit)⊕(Bool×Unit))):=bif v6 then some (.inr (.inr (false,()))) else some (.inl (v,v1,wr .i64 (v2+1),c,()));bif !r3 then k true else match qam c x.Item with|some r5 =>k (decide (r5<0))|none =>none)|none =>none)|none =>none else some (.inr (.inl (c,())))
def zazy:((List Hold)×Int×Int×Circ×Unit)→Option (((List Hold)×Int×Int×Circ×Unit)⊕((Circ×Unit)⊕(Bool×Unit))):=fun (v,v8,v9,c,_)=>
 bif decide (v9<v8) then match getI v v9 with|some x =>(match qb9 x.Patron c with|some r10 =>bif !r10 then some (.inr (.inr (false,()))) else some (.inl (v,v8,wr .i64 (v9+1),c,()))|none =>none)|none =>none else some (.inr (.inl (c,())))
def zajo:((List Charge)×Int×Int×Circ×Unit)→Option (((List Charge)×Int×Int×Circ×Unit)⊕((Unit)⊕(Bool×Unit))):=fun (v,v12,v13,c,_)=>
 bif decide (v13<v12) then match getI v v13 with|some x =>(match qb9 x.Patron c with|some r14 =>bif !r14 then some (.inr (.inr (false,()))) else some (.inl (v,v12,wr .i64 (v13+1),c,()))|none =>none)|none =>none else some (.inr (.inl (())))
def qh (c:Circ):Option Bool:=
 match zae zazx (c.Loans,(c.Loans.length:Int),0,c,()) with|some (.inl (c7,_)) =>(match zae zazy (c7.Holds,(c7.Holds.length:Int),0,c7,()) with|some (.inl (c11,_)) =>(match zae zajo (c11.Charges,(c11.Charges.length:Int),0,c11,()) with|some (.inl (_)) =>some true|some (.inr (v,_)) =>some v|none =>none)|some (.inr (v15,_)) =>some v15|none =>none)|some (.inr (v16,_)) =>some v16|none =>none
def qar (item:Int):Option (Int×Unit):=
 some (item,())
def qcc (n:Loan) (v:Int):Option Bool:=
 some (n.Item==v)
def ztz {γ0:Type} (p:γ0→Loan→Option Bool):((List Loan)×γ0×Int×Int×Unit)→Option (((List Loan)×γ0×Int×Int×Unit)⊕((Unit)⊕(Int×Unit))):=fun (s,g,v,v1,_)=>
 bif decide (v1<v) then match getI s v1 with|some x =>(match p g x with|some r =>bif r then some (.inr (.inr (v1,()))) else some (.inl (s,g,v,wr .i64 (v1+1),()))|none =>none)|none =>none else some (.inr (.inl (())))
def qk {γ0:Type} (p:γ0→Loan→Option Bool) (s:List Loan) (g:γ0):Option Int:=
 match zae (ztz p) (s,g,(s.length:Int),0,()) with|some (.inl (_)) =>some (-1)|some (.inr (v,_)) =>some v|none =>none
def qb2 {γ0:Type} (p:γ0→Loan→Option Bool) (l:List Loan) (g:γ0):Option (Loan×Int):=
 match qk p l g with|some r1 =>(bif decide (r1<0) then some ((⟨0,0,0,0,0,false⟩:Loan),(-1)) else match getI l r1 with|some x =>some (x,r1)|none =>none)|none =>none
def qea (l:List Loan) (item:Int):Option (Loan×Bool):=
 match qar item with|some r1 =>(match qb2 (fun g x0=>qcc x0 g.2.1) l ((),(r1.1,())) with|some (r3,r4) =>some (r3,decide (0≤r4))|none =>none)|none =>none
def zajc:((List Item)×Int×Int×Circ×Unit)→Option (((List Item)×Int×Int×Circ×Unit)⊕((Unit)⊕(Bool×Unit))):=fun (v,v1,v2,c,_)=>
 bif decide (v2<v1) then match getI v v2 with|some x =>(match qea c.Loans x.ID with|some (r3,r4) =>let k10 (v5:Bool):Option (((List Item)×Int×Int×Circ×Unit)⊕((Unit)⊕(Bool×Unit))):=let k9 (v6:Bool):Option (((List Item)×Int×Int×Circ×Unit)⊕((Unit)⊕(Bool×Unit))):=let k (v8:Bool):Option (((List Item)×Int×Int×Circ×Unit)⊕((Unit)⊕(Bool×Unit))):=bif v8 then some (.inr (.inr (false,()))) else some (.inl (v,v1,wr .i64 (v2+1),c,()));bif !(r4==v6) then k true else bif r4 then k (!(r3.Patron==x.Custody.Who)) else k false;bif v5 then k9 true else k9 (x.Custody.State==10);bif x.Custody.State==4 then k10 true else k10 (x.Custody.State==9)|none =>none)|none =>none else some (.inr (.inl (())))
def qbr (c:Circ):Option Bool:=
 match zae zajc (c.Items,(c.Items.length:Int),0,c,()) with|some (.inl (_)) =>some true|some (.inr (v,_)) =>some v|none =>none
def qcu (h:Hold) (v:Int):Option Bool:=
 some (h.Got==v)
def zkd {γ0:Type} (p:γ0→Hold→Option Bool):((List Hold)×γ0×Int×Int×Unit)→Option (((List Hold)×γ0×Int×Int×Unit)⊕((Unit)⊕(Int×Unit))):=fun (s,g,v,v1,_)=>
 bif decide (v1<v) then match getI s v1 with|some x =>(match p g x with|some r =>bif r then some (.inr (.inr (v1,()))) else some (.inl (s,g,v,wr .i64 (v1+1),()))|none =>none)|none =>none else some (.inr (.inl (())))
def qb {γ0:Type} (p:γ0→Hold→Option Bool) (s:List Hold) (g:γ0):Option Int:=
 match zae (zkd p) (s,g,(s.length:Int),0,()) with|some (.inl (_)) =>some (-1)|some (.inr (v,_)) =>some v|none =>none
def qa8 (c:Circ) (item:Int):Option (Hold×Bool):=
 match qb (fun g x0=>qcu x0 g.2.1) c.Holds ((),(item,())) with|some r1 =>(bif decide (r1<0) then some ((⟨0,0,0,0,0,0,0,0,0,0,0⟩:Hold),false) else match getI c.Holds r1 with|some x =>some (x,true)|none =>none)|none =>none
def zair:((List Hold)×Int×Int×Circ×Unit)→Option (((List Hold)×Int×Int×Circ×Unit)⊕((Circ×Unit)⊕(Bool×Unit))):=fun (v,v1,v2,c,_)=>
 bif decide (v2<v1) then match getI v v2 with|some x =>(bif x.State==1 then some (.inl (v,v1,wr .i64 (v2+1),c,())) else match qam c x.Got with|some r3 =>(let k9 (v5:Bool):Option (((List Hold)×Int×Int×Circ×Unit)⊕((Circ×Unit)⊕(Bool×Unit))):=bif v5 then some (.inr (.inr (false,()))) else match getI c.Items r3 with|some x6 =>let k (want:Int) (want7:Int) (want8:Int):Option (((List Hold)×Int×Int×Circ×Unit)⊕((Circ×Unit)⊕(Bool×Unit))):=bif !(za9 x6.Custody (⟨want,want7,x.Patron,want8⟩:Custody)) then some (.inr (.inr (false,()))) else some (.inl (v,v1,wr .i64 (v2+1),c,()));bif x.State==2 then k 6 x6.Custody.Branch x.Pickup else k 5 x.Pickup 0|none =>none;bif decide (r3<0) then k9 true else match getI c.Items r3 with|some x4 =>k9 (!(x4.Record==x.Record))|none =>none)|none =>none)|none =>none else some (.inr (.inl (c,())))
def z61:((List Item)×Int×Int×Circ×Unit)→Option (((List Item)×Int×Int×Circ×Unit)⊕((Unit)⊕(Bool×Unit))):=fun (v,v11,v12,c,_)=>
 bif decide (v12<v11) then match getI v v12 with|some x =>(match qa8 c x.ID with|some (r13,r14) =>let k (v16:Bool):Option (((List Item)×Int×Int×Circ×Unit)⊕((Unit)⊕(Bool×Unit))):=bif v16 then some (.inr (.inr (false,()))) else some (.inl (v,v11,wr .i64 (v12+1),c,()));bif x.Custody.State==5 then bif !r14 then k true else k (!(r13.State==3)) else k false|none =>none)|none =>none else some (.inr (.inl (())))
def qac (c:Circ):Option Bool:=
 match zae zair (c.Holds,(c.Holds.length:Int),0,c,()) with|some (.inl (c10,_)) =>(match zae z61 (c10.Items,(c10.Items.length:Int),0,c10,()) with|some (.inl (_)) =>some true|some (.inr (v,_)) =>some v|none =>none)|some (.inr (v17,_)) =>some v17|none =>none
def qfj (c:Circ):Option Bool:=
 match qb7 c.Today 0 109572 with|some r1 =>let k19 (v:Bool):Option Bool:=let k18 (v6:Bool):Option Bool:=let k17 (v9:Bool):Option Bool:=let k16 (v12:Bool):Option Bool:=let k (v15:Bool):Option Bool:=some v15;bif v12 then match qac c with|some r14 =>k r14|none =>none else k false;bif v9 then match qbr c with|some r11 =>k16 r11|none =>none else k16 false;bif v6 then match qh c with|some r8 =>k17 r8|none =>none else k17 false;bif v then match qs c with|some r5 =>k18 r5|none =>none else k18 false;bif r1 then match qt c with|some r3 =>k19 r3|none =>none else k19 false|none =>none
def qz (c:Circ) (x:Item):Option (Circ×Int):=
 match qam c x.ID with|some r1 =>(bif decide (0≤r1) then some ((⟨0,[],[],[],[],[],[],⟨⟨0,[]⟩,⟨0,[]⟩,⟨0,[]⟩,⟨0,[]⟩⟩,[],0,0,false⟩:Circ),7) else bif decide (64≤(c.Items.length:Int)) then some ((⟨0,[],[],[],[],[],[],⟨⟨0,[]⟩,⟨0,[]⟩,⟨0,[]⟩,⟨0,[]⟩⟩,[],0,0,false⟩:Circ),13) else match qd2 x.Branch with|some r3 =>(match qc (fun g x0=>qct x0 g.2.1) c.Items ((),(x,())) with|some r5 =>let k (i:Int):Option (Circ×Int):=match qcj c.Items with|some l =>(match qdx l i ([(⟨x.ID,x.Record,x.Branch,x.Kind,x.Price,x.Call,r3⟩:Item)]) with|some l8 =>(match qfj (⟨c.Today,l8,c.Patrons,c.Loans,c.Holds,c.Charges,c.Rules,c.Cals,c.Moves,c.NextHold,c.NextCharge,c.Local⟩:Circ) with|some r10 =>bif !r10 then some ((⟨0,[],[],[],[],[],[],⟨⟨0,[]⟩,⟨0,[]⟩,⟨0,[]⟩,⟨0,[]⟩⟩,[],0,0,false⟩:Circ),1) else some ((⟨c.Today,l8,c.Patrons,c.Loans,c.Holds,c.Charges,c.Rules,c.Cals,c.Moves,c.NextHold,c.NextCharge,c.Local⟩:Circ),0)|none =>none)|none =>none)|none =>none;bif decide (r5<0) then k (c.Items.length:Int) else k r5|none =>none)|none =>none)|none =>none
def qc7 (x:Patron) (v:Patron):Option Bool:=
 some (decide (v.ID<x.ID))
def qdv (s:List Patron):Option (List Patron):=
 bif decide (([]:List Patron).length+s.length≤LIM) then some (([])++s) else none
def qd0 (l:List Patron):Option ((List Patron)×Int):=
 match qa6 l with|some r1 =>bif !(r1==0) then some ([],r1) else some (l,0)|none =>none
def qb0 (l:List Patron) (p:Patron):Option ((List Patron)×Int):=
 match qby l p.ID with|some r1 =>(bif decide (0≤r1) then some ([],7) else match qo (fun g x0=>qc7 x0 g.2.1) l ((),(p,())) with|some r3 =>let k (i:Int):Option ((List Patron)×Int):=match qdv l with|some l5 =>(match qdu l5 i ([p]) with|some l7 =>(match qd0 l7 with|some (r9,r10) =>some (r9,r10)|none =>none)|none =>none)|none =>none;bif decide (r3<0) then k (l.length:Int) else k r3|none =>none)|none =>none
def qdk (c:Circ) (p:Patron):Option (Circ×Int):=
 match qb0 c.Patrons p with|some (r1,r2) =>bif !(r2==0) then some ((⟨0,[],[],[],[],[],[],⟨⟨0,[]⟩,⟨0,[]⟩,⟨0,[]⟩,⟨0,[]⟩⟩,[],0,0,false⟩:Circ),r2) else some ((⟨c.Today,c.Items,r1,c.Loans,c.Holds,c.Charges,c.Rules,c.Cals,c.Moves,c.NextHold,c.NextCharge,c.Local⟩:Circ),0)|none =>none
def qc8:Option Circ:=
 match qeb 100 with|some r1 =>(match qz (⟨r1.Today,r1.Items,r1.Patrons,r1.Loans,r1.Holds,r1.Charges,[(⟨0,0,0,14,1,10,0,500,2,5,7,0,0⟩:Rule)],r1.Cals,r1.Moves,r1.NextHold,r1.NextCharge,r1.Local⟩:Circ) (⟨1,5,1,1,2000,[],⟨0,0,0,0⟩⟩:Item) with|some (r3,r4) =>(match qdk r3 (⟨7,1,1,5000,false,[65,110,110]⟩:Patron) with|some (r6,r7) =>(match qdk r6 (⟨8,1,1,5000,false,[66,111,98]⟩:Patron) with|some (r9,r10) =>some r9|none =>none)|none =>none)|none =>none)|none =>none
def qcg (c:Circ):Option Circ_desk:=
 some (⟨c,0⟩:Circ_desk)
def qu (e:Int) (d:Circ_desk):Option (Unit×Circ_desk):=
 let k (v:Int):Option (Unit×Circ_desk):=some ((),(⟨d.c,v⟩:Circ_desk));bif d.err==0 then k e else k d.err
def qcr (vid:Int) (d:Circ_desk):Option (Int×Circ_desk):=
 match qam d.c vid with|some r1 =>let k (v3:Circ_desk):Option (Int×Circ_desk):=some (r1,v3);bif decide (r1<0) then match qu 9 d with|some (_,v) =>k v|none =>none else k d|none =>none
def qdi (s:List Move):Option (List Move):=
 bif decide (([]:List Move).length+s.length≤LIM) then some (([])++s) else none
def qbg (i:Int) (kind:Int) (branch:Int) (who:Int) (d:Circ_desk):Option (Unit×Circ_desk):=
 bif !(d.err==0) then some ((),d) else match getI d.c.Items i with|some x =>(match getI d.c.Items i with|some x1 =>(match qd3 x1.Custody (⟨d.c.Today,x.ID,kind,branch,who⟩:Move) with|some (r2,r3) =>let k10 (v:Bool):Option (Unit×Circ_desk):=let k (e:Int):Option (Unit×Circ_desk):=bif !(e==0) then match qu e d with|some (_,v5) =>some ((),v5)|none =>none else match qcj d.c.Items with|some l =>(match getI l i with|some _ =>(match l[i.toNat]? with|some x7 =>(match qdi d.c.Moves with|some l9 =>bif decide (l9.length+([(⟨d.c.Today,x.ID,kind,branch,who⟩:Move)]:List Move).length≤LIM) then some ((),(⟨⟨d.c.Today,l.set i.toNat (⟨x7.ID,x7.Record,x7.Branch,x7.Kind,x7.Price,x7.Call,r2⟩:Item),d.c.Patrons,d.c.Loans,d.c.Holds,d.c.Charges,d.c.Rules,d.c.Cals,l9++([(⟨d.c.Today,x.ID,kind,branch,who⟩:Move)]:List Move),d.c.NextHold,d.c.NextCharge,d.c.Local⟩,d.err⟩:Circ_desk)) else none|none =>none)|none =>none)|none =>none)|none =>none;bif v then k 13 else k r3;bif r3==0 then k10 (decide (2000≤(d.c.Moves.length:Int))) else k10 false|none =>none)|none =>none)|none =>none
def qb4 (a:Hold) (b:Hold):Option Int:=
 some (wr .i64 (b.Rank-a.Rank))
def zaz6 {γ0:Type} (p:γ0→Hold→Hold→Option Int):(Int×Int×γ0×Int×Int×(List Hold)×Unit)→Option ((Int×Int×γ0×Int×Int×(List Hold)×Unit)⊕((Int×Int×γ0×Int×(List Hold)×Unit))):=fun (a,b,g,i,j,l,_)=>
 let k (v:Bool):Option ((Int×Int×γ0×Int×Int×(List Hold)×Unit)⊕((Int×Int×γ0×Int×(List Hold)×Unit))):=bif v then match getI l (wr .i64 (j-1)) with|some _ =>(match l[(wr .i64 (j-1)).toNat]? with|some x2 =>(match getI l j with|some _ =>(match l[j.toNat]? with|some x3 =>(match getI l j with|some _ =>(match l[j.toNat]? with|some x4 =>(match getI (l.set j.toNat x2) (wr .i64 (j-1)) with|some _ =>(match (l.set j.toNat x2)[(wr .i64 (j-1)).toNat]? with|some x5 =>some (.inl (a,b,g,i,wr .i64 (j-1),(l.set j.toNat x2).set (wr .i64 (j-1)).toNat x3,()))|none =>none)|none =>none)|none =>none)|none =>none)|none =>none)|none =>none)|none =>none)|none =>none else some (.inr ((a,b,g,i,l,())));bif decide (a<j) then match getI l j with|some _ =>(match l[j.toNat]? with|some x =>(match getI l (wr .i64 (j-1)) with|some _ =>(match l[(wr .i64 (j-1)).toNat]? with|some x1 =>(match p g x x1 with|some r =>k (decide (r<0))|none =>none)|none =>none)|none =>none)|none =>none)|none =>none else k false
def zaz5 {γ0:Type} (p:γ0→Hold→Hold→Option Int):(Int×Int×γ0×Int×(List Hold)×Unit)→Option ((Int×Int×γ0×Int×(List Hold)×Unit)⊕(((List Hold)×Unit))):=fun (a,b,g,i,l,_)=>
 bif decide (i<b) then match zae (zaz6 p) (a,b,g,i,i,l,()) with|some ((a6,b7,g8,i9,l10,_)) =>some (.inl (a6,b7,g8,wr .i64 (i9+1),l10,()))|none =>none else some (.inr ((l,())))
def qr {γ0:Type} (p:γ0→Hold→Hold→Option Int) (data:List Hold) (a:Int) (b:Int) (g:γ0):Option (List Hold):=
 match zae (zaz5 p) (a,b,g,wr .i64 (a+1),data,()) with|some ((l,_)) =>some l|none =>none
def zaz2 {γ0:Type} (p:γ0→Hold→Hold→Option Int):(Int×γ0×Int×Int×Int×(List Hold)×Unit)→Option ((Int×γ0×Int×Int×Int×(List Hold)×Unit)⊕((Int×γ0×Int×Int×(List Hold)×Unit))):=fun (n,g,blockSize,a,b,l,_)=>
 bif decide (b≤n) then match qr p l a b g with|some l1 =>some (.inl (n,g,blockSize,b,wr .i64 (b+blockSize),l1,()))|none =>none else some (.inr ((n,g,blockSize,a,l,())))
def zaz4 {γ0:Type} (p:γ0→Hold→Hold→Option Int):(Int×γ0×Int×Int×Int×(List Hold)×Unit)→Option ((Int×γ0×Int×Int×Int×(List Hold)×Unit)⊕((Int×γ0×Int×Int×(List Hold)×Unit))):=fun (n,g,blockSize,a,b,l,_)=>
 bif decide (b≤n) then match qc0 p l a (wr .i64 (a+blockSize)) b g with|some l5 =>some (.inl (n,g,blockSize,b,wr .i64 (b+(wr .i64 (2*blockSize))),l5,()))|none =>none else some (.inr ((n,g,blockSize,a,l,())))
def zaz3 {γ0:Type} (p:γ0→Hold→Hold→Option Int):(Int×γ0×Int×(List Hold)×Unit)→Option ((Int×γ0×Int×(List Hold)×Unit)⊕(((List Hold)×Unit))):=fun (n,g,blockSize,l,_)=>
 bif decide (blockSize<n) then match zae (zaz4 p) (n,g,blockSize,0,wr .i64 (2*blockSize),l,()) with|some ((n6,g7,blockSize8,a,l9,_)) =>let k (l11:List Hold):Option ((Int×γ0×Int×(List Hold)×Unit)⊕(((List Hold)×Unit))):=some (.inl (n6,g7,wr .i64 (blockSize8*2),l11,()));bif decide (wr .i64 (a+blockSize8)<n6) then match qc0 p l9 a (wr .i64 (a+blockSize8)) n6 g7 with|some l10 =>k l10|none =>none else k l9|none =>none else some (.inr ((l,())))
def qq {γ0:Type} (p:γ0→Hold→Hold→Option Int) (data:List Hold) (n:Int) (g:γ0):Option (List Hold):=
 match zae (zaz2 p) (n,g,20,0,20,data,()) with|some ((n2,g3,blockSize,a,l,_)) =>(match qr p l a n2 g3 with|some l4 =>(match zae (zaz3 p) (n2,g3,blockSize,l4,()) with|some ((l12,_)) =>some l12|none =>none)|none =>none)|none =>none
def qdt {γ0:Type} (p:γ0→Hold→Hold→Option Int) (x:List Hold) (g:γ0):Option (List Hold):=
 match qq p x (x.length:Int) g with|some l =>some l|none =>none
def zaz0:(Int×Int×(List Hold)×Int×Int×(List Hold)×Unit)→Option ((Int×Int×(List Hold)×Int×Int×(List Hold)×Unit)⊕(((List Hold)×Unit))):=fun (record,day,v,v1,v2,l,_)=>
 bif decide (v2<v1) then match getI v v2 with|some x =>let k5 (v3:Bool):Option ((Int×Int×(List Hold)×Int×Int×(List Hold)×Unit)⊕(((List Hold)×Unit))):=let k (v4:Bool):Option ((Int×Int×(List Hold)×Int×Int×(List Hold)×Unit)⊕(((List Hold)×Unit))):=bif v4 then bif decide (l.length+([x]:List Hold).length≤LIM) then some (.inl (record,day,v,v1,wr .i64 (v2+1),l++([x]:List Hold),())) else none else some (.inl (record,day,v,v1,wr .i64 (v2+1),l,()));bif v3 then k (decide (x.Asleep≤day)) else k false;bif x.Record==record then k5 (x.State==1) else k5 false|none =>none else some (.inr ((l,())))
def qj (l:List Hold) (record:Int) (day:Int):Option (List Hold):=
 match zae zaz0 (record,day,l,(l.length:Int),0,([]:List Hold),()) with|some ((l6,_)) =>(match qdt (fun g x0 x1=>qb4 x0 x1) l6 ((),()) with|some l7 =>some l7|none =>none)|none =>none
def zai9:(Int×Bool×Int×(List Hold)×Int×Int×Item×Unit)→Option ((Int×Bool×Int×(List Hold)×Int×Int×Item×Unit)⊕((Int×Unit)⊕(Int×Unit))):=fun (branch,vlocal,first,v,v2,v3,x,_)=>
 bif decide (v3<v2) then match getI v v3 with|some x4 =>let k9 (v5:Bool):Option ((Int×Bool×Int×(List Hold)×Int×Int×Item×Unit)⊕((Int×Unit)⊕(Int×Unit))):=bif v5 then some (.inl (branch,vlocal,first,v,v2,wr .i64 (v3+1),x,())) else let k8 (v6:Bool):Option ((Int×Bool×Int×(List Hold)×Int×Int×Item×Unit)⊕((Int×Unit)⊕(Int×Unit))):=bif v6 then some (.inr (.inr (x4.ID,()))) else let k (first7:Int):Option ((Int×Bool×Int×(List Hold)×Int×Int×Item×Unit)⊕((Int×Unit)⊕(Int×Unit))):=some (.inl (branch,vlocal,first7,v,v2,wr .i64 (v3+1),x,()));bif first==0 then k x4.ID else k first;bif !vlocal then k8 true else k8 (x4.Pickup==branch);bif !(x4.Item==0) then k9 (!(x4.Item==x.ID)) else k9 false|none =>none else some (.inr (.inl (first,())))
def qbm (l:List Hold) (x:Item) (branch:Int) (day:Int) (vlocal:Bool):Option Int:=
 match qj l x.Record day with|some r1 =>(match zae zai9 (branch,vlocal,0,r1,(r1.length:Int),0,x,()) with|some (.inl (first,_)) =>some first|some (.inr (v,_)) =>some v|none =>none)|none =>none
def qeq (c:Circ) (x:Item):Option Int:=
 match qbm c.Holds x x.Custody.Branch c.Today c.Local with|some r1 =>some r1|none =>none
def qd6 (h:Hold) (v:Int):Option Bool:=
 some (h.ID==v)
def qbl (l:List Hold) (vid:Int):Option Int:=
 match qb (fun g x0=>qd6 x0 g.2.1) l ((),(vid,())) with|some r1 =>some r1|none =>none
def qeu (l:List Hold) (vid:Int):Option (Hold×Bool):=
 match qbl l vid with|some r1 =>bif decide (0≤r1) then match getI l r1 with|some x =>some (x,true)|none =>none else some ((⟨0,0,0,0,0,0,0,0,0,0,0⟩:Hold),false)|none =>none
def qcs (i:Int) (kind:Int) (d:Circ_desk):Option (Unit×Circ_desk):=
 let k (v1:Circ_desk):Option (Unit×Circ_desk):=some ((),v1);bif d.err==0 then match getI d.c.Items i with|some x =>(match qbg i kind x.Custody.Branch 0 d with|some (_,v) =>k v|none =>none)|none =>none else k d
def qek (key:Int) (n:Int):Option Bool:=
 let k (v:Bool):Option Bool:=some v;bif key==0 then k true else k (key==n)
def qb5 (r:Rule) (patron:Int) (item:Int) (branch:Int):Option Bool:=
 match qek r.Patron patron with|some r2 =>let k8 (v:Bool):Option Bool:=let k (v7:Bool):Option Bool:=some v7;bif v then match qek r.Branch branch with|some r6 =>k r6|none =>none else k false;bif r2 then match qek r.Item item with|some r4 =>k8 r4|none =>none else k8 false|none =>none
def zai6:(Int×Int×Int×(List Int)×Unit)→Option ((Int×Int×Int×(List Int)×Unit)⊕((Int×Unit))):=fun (n,v,v1,l,_)=>
 bif decide (v1<v) then match getI l v1 with|some _ =>(match l[v1.toNat]? with|some x =>let k (n2:Int):Option ((Int×Int×Int×(List Int)×Unit)⊕((Int×Unit))):=some (.inl (n2,v,wr .i64 (v1+1),l,()));bif !(x==0) then k (wr .i64 ((wr .i64 (n*2))+1)) else k (wr .i64 (n*2))|none =>none)|none =>none else some (.inr ((n,())))
def qbh (r:Rule):Option Int:=
 match zae zai6 (0,(([r.Patron,r.Item,r.Branch]).length:Int),0,[r.Patron,r.Item,r.Branch],()) with|some ((n,_)) =>some n|none =>none
def zaip:((List Rule)×Int×Int×Int×Int×(List Rule)×Int×Int×Unit)→Option (((List Rule)×Int×Int×Int×Int×(List Rule)×Int×Int×Unit)⊕((Int×Unit))):=fun (l,patron,item,branch,vat,v,v1,v2,_)=>
 bif decide (v2<v1) then match getI v v2 with|some x =>(match qb5 x patron item branch with|some r3 =>let k12 (v10:Bool):Option (((List Rule)×Int×Int×Int×Int×(List Rule)×Int×Int×Unit)⊕((Int×Unit))):=let k (vat11:Int):Option (((List Rule)×Int×Int×Int×Int×(List Rule)×Int×Int×Unit)⊕((Int×Unit))):=some (.inl (l,patron,item,branch,vat11,v,v1,wr .i64 (v2+1),()));bif v10 then k v2 else k vat;bif r3 then bif decide (vat<0) then k12 true else match qbh x with|some r5 =>(match getI l vat with|some x6 =>(match qbh x6 with|some r8 =>k12 (decide (r8<r5))|none =>none)|none =>none)|none =>none else k12 false|none =>none)|none =>none else some (.inr ((vat,())))
def qa7 (l:List Rule) (patron:Int) (item:Int) (branch:Int):Option Int:=
 match zae zaip (l,patron,item,branch,(-1),l,(l.length:Int),0,()) with|some ((vat,_)) =>some vat|none =>none
def qd5 (l:List Rule) (patron:Int) (item:Int) (branch:Int):Option (Rule×Bool):=
 match qa7 l patron item branch with|some r1 =>(bif decide (r1<0) then some ((⟨0,0,0,0,0,0,0,0,0,0,0,0,0⟩:Rule),false) else match getI l r1 with|some x =>some (x,true)|none =>none)|none =>none
def qcy (c:Circ) (vid:Int) (x:Item):Option (Rule×Bool):=
 match qdo c.Patrons vid with|some (r1,r2) =>(bif !r2 then some ((⟨0,0,0,0,0,0,0,0,0,0,0,0,0⟩:Rule),false) else match qd5 c.Rules r1.Kind x.Kind x.Branch with|some (r4,r5) =>some (r4,r5)|none =>none)|none =>none
def qcz (c:Circ) (branch:Int):Option Calendar:=
 match qb7 branch 1 4 with|some r1 =>bif !r1 then some (⟨0,[]⟩:Calendar) else let k (v:Int) (v2:List Int):Option Calendar:=some (⟨v,v2⟩:Calendar);bif (wr .i64 (branch-1))==0 then k c.Cals.x0.Week c.Cals.x0.Closed else bif (wr .i64 (branch-1))==1 then k c.Cals.x1.Week c.Cals.x1.Closed else bif (wr .i64 (branch-1))==2 then k c.Cals.x2.Week c.Cals.x2.Closed else bif (wr .i64 (branch-1))==3 then k c.Cals.x3.Week c.Cals.x3.Closed else none|none =>none
def qdl (x:Int):Option Bool:=
 some (!(x==x))
def qe3 (x:Int) (y:Int):Option Bool:=
 match qdl x with|some r1 =>let k5 (v:Bool):Option Bool:=let k (v4:Bool):Option Bool:=some v4;bif v then k true else k (decide (x<y));bif r1 then match qdl y with|some r3 =>k5 (!r3)|none =>none else k5 false|none =>none
def qeh (x:Int):Option Bool:=
 some (!(x==x))
def zaix:((List Int)×Int×Int×Int×Int×Unit)→Option (((List Int)×Int×Int×Int×Int×Unit)⊕(((List Int)×Int×Int×Int×Unit))):=fun (x,target,n,i,j,_)=>
 bif decide (i<j) then match getI x (wr .i64 ((wr .u64 (wr .i64 (i+j))).fdiv (2 ^ 1))) with|some x1 =>(match qe3 x1 target with|some r2 =>let k (i3:Int) (j4:Int):Option (((List Int)×Int×Int×Int×Int×Unit)⊕(((List Int)×Int×Int×Int×Unit))):=some (.inl (x,target,n,i3,j4,()));bif r2 then k (wr .i64 ((wr .i64 ((wr .u64 (wr .i64 (i+j))).fdiv (2 ^ 1)))+1)) j else k i (wr .i64 ((wr .u64 (wr .i64 (i+j))).fdiv (2 ^ 1)))|none =>none)|none =>none else some (.inr ((x,target,n,i,())))
def qav (x:List Int) (target:Int):Option (Int×Bool):=
 match zae zaix (x,target,(x.length:Int),0,(x.length:Int),()) with|some ((x5,target6,n,i,_)) =>let k (v13:Bool):Option (Int×Bool):=some (i,v13);bif decide (i<n) then match getI x5 i with|some x7 =>(bif x7==target6 then k true else match getI x5 i with|some x8 =>(match qeh x8 with|some r9 =>bif r9 then match qeh target6 with|some r11 =>k r11|none =>none else k false|none =>none)|none =>none)|none =>none else k false|none =>none
def zaiw:(Int×Calendar×(V7 Bool)×(V7 Bool)×Unit)→Option ((Int×Calendar×(V7 Bool)×(V7 Bool)×Unit)⊕(((V7 Bool)×(V7 Bool)×Unit))):=fun (v,c,v1,vopen,_)=>
 bif decide (v<7) then bif decide (v<0) then none else bif v==0 then some (.inl (wr .i64 (v+1),c,v1,(⟨(wr .i64 (BitVec.ofInt 64 (c.Week.fdiv (2 ^ (min v.toNat 64))) &&& BitVec.ofInt 64 1).toNat)==0,vopen.x1,vopen.x2,vopen.x3,vopen.x4,vopen.x5,vopen.x6⟩:V7 Bool),())) else bif v==1 then some (.inl (wr .i64 (v+1),c,v1,(⟨vopen.x0,(wr .i64 (BitVec.ofInt 64 (c.Week.fdiv (2 ^ (min v.toNat 64))) &&& BitVec.ofInt 64 1).toNat)==0,vopen.x2,vopen.x3,vopen.x4,vopen.x5,vopen.x6⟩:V7 Bool),())) else bif v==2 then some (.inl (wr .i64 (v+1),c,v1,(⟨vopen.x0,vopen.x1,(wr .i64 (BitVec.ofInt 64 (c.Week.fdiv (2 ^ (min v.toNat 64))) &&& BitVec.ofInt 64 1).toNat)==0,vopen.x3,vopen.x4,vopen.x5,vopen.x6⟩:V7 Bool),())) else bif v==3 then some (.inl (wr .i64 (v+1),c,v1,(⟨vopen.x0,vopen.x1,vopen.x2,(wr .i64 (BitVec.ofInt 64 (c.Week.fdiv (2 ^ (min v.toNat 64))) &&& BitVec.ofInt 64 1).toNat)==0,vopen.x4,vopen.x5,vopen.x6⟩:V7 Bool),())) else bif v==4 then some (.inl (wr .i64 (v+1),c,v1,(⟨vopen.x0,vopen.x1,vopen.x2,vopen.x3,(wr .i64 (BitVec.ofInt 64 (c.Week.fdiv (2 ^ (min v.toNat 64))) &&& BitVec.ofInt 64 1).toNat)==0,vopen.x5,vopen.x6⟩:V7 Bool),())) else bif v==5 then some (.inl (wr .i64 (v+1),c,v1,(⟨vopen.x0,vopen.x1,vopen.x2,vopen.x3,vopen.x4,(wr .i64 (BitVec.ofInt 64 (c.Week.fdiv (2 ^ (min v.toNat 64))) &&& BitVec.ofInt 64 1).toNat)==0,vopen.x6⟩:V7 Bool),())) else bif v==6 then some (.inl (wr .i64 (v+1),c,v1,(⟨vopen.x0,vopen.x1,vopen.x2,vopen.x3,vopen.x4,vopen.x5,(wr .i64 (BitVec.ofInt 64 (c.Week.fdiv (2 ^ (min v.toNat 64))) &&& BitVec.ofInt 64 1).toNat)==0⟩:V7 Bool),())) else none else some (.inr ((v1,vopen,())))
def qas (c:Calendar):Option (V7 Bool):=
 match zae zaiw (0,c,(⟨false,false,false,false,false,false,false⟩:V7 Bool),(⟨false,false,false,false,false,false,false⟩:V7 Bool),()) with|some ((v,vopen,_)) =>some vopen|none =>none
def qfi (day:Int):Option Bool:=
 let k (v:Bool):Option Bool:=some v;bif decide (0≤day) then k (decide (day≤109572)) else k false
def qc9 (day:Int):Option Int:=
 match qfi day with|some r1 =>bif !r1 then some (-1) else some (day.tmod 7)|none =>none
def qce (c:Calendar) (day:Int):Option Bool:=
 match qc4 day with|some r1 =>(bif !r1 then some false else match qav c.Closed day with|some (r3,r4) =>let k (v9:Bool):Option Bool:=some v9;bif !r4 then match qas c with|some r6 =>(match qc9 day with|some r8 =>bif r8==0 then k r6.x0 else bif r8==1 then k r6.x1 else bif r8==2 then k r6.x2 else bif r8==3 then k r6.x3 else bif r8==4 then k r6.x4 else bif r8==5 then k r6.x5 else bif r8==6 then k r6.x6 else none|none =>none)|none =>none else k false|none =>none)|none =>none
def zaiy:(Int×Calendar×Unit)→Option ((Int×Calendar×Unit)⊕((Unit)⊕(Int×Int×Unit))):=fun (d,c,_)=>
 bif decide (d≤109572) then match qce c d with|some r1 =>bif r1 then some (.inr (.inr (d,0,()))) else some (.inl (wr .i64 (d+1),c,()))|none =>none else some (.inr (.inl (())))
def qaw (c:Calendar) (day:Int):Option (Int×Int):=
 match zae zaiy ((if day<0 then 0 else day),c,()) with|some (.inl (_)) =>some (0,2)|some (.inr (v,v2,_)) =>some (v,v2)|none =>none
def zain:(Int×Int×Int×Calendar×Unit)→Option ((Int×Int×Int×Calendar×Unit)⊕((Int×Unit)⊕(Int×Int×Unit))):=fun (d,v,v5,c,_)=>
 bif decide (v5<v) then match qaw c (wr .i64 (d+1)) with|some (r6,r7) =>bif !(r7==0) then some (.inr (.inr (0,r7,()))) else some (.inl (r6,v,wr .i64 (v5+1),c,()))|none =>none else some (.inr (.inl (d,())))
def qa5 (c:Calendar) (day:Int) (n:Int):Option (Int×Int):=
 let k (v:Bool):Option (Int×Int):=bif v then some (0,1) else match qc4 day with|some r1 =>(bif !r1 then some (0,2) else bif n==0 then match qaw c day with|some (r3,r4) =>some (r3,r4)|none =>none else match zae zain (day,n,0,c,()) with|some (.inl (d,_)) =>some (d,0)|some (.inr (v8,v9,_)) =>some (v8,v9)|none =>none)|none =>none;bif decide (n<0) then k true else k (decide (1000<n))
def qfd (branch:Int) (n:Int) (d:Circ_desk):Option (Int×Circ_desk):=
 match qcz d.c branch with|some r1 =>(match qa5 r1 d.c.Today n with|some (r3,r4) =>let k (v6:Circ_desk):Option (Int×Circ_desk):=some (r3,v6);bif !(r4==0) then match qu r4 d with|some (_,v) =>k v|none =>none else k d|none =>none)|none =>none
def qcl (o:Hold) (v:Int) (v1:Int):Option Bool:=
 let k (v2:Bool):Option Bool:=some v2;bif o.Got==v then k (!(o.ID==v1)) else k false
def qb1 {γ0:Type} (p:γ0→Hold→Option Bool) (s:List Hold) (g:γ0):Option Bool:=
 match qb p s g with|some r1 =>some (decide (0≤r1))|none =>none
def qef (s:List Hold):Option (List Hold):=
 bif decide (([]:List Hold).length+s.length≤LIM) then some (([])++s) else none
def qet (l:List Hold) (i:Int) (h:Hold):Option (List Hold):=
 match qef l with|some l1 =>(match getI l1 i with|some _ =>(match l1[i.toNat]? with|some x =>some (l1.set i.toNat h)|none =>none)|none =>none)|none =>none
def qaz (l:List Hold) (vid:Int) (item:Int) (state:Int) (vuntil:Int):Option ((List Hold)×Int):=
 match qbl l vid with|some r1 =>bif decide (r1<0) then some ([],9) else let k18 (v:Bool):Option ((List Hold)×Int):=match qb6 item 1 9999 with|some r5 =>let k17 (v8:Bool):Option ((List Hold)×Int):=bif v8 then some ([],1) else match getI l r1 with|some x =>let k16 (v11:Bool):Option ((List Hold)×Int):=bif v11 then some ([],12) else match qb1 (fun g x0=>qcl x0 g.2.1 g.2.2.1) l ((),(item,vid,())) with|some r13 =>(bif r13 then some ([],7) else match qet l r1 (⟨x.ID,x.Patron,x.Record,x.Item,x.Pickup,x.Placed,state,item,vuntil,x.Asleep,x.Rank⟩:Hold) with|some r15 =>some (r15,0)|none =>none)|none =>none;bif !(x.State==1) then let k (v9:Bool):Option ((List Hold)×Int):=bif v9 then k16 true else k16 (!(state==3));bif !(x.State==2) then k true else k (!(x.Got==item)) else k16 false|none =>none;bif !r5 then k17 true else bif !v then bif !(state==2) then k17 true else k17 (!(vuntil==0)) else k17 false|none =>none;bif state==3 then match qb6 vuntil 1 109572 with|some r3 =>k18 r3|none =>none else k18 false|none =>none
def qcq (l:List Hold) (e:Int) (d:Circ_desk):Option (Unit×Circ_desk):=
 let k3 (v1:Circ_desk):Option (Unit×Circ_desk):=let k (v2:List Hold):Option (Unit×Circ_desk):=some ((),(⟨⟨v1.c.Today,v1.c.Items,v1.c.Patrons,v1.c.Loans,v2,v1.c.Charges,v1.c.Rules,v1.c.Cals,v1.c.Moves,v1.c.NextHold,v1.c.NextCharge,v1.c.Local⟩,v1.err⟩:Circ_desk));bif v1.err==0 then k l else k v1.c.Holds;bif !(e==0) then match qu e d with|some (_,v) =>k3 v|none =>none else k3 d
def qdj (i:Int) (h:Hold) (d:Circ_desk):Option (Unit×Circ_desk):=
 bif !(d.err==0) then some ((),d) else match getI d.c.Items i with|some x =>(match qcy d.c h.Patron x with|some (r1,r2) =>let k13 (days:Int):Option (Unit×Circ_desk):=match qbg i 5 x.Custody.Branch h.Patron d with|some (_,v) =>(match qfd x.Custody.Branch days v with|some (r5,v6) =>let k (v12:Circ_desk):Option (Unit×Circ_desk):=some ((),v12);bif v6.err==0 then match qaz v6.c.Holds h.ID x.ID 3 r5 with|some (r8,r9) =>(match qcq r8 r9 v6 with|some (_,v11) =>k v11|none =>none)|none =>none else k v6|none =>none)|none =>none;bif r2 then k13 r1.Shelf else k13 7|none =>none)|none =>none
def qeg (i:Int) (d:Circ_desk):Option (Unit×Circ_desk):=
 bif !(d.err==0) then some ((),d) else match getI d.c.Items i with|some x =>(match qeq d.c x with|some r1 =>(match qeu d.c.Holds r1 with|some (r3,r4) =>let k25 (v:Bool):Option (Unit×Circ_desk):=let k24 (v23:Circ_desk):Option (Unit×Circ_desk):=some ((),v23);bif v then match qbg i 6 x.Branch 0 d with|some (_,v6) =>k24 v6|none =>none else let k (v7:Bool):Option (Unit×Circ_desk):=bif v7 then match qcs i 2 d with|some (_,v9) =>k24 v9|none =>none else bif !r4 then k24 d else bif r3.Pickup==x.Custody.Branch then match qdj i r3 d with|some (_,v11) =>k24 v11|none =>none else match qbg i 6 r3.Pickup r3.Patron d with|some (_,v13) =>bif v13.err==0 then match qaz v13.c.Holds r1 x.ID 2 0 with|some (r15,r16) =>(match qcq r15 r16 v13 with|some (_,v18) =>k24 v18|none =>none)|none =>none else k24 v13|none =>none;bif !r4 then k (!(x.Custody.State==3)) else k false;bif !r4 then k25 (!(x.Branch==x.Custody.Branch)) else k25 false|none =>none)|none =>none)|none =>none
def qa4 (d:Circ_desk):Option ((Circ×Int)×Circ_desk):=
 bif !(d.err==0) then some (((⟨0,[],[],[],[],[],[],⟨⟨0,[]⟩,⟨0,[]⟩,⟨0,[]⟩,⟨0,[]⟩⟩,[],0,0,false⟩:Circ),d.err),d) else some ((d.c,0),d)
def qcv (c:Circ) (item:Int) (branch:Int):Option (Circ×Int):=
 match qcg c with|some d =>(match qcr item d with|some (r2,v) =>let k (v7:Circ_desk):Option (Circ×Int):=match qa4 v7 with|some ((r9,r10),v11) =>some (r9,r10)|none =>none;bif decide (0≤r2) then match qbg r2 1 branch 0 v with|some (_,v4) =>(match qeg r2 v4 with|some (_,v6) =>k v6|none =>none)|none =>none else k v|none =>none)|none =>none
def zaja:(Int×Int×(List Charge)×Int×Int×Unit)→Option ((Int×Int×(List Charge)×Int×Int×Unit)⊕((Int×Unit))):=fun (patron,vsum,v,v1,v2,_)=>
 bif decide (v2<v1) then match getI v v2 with|some x =>let k (vsum3:Int):Option ((Int×Int×(List Charge)×Int×Int×Unit)⊕((Int×Unit))):=some (.inl (patron,vsum3,v,v1,wr .i64 (v2+1),()));bif x.Patron==patron then k (wr .i64 (vsum+(wr .i64 (x.Amount-x.Paid)))) else k vsum|none =>none else some (.inr ((vsum,())))
def qbn (l:List Charge) (patron:Int):Option Int:=
 match zae zaja (patron,0,l,(l.length:Int),0,()) with|some ((vsum,_)) =>some vsum|none =>none
def zaiv:(Int×(List Loan)×Int×Int×(List Loan)×Unit)→Option ((Int×(List Loan)×Int×Int×(List Loan)×Unit)⊕(((List Loan)×Unit))):=fun (patron,v,v1,v2,l,_)=>
 bif decide (v2<v1) then match getI v v2 with|some x =>bif x.Patron==patron then bif decide (l.length+([x]:List Loan).length≤LIM) then some (.inl (patron,v,v1,wr .i64 (v2+1),l++([x]:List Loan),())) else none else some (.inl (patron,v,v1,wr .i64 (v2+1),l,()))|none =>none else some (.inr ((l,())))
def qaj (l:List Loan) (patron:Int):Option (List Loan):=
 match zae zaiv (patron,l,(l.length:Int),0,([]:List Loan),()) with|some ((l3,_)) =>some l3|none =>none
def zai3:(Int×Int×(List Loan)×Int×Int×Unit)→Option ((Int×Int×(List Loan)×Int×Int×Unit)⊕((Int×Unit))):=fun (day,n,v,v2,v3,_)=>
 bif decide (v3<v2) then match getI v v3 with|some x =>let k (n4:Int):Option ((Int×Int×(List Loan)×Int×Int×Unit)⊕((Int×Unit))):=some (.inl (day,n4,v,v2,wr .i64 (v3+1),()));bif decide (x.Due<day) then k (wr .i64 (n+1)) else k n|none =>none else some (.inr ((n,())))
def qbd (l:List Loan) (patron:Int) (day:Int):Option Int:=
 match qaj l patron with|some r1 =>(match zae zai3 (day,0,r1,(r1.length:Int),0,()) with|some ((n,_)) =>some n|none =>none)|none =>none
def zai5:(Int×Int×(List Int)×(List Bool)×Unit)→Option ((Int×Int×(List Int)×(List Bool)×Unit)⊕(((List Int)×Unit))):=fun (v,v1,l,l2,_)=>
 bif decide (v1<v) then match getI l2 v1 with|some _ =>(match l2[v1.toNat]? with|some x =>bif x then bif decide (l.length+([wr .i64 (v1+1)]:List Int).length≤LIM) then some (.inl (v,wr .i64 (v1+1),l++([wr .i64 (v1+1)]:List Int),l2,())) else none else some (.inl (v,wr .i64 (v1+1),l,l2,()))|none =>none)|none =>none else some (.inr ((l,())))
def qbf (p:Patron) (day:Int) (owed:Int) (late:Int):Option (List Int):=
 match zae zai5 ((([p.Stopped,decide (p.Until<day),decide (1000<owed),decide (2<late)]).length:Int),0,([]:List Int),[p.Stopped,decide (p.Until<day),decide (1000<owed),decide (2<late)],()) with|some ((l,_)) =>some l|none =>none
def qfh (c:Circ) (p:Patron):Option Bool:=
 match qbn c.Charges p.ID with|some r1 =>(match qbd c.Loans p.ID c.Today with|some r3 =>(match qbf p c.Today r1 r3 with|some r5 =>some (decide (0<(r5.length:Int)))|none =>none)|none =>none)|none =>none
def zajd:(Int×Calendar×Unit)→Option ((Int×Calendar×Unit)⊕((Unit)⊕(Int×Int×Unit))):=fun (d,c,_)=>
 bif decide (0≤d) then match qce c d with|some r1 =>bif r1 then some (.inr (.inr (d,0,()))) else some (.inl (wr .i64 (d-1),c,()))|none =>none else some (.inr (.inl (())))
def qbs (c:Calendar) (day:Int):Option (Int×Int):=
 match zae zajd ((if 109572<day then 109572 else day),c,()) with|some (.inl (_)) =>some (0,2)|some (.inr (v,v2,_)) =>some (v,v2)|none =>none
def qd8 (r:Rule) (c:Calendar) (day:Int) (vuntil:Int):Option (Int×Int):=
 match qbx day 0 109572 with|some r2 =>(let k17 (v:Bool):Option (Int×Int):=bif v then some (0,2) else let k16 (last:Int):Option (Int×Int):=let k15 (v5:Bool):Option (Int×Int):=bif v5 then some (0,15) else match qaw c (if last<wr .i64 (day+r.Days) then last else wr .i64 (day+r.Days)) with|some (r7,r8) =>let k14 (v9:Bool):Option (Int×Int):=bif v9 then some (r7,0) else match qbs c last with|some (r11,r12) =>let k (v13:Bool):Option (Int×Int):=bif v13 then some (0,15) else some (r11,0);bif !(r12==0) then k true else k (decide (r11≤day))|none =>none;bif r8==0 then k14 (decide (r7≤last)) else k14 false|none =>none;bif r.Days==0 then k15 true else k15 (decide (last≤day));bif decide (0<r.Fixed) then k16 (if r.Fixed<vuntil then r.Fixed else vuntil) else k16 vuntil;bif !r2 then k17 true else match qbx vuntil 0 109572 with|some r4 =>k17 (!r4)|none =>none)|none =>none
def qem (c:Circ) (x:Item) (p:Patron) (branch:Int):Option (Int×Int):=
 let k26 (v:Bool):Option (Int×Int):=let k4 (v3:Int):Option (Int×Int):=some (0,v3);bif v then k4 12 else bif !(x.Custody.Branch==branch) then k4 1 else let k (v1:Bool):Option (Int×Int):=bif v1 then k4 16 else let k25 (_:Unit):Option (Int×Int):=match qfh c p with|some r12 =>(bif r12 then some (0,14) else match qcy c p.ID x with|some (r14,r15) =>(let k24 (v18:Bool):Option (Int×Int):=bif v18 then some (0,15) else match qcz c branch with|some r20 =>(match qd8 r14 r20 c.Today p.Until with|some (r22,r23) =>some (r22,r23)|none =>none)|none =>none;bif !r15 then k24 true else match qaj c.Loans p.ID with|some r17 =>k24 (decide (r14.Loans≤(r17.length:Int)))|none =>none)|none =>none)|none =>none;bif x.Custody.State==3 then match qeq c x with|some r5 =>(match qeu c.Holds r5 with|some (r7,r8) =>let k10 (v9:Bool):Option (Int×Int):=bif v9 then some (0,16) else k25 ();bif r8 then k10 (!(r7.Patron==p.ID)) else k10 false|none =>none)|none =>none else k25 ();bif x.Custody.State==5 then k (!(x.Custody.Who==p.ID)) else k false;bif !(x.Custody.State==3) then k26 (!(x.Custody.State==5)) else k26 false
def qcn (x:Loan) (v:Loan):Option Bool:=
 some (decide (v.Item<x.Item))
def qee (s:List Loan):Option (List Loan):=
 bif decide (([]:List Loan).length+s.length≤LIM) then some (([])++s) else none
def qd4 (l:List Loan):Option ((List Loan)×Int):=
 match qa9 l with|some r1 =>bif !(r1==0) then some ([],r1) else some (l,0)|none =>none
def qbw (l:List Loan) (n:Loan):Option ((List Loan)×Int):=
 match qar n.Item with|some r1 =>(match qb2 (fun g x0=>qcc x0 g.2.1) l ((),(r1.1,())) with|some (r3,r4) =>(bif decide (0≤r4) then some ([],7) else match qb2 (fun g x0=>qcn x0 g.2.1) l ((),(n,())) with|some (r6,r7) =>let k (i:Int):Option ((List Loan)×Int):=match qee l with|some l9 =>(match qdw l9 i ([n]) with|some l11 =>(match qd4 l11 with|some (r13,r14) =>some (r13,r14)|none =>none)|none =>none)|none =>none;bif decide (r7<0) then k (l.length:Int) else k r7|none =>none)|none =>none)|none =>none
def qcp (l:List Loan) (e:Int) (d:Circ_desk):Option (Unit×Circ_desk):=
 let k3 (v1:Circ_desk):Option (Unit×Circ_desk):=let k (v2:List Loan):Option (Unit×Circ_desk):=some ((),(⟨⟨v1.c.Today,v1.c.Items,v1.c.Patrons,v2,v1.c.Holds,v1.c.Charges,v1.c.Rules,v1.c.Cals,v1.c.Moves,v1.c.NextHold,v1.c.NextCharge,v1.c.Local⟩,v1.err⟩:Circ_desk));bif v1.err==0 then k l else k v1.c.Loans;bif !(e==0) then match qu e d with|some (_,v) =>k3 v|none =>none else k3 d
def qen (l:List Hold) (vid:Int):Option ((List Hold)×Hold×Int):=
 match qbl l vid with|some r1 =>(bif decide (r1<0) then some ([],(⟨0,0,0,0,0,0,0,0,0,0,0⟩:Hold),9) else match qef l with|some l3 =>(match qdz l3 r1 (wr .i64 (r1+1)) with|some l5 =>(match getI l r1 with|some x =>some (l5,x,0)|none =>none)|none =>none)|none =>none)|none =>none
def qez (vid:Int) (d:Circ_desk):Option (Unit×Circ_desk):=
 let k (v5:Circ_desk):Option (Unit×Circ_desk):=some ((),v5);bif d.err==0 then match qen d.c.Holds vid with|some (r1,r2,r3) =>(match qcq r1 r3 d with|some (_,v) =>k v|none =>none)|none =>none else k d
def qcd (n:Int) (d:Circ_desk):Option ((Circ×Int×Int)×Circ_desk):=
 bif !(d.err==0) then some (((⟨0,[],[],[],[],[],[],⟨⟨0,[]⟩,⟨0,[]⟩,⟨0,[]⟩,⟨0,[]⟩⟩,[],0,0,false⟩:Circ),0,d.err),d) else some ((d.c,n,0),d)
def qer (h:Hold) (x:Item):Option Bool:=
 let k (v1:Bool):Option Bool:=some v1;bif h.Record==x.Record then bif h.Item==0 then k true else k (h.Item==x.ID) else k false
def qdb (h:Hold) (v:Int) (v1:Item):Option Bool:=
 let k5 (v2:Bool):Option Bool:=let k (v4:Bool):Option Bool:=some v4;bif v2 then match qer h v1 with|some r3 =>k r3|none =>none else k false;bif h.Patron==v then k5 (h.State==1) else k5 false
def qbv (c:Circ) (item:Int) (vid:Int) (branch:Int):Option (Circ×Int×Int):=
 match qcg c with|some d =>(match qcr item d with|some (r2,v) =>(match qdo c.Patrons vid with|some (r4,r5) =>let k40 (v8:Circ_desk):Option (Circ×Int×Int):=bif !(v8.err==0) then some ((⟨0,[],[],[],[],[],[],⟨⟨0,[]⟩,⟨0,[]⟩,⟨0,[]⟩,⟨0,[]⟩⟩,[],0,0,false⟩:Circ),0,v8.err) else match getI c.Items r2 with|some x =>(match qem c x r4 branch with|some (r10,r11) =>(bif !(r11==0) then some ((⟨0,[],[],[],[],[],[],⟨⟨0,[]⟩,⟨0,[]⟩,⟨0,[]⟩,⟨0,[]⟩⟩,[],0,0,false⟩:Circ),0,r11) else match qbg r2 3 branch vid v8 with|some (_,v13) =>(match qbw c.Loans (⟨item,vid,c.Today,r10,0,false⟩:Loan) with|some (r15,r16) =>(match qcp r15 r16 v13 with|some (_,v18) =>(match qa8 c item with|some (r20,r21) =>(bif r21 then match qez r20.ID v18 with|some (_,v23) =>(match qcd r10 v23 with|some ((r25,r26,r27),v28) =>some (r25,r26,r27)|none =>none)|none =>none else match qb (fun g x0=>qdb x0 g.2.1 g.2.2.1) c.Holds ((),(vid,x,())) with|some r30 =>let k (v34:Circ_desk):Option (Circ×Int×Int):=match qcd r10 v34 with|some ((r36,r37,r38),v39) =>some (r36,r37,r38)|none =>none;bif decide (0≤r30) then match getI c.Holds r30 with|some x31 =>(match qez x31.ID v18 with|some (_,v33) =>k v33|none =>none)|none =>none else k v18|none =>none)|none =>none)|none =>none)|none =>none)|none =>none)|none =>none)|none =>none;bif !r5 then match qu 9 v with|some (_,v7) =>k40 v7|none =>none else k40 v|none =>none)|none =>none)|none =>none
def qfa (l:List Loan) (i:Int):Option (List Loan):=
 match qee l with|some l1 =>(match qdy l1 i (wr .i64 (i+1)) with|some l3 =>some l3|none =>none)|none =>none
def qdd (l:List Loan) (item:Int):Option ((List Loan)×Loan×Int):=
 match qar item with|some r1 =>(match qb2 (fun g x0=>qcc x0 g.2.1) l ((),(r1.1,())) with|some (r3,r4) =>(bif decide (r4<0) then some ([],(⟨0,0,0,0,0,false⟩:Loan),9) else match qfa l r4 with|some r6 =>some (r6,r3,0)|none =>none)|none =>none)|none =>none
def qel (day:Int) (weekday:Int):Option Int:=
 match qc9 0 with|some r1 =>bif decide (day<(wr .i64 ((wr .i64 (weekday-r1))+7)).tmod 7) then some 0 else some (wr .i64 ((wr .i64 ((wr .i64 (day-((wr .i64 ((wr .i64 (weekday-r1))+7)).tmod 7))).tdiv 7))+1))|none =>none
def zais:(Int×Int×Int×(V7 Bool)×Int×Calendar×(V7 Bool)×Unit)→Option ((Int×Int×Int×(V7 Bool)×Int×Calendar×(V7 Bool)×Unit)⊕((Int×Int×Int×Calendar×(V7 Bool)×Unit))):=fun (vfrom,vto,n,v,v2,c,vopen,_)=>
 bif decide (v2<7) then let k8 (v3:Bool):Option ((Int×Int×Int×(V7 Bool)×Int×Calendar×(V7 Bool)×Unit)⊕((Int×Int×Int×Calendar×(V7 Bool)×Unit))):=let k (n7:Int):Option ((Int×Int×Int×(V7 Bool)×Int×Calendar×(V7 Bool)×Unit)⊕((Int×Int×Int×Calendar×(V7 Bool)×Unit))):=some (.inl (vfrom,vto,n7,v,wr .i64 (v2+1),c,vopen,()));bif v3 then match qel vto v2 with|some r4 =>(match qel (wr .i64 (vfrom-1)) v2 with|some r6 =>k (wr .i64 (n+(wr .i64 (r4-r6))))|none =>none)|none =>none else k n;bif v2==0 then k8 v.x0 else bif v2==1 then k8 v.x1 else bif v2==2 then k8 v.x2 else bif v2==3 then k8 v.x3 else bif v2==4 then k8 v.x4 else bif v2==5 then k8 v.x5 else bif v2==6 then k8 v.x6 else none else some (.inr ((vfrom,vto,n,c,vopen,())))
def z62:(Int×Int×Int×(List Int)×Int×Int×(V7 Bool)×Unit)→Option ((Int×Int×Int×(List Int)×Int×Int×(V7 Bool)×Unit)⊕((Int×Unit))):=fun (vfrom,vto,n,v,v12,v13,vopen,_)=>
 bif decide (v13<v12) then match getI v v13 with|some x =>let k20 (v14:Bool):Option ((Int×Int×Int×(List Int)×Int×Int×(V7 Bool)×Unit)⊕((Int×Unit))):=let k19 (v17:Bool):Option ((Int×Int×Int×(List Int)×Int×Int×(V7 Bool)×Unit)⊕((Int×Unit))):=let k (n18:Int):Option ((Int×Int×Int×(List Int)×Int×Int×(V7 Bool)×Unit)⊕((Int×Unit))):=some (.inl (vfrom,vto,n18,v,v12,wr .i64 (v13+1),vopen,()));bif v17 then k (wr .i64 (n-1)) else k n;bif v14 then match qc9 x with|some r15 =>bif r15==0 then k19 vopen.x0 else bif r15==1 then k19 vopen.x1 else bif r15==2 then k19 vopen.x2 else bif r15==3 then k19 vopen.x3 else bif r15==4 then k19 vopen.x4 else bif r15==5 then k19 vopen.x5 else bif r15==6 then k19 vopen.x6 else none|none =>none else k19 false;bif decide (vfrom≤x) then k20 (decide (x≤vto)) else k20 false|none =>none else some (.inr ((n,())))
def qad (c:Calendar) (vfrom:Int) (vto:Int):Option Int:=
 bif decide ((if 109572<vto then 109572 else vto)<(if vfrom<0 then 0 else vfrom)) then some 0 else match qas c with|some r1 =>(match zae zais ((if vfrom<0 then 0 else vfrom),(if 109572<vto then 109572 else vto),0,r1,0,c,r1,()) with|some ((vfrom9,vto10,n,c11,vopen,_)) =>(match zae z62 (vfrom9,vto10,n,c11.Closed,(c11.Closed.length:Int),0,vopen,()) with|some ((n21,_)) =>some n21|none =>none)|none =>none)|none =>none
def qfm (r:Rule) (c:Calendar) (due:Int) (back:Int):Option Int:=
 match qv c with|some r2 =>(let k10 (v:Bool):Option Int:=let k (v7:Bool):Option Int:=bif v7 then some 0 else match qad c (wr .i64 (due+1)) back with|some r9 =>bif decide (r9≤r.Grace) then some 0 else some (if r.MaxFine<wr .i64 (r9*r.Fine) then r.MaxFine else wr .i64 (r9*r.Fine))|none =>none;bif v then k true else match qd9 back with|some r6 =>k (!r6)|none =>none;bif !(r2==0) then k10 true else match qd9 due with|some r4 =>k10 (!r4)|none =>none)|none =>none
def qdf (l:List Charge) (c:Charge):Option ((List Charge)×Int):=
 bif decide (l.length≤LIM) then bif decide (l.length+([c]:List Charge).length≤LIM) then match qba (l++([c]:List Charge)) with|some r1 =>bif !(r1==0) then some ([],r1) else some (l++([c]:List Charge),0)|none =>none else none else none
def qfb (vid:Int) (item:Int) (kind:Int) (amount:Int) (d:Circ_desk):Option (Unit×Circ_desk):=
 bif !(d.err==0) then some ((),d) else bif decide (99999<d.c.NextCharge) then match qu 13 d with|some (_,v) =>some ((),v)|none =>none else match qdf d.c.Charges (⟨d.c.NextCharge,vid,item,d.c.Today,kind,amount,0⟩:Charge) with|some (r2,r3) =>bif !(r3==0) then match qu r3 d with|some (_,v5) =>some ((),v5)|none =>none else some ((),(⟨⟨d.c.Today,d.c.Items,d.c.Patrons,d.c.Loans,d.c.Holds,r2,d.c.Rules,d.c.Cals,d.c.Moves,d.c.NextHold,wr .i64 (d.c.NextCharge+1),d.c.Local⟩,d.err⟩:Circ_desk))|none =>none
def qc6 (x:Charge) (v:Int) (v1:Int) (v2:Int):Option Bool:=
 let k6 (v3:Bool):Option Bool:=let k (v5:Bool):Option Bool:=some v5;bif v3 then bif v2==0 then k true else k (x.Kind==v2) else k false;bif x.Patron==v then k6 (x.Item==v1) else k6 false
def zai0 {γ0:Type} (p:γ0→Charge→Option Bool):(γ0×Int×Int×(List Charge)×Int×Int×(List Charge)×Unit)→Option ((γ0×Int×Int×(List Charge)×Int×Int×(List Charge)×Unit)⊕((Int×Int×(List Charge)×Unit))):=fun (g,paid,n,v,v1,v2,l,_)=>
 bif decide (v2<v1) then match getI v v2 with|some x =>(match p g x with|some r =>bif r then some (.inl (g,wr .i64 (paid+x.Paid),wr .i64 (n+1),v,v1,wr .i64 (v2+1),l,())) else bif decide (l.length+([x]:List Charge).length≤LIM) then some (.inl (g,paid,n,v,v1,wr .i64 (v2+1),l++([x]:List Charge),())) else none|none =>none)|none =>none else some (.inr ((paid,n,l,())))
def qay {γ0:Type} (p:γ0→Charge→Option Bool) (l:List Charge) (g:γ0):Option ((List Charge)×Int×Int):=
 match zae (zai0 p) (g,0,0,l,(l.length:Int),0,([]:List Charge),()) with|some ((paid,n,l3,_)) =>some (l3,paid,n)|none =>none
def qbz (l:List Charge) (patron:Int) (item:Int) (kind:Int):Option ((List Charge)×Int):=
 match qay (fun g x0=>qc6 x0 g.2.1 g.2.2.1 g.2.2.2.1) l ((),(patron,item,kind,())) with|some (r1,r2,r3) =>some (r1,r2)|none =>none
def qe9 (i:Int) (branch:Int) (d:Circ_desk):Option (Unit×Circ_desk):=
 match getI d.c.Items i with|some x =>(match qbg i 4 branch 0 d with|some (_,v) =>(bif !(v.err==0) then some ((),v) else match qdd v.c.Loans x.ID with|some (r2,r3,r4) =>(match qcp r2 r4 v with|some (_,v6) =>(match qcy v6.c r3.Patron x with|some (r8,r9) =>let k (v17:Circ_desk):Option (Unit×Circ_desk):=match qbz v17.c.Charges r3.Patron x.ID 2 with|some (r19,r20) =>some ((),(⟨⟨v17.c.Today,v17.c.Items,v17.c.Patrons,v17.c.Loans,v17.c.Holds,r19,v17.c.Rules,v17.c.Cals,v17.c.Moves,v17.c.NextHold,v17.c.NextCharge,v17.c.Local⟩,v17.err⟩:Circ_desk))|none =>none;bif r9 then match qcz v6.c branch with|some r11 =>(match qfm r8 r11 r3.Due v6.c.Today with|some r13 =>bif !(r13==0) then match qfb r3.Patron x.ID 1 r13 v6 with|some (_,v15) =>k v15|none =>none else k v6|none =>none)|none =>none else k v6|none =>none)|none =>none)|none =>none)|none =>none)|none =>none
def qe6 (c:Circ) (item:Int) (branch:Int):Option (Circ×Int×Int):=
 match qcg c with|some d =>(match qcr item d with|some (r2,v) =>(bif decide (r2<0) then match qcd 0 v with|some ((r4,r5,r6),v7) =>some (r4,r5,r6)|none =>none else match getI c.Items r2 with|some x =>let k43 (v9:Bool):Option (Circ×Int×Int):=let k42 (v23:Circ_desk):Option (Circ×Int×Int):=match qa8 v23.c item with|some (r25,r26) =>let k41 (v27:Bool):Option (Circ×Int×Int):=let k (v32:Circ_desk):Option (Circ×Int×Int):=match qa8 v32.c item with|some (r34,r35) =>(match qcd r34.ID v32 with|some ((r37,r38,r39),v40) =>some (r37,r38,r39)|none =>none)|none =>none;bif v27 then match qdj r2 r25 v23 with|some (_,v29) =>k v29|none =>none else match qeg r2 v23 with|some (_,v31) =>k v31|none =>none;bif r26 then k41 (r25.State==2) else k41 false|none =>none;bif v9 then match qe9 r2 branch v with|some (_,v11) =>k42 v11|none =>none else bif x.Custody.State==8 then match qbg r2 4 branch 0 v with|some (_,v13) =>k42 v13|none =>none else bif x.Custody.State==11 then match qbg r2 14 branch 0 v with|some (_,v15) =>k42 v15|none =>none else bif x.Custody.State==6 then match qbg r2 7 branch 0 v with|some (_,v17) =>k42 v17|none =>none else match qu 12 v with|some (_,v19) =>k42 v19|none =>none;bif x.Custody.State==4 then k43 (x.Custody.State==4) else bif x.Custody.State==9 then k43 (x.Custody.State==9) else k43 (x.Custody.State==10)|none =>none)|none =>none)|none =>none
def zai7:(Bool×Int×Circ×Circ×Unit)→Option ((Bool×Int×Circ×Circ×Unit)⊕((Bool×Circ×Circ×Unit))):=fun (ok,i,v,c,_)=>
 bif decide (i≤3) then match qcv c i 1 with|some (r8,r9) =>let k (v10:Bool):Option ((Bool×Int×Circ×Circ×Unit)⊕((Bool×Circ×Circ×Unit))):=some (.inl (v10,wr .i64 (i+1),v,r8,()));bif ok then k (r9==0) else k false|none =>none else some (.inr ((ok,v,c,())))
def qbi:Option (Circ×Bool):=
 match qc8 with|some r1 =>(match qz r1 (⟨2,5,1,1,0,[],⟨0,0,0,0⟩⟩:Item) with|some (r3,r4) =>(match qz r3 (⟨3,6,1,1,0,[],⟨0,0,0,0⟩⟩:Item) with|some (r6,r7) =>let k23 (v:Bool):Option (Circ×Bool):=match zae zai7 (v,1,(⟨0,[],[],[],[],[],[],⟨⟨0,[]⟩,⟨0,[]⟩,⟨0,[]⟩,⟨0,[]⟩⟩,[],0,0,false⟩:Circ),r6,()) with|some ((ok,v11,c,_)) =>(match qbv (⟨110,c.Items,c.Patrons,c.Loans,c.Holds,c.Charges,c.Rules,c.Cals,c.Moves,c.NextHold,c.NextCharge,c.Local⟩:Circ) 2 7 1 with|some (r13,r14,r15) =>let k22 (v16:Bool):Option (Circ×Bool):=match qe6 (⟨120,r13.Items,r13.Patrons,r13.Loans,r13.Holds,r13.Charges,r13.Rules,r13.Cals,r13.Moves,r13.NextHold,r13.NextCharge,r13.Local⟩:Circ) 2 1 with|some (r18,r19,r20) =>let k (v21:Bool):Option (Circ×Bool):=some ((⟨300,r18.Items,r18.Patrons,r18.Loans,r18.Holds,r18.Charges,r18.Rules,r18.Cals,r18.Moves,r18.NextHold,r18.NextCharge,r18.Local⟩:Circ),v21);bif v16 then k (r20==0) else k false|none =>none;bif ok then k22 (r15==0) else k22 false|none =>none)|none =>none;bif r4==0 then k23 (r7==0) else k23 false|none =>none)|none =>none)|none =>none
def zai2:(Int×Int×Int×(List Move)×Int×Int×Unit)→Option ((Int×Int×Int×(List Move)×Int×Int×Unit)⊕((Int×Int×Unit))):=fun (item,loans,last,v,v1,v2,_)=>
 bif decide (v2<v1) then match getI v v2 with|some x =>bif !(x.Item==item) then some (.inl (item,loans,last,v,v1,wr .i64 (v2+1),())) else let k7 (loans5:Int) (last6:Int):Option ((Int×Int×Int×(List Move)×Int×Int×Unit)⊕((Int×Int×Unit))):=some (.inl (item,loans5,last6,v,v1,wr .i64 (v2+1),()));bif x.Kind==3 then k7 (wr .i64 (loans+1)) (if last<x.Day then x.Day else last) else let k (v3:Bool):Option ((Int×Int×Int×(List Move)×Int×Int×Unit)⊕((Int×Int×Unit))):=bif v3 then k7 loans (if last<x.Day then x.Day else last) else k7 loans last;bif x.Kind==1 then k (x.Kind==1) else k (x.Kind==4)|none =>none else some (.inr ((loans,last,())))
def qbb (c:Circ) (item:Int):Option (Int×Int):=
 match zae zai2 (item,0,(-1),c.Moves,(c.Moves.length:Int),0,()) with|some ((loans,last,_)) =>some (loans,last)|none =>none
def zaiz:(Int×Int×(List Item)×Int×Int×Unit)→Option ((Int×Int×(List Item)×Int×Int×Unit)⊕((Int×Unit))):=fun (record,n,v,v1,v2,_)=>
 bif decide (v2<v1) then match getI v v2 with|some x =>let k5 (v3:Bool):Option ((Int×Int×(List Item)×Int×Int×Unit)⊕((Int×Unit))):=let k (n4:Int):Option ((Int×Int×(List Item)×Int×Int×Unit)⊕((Int×Unit))):=some (.inl (record,n4,v,v1,wr .i64 (v2+1),()));bif v3 then k (wr .i64 (n+1)) else k n;bif x.Record==record then k5 (!(x.Custody.State==12)) else k5 false|none =>none else some (.inr ((n,())))
def qax (c:Circ) (record:Int):Option Int:=
 match zae zaiz (record,0,c.Items,(c.Items.length:Int),0,()) with|some ((n,_)) =>some n|none =>none
def qci (h:Hold) (v:Item):Option Bool:=
 let k (v1:Bool):Option Bool:=some v1;bif h.Record==v.Record then k true else k (h.Item==v.ID)
def qei (x:Int) (y:Int):Option Int:=
 match qdl x with|some r1 =>(match qdl y with|some r3 =>let k (v:Int):Option Int:=some v;bif r1 then bif r3 then k 0 else k (-1) else bif r3 then some 1 else bif decide (x<y) then some (-1) else bif decide (y<x) then some 1 else some 0|none =>none)|none =>none
def zai8:(Int×(List Int)×Int×Int×Unit)→Option ((Int×(List Int)×Int×Int×Unit)⊕((Int×Unit)⊕(Int×Unit))):=fun (zero,v,v1,v2,_)=>
 bif decide (v2<v1) then match getI v v2 with|some x =>bif !(x==zero) then some (.inr (.inr (x,()))) else some (.inl (zero,v,v1,wr .i64 (v2+1),()))|none =>none else some (.inr (.inl (zero,())))
def qbk (vals:List Int):Option Int:=
 match zae zai8 (0,vals,(vals.length:Int),0,()) with|some (.inl (zero,_)) =>some zero|some (.inr (v,_)) =>some v|none =>none
def qed (a:Weed_candidate) (b:Weed_candidate):Option Int:=
 match qei a.loans b.loans with|some r1 =>(match qei a.last b.last with|some r3 =>(match qei a.id_ b.id_ with|some r5 =>(match qbk ([r1,r3,r5]) with|some r7 =>some r7|none =>none)|none =>none)|none =>none)|none =>none
def zazz:(Int×Int×(List Item)×Int×Int×Circ×(List Weed_candidate)×Unit)→Option ((Int×Int×(List Item)×Int×Int×Circ×(List Weed_candidate)×Unit)⊕(((List Weed_candidate)×Unit))):=fun (days,loans,v,v1,v2,c,l,_)=>
 bif decide (v2<v1) then match getI v v2 with|some x =>(match qb1 (fun g x0=>qci x0 g.2.1) c.Holds ((),(x,())) with|some r3 =>(match qbb c x.ID with|some (r5,r6) =>let k11 (v7:Bool):Option ((Int×Int×(List Item)×Int×Int×Circ×(List Weed_candidate)×Unit)⊕(((List Weed_candidate)×Unit))):=let k10 (v8:Bool):Option ((Int×Int×(List Item)×Int×Int×Circ×(List Weed_candidate)×Unit)⊕(((List Weed_candidate)×Unit))):=let k (v9:Bool):Option ((Int×Int×(List Item)×Int×Int×Circ×(List Weed_candidate)×Unit)⊕(((List Weed_candidate)×Unit))):=bif v9 then bif decide (l.length+([(⟨x.ID,x.Record,r5,r6⟩:Weed_candidate)]:List Weed_candidate).length≤LIM) then some (.inl (days,loans,v,v1,wr .i64 (v2+1),c,l++([(⟨x.ID,x.Record,r5,r6⟩:Weed_candidate)]:List Weed_candidate),())) else none else some (.inl (days,loans,v,v1,wr .i64 (v2+1),c,l,()));bif v8 then k (!r3) else k false;bif v7 then k10 (decide (days<wr .i64 (c.Today-r6))) else k10 false;bif x.Custody.State==3 then k11 (decide (r5≤loans)) else k11 false|none =>none)|none =>none)|none =>none else some (.inr ((l,())))
def qi (c:Circ) (days:Int) (loans:Int):Option (List Weed_candidate):=
 match zae zazz (days,loans,c.Items,(c.Items.length:Int),0,c,([]:List Weed_candidate),()) with|some ((l,_)) =>(match qdg (fun g x0 x1=>qed x0 x1) l ((),()) with|some l12 =>some l12|none =>none)|none =>none
def zai4:((List Weed_candidate)×Int×Int×(List Int)×Unit)→Option (((List Weed_candidate)×Int×Int×(List Int)×Unit)⊕(((List Int)×Unit))):=fun (v,v2,v3,l,_)=>
 bif decide (v3<v2) then match getI v v3 with|some x =>bif decide (l.length+([x.id_]:List Int).length≤LIM) then some (.inl (v,v2,wr .i64 (v3+1),l++([x.id_]:List Int),())) else none|none =>none else some (.inr ((l,())))
def qbe (c:Circ) (days:Int) (loans:Int):Option (List Int):=
 match qi c days loans with|some r1 =>(match zae zai4 (r1,(r1.length:Int),0,([]:List Int),()) with|some ((l,_)) =>some l|none =>none)|none =>none
def zml:((List Int)×(List Int)×Int×Unit)→Option (((List Int)×(List Int)×Int×Unit)⊕((Unit)⊕(Bool×Unit))):=fun (a,b,i,_)=>
 bif decide (i<(a.length:Int)) then match getI a i with|some x =>(match getI b i with|some x1 =>bif !(x==x1) then some (.inr (.inr (false,()))) else some (.inl (a,b,wr .i64 (i+1),()))|none =>none)|none =>none else some (.inr (.inl (())))
def qak (a:List Int) (b:List Int):Option Bool:=
 bif !((a.length:Int)==(b.length:Int)) then some false else match zae zml (a,b,0,()) with|some (.inl (_)) =>some true|some (.inr (v,_)) =>some v|none =>none
def qc2 (x:Item) (v:Int):Option Bool:=
 some (x.ID==v)
def qch {γ0:Type} (p:γ0→Item→Option Bool) (s:List Item) (g:γ0):Option Bool:=
 match qc p s g with|some r1 =>some (decide (0≤r1))|none =>none
def qdn (x:Item) (record:Int):Option Bool:=
 let k (v:Bool):Option Bool:=some v;bif x.Record==record then k (!(x.Custody.State==12)) else k false
def qda (y:Item) (v:Item):Option Bool:=
 let k (v2:Bool):Option Bool:=some v2;bif !(y.ID==v.ID) then match qdn y v.Record with|some r1 =>k r1|none =>none else k false
def qcm (h:Hold) (v:Item) (v1:Bool):Option Bool:=
 let k (v3:Bool):Option Bool:=some v3;bif h.Item==v.ID then k true else bif v1 then k (h.Record==v.Record) else k false
def qaf (c:Circ) (x:Item):Option Bool:=
 match qch (fun g x0=>qda x0 g.2.1) c.Items ((),(x,())) with|some r1 =>(match qdn x x.Record with|some r3 =>let k (v:Bool):Option Bool:=match qb1 (fun g x0=>qcm x0 g.2.1 g.2.2.1) c.Holds ((),(x,v,())) with|some r5 =>some r5|none =>none;bif r3 then k (!r1) else k false|none =>none)|none =>none
def qe1 (c:Circ) (item:Int):Option (Circ×Int):=
 match qcg c with|some d =>(match qcr item d with|some (r2,v) =>let k26 (v5:Bool):Option (Circ×Int):=let k25 (v8:Circ_desk):Option (Circ×Int):=match qcs r2 15 v8 with|some (_,v10) =>(match qea c.Loans item with|some (r12,r13) =>let k (v20:Circ_desk):Option (Circ×Int):=match qa4 v20 with|some ((r22,r23),v24) =>some (r22,r23)|none =>none;bif r13 then match qdd c.Loans item with|some (r15,r16,r17) =>(match qcp r15 r17 v10 with|some (_,v19) =>k v19|none =>none)|none =>none else k v10|none =>none)|none =>none;bif v5 then match qu 10 v with|some (_,v7) =>k25 v7|none =>none else k25 v;bif decide (0≤r2) then match getI c.Items r2 with|some x =>(match qaf c x with|some r4 =>k26 r4|none =>none)|none =>none else k26 false|none =>none)|none =>none
def z0c:((List Int)×(List Int)×Int×Int×Circ×Circ×Unit)→Option (((List Int)×(List Int)×Int×Int×Circ×Circ×Unit)⊕(((List Int)×Circ×Circ×Unit)⊕((List Int)×Int×Circ×Unit))):=fun (l,v,v1,v2,c,v3,_)=>
 bif decide (v2<v1) then match getI v v2 with|some x =>(match qch (fun g x0=>qc2 x0 g.2.1) c.Items ((),(x,())) with|some r4 =>bif !r4 then some (.inr (.inr ([],9,(⟨0,[],[],[],[],[],[],⟨⟨0,[]⟩,⟨0,[]⟩,⟨0,[]⟩,⟨0,[]⟩⟩,[],0,0,false⟩:Circ),()))) else some (.inl (l,v,v1,wr .i64 (v2+1),c,v3,()))|none =>none)|none =>none else some (.inr (.inl (l,c,v3,())))
def zty:((List Int)×Int×Int×Circ×Circ×(List Int)×Unit)→Option (((List Int)×Int×Int×Circ×Circ×(List Int)×Unit)⊕((Circ×Circ×(List Int)×Unit))):=fun (v,v7,v8,c,v9,l,_)=>
 bif decide (v8<v7) then match getI v v8 with|some x =>(match qe1 c x with|some (r10,r11) =>bif r11==0 then bif decide (l.length+([x]:List Int).length≤LIM) then some (.inl (v,v7,wr .i64 (v8+1),r10,v9,l++([x]:List Int),())) else none else some (.inl (v,v7,wr .i64 (v8+1),c,v9,l,()))|none =>none)|none =>none else some (.inr ((c,v9,l,())))
def qg (c:Circ) (l:List Int):Option (Circ×(List Int)×Int):=
 match zae z0c (l,l,(l.length:Int),0,c,(⟨0,[],[],[],[],[],[],⟨⟨0,[]⟩,⟨0,[]⟩,⟨0,[]⟩,⟨0,[]⟩⟩,[],0,0,false⟩:Circ),()) with|some (.inl (l5,c6,v,_)) =>(match zae zty (l5,(l5.length:Int),0,c6,v,([]:List Int),()) with|some ((c12,v13,l14,_)) =>some (c12,l14,0)|none =>none)|some (.inr (v15,v16,v17,_)) =>some (v17,v15,v16)|none =>none
def zajf:(Int×(List Weed_candidate)×Int×Int×Circ×(List Int)×(List MapI)×Unit)→Option ((Int×(List Weed_candidate)×Int×Int×Circ×(List Int)×(List MapI)×Unit)⊕(((List Int)×Unit))):=fun (most,v,v2,v3,c,l,l4,_)=>
 bif decide (v3<v2) then match getI v v3 with|some x =>let k (v6:Bool):Option ((Int×(List Weed_candidate)×Int×Int×Circ×(List Int)×(List MapI)×Unit)⊕(((List Int)×Unit))):=bif v6 then bif decide (l.length+([x.id_]:List Int).length≤LIM) then some (.inl (most,v,v2,wr .i64 (v3+1),c,l++([x.id_]:List Int),setM MapI.key x.record (⟨x.record,wr .i64 ((z6q MapI.key MapI.val l4 x.record)+1)⟩:MapI) l4,())) else none else some (.inl (most,v,v2,wr .i64 (v3+1),c,l,l4,()));bif decide ((l.length:Int)<most) then match qax c x.record with|some r5 =>k (decide (1<wr .i64 (r5-(z6q MapI.key MapI.val l4 x.record))))|none =>none else k false|none =>none else some (.inr ((l,())))
def qbu (c:Circ) (days:Int) (loans:Int) (most:Int):Option (List Int):=
 match qi c days loans with|some r1 =>(match zae zajf (most,r1,(r1.length:Int),0,c,([]:List Int),([]:List MapI),()) with|some ((l,_)) =>some l|none =>none)|none =>none
def qe4:Option Bool:=
 match qbi with|some (r1,r2) =>(match qbb r1 2 with|some (r4,r5) =>let k53 (v:Bool):Option Bool:=let k52 (v6:Bool):Option Bool:=let k51 (v9:Bool):Option Bool:=let k50 (v14:Bool):Option Bool:=let k49 (v19:Bool):Option Bool:=let k48 (v24:Bool):Option Bool:=bif v24 then some false else match qg r1 ([1,3]) with|some (r26,r27,r28) =>(match qg r1 ([1,9]) with|some (r30,r31,r32) =>(match qbu r1 50 1 5 with|some r34 =>(match qak r34 ([1]) with|some r36 =>let k47 (v37:Bool):Option Bool:=let k46 (v40:Bool):Option Bool:=let k45 (v43:Bool):Option Bool:=let k (v44:Bool):Option Bool:=some v44;bif v43 then k (r32==9) else k false;bif v40 then match qax r26 5 with|some r42 =>k45 (r42==1)|none =>none else k45 false;bif v37 then match qak r27 ([1,3]) with|some r39 =>k46 r39|none =>none else k46 false;bif r36 then k47 (r28==0) else k47 false|none =>none)|none =>none)|none =>none)|none =>none;bif v19 then k48 true else match qbe r1 50 0 with|some r21 =>(match qak r21 ([1,3]) with|some r23 =>k48 (!r23)|none =>none)|none =>none;bif v14 then k49 true else match qbe r1 190 1 with|some r16 =>(match qak r16 ([1,3]) with|some r18 =>k49 (!r18)|none =>none)|none =>none;bif v9 then k50 true else match qbe r1 50 1 with|some r11 =>(match qak r11 ([1,3,2]) with|some r13 =>k50 (!r13)|none =>none)|none =>none;bif v6 then k51 true else match qax r1 5 with|some r8 =>k51 (!(r8==2))|none =>none;bif v then k52 true else k52 (!(r5==120));bif !r2 then k53 true else k53 (!(r4==1))|none =>none)|none =>none
def zmq:(Int×Int×Circ×Unit)→Option ((Int×Int×Circ×Unit)⊕((Unit)⊕(Int×Unit))):=fun (item,i,c,_)=>
 bif decide (i<(c.Items.length:Int)) then match getI c.Items i with|some x =>bif x.ID==item then match getI c.Items i with|some x1 =>some (.inr (.inr (x1.Record,())))|none =>none else some (.inl (item,wr .i64 (i+1),c,()))|none =>none else some (.inr (.inl (())))
def qbp (c:Circ) (item:Int):Option Int:=
 match zae zmq (item,0,c,()) with|some (.inl (_)) =>some 0|some (.inr (v,_)) =>some v|none =>none
def zf8:(Int×Int×Circ×Circ×Move×Custody×(List Item)×Unit)→Option ((Int×Int×Circ×Circ×Move×Custody×(List Item)×Unit)⊕((Circ×Circ×Move×(List Item)×Unit))):=fun (i,k,c,v,m,u,l,_)=>
 bif decide (k<(c.Items.length:Int)) then match getI c.Items k with|some x =>let k6 (x5:Item):Option ((Int×Int×Circ×Circ×Move×Custody×(List Item)×Unit)⊕((Circ×Circ×Move×(List Item)×Unit))):=bif decide (l.length+([x5]:List Item).length≤LIM) then some (.inl (i,wr .i64 (k+1),c,v,m,u,l++([x5]:List Item),())) else none;bif k==i then k6 (⟨x.ID,x.Record,x.Branch,x.Kind,x.Price,x.Call,u⟩:Item) else k6 x|none =>none else some (.inr ((c,v,m,l,())))
def qbc (c:Circ) (item:Int) (kind:Int) (branch:Int) (who:Int):Option (Circ×Int):=
 match qp c item with|some r1 =>(match getI c.Items r1 with|some x =>(match qcb x.Custody (⟨c.Today,item,kind,branch,who⟩:Move) with|some (r3,r4) =>(bif !(r4==0) then some ((⟨0,[],[],[],[],[],[],⟨⟨0,[]⟩,⟨0,[]⟩,⟨0,[]⟩,⟨0,[]⟩⟩,[],0,0,false⟩:Circ),r4) else bif decide (2000≤(c.Moves.length:Int)) then some ((⟨0,[],[],[],[],[],[],⟨⟨0,[]⟩,⟨0,[]⟩,⟨0,[]⟩,⟨0,[]⟩⟩,[],0,0,false⟩:Circ),13) else match zae zf8 (r1,0,c,(⟨0,[],[],[],[],[],[],⟨⟨0,[]⟩,⟨0,[]⟩,⟨0,[]⟩,⟨0,[]⟩⟩,[],0,0,false⟩:Circ),(⟨c.Today,item,kind,branch,who⟩:Move),r3,([]:List Item),()) with|some ((c7,v,m,l,_)) =>bif decide (c7.Moves.length≤LIM) then bif decide (c7.Moves.length+([m]:List Move).length≤LIM) then some ((⟨c7.Today,l,c7.Patrons,c7.Loans,c7.Holds,c7.Charges,c7.Rules,c7.Cals,c7.Moves++([m]:List Move),c7.NextHold,c7.NextCharge,c7.Local⟩:Circ),0) else none else none|none =>none)|none =>none)|none =>none)|none =>none
def qe7 (l:List Loan) (item:Int):Option ((List Loan)×Loan×Int):=
 match qah l item with|some r1 =>bif decide (r1<0) then some ([],(⟨0,0,0,0,0,false⟩:Loan),9) else bif decide (0≤(0:Int))&&(decide ((0:Int)≤r1)&&decide (r1≤(l.length:Int))) then bif decide (([]:List Loan).length+((l.take r1.toNat).drop (0:Int).toNat).length≤LIM) then bif decide (0≤(wr .i64 (r1+1):Int))&&(decide ((wr .i64 (r1+1):Int)≤(l.length:Int))&&decide ((l.length:Int)≤(l.length:Int))) then bif decide ((([])++((l.take r1.toNat).drop (0:Int).toNat)).length+((l.take (l.length:Int).toNat).drop (wr .i64 (r1+1):Int).toNat).length≤LIM) then match getI l r1 with|some x =>some ((([])++((l.take r1.toNat).drop (0:Int).toNat))++((l.take (l.length:Int).toNat).drop (wr .i64 (r1+1):Int).toNat),x,0)|none =>none else none else none else none else none|none =>none
def zj9:(Int×Int×Bool×Int×Circ×Circ×Item×Unit)→Option ((Int×Int×Bool×Int×Circ×Circ×Item×Unit)⊕((Int×Bool×Circ×Circ×Item×Unit))):=fun (item,i,others,k,c,v,x,_)=>
 bif decide (k<(c.Items.length:Int)) then let k8 (v7:Bool):Option ((Int×Int×Bool×Int×Circ×Circ×Item×Unit)⊕((Int×Bool×Circ×Circ×Item×Unit))):=some (.inl (item,i,v7,wr .i64 (k+1),c,v,x,()));bif others then k8 true else let k6 (v3:Bool):Option ((Int×Int×Bool×Int×Circ×Circ×Item×Unit)⊕((Int×Bool×Circ×Circ×Item×Unit))):=bif v3 then match getI c.Items k with|some x4 =>k8 (!(x4.Custody.State==12))|none =>none else k8 false;bif !(k==i) then match getI c.Items k with|some x2 =>k6 (x2.Record==x.Record)|none =>none else k6 false else some (.inr ((item,others,c,v,x,())))
def zhn:(Int×Bool×Int×Circ×Circ×Item×Unit)→Option ((Int×Bool×Int×Circ×Circ×Item×Unit)⊕((Int×Circ×Circ×Item×Unit)⊕(Int×Circ×Unit))):=fun (item,others,k,c,v,x,_)=>
 bif decide (k<(c.Holds.length:Int)) then match getI c.Holds k with|some x12 =>(let k18 (v17:Bool):Option ((Int×Bool×Int×Circ×Circ×Item×Unit)⊕((Int×Circ×Circ×Item×Unit)⊕(Int×Circ×Unit))):=bif v17 then some (.inr (.inr (10,(⟨0,[],[],[],[],[],[],⟨⟨0,[]⟩,⟨0,[]⟩,⟨0,[]⟩,⟨0,[]⟩⟩,[],0,0,false⟩:Circ),()))) else some (.inl (item,others,wr .i64 (k+1),c,v,x,()));bif x12.Item==item then k18 true else match getI c.Holds k with|some x13 =>let k16 (v14:Bool):Option ((Int×Bool×Int×Circ×Circ×Item×Unit)⊕((Int×Circ×Circ×Item×Unit)⊕(Int×Circ×Unit))):=bif v14 then k18 (!(x.Custody.State==12)) else k18 false;bif x13.Record==x.Record then k16 (!others) else k16 false|none =>none)|none =>none else some (.inr (.inl (item,c,v,x,())))
def qab (c:Circ) (item:Int):Option (Circ×Int):=
 match qp c item with|some r1 =>(bif decide (r1<0) then some ((⟨0,[],[],[],[],[],[],⟨⟨0,[]⟩,⟨0,[]⟩,⟨0,[]⟩,⟨0,[]⟩⟩,[],0,0,false⟩:Circ),9) else match getI c.Items r1 with|some x =>(match zae zj9 (item,r1,false,0,c,(⟨0,[],[],[],[],[],[],⟨⟨0,[]⟩,⟨0,[]⟩,⟨0,[]⟩,⟨0,[]⟩⟩,[],0,0,false⟩:Circ),x,()) with|some ((item9,others,c10,v,x11,_)) =>(match zae zhn (item9,others,0,c10,v,x11,()) with|some (.inl (item19,c20,v21,x22,_)) =>(match qbc c20 item19 15 x22.Custody.Branch 0 with|some (r24,r25) =>(bif !(r25==0) then some ((⟨0,[],[],[],[],[],[],⟨⟨0,[]⟩,⟨0,[]⟩,⟨0,[]⟩,⟨0,[]⟩⟩,[],0,0,false⟩:Circ),r25) else match qe7 r24.Loans item19 with|some (r27,r28,r29) =>let k (c30:List Loan):Option (Circ×Int):=some ((⟨r24.Today,r24.Items,r24.Patrons,c30,r24.Holds,r24.Charges,r24.Rules,r24.Cals,r24.Moves,r24.NextHold,r24.NextCharge,r24.Local⟩:Circ),0);bif r29==0 then k r27 else k r24.Loans|none =>none)|none =>none)|some (.inr (v31,v32,_)) =>some (v32,v31)|none =>none)|none =>none)|none =>none)|none =>none
def zmi:((List Int)×Int×Circ×Circ×Unit)→Option (((List Int)×Int×Circ×Circ×Unit)⊕(((List Int)×Circ×Circ×Unit)⊕((List Int)×Int×Circ×Unit))):=fun (l,i,c,v,_)=>
 bif decide (i<(l.length:Int)) then match getI l i with|some x =>(match qbp c x with|some r1 =>bif r1==0 then some (.inr (.inr ([],9,(⟨0,[],[],[],[],[],[],⟨⟨0,[]⟩,⟨0,[]⟩,⟨0,[]⟩,⟨0,[]⟩⟩,[],0,0,false⟩:Circ),()))) else some (.inl (l,wr .i64 (i+1),c,v,()))|none =>none)|none =>none else some (.inr (.inl (l,c,v,())))
def zka:((List Int)×Int×Circ×Circ×(List Int)×Unit)→Option (((List Int)×Int×Circ×Circ×(List Int)×Unit)⊕((Circ×Circ×(List Int)×Unit))):=fun (l,i,c,v,l4,_)=>
 bif decide (i<(l.length:Int)) then match getI l i with|some x =>(match qab c x with|some (r5,r6) =>bif r6==0 then match getI l i with|some x7 =>bif decide (l4.length+([x7]:List Int).length≤LIM) then some (.inl (l,wr .i64 (i+1),r5,v,l4++([x7]:List Int),())) else none|none =>none else some (.inl (l,wr .i64 (i+1),c,v,l4,()))|none =>none)|none =>none else some (.inr ((c,v,l4,())))
def qae (c:Circ) (l:List Int):Option (Circ×(List Int)×Int):=
 match zae zmi (l,0,c,(⟨0,[],[],[],[],[],[],⟨⟨0,[]⟩,⟨0,[]⟩,⟨0,[]⟩,⟨0,[]⟩⟩,[],0,0,false⟩:Circ),()) with|some (.inl (l2,c3,v,_)) =>(match zae zka (l2,0,c3,v,([]:List Int),()) with|some ((c8,v9,l10,_)) =>some (c8,l10,0)|none =>none)|some (.inr (v11,v12,v13,_)) =>some (v13,v11,v12)|none =>none
def zdy:(Int×Int×Circ×Circ×Unit)→Option ((Int×Int×Circ×Circ×Unit)⊕((Int×Circ×Circ×Unit)⊕(Bool×Unit))):=fun (i,k,a,b,_)=>
 let k17 (v:Int) (v9:List Int):Option ((Int×Int×Circ×Circ×Unit)⊕((Int×Circ×Circ×Unit)⊕(Bool×Unit))):=bif decide (k<(v9.length:Int)) then let k16 (v10:Int) (v11:List Int):Option ((Int×Int×Circ×Circ×Unit)⊕((Int×Circ×Circ×Unit)⊕(Bool×Unit))):=match getI v11 k with|some x =>let k15 (v12:Int) (v13:List Int):Option ((Int×Int×Circ×Circ×Unit)⊕((Int×Circ×Circ×Unit)⊕(Bool×Unit))):=match getI v13 k with|some x14 =>bif !(x==x14) then some (.inr (.inr (false,()))) else some (.inl (i,wr .i64 (k+1),a,b,()))|none =>none;bif i==0 then k15 b.Cals.x0.Week b.Cals.x0.Closed else bif i==1 then k15 b.Cals.x1.Week b.Cals.x1.Closed else bif i==2 then k15 b.Cals.x2.Week b.Cals.x2.Closed else bif i==3 then k15 b.Cals.x3.Week b.Cals.x3.Closed else none|none =>none;bif i==0 then k16 a.Cals.x0.Week a.Cals.x0.Closed else bif i==1 then k16 a.Cals.x1.Week a.Cals.x1.Closed else bif i==2 then k16 a.Cals.x2.Week a.Cals.x2.Closed else bif i==3 then k16 a.Cals.x3.Week a.Cals.x3.Closed else none else some (.inr (.inl (i,a,b,())));bif i==0 then k17 a.Cals.x0.Week a.Cals.x0.Closed else bif i==1 then k17 a.Cals.x1.Week a.Cals.x1.Closed else bif i==2 then k17 a.Cals.x2.Week a.Cals.x2.Closed else bif i==3 then k17 a.Cals.x3.Week a.Cals.x3.Closed else none
def zh9:(Int×Circ×Circ×Unit)→Option ((Int×Circ×Circ×Unit)⊕((Unit)⊕(Bool×Unit))):=fun (i,a,b,_)=>
 bif decide (i<4) then let k24 (v:Int) (v1:List Int):Option ((Int×Circ×Circ×Unit)⊕((Unit)⊕(Bool×Unit))):=let k23 (v2:Int) (v3:List Int):Option ((Int×Circ×Circ×Unit)⊕((Unit)⊕(Bool×Unit))):=let k22 (v8:Bool):Option ((Int×Circ×Circ×Unit)⊕((Unit)⊕(Bool×Unit))):=bif v8 then some (.inr (.inr (false,()))) else match zae zdy (i,0,a,b,()) with|some (.inl (i18,a19,b20,_)) =>some (.inl (wr .i64 (i18+1),a19,b20,()))|some (.inr (v21,_)) =>some (.inr (.inr (v21,())))|none =>none;bif !(v==v2) then k22 true else let k (v4:Int) (v5:List Int):Option ((Int×Circ×Circ×Unit)⊕((Unit)⊕(Bool×Unit))):=bif i==0 then k22 (!((v5.length:Int)==(b.Cals.x0.Closed.length:Int))) else bif i==1 then k22 (!((v5.length:Int)==(b.Cals.x1.Closed.length:Int))) else bif i==2 then k22 (!((v5.length:Int)==(b.Cals.x2.Closed.length:Int))) else bif i==3 then k22 (!((v5.length:Int)==(b.Cals.x3.Closed.length:Int))) else none;bif i==0 then k a.Cals.x0.Week a.Cals.x0.Closed else bif i==1 then k a.Cals.x1.Week a.Cals.x1.Closed else bif i==2 then k a.Cals.x2.Week a.Cals.x2.Closed else bif i==3 then k a.Cals.x3.Week a.Cals.x3.Closed else none;bif i==0 then k23 b.Cals.x0.Week b.Cals.x0.Closed else bif i==1 then k23 b.Cals.x1.Week b.Cals.x1.Closed else bif i==2 then k23 b.Cals.x2.Week b.Cals.x2.Closed else bif i==3 then k23 b.Cals.x3.Week b.Cals.x3.Closed else none;bif i==0 then k24 a.Cals.x0.Week a.Cals.x0.Closed else bif i==1 then k24 a.Cals.x1.Week a.Cals.x1.Closed else bif i==2 then k24 a.Cals.x2.Week a.Cals.x2.Closed else bif i==3 then k24 a.Cals.x3.Week a.Cals.x3.Closed else none else some (.inr (.inl (())))
def qw (a:Circ) (b:Circ):Option Bool:=
 match zae zh9 (0,a,b,()) with|some (.inl (_)) =>some true|some (.inr (v,_)) =>some v|none =>none
def ztw:(Int×Circ×Circ×Unit)→Option ((Int×Circ×Circ×Unit)⊕((Circ×Circ×Unit)⊕(Bool×Unit))):=fun (i,a,b,_)=>
 bif decide (i<(a.Items.length:Int)) then match getI a.Items i with|some x =>(match getI b.Items i with|some x10 =>bif !(znr x x10) then some (.inr (.inr (false,()))) else some (.inl (wr .i64 (i+1),a,b,()))|none =>none)|none =>none else some (.inr (.inl (a,b,())))
def zke:(Int×Circ×Circ×Unit)→Option ((Int×Circ×Circ×Unit)⊕((Circ×Circ×Unit)⊕(Bool×Unit))):=fun (i,a,b,_)=>
 bif decide (i<(a.Patrons.length:Int)) then match getI a.Patrons i with|some x =>(match getI b.Patrons i with|some x13 =>bif !(zhc x x13) then some (.inr (.inr (false,()))) else some (.inl (wr .i64 (i+1),a,b,()))|none =>none)|none =>none else some (.inr (.inl (a,b,())))
def zkf:(Int×Circ×Circ×Unit)→Option ((Int×Circ×Circ×Unit)⊕((Circ×Circ×Unit)⊕(Bool×Unit))):=fun (i,a,b,_)=>
 bif decide (i<(a.Loans.length:Int)) then match getI a.Loans i with|some x =>(match getI b.Loans i with|some x16 =>bif !(znt x x16) then some (.inr (.inr (false,()))) else some (.inl (wr .i64 (i+1),a,b,()))|none =>none)|none =>none else some (.inr (.inl (a,b,())))
def zkg:(Int×Circ×Circ×Unit)→Option ((Int×Circ×Circ×Unit)⊕((Circ×Circ×Unit)⊕(Bool×Unit))):=fun (i,a,b,_)=>
 bif decide (i<(a.Holds.length:Int)) then match getI a.Holds i with|some x =>(match getI b.Holds i with|some x19 =>bif !(znp x x19) then some (.inr (.inr (false,()))) else some (.inl (wr .i64 (i+1),a,b,()))|none =>none)|none =>none else some (.inr (.inl (a,b,())))
def zkh:(Int×Circ×Circ×Unit)→Option ((Int×Circ×Circ×Unit)⊕((Circ×Circ×Unit)⊕(Bool×Unit))):=fun (i,a,b,_)=>
 bif decide (i<(a.Charges.length:Int)) then match getI a.Charges i with|some x =>(match getI b.Charges i with|some x22 =>bif !(zhb x x22) then some (.inr (.inr (false,()))) else some (.inl (wr .i64 (i+1),a,b,()))|none =>none)|none =>none else some (.inr (.inl (a,b,())))
def zki:(Int×Circ×Circ×Unit)→Option ((Int×Circ×Circ×Unit)⊕((Circ×Circ×Unit)⊕(Bool×Unit))):=fun (i,a,b,_)=>
 bif decide (i<(a.Rules.length:Int)) then match getI a.Rules i with|some x =>(match getI b.Rules i with|some x25 =>bif !(znx x x25) then some (.inr (.inr (false,()))) else some (.inl (wr .i64 (i+1),a,b,()))|none =>none)|none =>none else some (.inr (.inl (a,b,())))
def zkj:(Int×Circ×Circ×Unit)→Option ((Int×Circ×Circ×Unit)⊕((Circ×Circ×Unit)⊕(Bool×Unit))):=fun (i,a,b,_)=>
 bif decide (i<(a.Moves.length:Int)) then match getI a.Moves i with|some x =>(match getI b.Moves i with|some x28 =>bif !(znv x x28) then some (.inr (.inr (false,()))) else some (.inl (wr .i64 (i+1),a,b,()))|none =>none)|none =>none else some (.inr (.inl (a,b,())))
def qd (a:Circ) (b:Circ):Option Bool:=
 let k47 (v:Bool):Option Bool:=let k46 (v1:Bool):Option Bool:=let k45 (v2:Bool):Option Bool:=let k44 (v3:Bool):Option Bool:=bif v3 then some false else let k43 (v4:Bool):Option Bool:=let k42 (v5:Bool):Option Bool:=let k41 (v6:Bool):Option Bool:=let k40 (v7:Bool):Option Bool:=let k39 (v8:Bool):Option Bool:=let k (v9:Bool):Option Bool:=bif v9 then some false else match zae ztw (0,a,b,()) with|some (.inl (a11,b12,_)) =>(match zae zke (0,a11,b12,()) with|some (.inl (a14,b15,_)) =>(match zae zkf (0,a14,b15,()) with|some (.inl (a17,b18,_)) =>(match zae zkg (0,a17,b18,()) with|some (.inl (a20,b21,_)) =>(match zae zkh (0,a20,b21,()) with|some (.inl (a23,b24,_)) =>(match zae zki (0,a23,b24,()) with|some (.inl (a26,b27,_)) =>(match zae zkj (0,a26,b27,()) with|some (.inl (a29,b30,_)) =>(match qw a29 b30 with|some r31 =>some r31|none =>none)|some (.inr (v32,_)) =>some v32|none =>none)|some (.inr (v33,_)) =>some v33|none =>none)|some (.inr (v34,_)) =>some v34|none =>none)|some (.inr (v35,_)) =>some v35|none =>none)|some (.inr (v36,_)) =>some v36|none =>none)|some (.inr (v37,_)) =>some v37|none =>none)|some (.inr (v38,_)) =>some v38|none =>none;bif v8 then k true else k (!((a.Moves.length:Int)==(b.Moves.length:Int)));bif v7 then k39 true else k39 (!((a.Rules.length:Int)==(b.Rules.length:Int)));bif v6 then k40 true else k40 (!((a.Charges.length:Int)==(b.Charges.length:Int)));bif v5 then k41 true else k41 (!((a.Holds.length:Int)==(b.Holds.length:Int)));bif v4 then k42 true else k42 (!((a.Loans.length:Int)==(b.Loans.length:Int)));bif !((a.Items.length:Int)==(b.Items.length:Int)) then k43 true else k43 (!((a.Patrons.length:Int)==(b.Patrons.length:Int)));bif v2 then k44 true else k44 (!(a.Local==b.Local));bif v1 then k45 true else k45 (!(a.NextCharge==b.NextCharge));bif v then k46 true else k46 (!(a.NextHold==b.NextHold));bif !(a.Today==b.Today) then k47 true else k47 (!(a.Cals.x0.Week==b.Cals.x0.Week))
def qdh (c:Circ) (l:List Int):Option Bool:=
 match qfl c with|some r1 =>let k23 (v:Bool):Option Bool:=bif v then match qe4 with|some r3 =>some r3|none =>none else match qg c l with|some (r5,r6,r7) =>(match qae c l with|some (r9,r10,r11) =>(match qe4 with|some r13 =>let k22 (v16:Bool):Option Bool:=let k21 (v19:Bool):Option Bool:=let k (v20:Bool):Option Bool:=some v20;bif v19 then k (r7==r11) else k false;bif v16 then match qak r6 r10 with|some r18 =>k21 r18|none =>none else k21 false;bif r13 then match qd r5 r9 with|some r15 =>k22 r15|none =>none else k22 false|none =>none)|none =>none)|none =>none;bif !r1 then k23 true else k23 (decide (20<(l.length:Int)))|none =>none
end Go.Proofs.YtpaidiaknfhclaaGreatDoor
namespace Go.Proofs.YtpaidiaknfhclaaGreatDoor
set_option maxRecDepth 100000
open Ev
open Go (IntKind)
open Go
theorem zpc:CCOk zaz:=CCOk.iso (CCOk.cons (zaj.int _) (CCOk.cons (zaj.int _) (CCOk.cons (zaj.int _) (CCOk.cons (zaj.int _) CCOk.nil)))) (fun _=>rfl)
theorem zpe:CCOk za0:=CCOk.iso (CCOk.cons (zaj.int _) (CCOk.cons (zaj.int _) (CCOk.cons (zaj.int _) (CCOk.cons (zaj.int _) (CCOk.cons (zaj.int _) (CCOk.cons zaj.str (CCOk.cons (zaj.int _) (CCOk.cons (zaj.int _) (CCOk.cons (zaj.int _) (CCOk.cons (zaj.int _) CCOk.nil)))))))))) (fun _=>rfl)
theorem ziu:CCOk zbe:=CCOk.iso (CCOk.cons (zaj.int _) (CCOk.cons (zaj.int _) (CCOk.cons (zaj.int _) (CCOk.cons (zaj.int _) (CCOk.cons zaj.bool (CCOk.cons zaj.str CCOk.nil)))))) (fun _=>rfl)
theorem zpf:CCOk zcx:=CCOk.iso (CCOk.cons (zaj.int _) (CCOk.cons (zaj.int _) (CCOk.cons (zaj.int _) (CCOk.cons (zaj.int _) (CCOk.cons (zaj.int _) (CCOk.cons zaj.bool CCOk.nil)))))) (fun _=>rfl)
theorem zpd:CCOk zbq:=CCOk.iso (CCOk.cons (zaj.int _) (CCOk.cons (zaj.int _) (CCOk.cons (zaj.int _) (CCOk.cons (zaj.int _) (CCOk.cons (zaj.int _) (CCOk.cons (zaj.int _) (CCOk.cons (zaj.int _) (CCOk.cons (zaj.int _) (CCOk.cons (zaj.int _) (CCOk.cons (zaj.int _) (CCOk.cons (zaj.int _) CCOk.nil))))))))))) (fun _=>rfl)
theorem zit:CCOk zdp:=CCOk.iso (CCOk.cons (zaj.int _) (CCOk.cons (zaj.int _) (CCOk.cons (zaj.int _) (CCOk.cons (zaj.int _) (CCOk.cons (zaj.int _) (CCOk.cons (zaj.int _) (CCOk.cons (zaj.int _) CCOk.nil))))))) (fun _=>rfl)
theorem zpi:CCOk zdd:=CCOk.iso (CCOk.cons (zaj.int _) (CCOk.cons (zaj.int _) (CCOk.cons (zaj.int _) (CCOk.cons (zaj.int _) (CCOk.cons (zaj.int _) (CCOk.cons (zaj.int _) (CCOk.cons (zaj.int _) (CCOk.cons (zaj.int _) (CCOk.cons (zaj.int _) (CCOk.cons (zaj.int _) (CCOk.cons (zaj.int _) (CCOk.cons (zaj.int _) (CCOk.cons (zaj.int _) CCOk.nil))))))))))))) (fun _=>rfl)
theorem znc:CCOk zay:=CCOk.iso (CCOk.cons (zaj.int _) (CCOk.cons (zaj.lst _) CCOk.nil)) (fun _=>rfl)
theorem zph:CCOk zfb:=CCOk.iso (CCOk.cons (zaj.int _) (CCOk.cons (zaj.int _) (CCOk.cons (zaj.int _) (CCOk.cons (zaj.int _) (CCOk.cons (zaj.int _) CCOk.nil))))) (fun _=>rfl)
theorem z14:CCOk zag:=CCOk.iso (CCOk.cons (zaj.int _) (CCOk.cons (zaj.lst _) (CCOk.cons (zaj.lst _) (CCOk.cons (zaj.lst _) (CCOk.cons (zaj.lst _) (CCOk.cons (zaj.lst _) (CCOk.cons (zaj.lst _) (CCOk.cons (zaj.int _) (CCOk.cons (zaj.lst _) (CCOk.cons (zaj.int _) (CCOk.cons (zaj.lst _) (CCOk.cons (zaj.int _) (CCOk.cons (zaj.lst _) (CCOk.cons (zaj.int _) (CCOk.cons (zaj.lst _) (CCOk.cons (zaj.lst _) (CCOk.cons (zaj.int _) (CCOk.cons (zaj.int _) (CCOk.cons zaj.bool CCOk.nil))))))))))))))))))) (fun _=>rfl)
theorem zla:CCOk zaw:=CCOk.iso (CCOk.cons (zaj.int _) (CCOk.cons (zaj.lst _) (CCOk.cons (zaj.lst _) (CCOk.cons (zaj.lst _) (CCOk.cons (zaj.lst _) (CCOk.cons (zaj.lst _) (CCOk.cons (zaj.lst _) (CCOk.cons (zaj.int _) (CCOk.cons (zaj.lst _) (CCOk.cons (zaj.int _) (CCOk.cons (zaj.lst _) (CCOk.cons (zaj.int _) (CCOk.cons (zaj.lst _) (CCOk.cons (zaj.int _) (CCOk.cons (zaj.lst _) (CCOk.cons (zaj.lst _) (CCOk.cons (zaj.int _) (CCOk.cons (zaj.int _) (CCOk.cons zaj.bool (CCOk.cons (zaj.int _) CCOk.nil)))))))))))))))))))) (fun _=>rfl)
theorem zdq:CCOk zbs:=CCOk.iso (CCOk.cons (zaj.int _) (CCOk.cons (zaj.int _) (CCOk.cons (zaj.int _) (CCOk.cons (zaj.int _) CCOk.nil)))) (fun _=>rfl)
theorem zpg:CCOk zsh:=CCOk.iso (CCOk.cons (zaj.int _) (CCOk.cons (zaj.int _) CCOk.nil)) (fun _=>rfl)
theorem zc7:CCOk zcf:=CCOk.iso (CCOk.cons (zaj.int _) (CCOk.cons (zaj.int _) CCOk.nil)) (fun _=>rfl)
theorem zh3:CCOk zd8:=CCOk.iso (CCOk.cons (zaj.int _) (CCOk.cons (zaj.lst _) (CCOk.cons (zaj.int _) (CCOk.cons (zaj.lst _) (CCOk.cons (zaj.int _) (CCOk.cons (zaj.lst _) (CCOk.cons (zaj.int _) (CCOk.cons (zaj.lst _) CCOk.nil)))))))) (fun _=>rfl)
theorem zpj:CCOk zbr:=CCOk.iso (CCOk.cons zaj.bool (CCOk.cons zaj.bool (CCOk.cons zaj.bool (CCOk.cons zaj.bool (CCOk.cons zaj.bool (CCOk.cons zaj.bool (CCOk.cons zaj.bool CCOk.nil))))))) (fun _=>rfl)
instance:CCC zaz:=⟨zpc⟩
instance:CCC za0:=⟨zpe⟩
instance:CCC zbe:=⟨ziu⟩
instance:CCC zcx:=⟨zpf⟩
instance:CCC zbq:=⟨zpd⟩
instance:CCC zdp:=⟨zit⟩
instance:CCC zdd:=⟨zpi⟩
instance:CCC zay:=⟨znc⟩
instance:CCC zfb:=⟨zph⟩
instance:CCC zag:=⟨z14⟩
instance:CCC zaw:=⟨zla⟩
instance:CCC zbs:=⟨zdq⟩
instance:CCC zsh:=⟨zpg⟩
instance:CCC zcf:=⟨zc7⟩
instance:CCC zd8:=⟨zh3⟩
instance:CCC zbr:=⟨zpj⟩
end Go.Proofs.YtpaidiaknfhclaaGreatDoor
namespace Go.Proofs.YtpaidiaknfhclaaGreatDoor
set_option maxRecDepth 100000
open Ev
open Go (IntKind)
abbrev zg7:ZC (Circ×Unit):=Zc (Cod.agg zag) Zn
abbrev zav:ZD (Bool):=Zb
abbrev za0p {R:Type}:Sm R:=semP zg7 zav (fun a=>qa a.1)
def zale {R:Type}:Nat→Sm R:=c0
abbrev z4y:=mkld [] [] [1,3] [1] [] (Zp 1 1 (Zs 3 Zi (Zx 1 zag Zz))) zz5 (.xs 0 [1] [1] [] (Zp 1 1 (Zx 1 zag Zz)) (.r [2] [] [] (Zs 2 Zb Zz)))
abbrev z4z:=mkld [] [] [1,4] [1] [] (Zp 1 1 (Zs 4 Zi (Zx 1 zag Zz))) zz6 (.xs 2 [1] [1] [] (Zp 1 1 (Zx 1 zag Zz)) (.r [2] [] [] (Zs 2 Zb Zz)))
abbrev zv2:=mkld [] [] [1,5] [1] [] (Zp 1 1 (Zs 5 Zi (Zx 1 zag Zz))) zhx (.xs 4 [] [] [] Zz (.r [2] [] [] (Zs 2 Zb Zz)))
def zic {R:Type}:Lp Kd El R:=lp 14 zv2.sem (lp 9 z4z.sem (lp 4 z4y.sem l0))
abbrev zaf6:ZC ((List UInt8)×Int×Unit):=Zc Cod.str (Zc Zi Zn)
abbrev zkp:ZD (Int×Int):=(Cod.tup2 (Zc Zi (Zc Zi Zn)))
abbrev zuh {R:Type}:Sm R:=semP zaf6 zkp (fun a=>qbq a.1 a.2.1)
abbrev zuv:ZC ((List UInt8)×Unit):=Zc Cod.str Zn
abbrev zuf {R:Type}:Sm R:=semP zuv zav (fun a=>qai a.1)
def zabf {R:Type}:Nat→Sm R:=cl 146 zuh c0
abbrev zwb:=mkld [] [] [0,3] [] [] (Zs 0 Cod.str (Zs 3 Zi Zz)) zmk (.xs 0 [] [] [] Zz (.r [2] [] [] (Zs 2 Zb Zz)))
def zqs {R:Type}:Lp Kd El R:=lp 2 zwb.sem l0
abbrev za3:ZD (Int):=Zi
abbrev zakk {R:Type}:Sm R:=semP zaf6 za3 (fun a=>qf a.1 a.2.1)
abbrev zb7:ZC (Int×Unit):=Zc Zi Zn
abbrev z7u {R:Type}:Sm R:=semP zb7 zav (fun a=>qal a.1)
abbrev zaju:ZD ((List UInt8)):=Cod.str
abbrev z7n {R:Type}:Sm R:=semP zuv zaju (fun a=>qa1 a.1)
def zaa1 {R:Type}:Nat→Sm R:=cl 146 zuh (cl 147 zakk (cl 148 z7u c0))
abbrev zvv:=mkld [] [] [0,3,4,5] [] [] (Zs 0 Cod.str (Zs 3 Cod.str (Zs 4 Zb (Zs 5 Zi Zz)))) zmh (.x 0 [3] [] [] (Zs 3 Cod.str Zz))
def zqk {R:Type}:Lp Kd El R:=lp 4 zvv.sem l0
abbrev zux:ZC ((List Patron)×Unit):=Zc (Zl .kPatron) Zn
abbrev z7x {R:Type}:Sm R:=semP zux za3 (fun a=>qaq a.1)
def zabl {R:Type}:Nat→Sm R:=cl 88 zuf (cl 89 z7n c0)
abbrev zwh:=mkld [] [] [0,3] [] [] (Zs 0 (Zl .kPatron) (Zs 3 Zi Zz)) zkc (.xs 0 [] [] [] Zz (.r [2] [] [] (Zs 2 Zi Zz)))
def zqy {R:Type}:Lp Kd El R:=lp 4 zwh.sem l0
abbrev zuw:ZC ((List Loan)×Unit):=Zc (Zl .kLoan) Zn
abbrev z7w {R:Type}:Sm R:=semP zuw za3 (fun a=>qap a.1)
def zabk {R:Type}:Nat→Sm R:=c0
abbrev zwg:=mkld [] [] [0,3] [] [] (Zs 0 (Zl .kLoan) (Zs 3 Zi Zz)) zkb (.xs 0 [] [] [] Zz (.r [2] [] [] (Zs 2 Zi Zz)))
def zqx {R:Type}:Lp Kd El R:=lp 4 zwg.sem l0
abbrev zauf {R:Type}:Sm R:=semP zb7 zav (fun a=>qec a.1)
abbrev zauu {R:Type}:Sm R:=semP zb7 zav (fun a=>qev a.1)
abbrev zagf:ZC (Hold×Unit):=Zc (Cod.agg zbq) Zn
abbrev z9l {R:Type}:Sm R:=semP zagf za3 (fun a=>qdp a.1)
abbrev zak0:ZC ((List Hold)×Unit):=Zc (Zl .kHold) Zn
abbrev zako {R:Type}:Sm R:=semP zak0 za3 (fun a=>qn a.1)
def zalq {R:Type}:Nat→Sm R:=cl 90 z9l c0
abbrev z5i:=mkld [] [] [0,3] [] [] (Zs 0 (Zl .kHold) (Zs 3 Zi Zz)) zt1 (.xs 0 [0] [] [] (Zs 0 (Zl .kHold) Zz) (.r [2] [] [] (Zs 2 Zi Zz)))
abbrev zxc:=mkld [] [] [0,5,6] [] [] (Zs 0 (Zl .kHold) (Zs 5 Zi (Zs 6 Zi Zz))) zkn (.xs 4 [0,5] [] [] (Zs 0 (Zl .kHold) (Zs 5 Zi Zz)) (.r [2] [] [] (Zs 2 Zi Zz)))
abbrev zxb:=mkld [] [] [0,5] [] [] (Zs 0 (Zl .kHold) (Zs 5 Zi Zz)) zms (.xs 2 [] [] [] Zz (.r [2] [] [] (Zs 2 Zi Zz)))
def zie {R:Type}:Lp Kd El R:=lp 12 zxb.sem (lp 15 zxc.sem (lp 4 z5i.sem l0))
abbrev z9v {R:Type}:Sm R:=semP zb7 zav (fun a=>qe8 a.1)
abbrev zafy:ZC ((List Charge)×Unit):=Zc (Zl .kCharge) Zn
abbrev z7m {R:Type}:Sm R:=semP zafy za3 (fun a=>qa0 a.1)
def zaa0 {R:Type}:Nat→Sm R:=cl 91 z9v c0
abbrev zvu:=mkld [] [] [0,3] [] [] (Zs 0 (Zl .kCharge) (Zs 3 Zi Zz)) zj7 (.xs 0 [] [] [] Zz (.r [2] [] [] (Zs 2 Zi Zz)))
def zqj {R:Type}:Lp Kd El R:=lp 4 zvu.sem l0
abbrev zoy:ZC (Int×Int×Int×Unit):=Zc Zi (Zc Zi (Zc Zi Zn))
abbrev zas6 {R:Type}:Sm R:=semP zoy zav (fun a=>qbj a.1 a.2.1 a.2.2.1)
abbrev z0y:ZC (Rule×Unit):=Zc (Cod.agg zdd) Zn
abbrev z8t {R:Type}:Sm R:=semP z0y zav (fun a=>qc5 a.1)
abbrev zawr:ZC ((List Rule)×Unit):=Zc (Zl .kRule) Zn
abbrev zakn {R:Type}:Sm R:=semP zawr za3 (fun a=>qm a.1)
def zalp {R:Type}:Nat→Sm R:=cl 92 z8t c0
abbrev z5h:=mkld [] [] [0,3,4] [] [] (Zs 0 (Zl .kRule) (Zs 3 Zi (Zs 4 Zi Zz))) zt0 (.xs 2 [0,3] [] [] (Zs 0 (Zl .kRule) (Zs 3 Zi Zz)) (.r [2] [] [] (Zs 2 Zi Zz)))
abbrev z5g:=mkld [] [] [0,3] [] [] (Zs 0 (Zl .kRule) (Zs 3 Zi Zz)) z0d (.xs 0 [] [] [] Zz (.r [2] [] [] (Zs 2 Zi Zz)))
def zof {R:Type}:Lp Kd El R:=lp 4 z5g.sem (lp 9 z5h.sem l0)
abbrev zak1:ZC (Calendar×Unit):=Zc (Cod.agg zay) Zn
abbrev zakt {R:Type}:Sm R:=semP zak1 za3 (fun a=>qy a.1)
def zal0 {R:Type}:Nat→Sm R:=c0
abbrev z5w:=mkld [] [] [1,3] [1] [] (Zp 1 1 (Zs 3 Zi (Zx 1 zay Zz))) zt6 (.xs 0 [1] [1] [] (Zp 1 1 (Zx 1 zay Zz)) (.r [2] [] [] (Zs 2 Zi Zz)))
abbrev zxh:=mkld [] [] [1,4] [1] [] (Zp 1 1 (Zs 4 Zi (Zx 1 zay Zz))) zko (.xs 2 [] [] [] Zz (.r [2] [] [] (Zs 2 Zi Zz)))
def zoi {R:Type}:Lp Kd El R:=lp 11 zxh.sem (lp 6 z5w.sem l0)
abbrev zuy:ZC ((List Patron)×Int×Unit):=Zc (Zl .kPatron) (Zc Zi Zn)
abbrev zast {R:Type}:Sm R:=semP zuy za3 (fun a=>qau a.1 a.2.1)
def zabo {R:Type}:Nat→Sm R:=c0
abbrev zwk:=mkld [] [] [0,1,5] [] [] (Zs 0 (Zl .kPatron) (Zs 1 Zi (Zs 5 Zi Zz))) zmp (.xs 0 [] [] [] Zz (.r [4] [] [] (Zs 4 Zi Zz)))
def zq1 {R:Type}:Lp Kd El R:=lp 2 zwk.sem l0
abbrev zajy:ZD (Patron×Bool):=(Cod.tup2 (Zc (Cod.agg zbe) (Zc Zb Zn)))
abbrev zot {R:Type}:Sm R:=semP zuy zajy (fun a=>qca a.1 a.2.1)
abbrev zaj8:ZD (Custody):=(Cod.agg zaz)
abbrev z9m {R:Type}:Sm R:=semP zb7 zaj8 (fun a=>qdq a.1)
abbrev zau1 {R:Type}:Sm R:=semP zb7 zav (fun a=>qff a.1)
abbrev z06:ZC (Custody×Unit):=Zc (Cod.agg zaz) Zn
abbrev zat9 {R:Type}:Sm R:=semP z06 zav (fun a=>qdr a.1)
abbrev zawn:ZC (Move×Unit):=Zc (Cod.agg zfb) Zn
abbrev zauo {R:Type}:Sm R:=semP zawn zav (fun a=>qeo a.1)
abbrev zxx:ZD ((List Int)):=(Zl .ki64)
abbrev z9d {R:Type}:Sm R:=semP zb7 zxx (fun a=>qcx a.1)
abbrev zlp:ZC (Int×Int×Unit):=Zc Zi (Zc Zi Zn)
abbrev zasr {R:Type}:Sm R:=semP zlp zav (fun a=>qan a.1 a.2.1)
def zabi {R:Type}:Nat→Sm R:=cl 238 z9d c0
abbrev zwe:=mkld [] [] [0,5,6] [] [] (Zs 0 Zi (Zs 5 (Zl .ki64) (Zs 6 Zi Zz))) zmm (.xs 0 [] [] [] Zz (.r [4] [] [] (Zs 4 Zb Zz)))
def zqv {R:Type}:Lp Kd El R:=lp 3 zwe.sem l0
abbrev zu5:ZC (Custody×Move×Unit):=Zc (Cod.agg zaz) (Zc (Cod.agg zfb) Zn)
abbrev zatz {R:Type}:Sm R:=semP zu5 zav (fun a=>qde a.1 a.2.1)
abbrev zau6 {R:Type}:Sm R:=semP zb7 za3 (fun a=>qfk a.1)
abbrev zxw:ZD (Custody×Int):=(Cod.tup2 (Zc (Cod.agg zaz) (Zc Zi Zn)))
abbrev zui {R:Type}:Sm R:=semP zu5 zxw (fun a=>qcb a.1 a.2.1)
abbrev zaf3:ZC (Int×(List Move)×Int×Unit):=Zc Zi (Zc (Zl .kMove) (Zc Zi Zn))
abbrev zajv:ZD (Custody×Int×Int):=(Cod.tup3 (Zc (Cod.agg zaz) (Zc Zi (Zc Zi Zn))))
abbrev z7v {R:Type}:Sm R:=semP zaf3 zajv (fun a=>qao a.1 a.2.1 a.2.2.1)
def zabj {R:Type}:Nat→Sm R:=cl 124 zui (cl 152 z9m c0)
abbrev zwf:=mkld [] [] [1,2,6,9,10] [6,9] [] (Zs 1 (Zl .kMove) (Zs 2 Zi (Zp 6 6 (Zp 9 9 (Zs 10 Zi (Zx 6 zaz (Zx 9 zaz Zz))))))) zmn (.xs 0 [6,9] [6,9] [] (Zp 6 6 (Zp 9 9 (Zx 6 zaz (Zx 9 zaz Zz)))) (.r [7,8] [6] [6] (Zp 6 6 (Zs 7 Zi (Zs 8 Zi (Zx 6 zaz Zz))))))
def zqw {R:Type}:Lp Kd El R:=lp 5 zwf.sem l0
abbrev zk7:ZC (Circ×Int×Unit):=Zc (Cod.agg zag) (Zc Zi Zn)
abbrev zmy {R:Type}:Sm R:=semP zk7 za3 (fun a=>qp a.1 a.2.1)
def zals {R:Type}:Nat→Sm R:=c0
abbrev z5k:=mkld [] [] [1,2,5] [2] [] (Zs 1 Zi (Zp 2 2 (Zs 5 Zi (Zx 2 zag Zz)))) z0g (.xs 0 [] [] [] Zz (.r [4] [] [] (Zs 4 Zi Zz)))
def zxs {R:Type}:Lp Kd El R:=lp 2 z5k.sem l0
abbrev zaki {R:Type}:Sm R:=semP zg7 zav (fun a=>q9 a.1)
def zald {R:Type}:Nat→Sm R:=cl 73 zmy (cl 88 zuf (cl 94 z7v c0))
abbrev z4x:=mkld [] [] [1,3] [1] [] (Zp 1 1 (Zs 3 Zi (Zx 1 zag Zz))) ztm (.xs 0 [1] [1] [] (Zp 1 1 (Zx 1 zag Zz)) (.r [2] [] [] (Zs 2 Zb Zz)))
abbrev zvt:=mkld [] [] [1,8] [1] [] (Zp 1 1 (Zs 8 Zi (Zx 1 zag Zz))) zj6 (.xs 2 [] [] [] Zz (.r [2] [] [] (Zs 2 Zb Zz)))
def zoc {R:Type}:Lp Kd El R:=lp 15 zvt.sem (lp 4 z4x.sem l0)
abbrev z9y {R:Type}:Sm R:=semP z06 zav (fun a=>qej a.1)
abbrev zim:ZC ((List Loan)×Int×Unit):=Zc (Zl .kLoan) (Zc Zi Zn)
abbrev zasp {R:Type}:Sm R:=semP zim za3 (fun a=>qah a.1 a.2.1)
def zabe {R:Type}:Nat→Sm R:=c0
abbrev zwa:=mkld [] [] [0,1,5] [] [] (Zs 0 (Zl .kLoan) (Zs 1 Zi (Zs 5 Zi Zz))) zmj (.xs 0 [] [] [] Zz (.r [4] [] [] (Zs 4 Zi Zz)))
def zqr {R:Type}:Lp Kd El R:=lp 2 zwa.sem l0
abbrev zaj9:ZD (Loan×Bool):=(Cod.tup2 (Zc (Cod.agg zcx) (Zc Zb Zn)))
abbrev z9n {R:Type}:Sm R:=semP zim zaj9 (fun a=>qds a.1 a.2.1)
abbrev zakh {R:Type}:Sm R:=semP zg7 zav (fun a=>q8 a.1)
def zalc {R:Type}:Nat→Sm R:=cl 48 zot (cl 73 zmy (cl 95 z9y (cl 96 z9n c0)))
abbrev z4w:=mkld [] [] [1,3] [1] [] (Zp 1 1 (Zs 3 Zi (Zx 1 zag Zz))) ztl (.xs 0 [1] [1] [] (Zp 1 1 (Zx 1 zag Zz)) (.r [2] [] [] (Zs 2 Zb Zz)))
abbrev zvs:=mkld [] [] [1,8] [1] [] (Zp 1 1 (Zs 8 Zi (Zx 1 zag Zz))) zmg (.xs 2 [] [] [] Zz (.r [2] [] [] (Zs 2 Zb Zz)))
def zob {R:Type}:Lp Kd El R:=lp 10 zvs.sem (lp 2 z4w.sem l0)
abbrev z7c:ZD (Hold×Bool):=(Cod.tup2 (Zc (Cod.agg zbq) (Zc Zb Zn)))
abbrev z7z {R:Type}:Sm R:=semP zk7 z7c (fun a=>qat a.1 a.2.1)
def zabn {R:Type}:Nat→Sm R:=c0
abbrev zwj:=mkld [] [] [1,2,4,6] [2,4] [] (Zs 1 Zi (Zp 2 2 (Zp 4 4 (Zs 6 Zi (Zx 2 zag (Zx 4 zbq Zz)))))) zmo (.xs 0 [4] [4] [] (Zp 4 4 (Zx 4 zbq Zz)) (.r [5] [4] [4] (Zp 4 4 (Zs 5 Zb (Zx 4 zbq Zz)))))
def zq0 {R:Type}:Lp Kd El R:=lp 2 zwj.sem l0
abbrev z7r {R:Type}:Sm R:=semP zg7 zav (fun a=>qaa a.1)
def zaa8 {R:Type}:Nat→Sm R:=cl 48 zot (cl 73 zmy (cl 97 z7z c0))
abbrev zv3:=mkld [] [] [1,3] [1] [] (Zp 1 1 (Zs 3 Zi (Zx 1 zag Zz))) zj8 (.xs 0 [1] [1] [] (Zp 1 1 (Zx 1 zag Zz)) (.r [2] [] [] (Zs 2 Zb Zz)))
abbrev zp9:=mkld [] [] [1,9] [1] [] (Zp 1 1 (Zs 9 Zi (Zx 1 zag Zz))) zhm (.xs 2 [] [] [] Zz (.r [2] [] [] (Zs 2 Zb Zz)))
def zjl {R:Type}:Lp Kd El R:=lp 18 zp9.sem (lp 2 zv3.sem l0)
abbrev zaso {R:Type}:Sm R:=semP zg7 zav (fun a=>qag a.1)
def zabd {R:Type}:Nat→Sm R:=cl 42 z7x (cl 43 z7w (cl 44 zako (cl 45 z7m (cl 46 zakn (cl 47 zakt (cl 48 zot (cl 49 zaki (cl 50 zakh (cl 51 z7r c0)))))))))
abbrev zv9:=mkld [] [] [1,3] [1] [] (Zp 1 1 (Zs 3 Zi (Zx 1 zag Zz))) zhy (.xs 0 [1] [1] [] (Zp 1 1 (Zx 1 zag Zz)) (.r [2] [] [] (Zs 2 Zb Zz)))
abbrev zqd:=mkld [] [] [1,4] [1] [] (Zp 1 1 (Zs 4 Zi (Zx 1 zag Zz))) zf7 (.xs 2 [1] [1] [] (Zp 1 1 (Zx 1 zag Zz)) (.r [2] [] [] (Zs 2 Zb Zz)))
def zjq {R:Type}:Lp Kd El R:=lp 11 zqd.sem (lp 6 zv9.sem l0)
abbrev zau7 {R:Type}:Sm R:=semP zg7 zav (fun a=>qfl a.1)
abbrev zakg:ZD (Circ):=(Cod.agg zag)
abbrev zaue {R:Type}:Sm R:=semP zb7 zakg (fun a=>qeb a.1)
abbrev zagb:ZC (Item×Int×Unit):=Zc (Cod.agg za0) (Zc (Cod.cptr (CC.one Zi)) Zn)
abbrev z9c {R:Type}:Sm R:=semP zagb zav (fun a=>qcw a.1 a.2.1)
abbrev za07:ZC ((List Item)×((Unit)×(Int×Unit))×Unit):=Zc (Zl .kItem) (Zc (Cod.fnc 127 (Zn) (Zc (Cod.cptr (CC.one Zi)) Zn)) Zn)
abbrev za0r {R:Type}:Sm R:=semP za07 za3 (fun a=>qc (fun g x0=>qcw x0 g.2.1) a.1 a.2.1)
def zalg {R:Type}:Nat→Sm R:=cl 127 z9c c0
abbrev z42:=mkld [] [] [0,1,7,8] [] [] (Zs 0 (Zl .kItem) (Zs 1 (Cod.fnc 127 (Zn) (Zc (Cod.cptr (CC.one Zi)) Zn)) (Zs 7 Zi (Zs 8 Zi Zz)))) (zom (fun g x0=>qcw x0 g.2.1)) (.xs 0 [] [] [] Zz (.r [4] [] [] (Zs 4 Zi Zz)))
def zxm {R:Type}:Lp Kd El R:=lp 2 z42.sem l0
abbrev zos {R:Type}:Sm R:=semP zk7 za3 (fun a=>qam a.1 a.2.1)
abbrev z9f {R:Type}:Sm R:=semP zb7 zaj8 (fun a=>qd2 a.1)
abbrev zaf9:ZC (Item×Item×Unit):=Zc (Cod.agg za0) (Zc (Cod.cptr za0) Zn)
abbrev z89 {R:Type}:Sm R:=semP zaf9 zav (fun a=>qct a.1 a.2.1)
abbrev zaam:ZC ((List Item)×((Unit)×(Item×Unit))×Unit):=Zc (Zl .kItem) (Zc (Cod.fnc 101 (Zn) (Zc (Cod.cptr za0) Zn)) Zn)
abbrev z8y {R:Type}:Sm R:=semP zaam za3 (fun a=>qc (fun g x0=>qct x0 g.2.1) a.1 a.2.1)
def zyk {R:Type}:Nat→Sm R:=cl 101 z89 c0
abbrev zl6:=mkld [] [] [0,1,7,8] [] [] (Zs 0 (Zl .kItem) (Zs 1 (Cod.fnc 101 (Zn) (Zc (Cod.cptr za0) Zn)) (Zs 7 Zi (Zs 8 Zi Zz)))) (zom (fun g x0=>qct x0 g.2.1)) (.xs 0 [] [] [] Zz (.r [4] [] [] (Zs 4 Zi Zz)))
def zjw {R:Type}:Lp Kd El R:=lp 2 zl6.sem l0
abbrev zav4:ZC ((List Item)×Unit):=Zc (Zl .kItem) Zn
abbrev zajz:ZD ((List Item)):=(Zl .kItem)
abbrev zatl {R:Type}:Sm R:=semP zav4 zajz (fun a=>qcj a.1)
abbrev z09:ZC ((List Item)×Int×(List Item)×Unit):=Zc (Zl .kItem) (Zc Zi (Zc (Zl .kItem) Zn))
abbrev zakd:ZD ((List Item)):=zajz
def zaii (a:(List Item)×Int×(List Item)×Unit):Option ((List Item)):=qdx a.1 a.2.1 a.2.2.1
abbrev za1p {R:Type}:Sm R:=semP z09 zakd zaii
abbrev z79 {R:Type}:Sm R:=semP zoy zav (fun a=>qb7 a.1 a.2.1 a.2.2.1)
abbrev z04:ZC ((List UInt8)×Unit):=zuv
abbrev zaj4:ZD (Bool):=zav
def zaid (a:(List UInt8)×Unit):Option (Bool):=qdc a.1
abbrev za1m {R:Type}:Sm R:=semP z04 zaj4 zaid
abbrev zawd:ZC (Item×Unit):=Zc (Cod.agg za0) Zn
abbrev z9e {R:Type}:Sm R:=semP zawd zav (fun a=>qd1 a.1)
abbrev z8n {R:Type}:Sm R:=semP zoy zav (fun a=>qbt a.1 a.2.1 a.2.2.1)
abbrev zau0 {R:Type}:Sm R:=semP z06 zav (fun a=>qfe a.1)
abbrev zauy {R:Type}:Sm R:=semP zlp zav (fun a=>qfc a.1 a.2.1)
abbrev zav9:ZC (Custody×Bool×Unit):=Zc (Cod.agg zaz) (Zc Zb Zn)
abbrev zatm {R:Type}:Sm R:=semP zav9 zxw (fun a=>qco a.1 a.2.1)
abbrev zau2 {R:Type}:Sm R:=semP zu5 zxw (fun a=>qfg a.1 a.2.1)
abbrev z9g {R:Type}:Sm R:=semP zu5 zxw (fun a=>qd3 a.1 a.2.1)
abbrev z8l {R:Type}:Sm R:=semP zaf3 zajv (fun a=>qbo a.1 a.2.1 a.2.2.1)
def zab4 {R:Type}:Nat→Sm R:=cl 100 z9f (cl 128 z8n (cl 129 z9g c0))
abbrev zwz:=mkld [] [] [2,6,9,20,21,22] [6,9] [] (Zs 2 Zi (Zp 6 6 (Zp 9 9 (Zs 20 (Zl .kMove) (Zs 21 Zi (Zs 22 Zi (Zx 6 zaz (Zx 9 zaz Zz)))))))) zajb (.xs 0 [6,9] [6,9] [] (Zp 6 6 (Zp 9 9 (Zx 6 zaz (Zx 9 zaz Zz)))) (.r [7,8] [6] [6] (Zp 6 6 (Zs 7 Zi (Zs 8 Zi (Zx 6 zaz Zz))))))
def zrh {R:Type}:Lp Kd El R:=lp 5 zwz.sem l0
abbrev za0z {R:Type}:Sm R:=semP zg7 zav (fun a=>qt a.1)
def zalw {R:Type}:Nat→Sm R:=cl 76 z9e (cl 77 zos (cl 78 z8l c0))
abbrev z5r:=mkld [] [] [1,23,24,25] [1] [] (Zp 1 1 (Zs 23 (Zl .kItem) (Zs 24 Zi (Zs 25 Zi (Zx 1 zag Zz))))) zaz8 (.xs 0 [1] [1] [] (Zp 1 1 (Zx 1 zag Zz)) (.r [2] [] [] (Zs 2 Zb Zz)))
abbrev zxf:=mkld [] [] [1,51,52,53] [1] [] (Zp 1 1 (Zs 51 (Zl .kMove) (Zs 52 Zi (Zs 53 Zi (Zx 1 zag Zz))))) zajs (.xs 2 [1] [1] [] (Zp 1 1 (Zx 1 zag Zz)) (.r [2] [] [] (Zs 2 Zb Zz)))
abbrev zxg:=mkld [] [] [1,64,65,66] [1] [] (Zp 1 1 (Zs 64 (Zl .kItem) (Zs 65 Zi (Zs 66 Zi (Zx 1 zag Zz))))) zajt (.xs 4 [] [] [] Zz (.r [2] [] [] (Zs 2 Zb Zz)))
def zih {R:Type}:Lp Kd El R:=lp 16 zxg.sem (lp 10 zxf.sem (lp 4 z5r.sem l0))
abbrev z03:ZC ((List UInt8)×Unit):=zuv
abbrev zaj3:ZD ((List UInt8)):=zaju
def zaic (a:(List UInt8)×Unit):Option ((List UInt8)):=qd7 a.1
abbrev za1l {R:Type}:Sm R:=semP z03 zaj3 zaic
abbrev zavo:ZC (Patron×Unit):=Zc (Cod.agg zbe) Zn
abbrev z74 {R:Type}:Sm R:=semP zavo za3 (fun a=>qb3 a.1)
abbrev z7o {R:Type}:Sm R:=semP zux za3 (fun a=>qa6 a.1)
def zaa5 {R:Type}:Nat→Sm R:=cl 130 z74 c0
abbrev zvz:=mkld [] [] [3,10,11,12] [] [] (Zs 3 Zi (Zs 10 (Zl .kPatron) (Zs 11 Zi (Zs 12 Zi Zz)))) zaio (.xs 0 [] [] [] Zz (.r [2] [] [] (Zs 2 Zi Zz)))
def zqo {R:Type}:Lp Kd El R:=lp 5 zvz.sem l0
abbrev z91 {R:Type}:Sm R:=semP zb7 zav (fun a=>qew a.1)
abbrev z90 {R:Type}:Sm R:=semP zb7 zav (fun a=>qes a.1)
abbrev z7q {R:Type}:Sm R:=semP zuw za3 (fun a=>qa9 a.1)
def zaa7 {R:Type}:Nat→Sm R:=cl 131 z91 (cl 132 z90 c0)
abbrev zv1:=mkld [] [] [0,8,9,10] [] [] (Zs 0 (Zl .kLoan) (Zs 8 (Zl .kLoan) (Zs 9 Zi (Zs 10 Zi Zz)))) zaiq (.xs 0 [] [] [] Zz (.r [2] [] [] (Zs 2 Zi Zz)))
def zqq {R:Type}:Lp Kd El R:=lp 4 zv1.sem l0
abbrev zas0 {R:Type}:Sm R:=semP zoy zav (fun a=>qb6 a.1 a.2.1 a.2.2.1)
abbrev zaup {R:Type}:Sm R:=semP zb7 zav (fun a=>qep a.1)
abbrev z9s {R:Type}:Sm R:=semP zagf za3 (fun a=>qe5 a.1)
abbrev z01:ZC (Hold×Hold×Unit):=Zc (Cod.agg zbq) (Zc (Cod.agg zbq) Zn)
abbrev z82 {R:Type}:Sm R:=semP z01 zav (fun a=>qcf a.1 a.2.1)
abbrev zawk:ZC ((List Hold)×((Unit)×(Unit))×Unit):=Zc (Zl .kHold) (Zc (Cod.fnc 135 (Zn) (Zn)) Zn)
abbrev zakj {R:Type}:Sm R:=semP zawk zav (fun a=>qe (fun g x0 x1=>qcf x0 x1) a.1 a.2.1)
def zali {R:Type}:Nat→Sm R:=cl 135 z82 c0
abbrev z47:=mkld [] [] [0,1,5,8,9,12,13] [] [] (Zs 0 (Zl .kHold) (Zs 1 (Cod.fnc 135 (Zn) (Zn)) (Zs 5 Zi (Zs 8 Zi (Zs 9 Zi (Zs 12 Zi (Zs 13 Zi Zz))))))) (zar4 (fun g x0 x1=>qcf x0 x1)) (.xs 2 [0,1,8,9] [] [] (Zs 0 (Zl .kHold) (Zs 1 (Cod.fnc 135 (Zn) (Zn)) (Zs 8 Zi (Zs 9 Zi Zz)))) (.r [4] [] [] (Zs 4 Zb Zz)))
abbrev z44:=mkld [] [] [0,1,8,9] [] [] (Zs 0 (Zl .kHold) (Zs 1 (Cod.fnc 135 (Zn) (Zn)) (Zs 8 Zi (Zs 9 Zi Zz)))) (zar3 (fun g x0 x1=>qcf x0 x1)) (.xs 0 [] [] [] Zz (.r [4] [] [] (Zs 4 Zb Zz)))
def zod {R:Type}:Lp Kd El R:=lp 2 z44.sem (lp 5 z47.sem l0)
abbrev z9k {R:Type}:Sm R:=semP z01 zav (fun a=>qdm a.1 a.2.1)
abbrev zu6:ZC ((List Hold)×((Unit)×(Unit))×Unit):=Zc (Zl .kHold) (Zc (Cod.fnc 136 (Zn) (Zn)) Zn)
abbrev zrz {R:Type}:Sm R:=semP zu6 zav (fun a=>qe (fun g x0 x1=>qdm x0 x1) a.1 a.2.1)
def zyn {R:Type}:Nat→Sm R:=cl 136 z9k c0
abbrev zma:=mkld [] [] [0,1,5,8,9,12,13] [] [] (Zs 0 (Zl .kHold) (Zs 1 (Cod.fnc 136 (Zn) (Zn)) (Zs 5 Zi (Zs 8 Zi (Zs 9 Zi (Zs 12 Zi (Zs 13 Zi Zz))))))) (zar4 (fun g x0 x1=>qdm x0 x1)) (.xs 2 [0,1,8,9] [] [] (Zs 0 (Zl .kHold) (Zs 1 (Cod.fnc 136 (Zn) (Zn)) (Zs 8 Zi (Zs 9 Zi Zz)))) (.r [4] [] [] (Zs 4 Zb Zz)))
abbrev zl9:=mkld [] [] [0,1,8,9] [] [] (Zs 0 (Zl .kHold) (Zs 1 (Cod.fnc 136 (Zn) (Zn)) (Zs 8 Zi (Zs 9 Zi Zz)))) (zar3 (fun g x0 x1=>qdm x0 x1)) (.xs 0 [] [] [] Zz (.r [4] [] [] (Zs 4 Zb Zz)))
def zf5 {R:Type}:Lp Kd El R:=lp 2 zl9.sem (lp 5 zma.sem l0)
abbrev zakm {R:Type}:Sm R:=semP zak0 za3 (fun a=>ql a.1)
def zalo {R:Type}:Nat→Sm R:=cl 133 z9s (cl 134 (si zawk zakj (si zu6 zrz s0)) c0)
abbrev z5f:=mkld [] [] [0,9,10,11] [] [] (Zs 0 (Zl .kHold) (Zs 9 (Zl .kHold) (Zs 10 Zi (Zs 11 Zi Zz)))) zaz1 (.xs 0 [0] [] [] (Zs 0 (Zl .kHold) Zz) (.r [2] [] [] (Zs 2 Zi Zz)))
def zxq {R:Type}:Lp Kd El R:=lp 4 z5f.sem l0
abbrev zaub {R:Type}:Sm R:=semP zb7 zav (fun a=>qe2 a.1)
abbrev zatx {R:Type}:Sm R:=semP zb7 zav (fun a=>qd9 a.1)
abbrev zavq:ZC (Charge×Unit):=Zc (Cod.agg zdp) Zn
abbrev z8a {R:Type}:Sm R:=semP zavq za3 (fun a=>qb8 a.1)
abbrev z8h {R:Type}:Sm R:=semP zafy za3 (fun a=>qba a.1)
def zabt {R:Type}:Nat→Sm R:=cl 137 z8a c0
abbrev zwp:=mkld [] [] [0,9,10,11] [] [] (Zs 0 (Zl .kCharge) (Zs 9 (Zl .kCharge) (Zs 10 Zi (Zs 11 Zi Zz)))) zai1 (.xs 0 [] [] [] Zz (.r [2] [] [] (Zs 2 Zi Zz)))
def zq6 {R:Type}:Lp Kd El R:=lp 4 zwp.sem l0
abbrev zatf {R:Type}:Sm R:=semP zoy zav (fun a=>qbx a.1 a.2.1 a.2.2.1)
abbrev z9p {R:Type}:Sm R:=semP z0y zav (fun a=>qe0 a.1)
abbrev zav5:ZC (Rule×Rule×Unit):=Zc (Cod.agg zdd) (Zc (Cod.cptr zdd) Zn)
abbrev z85 {R:Type}:Sm R:=semP zav5 zav (fun a=>qck a.1 a.2.1)
abbrev zafz:ZC ((List Rule)×((Unit)×(Rule×Unit))×Unit):=Zc (Zl .kRule) (Zc (Cod.fnc 139 (Zn) (Zc (Cod.cptr zdd) Zn)) Zn)
abbrev zasf {R:Type}:Sm R:=semP zafz za3 (fun a=>qa2 (fun g x0=>qck x0 g.2.1) a.1 a.2.1)
def zaa2 {R:Type}:Nat→Sm R:=cl 139 z85 c0
abbrev zvw:=mkld [] [] [0,1,7,8] [] [] (Zs 0 (Zl .kRule) (Zs 1 (Cod.fnc 139 (Zn) (Zc (Cod.cptr zdd) Zn)) (Zs 7 Zi (Zs 8 Zi Zz)))) (zail (fun g x0=>qck x0 g.2.1)) (.xs 0 [] [] [] Zz (.r [4] [] [] (Zs 4 Zi Zz)))
def zql {R:Type}:Lp Kd El R:=lp 2 zvw.sem l0
abbrev z92 {R:Type}:Sm R:=semP zafz zav (fun a=>qex (fun g x0=>qck x0 g.2.1) a.1 a.2.1)
abbrev zaks {R:Type}:Sm R:=semP zawr za3 (fun a=>qx a.1)
def zalz {R:Type}:Nat→Sm R:=cl 138 z9p (cl 140 z92 c0)
abbrev z5v:=mkld [] [] [0,9,10,11] [] [] (Zs 0 (Zl .kRule) (Zs 9 (Zl .kRule) (Zs 10 Zi (Zs 11 Zi Zz)))) za0a (.xs 0 [] [] [] Zz (.r [2] [] [] (Zs 2 Zi Zz)))
def zxu {R:Type}:Lp Kd El R:=lp 4 z5v.sem l0
abbrev z8s {R:Type}:Sm R:=semP zb7 zav (fun a=>qc4 a.1)
abbrev z8p {R:Type}:Sm R:=semP zb7 zav (fun a=>qc1 a.1)
abbrev zaf0:ZC ((List Int)×((Unit)×(Unit))×Unit):=Zc (Zl .ki64) (Zc (Cod.fnc 142 (Zn) (Zn)) Zn)
abbrev zasg {R:Type}:Sm R:=semP zaf0 za3 (fun a=>qa3 (fun g x0=>qc1 x0) a.1 a.2.1)
def zaa3 {R:Type}:Nat→Sm R:=cl 142 z8p c0
abbrev zvx:=mkld [] [] [0,1,7,8] [] [] (Zs 0 (Zl .ki64) (Zs 1 (Cod.fnc 142 (Zn) (Zn)) (Zs 7 Zi (Zs 8 Zi Zz)))) (zaim (fun g x0=>qc1 x0)) (.xs 0 [] [] [] Zz (.r [4] [] [] (Zs 4 Zi Zz)))
def zqm {R:Type}:Lp Kd El R:=lp 2 zvx.sem l0
abbrev z93 {R:Type}:Sm R:=semP zaf0 zav (fun a=>qey (fun g x0=>qc1 x0) a.1 a.2.1)
abbrev zakq {R:Type}:Sm R:=semP zak1 za3 (fun a=>qv a.1)
def zalx {R:Type}:Nat→Sm R:=cl 141 z93 c0
abbrev z5s:=mkld [] [] [1,24,25,26] [1] [] (Zp 1 1 (Zs 24 (Zl .ki64) (Zs 25 Zi (Zs 26 Zi (Zx 1 zay Zz))))) zaz9 (.xs 1 [] [] [] Zz (.r [2] [] [] (Zs 2 Zi Zz)))
def zxt {R:Type}:Lp Kd El R:=lp 8 z5s.sem l0
abbrev za0y {R:Type}:Sm R:=semP zg7 zav (fun a=>qs a.1)
def zalv {R:Type}:Nat→Sm R:=cl 36 z79 (cl 79 z7o (cl 80 z7q (cl 81 zakm (cl 82 z8h (cl 83 zaks (cl 84 zakq c0))))))
abbrev z5q:=mkld [] [] [1,38,39] [1] [] (Zp 1 1 (Zs 38 (Cod.agg zd8) (Zs 39 Zi (Zx 1 zag Zz)))) zaz7 (.xs 0 [1] [1] [] (Zp 1 1 (Zx 1 zag Zz)) (.r [2] [] [] (Zs 2 Zb Zz)))
abbrev zxd:=mkld [] [] [1,57,58,59] [1] [] (Zp 1 1 (Zs 57 (Zl .kHold) (Zs 58 Zi (Zs 59 Zi (Zx 1 zag Zz))))) zajq (.xs 2 [1] [1] [] (Zp 1 1 (Zx 1 zag Zz)) (.r [2] [] [] (Zs 2 Zb Zz)))
abbrev zxe:=mkld [] [] [1,70,71,72] [1] [] (Zp 1 1 (Zs 70 (Zl .kCharge) (Zs 71 Zi (Zs 72 Zi (Zx 1 zag Zz))))) zajr (.xs 4 [] [] [] Zz (.r [2] [] [] (Zs 2 Zb Zz)))
def zig {R:Type}:Lp Kd El R:=lp 18 zxe.sem (lp 12 zxd.sem (lp 4 z5q.sem l0))
abbrev zavz:ZC (Patron×Int×Unit):=Zc (Cod.agg zbe) (Zc (Cod.cptr (CC.one Zi)) Zn)
abbrev z8r {R:Type}:Sm R:=semP zavz zav (fun a=>qc3 a.1 a.2.1)
abbrev za08:ZC ((List Patron)×((Unit)×(Int×Unit))×Unit):=Zc (Zl .kPatron) (Zc (Cod.fnc 207 (Zn) (Zc (Cod.cptr (CC.one Zi)) Zn)) Zn)
abbrev za0w {R:Type}:Sm R:=semP za08 za3 (fun a=>qo (fun g x0=>qc3 x0 g.2.1) a.1 a.2.1)
def zalr {R:Type}:Nat→Sm R:=cl 207 z8r c0
abbrev z5j:=mkld [] [] [0,1,7,8] [] [] (Zs 0 (Zl .kPatron) (Zs 1 (Cod.fnc 207 (Zn) (Zc (Cod.cptr (CC.one Zi)) Zn)) (Zs 7 Zi (Zs 8 Zi Zz)))) (zar6 (fun g x0=>qc3 x0 g.2.1)) (.xs 0 [] [] [] Zz (.r [4] [] [] (Zs 4 Zi Zz)))
def zxr {R:Type}:Lp Kd El R:=lp 2 z5j.sem l0
abbrev zatg {R:Type}:Sm R:=semP zuy za3 (fun a=>qby a.1 a.2.1)
abbrev zat8 {R:Type}:Sm R:=semP zuy zajy (fun a=>qdo a.1 a.2.1)
abbrev zavr:ZC (Int×Circ×Unit):=Zc Zi (Zc (Cod.cptr zag) Zn)
abbrev z8b {R:Type}:Sm R:=semP zavr zav (fun a=>qb9 a.1 a.2.1)
abbrev za0u {R:Type}:Sm R:=semP zg7 zav (fun a=>qh a.1)
def zalk {R:Type}:Nat→Sm R:=cl 77 zos (cl 85 z8b c0)
abbrev z5a:=mkld [] [] [1,3,12,13,14] [1] [] (Zp 1 1 (FC.clo 3 85 [] [1] (Zs 12 (Zl .kLoan) (Zs 13 Zi (Zs 14 Zi (Zx 1 zag Zz)))))) zazx (.xs 0 [1,3] [1] [] (Zp 1 1 (FC.clo 3 85 [] [1] (Zx 1 zag Zz))) (.r [2] [] [] (Zs 2 Zb Zz)))
abbrev z5b:=mkld [] [] [1,3,32,33,34] [1] [] (Zp 1 1 (FC.clo 3 85 [] [1] (Zs 32 (Zl .kHold) (Zs 33 Zi (Zs 34 Zi (Zx 1 zag Zz)))))) zazy (.xs 2 [1,3] [1] [] (Zp 1 1 (FC.clo 3 85 [] [1] (Zx 1 zag Zz))) (.r [2] [] [] (Zs 2 Zb Zz)))
abbrev zxa:=mkld [] [] [3,45,46,47] [1] [] (FC.clo 3 85 [] [1] (Zs 45 (Zl .kCharge) (Zs 46 Zi (Zs 47 Zi (Zx 1 zag Zz))))) zajo (.xs 4 [] [] [] Zz (.r [2] [] [] (Zs 2 Zb Zz)))
def zid {R:Type}:Lp Kd El R:=lp 15 zxa.sem (lp 9 z5b.sem (lp 3 z5a.sem l0))
abbrev za0b:ZD ((Int×Unit)):=(Cod.clo 186 (Zc (Cod.cptr (CC.one Zi)) Zn))
abbrev zass {R:Type}:Sm R:=semP zb7 za0b (fun a=>qar a.1)
abbrev zav2:ZC (Loan×Int×Unit):=Zc (Cod.agg zcx) (Zc (Cod.cptr (CC.one Zi)) Zn)
abbrev z81 {R:Type}:Sm R:=semP zav2 zav (fun a=>qcc a.1 a.2.1)
abbrev zakz:ZC ((List Loan)×((Unit)×(Int×Unit))×Unit):=Zc (Zl .kLoan) (Zc (Cod.fnc 186 (Zn) (Zc (Cod.cptr (CC.one Zi)) Zn)) Zn)
abbrev za0v {R:Type}:Sm R:=semP zakz za3 (fun a=>qk (fun g x0=>qcc x0 g.2.1) a.1 a.2.1)
def zaln {R:Type}:Nat→Sm R:=cl 186 z81 c0
abbrev z5e:=mkld [] [] [0,1,7,8] [] [] (Zs 0 (Zl .kLoan) (Zs 1 (Cod.fnc 186 (Zn) (Zc (Cod.cptr (CC.one Zi)) Zn)) (Zs 7 Zi (Zs 8 Zi Zz)))) (ztz (fun g x0=>qcc x0 g.2.1)) (.xs 0 [] [] [] Zz (.r [4] [] [] (Zs 4 Zi Zz)))
def zxp {R:Type}:Lp Kd El R:=lp 2 z5e.sem l0
abbrev zajw:ZD (Loan×Int):=(Cod.tup2 (Zc (Cod.agg zcx) (Zc Zi Zn)))
abbrev zasz {R:Type}:Sm R:=semP zakz zajw (fun a=>qb2 (fun g x0=>qcc x0 g.2.1) a.1 a.2.1)
abbrev z9w {R:Type}:Sm R:=semP zim zaj9 (fun a=>qea a.1 a.2.1)
abbrev zatb {R:Type}:Sm R:=semP zg7 zav (fun a=>qbr a.1)
def zab6 {R:Type}:Nat→Sm R:=cl 69 z9w c0
abbrev zw1:=mkld [] [] [1,9,10,11] [1] [] (Zp 1 1 (Zs 9 (Zl .kItem) (Zs 10 Zi (Zs 11 Zi (Zx 1 zag Zz))))) zajc (.xs 0 [] [] [] Zz (.r [2] [] [] (Zs 2 Zb Zz)))
def zrj {R:Type}:Lp Kd El R:=lp 2 zw1.sem l0
abbrev zaga:ZC (Hold×Int×Unit):=Zc (Cod.agg zbq) (Zc (Cod.cptr (CC.one Zi)) Zn)
abbrev z9a {R:Type}:Sm R:=semP zaga zav (fun a=>qcu a.1 a.2.1)
abbrev za06:ZC ((List Hold)×((Unit)×(Int×Unit))×Unit):=Zc (Zl .kHold) (Zc (Cod.fnc 145 (Zn) (Zc (Cod.cptr (CC.one Zi)) Zn)) Zn)
abbrev za0q {R:Type}:Sm R:=semP za06 za3 (fun a=>qb (fun g x0=>qcu x0 g.2.1) a.1 a.2.1)
def zalf {R:Type}:Nat→Sm R:=cl 145 z9a c0
abbrev z41:=mkld [] [] [0,1,7,8] [] [] (Zs 0 (Zl .kHold) (Zs 1 (Cod.fnc 145 (Zn) (Zc (Cod.cptr (CC.one Zi)) Zn)) (Zs 7 Zi (Zs 8 Zi Zz)))) (zkd (fun g x0=>qcu x0 g.2.1)) (.xs 0 [] [] [] Zz (.r [4] [] [] (Zs 4 Zi Zz)))
def zxl {R:Type}:Lp Kd El R:=lp 2 z41.sem l0
abbrev z7p {R:Type}:Sm R:=semP zk7 z7c (fun a=>qa8 a.1 a.2.1)
abbrev zask {R:Type}:Sm R:=semP zg7 zav (fun a=>qac a.1)
def zaba {R:Type}:Nat→Sm R:=cl 77 zos (cl 87 z7p c0)
abbrev zv5:=mkld [] [] [1,13,14,15] [1] [] (Zp 1 1 (Zs 13 (Zl .kHold) (Zs 14 Zi (Zs 15 Zi (Zx 1 zag Zz))))) zair (.xs 0 [1] [1] [] (Zp 1 1 (Zx 1 zag Zz)) (.r [2] [] [] (Zs 2 Zb Zz)))
abbrev zqb:=mkld [] [] [1,65,66,67] [1] [] (Zp 1 1 (Zs 65 (Zl .kItem) (Zs 66 Zi (Zs 67 Zi (Zx 1 zag Zz))))) z61 (.xs 2 [] [] [] Zz (.r [2] [] [] (Zs 2 Zb Zz)))
def zjn {R:Type}:Lp Kd El R:=lp 16 zqb.sem (lp 2 zv5.sem l0)
abbrev zau5 {R:Type}:Sm R:=semP zg7 zav (fun a=>qfj a.1)
abbrev zak2:ZC (Circ×Item×Unit):=Zc (Cod.agg zag) (Zc (Cod.agg za0) Zn)
abbrev zt7:ZD (Circ×Int):=(Cod.tup2 (Zc (Cod.agg zag) (Zc Zi Zn)))
abbrev zaku {R:Type}:Sm R:=semP zak2 zt7 (fun a=>qz a.1 a.2.1)
abbrev zav1:ZC (Patron×Patron×Unit):=Zc (Cod.agg zbe) (Zc (Cod.cptr zbe) Zn)
abbrev z8v {R:Type}:Sm R:=semP zav1 zav (fun a=>qc7 a.1 a.2.1)
abbrev zaan:ZC ((List Patron)×((Unit)×(Patron×Unit))×Unit):=Zc (Zl .kPatron) (Zc (Cod.fnc 208 (Zn) (Zc (Cod.cptr zbe) Zn)) Zn)
abbrev z96 {R:Type}:Sm R:=semP zaan za3 (fun a=>qo (fun g x0=>qc7 x0 g.2.1) a.1 a.2.1)
def zyp {R:Type}:Nat→Sm R:=cl 208 z8v c0
abbrev zmc:=mkld [] [] [0,1,7,8] [] [] (Zs 0 (Zl .kPatron) (Zs 1 (Cod.fnc 208 (Zn) (Zc (Cod.cptr zbe) Zn)) (Zs 7 Zi (Zs 8 Zi Zz)))) (zar6 (fun g x0=>qc7 x0 g.2.1)) (.xs 0 [] [] [] Zz (.r [4] [] [] (Zs 4 Zi Zz)))
def zj0 {R:Type}:Lp Kd El R:=lp 2 zmc.sem l0
abbrev zakb:ZD ((List Patron)):=(Zl .kPatron)
abbrev zaua {R:Type}:Sm R:=semP zux zakb (fun a=>qdv a.1)
abbrev z07:ZC ((List Patron)×Int×(List Patron)×Unit):=Zc (Zl .kPatron) (Zc Zi (Zc (Zl .kPatron) Zn))
abbrev zaka:ZD ((List Patron)):=zakb
def zaig (a:(List Patron)×Int×(List Patron)×Unit):Option ((List Patron)):=qdu a.1 a.2.1 a.2.2.1
abbrev za1n {R:Type}:Sm R:=semP z07 zaka zaig
abbrev zaj0:ZD ((List Patron)×Int):=(Cod.tup2 (Zc (Zl .kPatron) (Zc Zi Zn)))
abbrev zatt {R:Type}:Sm R:=semP zux zaj0 (fun a=>qd0 a.1)
abbrev zavn:ZC ((List Patron)×Patron×Unit):=Zc (Zl .kPatron) (Zc (Cod.agg zbe) Zn)
abbrev zasx {R:Type}:Sm R:=semP zavn zaj0 (fun a=>qb0 a.1 a.2.1)
abbrev zage:ZC (Circ×Patron×Unit):=Zc (Cod.agg zag) (Zc (Cod.agg zbe) Zn)
abbrev zat5 {R:Type}:Sm R:=semP zage zt7 (fun a=>qdk a.1 a.2.1)
abbrev z0z:ZC (Unit):=Zn
abbrev z8w {R:Type}:Sm R:=semP z0z zakg (fun a=>qc8)
abbrev za0h:ZC (Circ_desk):=zaw
abbrev zatk {R:Type}:Sm R:=semN zg7 za0h (fun a=>qcg a.1)
abbrev z1c:ZC (Unit×Int×Unit):=Zc (Cod.ptrc 100000) (Zc Zi Zn)
abbrev zli:ZD (Unit):=Cod.unit
abbrev za00 {R:Type}:Sm R:=semM z1c (BC.one zaw) zli (fun a b=>qu a.2.1 b)
abbrev zatp {R:Type}:Sm R:=semM z1c (BC.one zaw) za3 (fun a b=>qcr a.2.1 b)
abbrev zawg:ZC ((List Move)×Unit):=Zc (Zl .kMove) Zn
abbrev za0k:ZD ((List Move)):=(Zl .kMove)
abbrev zat3 {R:Type}:Sm R:=semP zawg za0k (fun a=>qdi a.1)
abbrev zaf5:ZC (Unit×Int×Int×Int×Int×Unit):=Zc (Cod.ptrc 100000) (Zc Zi (Zc Zi (Zc Zi (Zc Zi Zn))))
abbrev zas4 {R:Type}:Sm R:=semM zaf5 (BC.one zaw) zli (fun a b=>qbg a.2.1 a.2.2.1 a.2.2.2.1 a.2.2.2.2.1 b)
abbrev zug {R:Type}:Sm R:=semP z01 za3 (fun a=>qb4 a.1 a.2.1)
abbrev za1a:ZC ((List Hold)×Int×Int×((Unit)×(Unit))×Unit):=Zc (Zl .kHold) (Zc Zi (Zc Zi (Zc (Cod.fnc 260 (Zn) (Zn)) Zn)))
abbrev zafl:ZD (List Hold):=(Zl .kHold)
abbrev zakp {R:Type}:Sm R:=semP za1a zafl (fun a=>qr (fun g x0 x1=>qb4 x0 x1) a.1 a.2.1 a.2.2.1 a.2.2.2.1)
def zalu {R:Type}:Nat→Sm R:=cl 260 zug c0
abbrev z5p:=mkld [] [] [0,1,2,3,8,9] [] [99999] (FC.arr 0 99999 (Zs 1 Zi (Zs 2 Zi (Zs 3 (Cod.fnc 260 (Zn) (Zn)) (Zs 8 Zi (Zs 9 Zi (FC.own 99999 Kd.kHold false Zz))))))) (zaz6 (fun g x0 x1=>qb4 x0 x1)) (.x 2 [0,1,2,3,8] [] [99999] (FC.arr 0 99999 (Zs 1 Zi (Zs 2 Zi (Zs 3 (Cod.fnc 260 (Zn) (Zn)) (Zs 8 Zi (FC.own 99999 Kd.kHold false Zz)))))))
abbrev z5o:=mkld [] [] [0,1,2,3,8] [] [99999] (FC.arr 0 99999 (Zs 1 Zi (Zs 2 Zi (Zs 3 (Cod.fnc 260 (Zn) (Zn)) (Zs 8 Zi (FC.own 99999 Kd.kHold false Zz)))))) (zaz5 (fun g x0 x1=>qb4 x0 x1)) (.x 0 [] [] [99999] (FC.own 99999 Kd.kHold false Zz))
def zog {R:Type}:Lp Kd El R:=lp 1 z5o.sem (lp 4 z5p.sem l0)
abbrev zaf8:ZC ((List Hold)×Int×Int×Int×((Unit)×(Unit))×Unit):=Zc (Zl .kHold) (Zc Zi (Zc Zi (Zc Zi (Zc (Cod.fnc 260 (Zn) (Zn)) Zn))))
abbrev zajx:ZD (List Hold):=zafl
def zaib (a:(List Hold)×Int×Int×Int×((Unit)×(Unit))×Unit):Option (List Hold):=qc0 (fun g x0 x1=>qb4 x0 x1) a.1 a.2.1 a.2.2.1 a.2.2.2.1 a.2.2.2.2.1
abbrev zati {R:Type}:Sm R:=semP zaf8 zajx zaib
abbrev za09:ZC ((List Hold)×Int×((Unit)×(Unit))×Unit):=Zc (Zl .kHold) (Zc Zi (Zc (Cod.fnc 260 (Zn) (Zn)) Zn))
abbrev za0x {R:Type}:Sm R:=semP za09 zafl (fun a=>qq (fun g x0 x1=>qb4 x0 x1) a.1 a.2.1 a.2.2.1)
def zalt {R:Type}:Nat→Sm R:=cl 260 zug (cl 275 zakp (cl 276 zati c0))
abbrev z5l:=mkld [] [] [0,1,2,6,7,8] [] [99999] (FC.arr 0 99999 (Zs 1 Zi (Zs 2 (Cod.fnc 260 (Zn) (Zn)) (Zs 6 Zi (Zs 7 Zi (Zs 8 Zi (FC.own 99999 Kd.kHold false Zz))))))) (zaz2 (fun g x0 x1=>qb4 x0 x1)) (.x 0 [0,1,2,6,7] [] [99999] (FC.arr 0 99999 (Zs 1 Zi (Zs 2 (Cod.fnc 260 (Zn) (Zn)) (Zs 6 Zi (Zs 7 Zi (FC.own 99999 Kd.kHold false Zz)))))))
abbrev z5n:=mkld [] [] [0,1,2,6,7,8] [] [99999] (FC.arr 0 99999 (Zs 1 Zi (Zs 2 (Cod.fnc 260 (Zn) (Zn)) (Zs 6 Zi (Zs 7 Zi (Zs 8 Zi (FC.own 99999 Kd.kHold false Zz))))))) (zaz4 (fun g x0 x1=>qb4 x0 x1)) (.x 4 [0,1,2,6,7] [] [99999] (FC.arr 0 99999 (Zs 1 Zi (Zs 2 (Cod.fnc 260 (Zn) (Zn)) (Zs 6 Zi (Zs 7 Zi (FC.own 99999 Kd.kHold false Zz)))))))
abbrev z5m:=mkld [] [] [0,1,2,6] [] [99999] (FC.arr 0 99999 (Zs 1 Zi (Zs 2 (Cod.fnc 260 (Zn) (Zn)) (Zs 6 Zi (FC.own 99999 Kd.kHold false Zz))))) (zaz3 (fun g x0 x1=>qb4 x0 x1)) (.x 2 [] [] [99999] (FC.own 99999 Kd.kHold false Zz))
def zif {R:Type}:Lp Kd El R:=lp 7 z5m.sem (lp 9 z5n.sem (lp 2 z5l.sem l0))
abbrev zawj:ZC ((List Hold)×((Unit)×(Unit))×Unit):=Zc (Zl .kHold) (Zc (Cod.fnc 260 (Zn) (Zn)) Zn)
abbrev z9o {R:Type}:Sm R:=semP zawj zafl (fun a=>qdt (fun g x0 x1=>qb4 x0 x1) a.1 a.2.1)
abbrev zawq:ZC ((List Hold)×Int×Int×Unit):=Zc (Zl .kHold) (Zc Zi (Zc Zi Zn))
abbrev zafk:ZD ((List Hold)):=(Zl .kHold)
abbrev zakl {R:Type}:Sm R:=semP zawq zafk (fun a=>qj a.1 a.2.1 a.2.2.1)
def zalm {R:Type}:Nat→Sm R:=cl 259 z9o c0
abbrev z5d:=mkld [(7,7,Kd.kHold)] [] [1,2,7,10,11,12] [] [7] (Zs 1 Zi (Zs 2 Zi (FC.arr 7 7 (Zs 10 (Zl .kHold) (Zs 11 Zi (Zs 12 Zi (FC.own 7 Kd.kHold false Zz))))))) zaz0 (.x 0 [7] [] [7] (FC.arr 7 7 (FC.own 7 Kd.kHold false Zz)))
def zxo {R:Type}:Lp Kd El R:=lp 3 z5d.sem l0
abbrev zavv:ZC ((List Hold)×Item×Int×Int×Bool×Unit):=Zc (Zl .kHold) (Zc (Cod.agg za0) (Zc Zi (Zc Zi (Zc Zb Zn))))
abbrev zas9 {R:Type}:Sm R:=semP zavv za3 (fun a=>qbm a.1 a.2.1 a.2.2.1 a.2.2.2.1 a.2.2.2.2.1)
def zab2 {R:Type}:Nat→Sm R:=cl 246 zakl c0
abbrev zwx:=mkld [] [] [2,4,6,11,18,19,20] [6] [] (Zs 2 Zi (Zs 4 Zb (Zp 6 6 (Zs 11 Zi (Zs 18 (Zl .kHold) (Zs 19 Zi (Zs 20 Zi (Zx 6 za0 Zz)))))))) zai9 (.xs 0 [11] [] [] (Zs 11 Zi Zz) (.r [10] [] [] (Zs 10 Zi Zz)))
def zrf {R:Type}:Lp Kd El R:=lp 3 zwx.sem l0
abbrev zauq {R:Type}:Sm R:=semP zak2 za3 (fun a=>qeq a.1 a.2.1)
abbrev z9h {R:Type}:Sm R:=semP zaga zav (fun a=>qd6 a.1 a.2.1)
abbrev zaak:ZC ((List Hold)×((Unit)×(Int×Unit))×Unit):=Zc (Zl .kHold) (Zc (Cod.fnc 247 (Zn) (Zc (Cod.cptr (CC.one Zi)) Zn)) Zn)
abbrev z8c {R:Type}:Sm R:=semP zaak za3 (fun a=>qb (fun g x0=>qd6 x0 g.2.1) a.1 a.2.1)
def zyf {R:Type}:Nat→Sm R:=cl 247 z9h c0
abbrev zl1:=mkld [] [] [0,1,7,8] [] [] (Zs 0 (Zl .kHold) (Zs 1 (Cod.fnc 247 (Zn) (Zc (Cod.cptr (CC.one Zi)) Zn)) (Zs 7 Zi (Zs 8 Zi Zz)))) (zkd (fun g x0=>qd6 x0 g.2.1)) (.xs 0 [] [] [] Zz (.r [4] [] [] (Zs 4 Zi Zz)))
def zjr {R:Type}:Lp Kd El R:=lp 2 zl1.sem l0
abbrev z0x:ZC ((List Hold)×Int×Unit):=Zc (Zl .kHold) (Zc Zi Zn)
abbrev zas8 {R:Type}:Sm R:=semP z0x za3 (fun a=>qbl a.1 a.2.1)
abbrev zaut {R:Type}:Sm R:=semP z0x z7c (fun a=>qeu a.1 a.2.1)
abbrev z02:ZC (Unit×Int×Int×Unit):=Zc (Cod.ptrc 100000) (Zc Zi (Zc Zi Zn))
abbrev zatq {R:Type}:Sm R:=semM z02 (BC.one zaw) zli (fun a b=>qcs a.2.1 a.2.2.1 b)
abbrev zaul {R:Type}:Sm R:=semP zlp zav (fun a=>qek a.1 a.2.1)
abbrev zavp:ZC (Rule×Int×Int×Int×Unit):=Zc (Cod.agg zdd) (Zc Zi (Zc Zi (Zc Zi Zn)))
abbrev z78 {R:Type}:Sm R:=semP zavp zav (fun a=>qb5 a.1 a.2.1 a.2.2.1 a.2.2.2.1)
abbrev z8k {R:Type}:Sm R:=semP z0y za3 (fun a=>qbh a.1)
def zabz {R:Type}:Nat→Sm R:=c0
abbrev zwu:=mkld [] [] [3,12,13,14] [] [12] (Zs 3 Zi (FC.arr 12 12 (Zs 13 Zi (Zs 14 Zi (FC.own 12 Kd.ki64 false Zz))))) zai6 (.x 0 [3] [] [] (Zs 3 Zi Zz))
def zrc {R:Type}:Lp Kd El R:=lp 3 zwu.sem l0
abbrev zaf2:ZC ((List Rule)×Int×Int×Int×Unit):=Zc (Zl .kRule) (Zc Zi (Zc Zi (Zc Zi Zn)))
abbrev zasj {R:Type}:Sm R:=semP zaf2 za3 (fun a=>qa7 a.1 a.2.1 a.2.2.1 a.2.2.2.1)
def zaa6 {R:Type}:Nat→Sm R:=cl 261 z78 (cl 262 z8k c0)
abbrev zv0:=mkld [] [] [0,1,2,3,9,12,13,14] [] [] (Zs 0 (Zl .kRule) (Zs 1 Zi (Zs 2 Zi (Zs 3 Zi (Zs 9 Zi (Zs 12 (Zl .kRule) (Zs 13 Zi (Zs 14 Zi Zz)))))))) zaip (.x 0 [9] [] [] (Zs 9 Zi Zz))
def zqp {R:Type}:Lp Kd El R:=lp 3 zv0.sem l0
abbrev zaj2:ZD (Rule×Bool):=(Cod.tup2 (Zc (Cod.agg zdd) (Zc Zb Zn)))
abbrev zatv {R:Type}:Sm R:=semP zaf2 zaj2 (fun a=>qd5 a.1 a.2.1 a.2.2.1 a.2.2.2.1)
abbrev zawc:ZC (Circ×Int×Item×Unit):=Zc (Cod.agg zag) (Zc Zi (Zc (Cod.agg za0) Zn))
abbrev zatr {R:Type}:Sm R:=semP zawc zaj2 (fun a=>qcy a.1 a.2.1 a.2.2.1)
abbrev za0i:ZD (Calendar):=(Cod.agg zay)
abbrev zats {R:Type}:Sm R:=semP zk7 za0i (fun a=>qcz a.1 a.2.1)
abbrev zat6 {R:Type}:Sm R:=semP zb7 zav (fun a=>qdl a.1)
abbrev z9r {R:Type}:Sm R:=semP zlp zav (fun a=>qe3 a.1 a.2.1)
abbrev z9x {R:Type}:Sm R:=semP zb7 zav (fun a=>qeh a.1)
abbrev zavk:ZC ((List Int)×Int×Unit):=Zc (Zl .ki64) (Zc Zi Zn)
abbrev za0d:ZD (Int×Bool):=(Cod.tup2 (Zc Zi (Zc Zb Zn)))
abbrev zasu {R:Type}:Sm R:=semP zavk za0d (fun a=>qav a.1 a.2.1)
def zabp {R:Type}:Nat→Sm R:=cl 271 z9r (cl 272 z9x c0)
abbrev zwl:=mkld [] [] [0,1,6,7,8] [] [] (Zs 0 (Zl .ki64) (Zs 1 Zi (Zs 6 Zi (Zs 7 Zi (Zs 8 Zi Zz))))) zaix (.x 0 [0,1,6,7] [] [] (Zs 0 (Zl .ki64) (Zs 1 Zi (Zs 6 Zi (Zs 7 Zi Zz)))))
def zq2 {R:Type}:Lp Kd El R:=lp 3 zwl.sem l0
abbrev za0c:ZD ((V7 Bool)):=(Cod.agg zbr)
abbrev z7y {R:Type}:Sm R:=semP zak1 za0c (fun a=>qas a.1)
def zabm {R:Type}:Nat→Sm R:=c0
abbrev zwi:=mkld [] [] [1,2,3,5] [1,2,3] [] (Zp 1 1 (Zp 2 2 (Zp 3 3 (Zs 5 Zi (Zx 1 zay (Zx 2 zbr (Zx 3 zbr Zz))))))) zaiw (.x 0 [2,3] [2,3] [] (Zp 2 2 (Zp 3 3 (Zx 2 zbr (Zx 3 zbr Zz)))))
def zqz {R:Type}:Lp Kd El R:=lp 3 zwi.sem l0
abbrev zau4 {R:Type}:Sm R:=semP zb7 zav (fun a=>qfi a.1)
abbrev z8x {R:Type}:Sm R:=semP zb7 za3 (fun a=>qc9 a.1)
abbrev z00:ZC (Calendar×Int×Unit):=Zc (Cod.agg zay) (Zc Zi Zn)
abbrev zuj {R:Type}:Sm R:=semP z00 zav (fun a=>qce a.1 a.2.1)
abbrev z71 {R:Type}:Sm R:=semP z00 zkp (fun a=>qaw a.1 a.2.1)
def zabq {R:Type}:Nat→Sm R:=cl 249 zuj c0
abbrev zwm:=mkld [] [] [2,6] [2] [] (Zp 2 2 (Zs 6 Zi (Zx 2 zay Zz))) zaiy (.xs 0 [] [] [] Zz (.r [4,5] [] [] (Zs 4 Zi (Zs 5 Zi Zz))))
def zq3 {R:Type}:Lp Kd El R:=lp 2 zwm.sem l0
abbrev zaf1:ZC (Calendar×Int×Int×Unit):=Zc (Cod.agg zay) (Zc Zi (Zc Zi Zn))
abbrev zasi {R:Type}:Sm R:=semP zaf1 zkp (fun a=>qa5 a.1 a.2.1 a.2.2.1)
def zaa4 {R:Type}:Nat→Sm R:=cl 143 z8s (cl 221 z71 c0)
abbrev zvy:=mkld [] [] [3,8,28,29] [3] [] (Zp 3 3 (Zs 8 Zi (Zs 28 Zi (Zs 29 Zi (Zx 3 zay Zz))))) zain (.xs 0 [8] [] [] (Zs 8 Zi Zz) (.r [6,7] [] [] (Zs 6 Zi (Zs 7 Zi Zz))))
def zqn {R:Type}:Lp Kd El R:=lp 9 zvy.sem l0
abbrev zauz {R:Type}:Sm R:=semM z02 (BC.one zaw) za3 (fun a b=>qfd a.2.1 a.2.2.1 b)
abbrev zav6:ZC (Hold×Int×Int×Unit):=Zc (Cod.agg zbq) (Zc (Cod.cptr (CC.one Zi)) (Zc (Cod.cptr (CC.one Zi)) Zn))
abbrev z86 {R:Type}:Sm R:=semP zav6 zav (fun a=>qcl a.1 a.2.1 a.2.2.1)
abbrev zuz:ZC ((List Hold)×((Unit)×(Int×Int×Unit))×Unit):=Zc (Zl .kHold) (Zc (Cod.fnc 215 (Zn) (Zc (Cod.cptr (CC.one Zi)) (Zc (Cod.cptr (CC.one Zi)) Zn))) Zn)
abbrev z8d {R:Type}:Sm R:=semP zuz za3 (fun a=>qb (fun g x0=>qcl x0 g.2.1 g.2.2.1) a.1 a.2.1)
def zyg {R:Type}:Nat→Sm R:=cl 215 z86 c0
abbrev zl2:=mkld [] [] [0,1,7,8] [] [] (Zs 0 (Zl .kHold) (Zs 1 (Cod.fnc 215 (Zn) (Zc (Cod.cptr (CC.one Zi)) (Zc (Cod.cptr (CC.one Zi)) Zn))) (Zs 7 Zi (Zs 8 Zi Zz)))) (zkd (fun g x0=>qcl x0 g.2.1 g.2.2.1)) (.xs 0 [] [] [] Zz (.r [4] [] [] (Zs 4 Zi Zz)))
def zjs {R:Type}:Lp Kd El R:=lp 2 zl2.sem l0
abbrev zasy {R:Type}:Sm R:=semP zuz zav (fun a=>qb1 (fun g x0=>qcl x0 g.2.1 g.2.2.1) a.1 a.2.1)
abbrev zaui {R:Type}:Sm R:=semP zak0 zafk (fun a=>qef a.1)
abbrev zawp:ZC ((List Hold)×Int×Hold×Unit):=Zc (Zl .kHold) (Zc Zi (Zc (Cod.agg zbq) Zn))
abbrev zaus {R:Type}:Sm R:=semP zawp zafk (fun a=>qet a.1 a.2.1 a.2.2.1)
abbrev zavm:ZC ((List Hold)×Int×Int×Int×Int×Unit):=Zc (Zl .kHold) (Zc Zi (Zc Zi (Zc Zi (Zc Zi Zn))))
abbrev za0f:ZD ((List Hold)×Int):=(Cod.tup2 (Zc (Zl .kHold) (Zc Zi Zn)))
abbrev zasw {R:Type}:Sm R:=semP zavm za0f (fun a=>qaz a.1 a.2.1 a.2.2.1 a.2.2.2.1 a.2.2.2.2.1)
abbrev zawb:ZC (Unit×(List Hold)×Int×Unit):=Zc (Cod.ptrc 100000) (Zc (Zl .kHold) (Zc Zi Zn))
abbrev zato {R:Type}:Sm R:=semM zawb (BC.one zaw) zli (fun a b=>qcq a.2.1 a.2.2.1 b)
abbrev zawh:ZC (Unit×Int×Hold×Unit):=Zc (Cod.ptrc 100000) (Zc Zi (Zc (Cod.agg zbq) Zn))
abbrev zat4 {R:Type}:Sm R:=semM zawh (BC.one zaw) zli (fun a b=>qdj a.2.1 a.2.2.1 b)
abbrev zauj {R:Type}:Sm R:=semM z1c (BC.one zaw) zli (fun a b=>qeg a.2.1 b)
abbrev zavi:ZC (Unit×Unit):=Zc (Cod.ptrc 100000) Zn
abbrev zash {R:Type}:Sm R:=semM zavi (BC.one zaw) zt7 (fun a b=>qa4 b)
abbrev zu4:ZC (Circ×Int×Int×Unit):=Zc (Cod.agg zag) (Zc Zi (Zc Zi Zn))
abbrev z9b {R:Type}:Sm R:=semP zu4 zt7 (fun a=>qcv a.1 a.2.1 a.2.2.1)
abbrev zavw:ZC ((List Charge)×Int×Unit):=Zc (Zl .kCharge) (Zc Zi Zn)
abbrev zata {R:Type}:Sm R:=semP zavw za3 (fun a=>qbn a.1 a.2.1)
def zab3 {R:Type}:Nat→Sm R:=c0
abbrev zwy:=mkld [] [] [1,5,8,9,10] [] [] (Zs 1 Zi (Zs 5 Zi (Zs 8 (Zl .kCharge) (Zs 9 Zi (Zs 10 Zi Zz))))) zaja (.x 0 [5] [] [] (Zs 5 Zi Zz))
def zrg {R:Type}:Lp Kd El R:=lp 3 zwy.sem l0
abbrev zru:ZD ((List Loan)):=(Zl .kLoan)
abbrev z7t {R:Type}:Sm R:=semP zim zru (fun a=>qaj a.1 a.2.1)
def zabg {R:Type}:Nat→Sm R:=c0
abbrev zwc:=mkld [(5,5,Kd.kLoan)] [] [1,5,8,9,10] [] [5] (Zs 1 Zi (FC.arr 5 5 (Zs 8 (Zl .kLoan) (Zs 9 Zi (Zs 10 Zi (FC.own 5 Kd.kLoan false Zz)))))) zaiv (.x 0 [5] [] [5] (FC.arr 5 5 (FC.own 5 Kd.kLoan false Zz)))
def zqt {R:Type}:Lp Kd El R:=lp 3 zwc.sem l0
abbrev zaf4:ZC ((List Loan)×Int×Int×Unit):=Zc (Zl .kLoan) (Zc Zi (Zc Zi Zn))
abbrev zas1 {R:Type}:Sm R:=semP zaf4 za3 (fun a=>qbd a.1 a.2.1 a.2.2.1)
def zabw {R:Type}:Nat→Sm R:=cl 163 z7t c0
abbrev zwr:=mkld [] [] [2,7,12,13,14] [] [] (Zs 2 Zi (Zs 7 Zi (Zs 12 (Zl .kLoan) (Zs 13 Zi (Zs 14 Zi Zz))))) zai3 (.x 0 [7] [] [] (Zs 7 Zi Zz))
def zq9 {R:Type}:Lp Kd El R:=lp 3 zwr.sem l0
abbrev zavt:ZC (Patron×Int×Int×Int×Unit):=Zc (Cod.agg zbe) (Zc Zi (Zc Zi (Zc Zi Zn)))
abbrev zas3 {R:Type}:Sm R:=semP zavt zxx (fun a=>qbf a.1 a.2.1 a.2.2.1 a.2.2.2.1)
def zaby {R:Type}:Nat→Sm R:=c0
abbrev zwt:=mkld [(9,9,Kd.ki64)] [] [9,22,23,24] [] [9,22] (FC.arr 9 9 (FC.arr 22 22 (Zs 23 Zi (Zs 24 Zi (FC.own 9 Kd.ki64 false (FC.own 22 Kd.kbool false Zz)))))) zai5 (.x 0 [9] [] [9] (FC.arr 9 9 (FC.own 9 Kd.ki64 false Zz)))
def zrb {R:Type}:Lp Kd El R:=lp 3 zwt.sem l0
abbrev zau3 {R:Type}:Sm R:=semP zage zav (fun a=>qfh a.1 a.2.1)
abbrev zatc {R:Type}:Sm R:=semP z00 zkp (fun a=>qbs a.1 a.2.1)
def zab7 {R:Type}:Nat→Sm R:=cl 249 zuj c0
abbrev zw2:=mkld [] [] [2,6] [2] [] (Zp 2 2 (Zs 6 Zi (Zx 2 zay Zz))) zajd (.xs 0 [] [] [] Zz (.r [4,5] [] [] (Zs 4 Zi (Zs 5 Zi Zz))))
def zrk {R:Type}:Lp Kd El R:=lp 2 zw2.sem l0
abbrev zagc:ZC (Rule×Calendar×Int×Int×Unit):=Zc (Cod.agg zdd) (Zc (Cod.agg zay) (Zc Zi (Zc Zi Zn)))
abbrev zatw {R:Type}:Sm R:=semP zagc zkp (fun a=>qd8 a.1 a.2.1 a.2.2.1 a.2.2.2.1)
abbrev zawm:ZC (Circ×Item×Patron×Int×Unit):=Zc (Cod.agg zag) (Zc (Cod.agg za0) (Zc (Cod.agg zbe) (Zc Zi Zn)))
abbrev zaum {R:Type}:Sm R:=semP zawm zkp (fun a=>qem a.1 a.2.1 a.2.2.1 a.2.2.2.1)
abbrev zav8:ZC (Loan×Loan×Unit):=Zc (Cod.agg zcx) (Zc (Cod.cptr zcx) Zn)
abbrev z88 {R:Type}:Sm R:=semP zav8 zav (fun a=>qcn a.1 a.2.1)
abbrev zm3:ZC ((List Loan)×((Unit)×(Loan×Unit))×Unit):=Zc (Zl .kLoan) (Zc (Cod.fnc 166 (Zn) (Zc (Cod.cptr zcx) Zn)) Zn)
abbrev z95 {R:Type}:Sm R:=semP zm3 za3 (fun a=>qk (fun g x0=>qcn x0 g.2.1) a.1 a.2.1)
def zyo {R:Type}:Nat→Sm R:=cl 166 z88 c0
abbrev zmb:=mkld [] [] [0,1,7,8] [] [] (Zs 0 (Zl .kLoan) (Zs 1 (Cod.fnc 166 (Zn) (Zc (Cod.cptr zcx) Zn)) (Zs 7 Zi (Zs 8 Zi Zz)))) (ztz (fun g x0=>qcn x0 g.2.1)) (.xs 0 [] [] [] Zz (.r [4] [] [] (Zs 4 Zi Zz)))
def zjz {R:Type}:Lp Kd El R:=lp 2 zmb.sem l0
abbrev z0n {R:Type}:Sm R:=semP zm3 zajw (fun a=>qb2 (fun g x0=>qcn x0 g.2.1) a.1 a.2.1)
abbrev zauh {R:Type}:Sm R:=semP zuw zru (fun a=>qee a.1)
abbrev z08:ZC ((List Loan)×Int×(List Loan)×Unit):=Zc (Zl .kLoan) (Zc Zi (Zc (Zl .kLoan) Zn))
abbrev zakc:ZD ((List Loan)):=zru
def zaih (a:(List Loan)×Int×(List Loan)×Unit):Option ((List Loan)):=qdw a.1 a.2.1 a.2.2.1
abbrev za1o {R:Type}:Sm R:=semP z08 zakc zaih
abbrev zaj1:ZD ((List Loan)×Int):=(Cod.tup2 (Zc (Zl .kLoan) (Zc Zi Zn)))
abbrev zatu {R:Type}:Sm R:=semP zuw zaj1 (fun a=>qd4 a.1)
abbrev zavx:ZC ((List Loan)×Loan×Unit):=Zc (Zl .kLoan) (Zc (Cod.agg zcx) Zn)
abbrev zate {R:Type}:Sm R:=semP zavx zaj1 (fun a=>qbw a.1 a.2.1)
abbrev zawa:ZC (Unit×(List Loan)×Int×Unit):=Zc (Cod.ptrc 100000) (Zc (Zl .kLoan) (Zc Zi Zn))
abbrev zatn {R:Type}:Sm R:=semM zawa (BC.one zaw) zli (fun a b=>qcp a.2.1 a.2.2.1 b)
abbrev z1b:ZC ((List Hold)×Int×Int×Unit):=zawq
abbrev zakf:ZD ((List Hold)):=zafk
def zaik (a:(List Hold)×Int×Int×Unit):Option ((List Hold)):=qdz a.1 a.2.1 a.2.2.1
abbrev za1r {R:Type}:Sm R:=semP z1b zakf zaik
abbrev za0l:ZD ((List Hold)×Hold×Int):=(Cod.tup3 (Zc (Zl .kHold) (Zc (Cod.agg zbq) (Zc Zi Zn))))
abbrev zaun {R:Type}:Sm R:=semP z0x za0l (fun a=>qen a.1 a.2.1)
abbrev zauv {R:Type}:Sm R:=semM z1c (BC.one zaw) zli (fun a b=>qez a.2.1 b)
abbrev z7d:ZD (Circ×Int×Int):=(Cod.tup3 (Zc (Cod.agg zag) (Zc Zi (Zc Zi Zn))))
abbrev zatj {R:Type}:Sm R:=semM z1c (BC.one zaw) z7d (fun a b=>qcd a.2.1 b)
abbrev zawo:ZC (Hold×Item×Unit):=Zc (Cod.agg zbq) (Zc (Cod.agg za0) Zn)
abbrev zaur {R:Type}:Sm R:=semP zawo zav (fun a=>qer a.1 a.2.1)
abbrev zawe:ZC (Hold×Int×Item×Unit):=Zc (Cod.agg zbq) (Zc (Cod.cptr (CC.one Zi)) (Zc (Cod.cptr za0) Zn))
abbrev z9j {R:Type}:Sm R:=semP zawe zav (fun a=>qdb a.1 a.2.1 a.2.2.1)
abbrev zaal:ZC ((List Hold)×((Unit)×(Int×Item×Unit))×Unit):=Zc (Zl .kHold) (Zc (Cod.fnc 111 (Zn) (Zc (Cod.cptr (CC.one Zi)) (Zc (Cod.cptr za0) Zn))) Zn)
abbrev z8e {R:Type}:Sm R:=semP zaal za3 (fun a=>qb (fun g x0=>qdb x0 g.2.1 g.2.2.1) a.1 a.2.1)
def zyh {R:Type}:Nat→Sm R:=cl 111 z9j c0
abbrev zl3:=mkld [] [] [0,1,7,8] [] [] (Zs 0 (Zl .kHold) (Zs 1 (Cod.fnc 111 (Zn) (Zc (Cod.cptr (CC.one Zi)) (Zc (Cod.cptr za0) Zn))) (Zs 7 Zi (Zs 8 Zi Zz)))) (zkd (fun g x0=>qdb x0 g.2.1 g.2.2.1)) (.xs 0 [] [] [] Zz (.r [4] [] [] (Zs 4 Zi Zz)))
def zjt {R:Type}:Lp Kd El R:=lp 2 zl3.sem l0
abbrev zaf7:ZC (Circ×Int×Int×Int×Unit):=Zc (Cod.agg zag) (Zc Zi (Zc Zi (Zc Zi Zn)))
abbrev z8o {R:Type}:Sm R:=semP zaf7 z7d (fun a=>qbv a.1 a.2.1 a.2.2.1 a.2.2.2.1)
abbrev z1a:ZC ((List Loan)×Int×Int×Unit):=zaf4
abbrev zake:ZD ((List Loan)):=zru
def zaij (a:(List Loan)×Int×Int×Unit):Option ((List Loan)):=qdy a.1 a.2.1 a.2.2.1
abbrev za1q {R:Type}:Sm R:=semP z1a zake zaij
abbrev zauw {R:Type}:Sm R:=semP zim zru (fun a=>qfa a.1 a.2.1)
abbrev zaj5:ZD ((List Loan)×Loan×Int):=(Cod.tup3 (Zc (Zl .kLoan) (Zc (Cod.agg zcx) (Zc Zi Zn))))
abbrev zaty {R:Type}:Sm R:=semP zim zaj5 (fun a=>qdd a.1 a.2.1)
abbrev z9z {R:Type}:Sm R:=semP zlp za3 (fun a=>qel a.1 a.2.1)
abbrev zasl {R:Type}:Sm R:=semP zaf1 za3 (fun a=>qad a.1 a.2.1 a.2.2.1)
def zabb {R:Type}:Nat→Sm R:=cl 251 z7y (cl 252 z9z (cl 253 z8x c0))
abbrev zv6:=mkld [] [] [1,2,3,7,8,22,23] [3,7] [] (Zs 1 Zi (Zs 2 Zi (Zp 3 3 (Zp 7 7 (Zs 8 Zi (Zs 22 (Cod.agg zbr) (Zs 23 Zi (Zx 3 zay (Zx 7 zbr Zz))))))))) zais (.x 0 [1,2,3,7,8] [3,7] [] (Zs 1 Zi (Zs 2 Zi (Zp 3 3 (Zp 7 7 (Zs 8 Zi (Zx 3 zay (Zx 7 zbr Zz))))))))
abbrev zqc:=mkld [] [] [1,2,7,8,40,41,42] [7] [] (Zs 1 Zi (Zs 2 Zi (Zp 7 7 (Zs 8 Zi (Zs 40 (Zl .ki64) (Zs 41 Zi (Zs 42 Zi (Zx 7 zbr Zz)))))))) z62 (.x 2 [8] [] [] (Zs 8 Zi Zz))
def zjo {R:Type}:Lp Kd El R:=lp 13 zqc.sem (lp 7 zv6.sem l0)
abbrev zau8 {R:Type}:Sm R:=semP zagc za3 (fun a=>qfm a.1 a.2.1 a.2.2.1 a.2.2.2.1)
abbrev zawf:ZC ((List Charge)×Charge×Unit):=Zc (Zl .kCharge) (Zc (Cod.agg zdp) Zn)
abbrev zaj6:ZD ((List Charge)×Int):=(Cod.tup2 (Zc (Zl .kCharge) (Zc Zi Zn)))
abbrev zat0 {R:Type}:Sm R:=semP zawf zaj6 (fun a=>qdf a.1 a.2.1)
abbrev zaux {R:Type}:Sm R:=semM zaf5 (BC.one zaw) zli (fun a b=>qfb a.2.1 a.2.2.1 a.2.2.2.1 a.2.2.2.2.1 b)
abbrev zav0:ZC (Charge×Int×Int×Int×Unit):=Zc (Cod.agg zdp) (Zc (Cod.cptr (CC.one Zi)) (Zc (Cod.cptr (CC.one Zi)) (Zc (Cod.cptr (CC.one Zi)) Zn)))
abbrev z8u {R:Type}:Sm R:=semP zav0 zav (fun a=>qc6 a.1 a.2.1 a.2.2.1 a.2.2.2.1)
abbrev zavl:ZC ((List Charge)×((Unit)×(Int×Int×Int×Unit))×Unit):=Zc (Zl .kCharge) (Zc (Cod.fnc 230 (Zn) (Zc (Cod.cptr (CC.one Zi)) (Zc (Cod.cptr (CC.one Zi)) (Zc (Cod.cptr (CC.one Zi)) Zn)))) Zn)
abbrev za0e:ZD ((List Charge)×Int×Int):=(Cod.tup3 (Zc (Zl .kCharge) (Zc Zi (Zc Zi Zn))))
abbrev zasv {R:Type}:Sm R:=semP zavl za0e (fun a=>qay (fun g x0=>qc6 x0 g.2.1 g.2.2.1 g.2.2.2.1) a.1 a.2.1)
def zabs {R:Type}:Nat→Sm R:=cl 230 z8u c0
abbrev zwo:=mkld [(4,4,Kd.kCharge)] [] [1,4,5,6,9,10,11] [] [4] (Zs 1 (Cod.fnc 230 (Zn) (Zc (Cod.cptr (CC.one Zi)) (Zc (Cod.cptr (CC.one Zi)) (Zc (Cod.cptr (CC.one Zi)) Zn)))) (FC.arr 4 4 (Zs 5 Zi (Zs 6 Zi (Zs 9 (Zl .kCharge) (Zs 10 Zi (Zs 11 Zi (FC.own 4 Kd.kCharge false Zz)))))))) (zai0 (fun g x0=>qc6 x0 g.2.1 g.2.2.1 g.2.2.2.1)) (.x 0 [4,5,6] [] [4] (FC.arr 4 4 (Zs 5 Zi (Zs 6 Zi (FC.own 4 Kd.kCharge false Zz)))))
def zq5 {R:Type}:Lp Kd El R:=lp 2 zwo.sem l0
abbrev zavy:ZC ((List Charge)×Int×Int×Int×Unit):=Zc (Zl .kCharge) (Zc Zi (Zc Zi (Zc Zi Zn)))
abbrev zath {R:Type}:Sm R:=semP zavy zaj6 (fun a=>qbz a.1 a.2.1 a.2.2.1 a.2.2.2.1)
abbrev zaud {R:Type}:Sm R:=semM z02 (BC.one zaw) zli (fun a b=>qe9 a.2.1 a.2.2.1 b)
abbrev z9t {R:Type}:Sm R:=semP zu4 z7d (fun a=>qe6 a.1 a.2.1 a.2.2.1)
abbrev za0g:ZD (Circ×Bool):=(Cod.tup2 (Zc (Cod.agg zag) (Zc Zb Zn)))
abbrev zas5 {R:Type}:Sm R:=semP z0z za0g (fun a=>qbi)
def zab0 {R:Type}:Nat→Sm R:=cl 52 z8w (cl 53 zaku (cl 54 z9b (cl 55 z8o (cl 56 z9t c0))))
abbrev zwv:=mkld [] [] [0,2,5,6] [0,2] [] (Zp 0 0 (Zp 2 2 (Zs 5 Zb (Zs 6 Zi (Zx 0 zag (Zx 2 zag Zz)))))) zai7 (.x 0 [0,2,5] [0,2] [] (Zp 0 0 (Zp 2 2 (Zs 5 Zb (Zx 0 zag (Zx 2 zag Zz))))))
def zrd {R:Type}:Lp Kd El R:=lp 6 zwv.sem l0
abbrev z8i {R:Type}:Sm R:=semP zk7 zkp (fun a=>qbb a.1 a.2.1)
def zabu {R:Type}:Nat→Sm R:=c0
abbrev zwq:=mkld [] [] [1,6,7,11,12,13] [] [] (Zs 1 Zi (Zs 6 Zi (Zs 7 Zi (Zs 11 (Zl .kMove) (Zs 12 Zi (Zs 13 Zi Zz)))))) zai2 (.x 0 [6,7] [] [] (Zs 6 Zi (Zs 7 Zi Zz)))
def zq7 {R:Type}:Lp Kd El R:=lp 3 zwq.sem l0
abbrev z73 {R:Type}:Sm R:=semP zk7 za3 (fun a=>qax a.1 a.2.1)
def zabr {R:Type}:Nat→Sm R:=c0
abbrev zwn:=mkld [] [] [1,5,9,10,11] [] [] (Zs 1 Zi (Zs 5 Zi (Zs 9 (Zl .kItem) (Zs 10 Zi (Zs 11 Zi Zz))))) zaiz (.x 0 [5] [] [] (Zs 5 Zi Zz))
def zq4 {R:Type}:Lp Kd El R:=lp 3 zwn.sem l0
abbrev zav3:ZC (Hold×Item×Unit):=Zc (Cod.agg zbq) (Zc (Cod.cptr za0) Zn)
abbrev z84 {R:Type}:Sm R:=semP zav3 zav (fun a=>qci a.1 a.2.1)
abbrev zu0:ZC ((List Hold)×((Unit)×(Item×Unit))×Unit):=Zc (Zl .kHold) (Zc (Cod.fnc 58 (Zn) (Zc (Cod.cptr za0) Zn)) Zn)
abbrev z8f {R:Type}:Sm R:=semP zu0 za3 (fun a=>qb (fun g x0=>qci x0 g.2.1) a.1 a.2.1)
def zyi {R:Type}:Nat→Sm R:=cl 58 z84 c0
abbrev zl4:=mkld [] [] [0,1,7,8] [] [] (Zs 0 (Zl .kHold) (Zs 1 (Cod.fnc 58 (Zn) (Zc (Cod.cptr za0) Zn)) (Zs 7 Zi (Zs 8 Zi Zz)))) (zkd (fun g x0=>qci x0 g.2.1)) (.xs 0 [] [] [] Zz (.r [4] [] [] (Zs 4 Zi Zz)))
def zju {R:Type}:Lp Kd El R:=lp 2 zl4.sem l0
abbrev zmx {R:Type}:Sm R:=semP zu0 zav (fun a=>qb1 (fun g x0=>qci x0 g.2.1) a.1 a.2.1)
abbrev zauk {R:Type}:Sm R:=semP zlp za3 (fun a=>qei a.1 a.2.1)
abbrev zavu:ZC ((List Int)×Unit):=Zc (Zl .ki64) Zn
abbrev zas7 {R:Type}:Sm R:=semP zavu za3 (fun a=>qbk a.1)
def zab1 {R:Type}:Nat→Sm R:=c0
abbrev zww:=mkld [] [] [3,6,7,8] [] [] (Zs 3 Zi (Zs 6 (Zl .ki64) (Zs 7 Zi (Zs 8 Zi Zz)))) zai8 (.xs 0 [3] [] [] (Zs 3 Zi Zz) (.r [2] [] [] (Zs 2 Zi Zz)))
def zre {R:Type}:Lp Kd El R:=lp 3 zww.sem l0
abbrev zawl:ZC (Weed_candidate×Weed_candidate×Unit):=Zc (Cod.agg zbs) (Zc (Cod.agg zbs) Zn)
abbrev zaug {R:Type}:Sm R:=semP zawl za3 (fun a=>qed a.1 a.2.1)
abbrev z05:ZC ((List Weed_candidate)×((Unit)×(Unit))×Unit):=Zc (Zl .kWeed_candidate) (Zc (Cod.fnc 60 (Zn) (Zn)) Zn)
abbrev zaj7:ZD (List Weed_candidate):=(Zl .kWeed_candidate)
def zaie (a:(List Weed_candidate)×((Unit)×(Unit))×Unit):Option (List Weed_candidate):=qdg (fun g x0 x1=>qed x0 x1) a.1 a.2.1
abbrev zat1 {R:Type}:Sm R:=semP z05 zaj7 zaie
abbrev za1k:ZD ((List Weed_candidate)):=(Zl .kWeed_candidate)
abbrev z94 {R:Type}:Sm R:=semP zu4 za1k (fun a=>qi a.1 a.2.1 a.2.2.1)
def zall {R:Type}:Nat→Sm R:=cl 11 z8i (cl 57 zmx (cl 59 zat1 c0))
abbrev z5c:=mkld [(7,7,Kd.kWeed_candidate)] [] [1,2,3,7,14,15,16] [3] [7] (Zs 1 Zi (Zs 2 Zi (Zp 3 3 (FC.arr 7 7 (Zs 14 (Zl .kItem) (Zs 15 Zi (Zs 16 Zi (Zx 3 zag (FC.own 7 Kd.kWeed_candidate false Zz))))))))) zazz (.x 0 [7] [] [7] (FC.arr 7 7 (FC.own 7 Kd.kWeed_candidate false Zz)))
def zxn {R:Type}:Lp Kd El R:=lp 3 z5c.sem l0
abbrev zas2 {R:Type}:Sm R:=semP zu4 zxx (fun a=>qbe a.1 a.2.1 a.2.2.1)
def zabx {R:Type}:Nat→Sm R:=cl 27 z94 c0
abbrev zws:=mkld [(7,7,Kd.ki64)] [] [7,13,14,15] [] [7] (FC.arr 7 7 (Zs 13 (Zl .kWeed_candidate) (Zs 14 Zi (Zs 15 Zi (FC.own 7 Kd.ki64 false Zz))))) zai4 (.x 0 [7] [] [7] (FC.arr 7 7 (FC.own 7 Kd.ki64 false Zz)))
def zra {R:Type}:Lp Kd El R:=lp 3 zws.sem l0
abbrev zavj:ZC ((List Int)×(List Int)×Unit):=Zc (Zl .ki64) (Zc (Zl .ki64) Zn)
abbrev zasq {R:Type}:Sm R:=semP zavj zav (fun a=>qak a.1 a.2.1)
def zabh {R:Type}:Nat→Sm R:=c0
abbrev zwd:=mkld [] [] [0,1,5] [] [] (Zs 0 (Zl .ki64) (Zs 1 (Zl .ki64) (Zs 5 Zi Zz))) zml (.xs 0 [] [] [] Zz (.r [4] [] [] (Zs 4 Zb Zz)))
def zqu {R:Type}:Lp Kd El R:=lp 4 zwd.sem l0
abbrev z8q {R:Type}:Sm R:=semP zagb zav (fun a=>qc2 a.1 a.2.1)
abbrev zu2:ZC ((List Item)×((Unit)×(Int×Unit))×Unit):=Zc (Zl .kItem) (Zc (Cod.fnc 32 (Zn) (Zc (Cod.cptr (CC.one Zi)) Zn)) Zn)
abbrev z8z {R:Type}:Sm R:=semP zu2 za3 (fun a=>qc (fun g x0=>qc2 x0 g.2.1) a.1 a.2.1)
def zyl {R:Type}:Nat→Sm R:=cl 32 z8q c0
abbrev zl7:=mkld [] [] [0,1,7,8] [] [] (Zs 0 (Zl .kItem) (Zs 1 (Cod.fnc 32 (Zn) (Zc (Cod.cptr (CC.one Zi)) Zn)) (Zs 7 Zi (Zs 8 Zi Zz)))) (zom (fun g x0=>qc2 x0 g.2.1)) (.xs 0 [] [] [] Zz (.r [4] [] [] (Zs 4 Zi Zz)))
def zjx {R:Type}:Lp Kd El R:=lp 2 zl7.sem l0
abbrev z83 {R:Type}:Sm R:=semP zu2 zav (fun a=>qch (fun g x0=>qc2 x0 g.2.1) a.1 a.2.1)
abbrev zawi:ZC (Item×Int×Unit):=Zc (Cod.agg za0) (Zc Zi Zn)
abbrev zat7 {R:Type}:Sm R:=semP zawi zav (fun a=>qdn a.1 a.2.1)
abbrev z9i {R:Type}:Sm R:=semP zaf9 zav (fun a=>qda a.1 a.2.1)
abbrev zu3:ZC ((List Item)×((Unit)×(Item×Unit))×Unit):=Zc (Zl .kItem) (Zc (Cod.fnc 118 (Zn) (Zc (Cod.cptr za0) Zn)) Zn)
abbrev z80 {R:Type}:Sm R:=semP zu3 za3 (fun a=>qc (fun g x0=>qda x0 g.2.1) a.1 a.2.1)
def zym {R:Type}:Nat→Sm R:=cl 118 z9i c0
abbrev zl8:=mkld [] [] [0,1,7,8] [] [] (Zs 0 (Zl .kItem) (Zs 1 (Cod.fnc 118 (Zn) (Zc (Cod.cptr za0) Zn)) (Zs 7 Zi (Zs 8 Zi Zz)))) (zom (fun g x0=>qda x0 g.2.1)) (.xs 0 [] [] [] Zz (.r [4] [] [] (Zs 4 Zi Zz)))
def zjy {R:Type}:Lp Kd El R:=lp 2 zl8.sem l0
abbrev z0o {R:Type}:Sm R:=semP zu3 zav (fun a=>qch (fun g x0=>qda x0 g.2.1) a.1 a.2.1)
abbrev zav7:ZC (Hold×Item×Bool×Unit):=Zc (Cod.agg zbq) (Zc (Cod.cptr za0) (Zc (Cod.cptr (CC.one Zb)) Zn))
abbrev z87 {R:Type}:Sm R:=semP zav7 zav (fun a=>qcm a.1 a.2.1 a.2.2.1)
abbrev zu1:ZC ((List Hold)×((Unit)×(Item×Bool×Unit))×Unit):=Zc (Zl .kHold) (Zc (Cod.fnc 120 (Zn) (Zc (Cod.cptr za0) (Zc (Cod.cptr (CC.one Zb)) Zn))) Zn)
abbrev z8g {R:Type}:Sm R:=semP zu1 za3 (fun a=>qb (fun g x0=>qcm x0 g.2.1 g.2.2.1) a.1 a.2.1)
def zyj {R:Type}:Nat→Sm R:=cl 120 z87 c0
abbrev zl5:=mkld [] [] [0,1,7,8] [] [] (Zs 0 (Zl .kHold) (Zs 1 (Cod.fnc 120 (Zn) (Zc (Cod.cptr za0) (Zc (Cod.cptr (CC.one Zb)) Zn))) (Zs 7 Zi (Zs 8 Zi Zz)))) (zkd (fun g x0=>qcm x0 g.2.1 g.2.2.1)) (.xs 0 [] [] [] Zz (.r [4] [] [] (Zs 4 Zi Zz)))
def zjv {R:Type}:Lp Kd El R:=lp 2 zl5.sem l0
abbrev z0m {R:Type}:Sm R:=semP zu1 zav (fun a=>qb1 (fun g x0=>qcm x0 g.2.1 g.2.2.1) a.1 a.2.1)
abbrev zasn {R:Type}:Sm R:=semP zak2 zav (fun a=>qaf a.1 a.2.1)
abbrev z9q {R:Type}:Sm R:=semP zk7 zt7 (fun a=>qe1 a.1 a.2.1)
abbrev zaky:ZC (Circ×(List Int)×Unit):=Zc (Cod.agg zag) (Zc (Zl .ki64) Zn)
abbrev za0m:ZD (Circ×(List Int)×Int):=(Cod.tup3 (Zc (Cod.agg zag) (Zc (Zl .ki64) (Zc Zi Zn))))
abbrev za0t {R:Type}:Sm R:=semP zaky za0m (fun a=>qg a.1 a.2.1)
def zalj {R:Type}:Nat→Sm R:=cl 31 z83 (cl 33 z9q c0)
abbrev z48:=mkld [] [] [1,2,4,14,15,16] [2,4] [] (Zs 1 (Zl .ki64) (Zp 2 2 (Zp 4 4 (Zs 14 (Zl .ki64) (Zs 15 Zi (Zs 16 Zi (Zx 2 zag (Zx 4 zag Zz)))))))) z0c (.xs 0 [1,2,4] [2,4] [] (Zs 1 (Zl .ki64) (Zp 2 2 (Zp 4 4 (Zx 2 zag (Zx 4 zag Zz))))) (.r [5,6] [4] [4] (Zp 4 4 (Zs 5 (Zl .ki64) (Zs 6 Zi (Zx 4 zag Zz))))))
abbrev z49:=mkld [(9,9,Kd.ki64)] [] [2,4,9,27,28,29] [2,4] [9] (Zp 2 2 (Zp 4 4 (FC.arr 9 9 (Zs 27 (Zl .ki64) (Zs 28 Zi (Zs 29 Zi (Zx 2 zag (Zx 4 zag (FC.own 9 Kd.ki64 false Zz))))))))) zty (.x 2 [2,4,9] [2,4] [9] (Zp 2 2 (Zp 4 4 (FC.arr 9 9 (Zx 2 zag (Zx 4 zag (FC.own 9 Kd.ki64 false Zz)))))))
def zoe {R:Type}:Lp Kd El R:=lp 9 z49.sem (lp 2 z48.sem l0)
abbrev zatd {R:Type}:Sm R:=semP zaf7 zxx (fun a=>qbu a.1 a.2.1 a.2.2.1 a.2.2.2.1)
def zab8 {R:Type}:Nat→Sm R:=cl 13 z73 (cl 27 z94 c0)
abbrev zw3:=mkld [(9,9,Kd.ki64)] [] [3,4,9,10,17,18,19] [4] [9,13] (Zs 3 Zi (Zp 4 4 (FC.arr 9 9 (FC.arr 10 13 (Zs 17 (Zl .kWeed_candidate) (Zs 18 Zi (Zs 19 Zi (Zx 4 zag (FC.own 9 Kd.ki64 false (FC.map 13 Kd.kMapI Zz)))))))))) zajf (.x 0 [9] [] [9] (FC.arr 9 9 (FC.own 9 Kd.ki64 false Zz)))
def zrl {R:Type}:Lp Kd El R:=lp 4 zw3.sem l0
abbrev zauc {R:Type}:Sm R:=semP z0z zav (fun a=>qe4)
abbrev z8m {R:Type}:Sm R:=semP zk7 za3 (fun a=>qbp a.1 a.2.1)
def zab5 {R:Type}:Nat→Sm R:=c0
abbrev zw0:=mkld [] [] [1,2,5] [2] [] (Zs 1 Zi (Zp 2 2 (Zs 5 Zi (Zx 2 zag Zz)))) zmq (.xs 0 [] [] [] Zz (.r [4] [] [] (Zs 4 Zi Zz)))
def zri {R:Type}:Lp Kd El R:=lp 2 zw0.sem l0
abbrev zavs:ZC (Circ×Int×Int×Int×Int×Unit):=Zc (Cod.agg zag) (Zc Zi (Zc Zi (Zc Zi (Zc Zi Zn))))
abbrev z8j {R:Type}:Sm R:=semP zavs zt7 (fun a=>qbc a.1 a.2.1 a.2.2.1 a.2.2.2.1 a.2.2.2.2.1)
def zabv {R:Type}:Nat→Sm R:=cl 73 zmy (cl 124 zui c0)
abbrev zqe:=mkld [(16,16,Kd.kItem)] [] [5,10,12,13,14,16,17] [5,10,13,14] [16] (Zp 5 5 (Zp 10 10 (Zs 12 Zi (Zp 13 13 (Zp 14 14 (FC.arr 16 16 (Zs 17 Zi (Zx 5 zag (Zx 10 zag (Zx 13 zfb (Zx 14 zaz (FC.own 16 Kd.kItem false Zz)))))))))))) zf8 (.x 0 [5,10,13,16] [5,10,13] [16] (Zp 5 5 (Zp 10 10 (Zp 13 13 (FC.arr 16 16 (Zx 5 zag (Zx 10 zag (Zx 13 zfb (FC.own 16 Kd.kItem false Zz)))))))))
def zq8 {R:Type}:Lp Kd El R:=lp 10 zqe.sem l0
abbrev z9u {R:Type}:Sm R:=semP zim zaj5 (fun a=>qe7 a.1 a.2.1)
abbrev z7s {R:Type}:Sm R:=semP zk7 zt7 (fun a=>qab a.1 a.2.1)
def zaa9 {R:Type}:Nat→Sm R:=cl 73 zmy (cl 74 z8j (cl 75 z9u c0))
abbrev zv4:=mkld [] [] [1,2,4,6,7,8,9] [2,4,7] [] (Zs 1 Zi (Zp 2 2 (Zp 4 4 (Zs 6 Zi (Zp 7 7 (Zs 8 Zb (Zs 9 Zi (Zx 2 zag (Zx 4 zag (Zx 7 za0 Zz)))))))))) zj9 (.x 0 [1,2,4,7,8] [2,4,7] [] (Zs 1 Zi (Zp 2 2 (Zp 4 4 (Zp 7 7 (Zs 8 Zb (Zx 2 zag (Zx 4 zag (Zx 7 za0 Zz)))))))))
abbrev zqa:=mkld [] [] [1,2,4,7,8,10] [2,4,7] [] (Zs 1 Zi (Zp 2 2 (Zp 4 4 (Zp 7 7 (Zs 8 Zb (Zs 10 Zi (Zx 2 zag (Zx 4 zag (Zx 7 za0 Zz))))))))) zhn (.xs 2 [1,2,4,7] [2,4,7] [] (Zs 1 Zi (Zp 2 2 (Zp 4 4 (Zp 7 7 (Zx 2 zag (Zx 4 zag (Zx 7 za0 Zz))))))) (.r [5] [4] [4] (Zp 4 4 (Zs 5 Zi (Zx 4 zag Zz)))))
def zjm {R:Type}:Lp Kd El R:=lp 11 zqa.sem (lp 7 zv4.sem l0)
abbrev zasm {R:Type}:Sm R:=semP zaky za0m (fun a=>qae a.1 a.2.1)
def zabc {R:Type}:Nat→Sm R:=cl 30 z8m (cl 34 z7s c0)
abbrev zv7:=mkld [] [] [1,2,4,7] [2,4] [] (Zs 1 (Zl .ki64) (Zp 2 2 (Zp 4 4 (Zs 7 Zi (Zx 2 zag (Zx 4 zag Zz)))))) zmi (.xs 0 [1,2,4] [2,4] [] (Zs 1 (Zl .ki64) (Zp 2 2 (Zp 4 4 (Zx 2 zag (Zx 4 zag Zz))))) (.r [5,6] [4] [4] (Zp 4 4 (Zs 5 (Zl .ki64) (Zs 6 Zi (Zx 4 zag Zz))))))
abbrev zv8:=mkld [(8,8,Kd.ki64)] [] [1,2,4,8,9] [2,4] [8] (Zs 1 (Zl .ki64) (Zp 2 2 (Zp 4 4 (FC.arr 8 8 (Zs 9 Zi (Zx 2 zag (Zx 4 zag (FC.own 8 Kd.ki64 false Zz)))))))) zka (.x 2 [2,4,8] [2,4] [8] (Zp 2 2 (Zp 4 4 (FC.arr 8 8 (Zx 2 zag (Zx 4 zag (FC.own 8 Kd.ki64 false Zz)))))))
def zjp {R:Type}:Lp Kd El R:=lp 8 zv8.sem (lp 2 zv7.sem l0)
abbrev zaws:ZC (Circ×Circ×Unit):=Zc (Cod.agg zag) (Zc (Cod.agg zag) Zn)
abbrev zakr {R:Type}:Sm R:=semP zaws zav (fun a=>qw a.1 a.2.1)
def zaly {R:Type}:Nat→Sm R:=c0
abbrev z5u:=mkld [] [] [2,3,5,6] [2,3] [] (Zp 2 2 (Zp 3 3 (Zs 5 Zi (Zs 6 Zi (Zx 2 zag (Zx 3 zag Zz)))))) zdy (.xs 2 [2,3,5] [2,3] [] (Zp 2 2 (Zp 3 3 (Zs 5 Zi (Zx 2 zag (Zx 3 zag Zz))))) (.r [4] [] [] (Zs 4 Zb Zz)))
abbrev z5t:=mkld [] [] [2,3,5] [2,3] [] (Zp 2 2 (Zp 3 3 (Zs 5 Zi (Zx 2 zag (Zx 3 zag Zz))))) zh9 (.xs 0 [] [] [] Zz (.r [4] [] [] (Zs 4 Zb Zz)))
def zoh {R:Type}:Lp Kd El R:=lp 2 z5t.sem (lp 7 z5u.sem l0)
abbrev za0s {R:Type}:Sm R:=semP zaws zav (fun a=>qd a.1 a.2.1)
def zalh {R:Type}:Nat→Sm R:=cl 35 zakr c0
abbrev z43:=mkld [] [] [2,3,5] [2,3] [] (Zp 2 2 (Zp 3 3 (Zs 5 Zi (Zx 2 zag (Zx 3 zag Zz))))) ztw (.xs 0 [2,3] [2,3] [] (Zp 2 2 (Zp 3 3 (Zx 2 zag (Zx 3 zag Zz)))) (.r [4] [] [] (Zs 4 Zb Zz)))
abbrev zw4:=mkld [] [] [2,3,6] [2,3] [] (Zp 2 2 (Zp 3 3 (Zs 6 Zi (Zx 2 zag (Zx 3 zag Zz))))) zke (.xs 2 [2,3] [2,3] [] (Zp 2 2 (Zp 3 3 (Zx 2 zag (Zx 3 zag Zz)))) (.r [4] [] [] (Zs 4 Zb Zz)))
abbrev zw5:=mkld [] [] [2,3,7] [2,3] [] (Zp 2 2 (Zp 3 3 (Zs 7 Zi (Zx 2 zag (Zx 3 zag Zz))))) zkf (.xs 4 [2,3] [2,3] [] (Zp 2 2 (Zp 3 3 (Zx 2 zag (Zx 3 zag Zz)))) (.r [4] [] [] (Zs 4 Zb Zz)))
abbrev zw6:=mkld [] [] [2,3,8] [2,3] [] (Zp 2 2 (Zp 3 3 (Zs 8 Zi (Zx 2 zag (Zx 3 zag Zz))))) zkg (.xs 6 [2,3] [2,3] [] (Zp 2 2 (Zp 3 3 (Zx 2 zag (Zx 3 zag Zz)))) (.r [4] [] [] (Zs 4 Zb Zz)))
abbrev zw7:=mkld [] [] [2,3,9] [2,3] [] (Zp 2 2 (Zp 3 3 (Zs 9 Zi (Zx 2 zag (Zx 3 zag Zz))))) zkh (.xs 8 [2,3] [2,3] [] (Zp 2 2 (Zp 3 3 (Zx 2 zag (Zx 3 zag Zz)))) (.r [4] [] [] (Zs 4 Zb Zz)))
abbrev zw8:=mkld [] [] [2,3,10] [2,3] [] (Zp 2 2 (Zp 3 3 (Zs 10 Zi (Zx 2 zag (Zx 3 zag Zz))))) zki (.xs 10 [2,3] [2,3] [] (Zp 2 2 (Zp 3 3 (Zx 2 zag (Zx 3 zag Zz)))) (.r [4] [] [] (Zs 4 Zb Zz)))
abbrev zw9:=mkld [] [] [2,3,11] [2,3] [] (Zp 2 2 (Zp 3 3 (Zs 11 Zi (Zx 2 zag (Zx 3 zag Zz))))) zkj (.xs 12 [2,3] [2,3] [] (Zp 2 2 (Zp 3 3 (Zx 2 zag (Zx 3 zag Zz)))) (.r [4] [] [] (Zs 4 Zb Zz)))
def zd3 {R:Type}:Lp Kd El R:=lp 36 zw9.sem (lp 31 zw8.sem (lp 26 zw7.sem (lp 21 zw6.sem (lp 16 zw5.sem (lp 11 zw4.sem (lp 6 z43.sem l0))))))
abbrev zagd:ZC (Circ×(List Int)×Unit):=zaky
abbrev za0j:ZD (Bool):=zav
def zaif (a:Circ×(List Int)×Unit):Option (Bool):=qdh a.1 a.2.1
abbrev zat2 {R:Type}:Sm R:=semP zagd za0j zaif
end Go.Proofs.YtpaidiaknfhclaaGreatDoor
namespace Go.Proofs.YtpaidiaknfhclaaGreatDoor
set_option maxRecDepth 100000
open Ev
open Go (IntKind)
open Go
theorem zaw5:∀k,CCOk (ccK k)
 |.kItem=>zpe
 |.kPatron=>ziu
 |.kLoan=>zpf
 |.kHold=>zpd
 |.kCharge=>zit
 |.kRule=>zpi
 |.ki64=>CCOk.one (zaj.int _)
 |.kMove=>zph
 |.kbool=>CCOk.one zaj.bool
 |.kWeed_candidate=>zdq
 |.kMapI=>zpg
 |.ku8=>CCOk.one (zaj.int _)
 |.kUtf8_acceptRange=>zc7
 |.ku16=>CCOk.one (zaj.int _)
theorem sgok:SgOk sg:=zau9 (cc:=ccK) (fun _=>rfl) (fun _=>rfl) zaw5 (by intro k x;cases k<;>rfl) (by intro k x;cases k<;>rfl) (by intro k;cases k<;>decide)
theorem eok:∀t,zaxu t=true→EqOk Tryz.prog t:=zd2 (by kernel_rfl) (zd2 (by kernel_rfl) (zd2 (by kernel_rfl) (zd2 (by kernel_rfl) (zd2 (by kernel_rfl) (zd2 (by kernel_rfl) (zd2 (by kernel_rfl) (zd2 (by kernel_rfl) (zapz))))))))
theorem mok:∀t M,zay2 t=some M→MpOk Tryz.prog sg t M:=zae4 (zae6 (kt:=3) (et:=3) (by kernel_rfl) (by kernel_rfl) (by kernel_rfl) (fun _ _=>rfl) (fun _ _=>rfl) (fun _=>rfl)) (zarq)
theorem good:GoodP Tryz.prog sg:=⟨prOk (by kernel_rfl) (by kernel_rfl),sgok,eok,mok⟩
end Go.Proofs.YtpaidiaknfhclaaGreatDoor
namespace Go.Proofs.YtpaidiaknfhclaaGreatDoor.Ev
open Go
section
variable {P:Program} {w:World}
theorem zbg {dT sT ty elem:TypeId} {i0:TypeInfo} {g o dLen dCap sLen sCap z:Nat} {a:Addr} {L cs:List Value} {t:TypeId} (hu:P.underlying dT=some (.slice elem)) (hi:P.info? elem=some i0) (hz:i0.size=z)
 (hg:w.heap[g]?=some (.cells L.toArray t (0,0))) (hn:cs.length=Nat.min sLen dLen*z) (hsrc:∀j v,cs[j]?=some v→w.cell? (a.add j)=some v) (hfit:o+cs.length≤L.length) (h1:∀v∈cs,v.oneCell'=true) :
 (Builtin.copy_ #[dT,sT] ty #[.slice (some ⟨g,o,none⟩) dLen dCap,.slice (some a) sLen sCap]).run P w=.ok (goInt (Nat.min sLen dLen)) (w.setRow g (Go.splice L o cs).toArray):=by
 have hl:=run_firstCells_some (P:=P) w z (Nat.min sLen dLen) a sLen sCap cs hn hsrc
 have hst:=run_storeCells_at P g o t cs 0 L.toArray w hg (by simpa using hfit) h1
 simp only[Nat.add_zero]at hst
 subst hz
 simp[Builtin.copy_,run_underlying hu,Builtin.lenOf,sizeOf,typeInfo,hi,hl,hst,Go.splice]
theorem zk5 {ops:Array Oper} {rest:List Oper} {o:Oper} {a:Act} {Q:Exit→Act→World→Prop} (hgd:o.guard=none) (d s:Operand) (t t':TypeId)
 (ho:o.op=.call {callee:=.builtin .copy,args:=#[d,s],argTypes:=#[t,t']}) (v u:Value) (hd:a.eval d=v) (hs:a.eval s=u) {v':Value} {w':World}
 (hr:(Builtin.copy_ #[t,t'] o.type #[v,u]).run P w=.ok v' w') (h:wpList P ops Q rest (a.put o.dst v') w'):wpList P ops Q (o::rest) a w:=
 wpList_plain hgd fun _ hK=>by
  unfold Oper.wp execOp
  simp only[ho,resolve,invoke,builtin,Sem.run_bind,Sem.run_pure,Result.andThen_ok,List.map_toArray,List.map_cons,List.map_nil,hd,hs,hr]
  exact hK _ _ h
theorem zc2 {ops:Array Oper} {o:Oper} {a:Act} {K:Act→World→Prop} {Q:Exit→Act→World→Prop} {E:Prop}
 (hg:o.guard=none) (d x:Operand) (dT sT:TypeId) (hop:o.op=Op.call {callee:=Callee.builtin Builtin.copy,args:=#[d,x],argTypes:=#[dT,sT]})
 (v u:Value) (hd:a.eval d=v) (hx:a.eval x=u) {v':Value} {w':World} (hr:(Builtin.copy_ #[dT,sT] o.type #[v,u]).run P w=.ok v' w') (hK:K (a.put o.dst v') w') :
 if Region.wanted o (yielded ops a.tmps)=true then Oper.wp P o a w K Q else E:=by
 have hw:Region.wanted o (yielded ops a.tmps)=true:=by simp[Region.wanted,hg]
 rw[if_pos hw]
 unfold Oper.wp
 simp[execOp,hop,resolve,invoke,builtin,hd,hx,hr,Result.andThen]
 exact hK
theorem zmz {ops:Array Oper} {o:Oper} {a:Act} {K:Act→World→Prop} {Q:Exit→Act→World→Prop} {E:Prop}
 (hg:o.guard=none) (d x:Operand) (dT sT:TypeId) (hop:o.op=Op.call {callee:=Callee.builtin Builtin.append,args:=#[d,x],argTypes:=#[dT,sT]})
 (v u:Value) (hd:a.eval d=v) (hx:a.eval x=u) {v':Value} {w':World} (hr:(Builtin.append_ #[dT,sT] o.type #[v,u]).run P w=.ok v' w') (hK:K (a.put o.dst v') w') :
 if Region.wanted o (yielded ops a.tmps)=true then Oper.wp P o a w K Q else E:=by
 have hw:Region.wanted o (yielded ops a.tmps)=true:=by simp[Region.wanted,hg]
 rw[if_pos hw]
 unfold Oper.wp
 simp[execOp,hop,resolve,invoke,builtin,hd,hx,hr,Result.andThen]
 exact hK
theorem zbh {ops:Array Oper} {rest:List Oper} {o:Oper} {a:Act} {Q:Exit→Act→World→Prop} (hgd:o.guard=none) (s x:Operand) (t tn:TypeId)
 (ho:o.op=.call {callee:=.builtin .append,args:=#[s,x],argTypes:=#[t,tn]}) (vs vx:Value) (hs:a.eval s=vs) (hx:a.eval x=vx)
 {v':Value} {w':World} (hr:(Builtin.append_ #[t,tn] o.type #[vs,vx]).run P w=.ok v' w') (h:wpList P ops Q rest (a.put o.dst v') w'):wpList P ops Q (o::rest) a w:=
 Lib.wpList_append_run w hgd s x t tn ho vs vx hs hx v' w' hr h
theorem zks {t e ty:TypeId} {i0:TypeInfo} {z0:Value} {b o n c:Nat} {L:List Value} {tt:TypeId} (ht:P.underlying t=some (.slice e)) (hi:P.info? e=some i0) (hz:i0.zero=some z0)
 (hn:0<n) (hb:w.heap[b]?=some (.cells L.toArray tt (0,0))) (hfit:o+n*z0.cells.size≤L.length) (h1:∀v∈z0.cells,v.oneCell'=true) :
 (Builtin.clear_ #[t] ty #[.slice (some ⟨b,o,none⟩) n c]).run P w=.ok (.tuple #[]) (w.setRow b (Go.splice L o (Builtin.zeroCells z0.cells n).toList).toArray):=by
 have hl:(Builtin.zeroCells z0.cells n).toList.length=n*z0.cells.size:=by rw[Array.length_toList,Go.size_zeroCells]
 have hst:=run_storeCells_at P b o tt (Builtin.zeroCells z0.cells n).toList 0 L.toArray w hb (by rw[hl];simpa using hfit) (fun v hv=>by
  simp only[Builtin.zeroCells,Array.toList_map,List.mem_map,Array.toList_range,List.mem_range]at hv
  obtain ⟨q,hq,rfl⟩:=hv
  have hp:0<z0.cells.size:=Nat.pos_of_ne_zero (fun h=>by rw[h]at hq;omega)
  rw[getElem!_pos z0.cells _ (Nat.mod_lt _ hp)]
  exact h1 _ (Array.getElem_mem _))
 simp only[Nat.add_zero]at hst
 obtain ⟨m,rfl⟩:∃m,n=m+1:=⟨n-1,by omega⟩
 simp only[List.append_assoc]at hst
 simp[Builtin.clear_,run_underlying ht,sizeOf,typeInfo,zeroValue,hi,hz,hst,Go.splice]
theorem zde {tS tR e:TypeId} {i0:TypeInfo} (ht:P.underlying tS=some (.slice e)) (hi:P.info? e=some i0) {a b:Addr} {la ca lb cb:Nat} (hne:a.block≠b.block)
 {va vb:Array Value} {ta tb:TypeId} {fa:Nat×Nat} (ha:w.heap[a.block]?=some (.cells va ta fa)) (ha0:0<va.size) (hb:w.heap[b.block]?=some (.cells vb tb (0,0))) (hb0:0<vb.size) :
 (Extern.SlicesOverlaps.overlaps #[tS,tS] #[tR] #[.slice (some a) la ca,.slice (some b) lb cb]).run P w=.ok (.bool false) w:=by
 have hnb:(a.block != b.block)=true:=by simpa using hne
 have hnb':(a.block==b.block)=false:=by simpa using hne
 have hsa:w.shape? a.block=some (ta,va.size):=by simp[World.shape?,ha]
 have hsb:w.shape? b.block=some (tb,vb.size):=by simp[World.shape?,hb]
 have hfb:w.frozen? b=false:=by simp[World.frozen?,hb]
 have hfb':w.frozen? {block:=b.block,off:=vb.size}=false:=by simp[World.frozen?,hb]
 change Sem.run P (α:=Value) (do
  let some t:=(#[tS,tS]:Array TypeId)[0]?|stuck "slices.overlaps: no parameter types"
  let .slice elem ←underlying t|stuck "slices.overlaps: slice type expected"
  let size ←sizeOf elem
  match (some a:Option Addr),(some b:Option Addr) with
  |some a,some b=>
   if la=0∨lb=0∨size=0 then pure (Value.bool false)
   else if a.block != b.block&&(←frozen a)&&(←frozen b) then unsupported .addressObserved
   else do
    if a.block != b.block then do
     noView a;noView b
     if ←mayBeOne a b then return Value.bool ((←choose (.extern "sameAddr.stringBytes" 2))==1)
    pure (Value.bool (a.block==b.block&&a.off<b.off+lb*size&&b.off<a.off+la*size))
  |_,_=>pure (Value.bool false)) w=_
 have hz:(Go.sizeOf e).run P w=.ok i0.size w:=by simp[sizeOf,typeInfo,hi]
 by_cases h0:la=0∨lb=0∨i0.size=0
 ·simp[run_underlying ht,hz,h0]
 ·obtain ⟨ka,hka⟩:∃k,va.size=k+1:=⟨va.size-1,by omega⟩
  obtain ⟨kb,hkb⟩:∃k,vb.size=k+1:=⟨vb.size-1,by omega⟩
  rw[hka]at hsa
  rw[hkb]at hsb hfb'
  by_cases hfa:w.frozen? a=true
  ·simp[run_underlying ht,hz,h0,hnb,hnb',frozen,noView,viewAt,mayBeOne,stringish,shape,Sem.run,hsa,hsb,hfa,hfb,hfb']
  ·have hfa:w.frozen? a=false:=by simpa using hfa
   by_cases hfe:w.frozen? {block:=a.block,off:=ka+1}=true
   ·simp[run_underlying ht,hz,h0,hnb,hnb',frozen,noView,viewAt,mayBeOne,stringish,shape,Sem.run,hsa,hsb,hfa,hfb,hfb',hfe]
   ·have hfe:w.frozen? {block:=a.block,off:=ka+1}=false:=by simpa using hfe
    simp[run_underlying ht,hz,h0,hnb,hnb',frozen,noView,viewAt,mayBeOne,stringish,shape,Sem.run,hsa,hsb,hfa,hfb,hfb',hfe]
end
end Go.Proofs.YtpaidiaknfhclaaGreatDoor.Ev
