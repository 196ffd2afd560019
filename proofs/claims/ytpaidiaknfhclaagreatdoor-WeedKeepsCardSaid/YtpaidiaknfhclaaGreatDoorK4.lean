/- WeedKeeps: a part of the proof of the given statement, which is proved without conditions. -/
import Derived.Test.YtpaidiaknfhclaaGreatDoorK3
import Derived.KernelRfl
import Derived.Test.YtpaidiaknfhclaaGreatDoorProg
import Derived.Shelf.RegionOpenPlain
import Derived.WalkKit
import Derived.Lib.Walk
import Derived.Lib.AppendZerosOnto
import Derived.Lib.AppendZeros
import Derived.Laws.Externs
import Derived.Laws.CopyOwn
import Derived.Deep.RegionLaw
set_option linter.all false
namespace Go.Proofs.YtpaidiaknfhclaaGreatDoor
set_option maxRecDepth 100000
open Ev
open Go (IntKind)
def z13:(Int×Circ×Unit)→Option ((Int×Circ×Unit)⊕((Circ×Unit)⊕(Bool×Unit))):=fun (i,c,_)=>
 bif decide (i<(c.Items.length:Int)) then match getI c.Items i with|some x =>bif decide (300<(x.Call.length:Int)) then some (.inr (.inr (false,()))) else some (.inl (wr .i64 (i+1),c,()))|none =>none else some (.inr (.inl (c,())))
def z14:(Int×Circ×Unit)→Option ((Int×Circ×Unit)⊕((Circ×Unit)⊕(Bool×Unit))):=fun (i,c,_)=>
 bif decide (i<(c.Patrons.length:Int)) then match getI c.Patrons i with|some x =>bif decide (300<(x.Name.length:Int)) then some (.inr (.inr (false,()))) else some (.inl (wr .i64 (i+1),c,()))|none =>none else some (.inr (.inl (c,())))
def zir:(Int×Circ×Unit)→Option ((Int×Circ×Unit)⊕((Unit)⊕(Bool×Unit))):=fun (i,c,_)=>
 bif decide (i<4) then let k (v:Int) (v8:List Int):Option ((Int×Circ×Unit)⊕((Unit)⊕(Bool×Unit))):=bif decide (20<(v8.length:Int)) then some (.inr (.inr (false,()))) else some (.inl (wr .i64 (i+1),c,()));bif i==0 then k c.Cals.x0.Week c.Cals.x0.Closed else bif i==1 then k c.Cals.x1.Week c.Cals.x1.Closed else bif i==2 then k c.Cals.x2.Week c.Cals.x2.Closed else bif i==3 then k c.Cals.x3.Week c.Cals.x3.Closed else none else some (.inr (.inl (())))
def qa (c:Circ):Option Bool:=
 let k16 (v:Bool):Option Bool:=let k15 (v1:Bool):Option Bool:=let k14 (v2:Bool):Option Bool:=let k13 (v3:Bool):Option Bool:=let k12 (v4:Bool):Option Bool:=let k (v5:Bool):Option Bool:=bif v5 then some false else match zae z13 (0,c,()) with|some (.inl (c6,_)) =>(match zae z14 (0,c6,()) with|some (.inl (c7,_)) =>(match zae zir (0,c7,()) with|some (.inl (_)) =>some true|some (.inr (v9,_)) =>some v9|none =>none)|some (.inr (v10,_)) =>some v10|none =>none)|some (.inr (v11,_)) =>some v11|none =>none;bif v4 then k true else k (decide (200<(c.Moves.length:Int)));bif v3 then k12 true else k12 (decide (10<(c.Rules.length:Int)));bif v2 then k13 true else k13 (decide (30<(c.Charges.length:Int)));bif v1 then k14 true else k14 (decide (12<(c.Loans.length:Int)));bif v then k15 true else k15 (decide (12<(c.Holds.length:Int)));bif decide (10<(c.Items.length:Int)) then k16 true else k16 (decide (8<(c.Patrons.length:Int)))
def qbs (s:List UInt8) (i:Int):Option (Int×Int):=
 match getI s i with|some b =>let k35 (v:Bool):Option (Int×Int):=bif v then some (wr .i64 (b.toNat:Int),1) else let k34 (v1:Bool):Option (Int×Int):=let k33 (v2:Bool):Option (Int×Int):=let k32 (v4:Bool):Option (Int×Int):=let k31 (v6:Bool):Option (Int×Int):=let k (v8:Int) (v9:Int):Option (Int×Int):=some (v8,v9);bif v6 then match getI s (wr .i64 (i+1)) with|some b7 =>bif decide (160≤wr .i64 ((wr .i64 ((wr .i64 ((wr .i64 ((wr .i64 (b.toNat:Int))-192))*64))+(wr .i64 (b7.toNat:Int))))-128)) then k (wr .i64 ((wr .i64 ((wr .i64 ((wr .i64 ((wr .i64 (b.toNat:Int))-192))*64))+(wr .i64 (b7.toNat:Int))))-128)) 2 else k 0 0|none =>none else let k30 (v10:Bool):Option (Int×Int):=let k29 (v11:Bool):Option (Int×Int):=let k28 (v13:Bool):Option (Int×Int):=let k27 (v15:Bool):Option (Int×Int):=let k26 (v17:Bool):Option (Int×Int):=let k25 (v19:Bool):Option (Int×Int):=bif v19 then match getI s (wr .i64 (i+1)) with|some b20 =>(match getI s (wr .i64 (i+2)) with|some b21 =>let k24 (v23:Bool):Option (Int×Int):=bif v23 then some (wr .i64 ((wr .i64 ((wr .i64 ((wr .i64 ((wr .i64 ((wr .i64 (b.toNat:Int))-224))*4096))+(wr .i64 ((wr .i64 ((wr .i64 (b20.toNat:Int))-128))*64))))+(wr .i64 (b21.toNat:Int))))-128),3) else some (0,0);bif decide (2048≤wr .i64 ((wr .i64 ((wr .i64 ((wr .i64 ((wr .i64 ((wr .i64 (b.toNat:Int))-224))*4096))+(wr .i64 ((wr .i64 ((wr .i64 (b20.toNat:Int))-128))*64))))+(wr .i64 (b21.toNat:Int))))-128)) then bif decide (wr .i64 ((wr .i64 ((wr .i64 ((wr .i64 ((wr .i64 ((wr .i64 (b.toNat:Int))-224))*4096))+(wr .i64 ((wr .i64 ((wr .i64 (b20.toNat:Int))-128))*64))))+(wr .i64 (b21.toNat:Int))))-128)<55296) then k24 true else k24 (decide (57343<wr .i64 ((wr .i64 ((wr .i64 ((wr .i64 ((wr .i64 ((wr .i64 (b.toNat:Int))-224))*4096))+(wr .i64 ((wr .i64 ((wr .i64 (b20.toNat:Int))-128))*64))))+(wr .i64 (b21.toNat:Int))))-128))) else k24 false|none =>none)|none =>none else some (0,0);bif v17 then match getI s (wr .i64 (i+2)) with|some b18 =>k25 (decide ((b18.toNat:Int)<192))|none =>none else k25 false;bif v15 then match getI s (wr .i64 (i+2)) with|some b16 =>k26 (decide (128≤(b16.toNat:Int)))|none =>none else k26 false;bif v13 then match getI s (wr .i64 (i+1)) with|some b14 =>k27 (decide ((b14.toNat:Int)<192))|none =>none else k27 false;bif v11 then match getI s (wr .i64 (i+1)) with|some b12 =>k28 (decide (128≤(b12.toNat:Int)))|none =>none else k28 false;bif v10 then k29 (decide (wr .i64 (i+2)<(s.length:Int))) else k29 false;bif decide (224≤wr .i64 (b.toNat:Int)) then k30 (decide (wr .i64 (b.toNat:Int)<240)) else k30 false;bif v4 then match getI s (wr .i64 (i+1)) with|some b5 =>k31 (decide ((b5.toNat:Int)<192))|none =>none else k31 false;bif v2 then match getI s (wr .i64 (i+1)) with|some b3 =>k32 (decide (128≤(b3.toNat:Int)))|none =>none else k32 false;bif v1 then k33 (decide (wr .i64 (i+1)<(s.length:Int))) else k33 false;bif decide (194≤wr .i64 (b.toNat:Int)) then k34 (decide (wr .i64 (b.toNat:Int)<224)) else k34 false;bif decide (32≤wr .i64 (b.toNat:Int)) then k35 (decide (wr .i64 (b.toNat:Int)<127)) else k35 false|none =>none
def znv:((List UInt8)×Int×Unit)→Option (((List UInt8)×Int×Unit)⊕((Unit)⊕(Bool×Unit))):=fun (s,i,_)=>
 bif decide (i<(s.length:Int)) then match qbs s i with|some (r1,r2) =>bif r2==0 then some (.inr (.inr (false,()))) else some (.inl (s,wr .i64 (i+r2),()))|none =>none else some (.inr (.inl (())))
def qal (s:List UInt8):Option Bool:=
 match zae znv (s,0,()) with|some (.inl (_)) =>some true|some (.inr (v,_)) =>some v|none =>none
def qf (s:List UInt8) (i:Int):Option Int:=
 match qbs s i with|some (r1,r2) =>some (if r2<1 then 1 else r2)|none =>none
def qan (c:Int):Option Bool:=
 let k (v:Bool):Option Bool:=some v;bif c==32 then k true else k (c==160)
def znp:((List UInt8)×(List UInt8)×Bool×Int×Unit)→Option (((List UInt8)×(List UInt8)×Bool×Int×Unit)⊕(((List UInt8)×Unit))):=fun (s,vout,gap,i,_)=>
 bif decide (i<(s.length:Int)) then match qbs s i with|some (r1,r2) =>(match qf s i with|some r4 =>(match qan r1 with|some r6 =>let k11 (vout9:List UInt8) (gap10:Bool):Option (((List UInt8)×(List UInt8)×Bool×Int×Unit)⊕(((List UInt8)×Unit))):=some (.inl (s,vout9,gap10,wr .i64 (i+r4),()));bif r6 then k11 vout true else let k8 (v:Bool):Option (((List UInt8)×(List UInt8)×Bool×Int×Unit)⊕(((List UInt8)×Unit))):=let k (vout7:List UInt8):Option (((List UInt8)×(List UInt8)×Bool×Int×Unit)⊕(((List UInt8)×Unit))):=bif decide (0≤(i:Int))&&(decide ((i:Int)≤wr .i64 (i+r4))&&decide (wr .i64 (i+r4)≤(s.length:Int))) then bif decide (vout7.length+((s.take (wr .i64 (i+r4)).toNat).drop (i:Int).toNat).length≤LIM) then k11 (vout7++((s.take (wr .i64 (i+r4)).toNat).drop (i:Int).toNat)) false else none else none;bif v then bif decide (vout.length+([32]).length≤LIM) then k (vout++([32])) else none else k vout;bif gap then k8 (!(vout==([]))) else k8 false|none =>none)|none =>none)|none =>none else some (.inr ((vout,())))
def qa2 (s:List UInt8):Option (List UInt8):=
 match zae znp (s,[],false,0,()) with|some ((vout,_)) =>some vout|none =>none
def zlg:((List Patron)×Int×Unit)→Option (((List Patron)×Int×Unit)⊕((Unit)⊕(Int×Unit))):=fun (l,i,_)=>
 bif decide (i<(l.length:Int)) then match getI l i with|some x =>let k18 (v:Bool):Option (((List Patron)×Int×Unit)⊕((Unit)⊕(Int×Unit))):=bif v then some (.inr (.inr (2,()))) else let k17 (v2:Bool):Option (((List Patron)×Int×Unit)⊕((Unit)⊕(Int×Unit))):=bif v2 then some (.inr (.inr (7,()))) else let k16 (v3:Bool):Option (((List Patron)×Int×Unit)⊕((Unit)⊕(Int×Unit))):=let k15 (v4:Bool):Option (((List Patron)×Int×Unit)⊕((Unit)⊕(Int×Unit))):=let k14 (v5:Bool):Option (((List Patron)×Int×Unit)⊕((Unit)⊕(Int×Unit))):=bif v5 then some (.inr (.inr (1,()))) else let k13 (v6:Bool):Option (((List Patron)×Int×Unit)⊕((Unit)⊕(Int×Unit))):=bif v6 then some (.inr (.inr (2,()))) else let k12 (v8:Bool):Option (((List Patron)×Int×Unit)⊕((Unit)⊕(Int×Unit))):=let k (v11:Bool):Option (((List Patron)×Int×Unit)⊕((Unit)⊕(Int×Unit))):=bif v11 then some (.inr (.inr (3,()))) else bif decide (200<(x.Name.length:Int)) then some (.inr (.inr (4,()))) else some (.inl (l,wr .i64 (i+1),()));bif v8 then k true else match qa2 x.Name with|some r10 =>k (!(r10==x.Name))|none =>none;bif x.Name==([]) then k12 true else match qal x.Name with|some r7 =>k12 (!r7)|none =>none;bif decide (x.Until<0) then k13 true else k13 (decide (109572<x.Until));bif v4 then k14 true else k14 (decide (4<x.Branch));bif v3 then k15 true else k15 (decide (x.Branch<1));bif decide (x.Kind<1) then k16 true else k16 (decide (9<x.Kind));bif decide (0<i) then match getI l (wr .i64 (i-1)) with|some x1 =>k17 (decide (x.ID≤x1.ID))|none =>none else k17 false;bif decide (x.ID<1) then k18 true else k18 (decide (9999<x.ID))|none =>none else some (.inr (.inl (())))
def qas (l:List Patron):Option Int:=
 bif decide (32<(l.length:Int)) then some 13 else match zae zlg (l,0,()) with|some (.inl (_)) =>some 0|some (.inr (v,_)) =>some v|none =>none
def zlf:((List Loan)×Int×Unit)→Option (((List Loan)×Int×Unit)⊕((Unit)⊕(Int×Unit))):=fun (l,i,_)=>
 bif decide (i<(l.length:Int)) then match getI l i with|some x =>let k21 (v:Bool):Option (((List Loan)×Int×Unit)⊕((Unit)⊕(Int×Unit))):=bif v then some (.inr (.inr (7,()))) else let k20 (v2:Bool):Option (((List Loan)×Int×Unit)⊕((Unit)⊕(Int×Unit))):=let k19 (v3:Bool):Option (((List Loan)×Int×Unit)⊕((Unit)⊕(Int×Unit))):=let k18 (v4:Bool):Option (((List Loan)×Int×Unit)⊕((Unit)⊕(Int×Unit))):=let k17 (v5:Bool):Option (((List Loan)×Int×Unit)⊕((Unit)⊕(Int×Unit))):=let k16 (v6:Bool):Option (((List Loan)×Int×Unit)⊕((Unit)⊕(Int×Unit))):=let k15 (v7:Bool):Option (((List Loan)×Int×Unit)⊕((Unit)⊕(Int×Unit))):=let k14 (v8:Bool):Option (((List Loan)×Int×Unit)⊕((Unit)⊕(Int×Unit))):=let k13 (v9:Bool):Option (((List Loan)×Int×Unit)⊕((Unit)⊕(Int×Unit))):=let k12 (v10:Bool):Option (((List Loan)×Int×Unit)⊕((Unit)⊕(Int×Unit))):=let k (v11:Bool):Option (((List Loan)×Int×Unit)⊕((Unit)⊕(Int×Unit))):=bif v11 then some (.inr (.inr (2,()))) else some (.inl (l,wr .i64 (i+1),()));bif v10 then k true else k (decide (10<x.Renewals));bif v9 then k12 true else k12 (decide (x.Renewals<0));bif v8 then k13 true else k13 (decide (x.Due<x.Out));bif v7 then k14 true else k14 (decide (109572<x.Due));bif v6 then k15 true else k15 (decide (x.Due<0));bif v5 then k16 true else k16 (decide (109572<x.Out));bif v4 then k17 true else k17 (decide (x.Out<0));bif v3 then k18 true else k18 (decide (9999<x.Patron));bif v2 then k19 true else k19 (decide (x.Patron<1));bif decide (x.Item<1) then k20 true else k20 (decide (9999<x.Item));bif decide (0<i) then match getI l (wr .i64 (i-1)) with|some x1 =>k21 (decide (x.Item≤x1.Item))|none =>none else k21 false|none =>none else some (.inr (.inl (())))
def qar (l:List Loan):Option Int:=
 bif decide (64<(l.length:Int)) then some 13 else match zae zlf (l,0,()) with|some (.inl (_)) =>some 0|some (.inr (v,_)) =>some v|none =>none
def qeg (n:Int):Option Bool:=
 let k (v:Bool):Option Bool:=some v;bif decide (1≤n) then k (decide (n≤9999)) else k false
def qez (n:Int):Option Bool:=
 let k (v:Bool):Option Bool:=some v;bif decide (0≤n) then k (decide (n≤109572)) else k false
def qds (h:Hold):Option Int:=
 let k41 (v:Bool):Option Int:=let k40 (v2:Bool):Option Int:=let k39 (v5:Bool):Option Int:=let k38 (v9:Bool):Option Int:=let k37 (v10:Bool):Option Int:=let k36 (v11:Bool):Option Int:=let k35 (v14:Bool):Option Int:=let k34 (v18:Bool):Option Int:=let k33 (v21:Bool):Option Int:=let k32 (v24:Bool):Option Int:=let k31 (v25:Bool):Option Int:=let k30 (v26:Bool):Option Int:=bif v26 then some 2 else let k29 (v27:Bool):Option Int:=bif v27 then some 1 else let k (v28:Bool):Option Int:=bif v28 then some 12 else some 0;bif !((decide (0<h.Got))==(!(h.State==1))) then k true else k (!((decide (0<h.Until))==(h.State==3)));bif decide (h.State<1) then k29 true else k29 (decide (3<h.State));bif v25 then k30 true else k30 (decide (9<h.Rank));bif v24 then k31 true else k31 (decide (h.Rank<0));bif v21 then k32 true else match qez h.Asleep with|some r23 =>k32 (!r23)|none =>none;bif v18 then k33 true else match qez h.Until with|some r20 =>k33 (!r20)|none =>none;bif v14 then k34 true else bif !(h.Got==0) then match qeg h.Got with|some r16 =>k34 (!r16)|none =>none else k34 false;bif v11 then k35 true else match qez h.Placed with|some r13 =>k35 (!r13)|none =>none;bif v10 then k36 true else k36 (decide (4<h.Pickup));bif v9 then k37 true else k37 (decide (h.Pickup<1));bif v5 then k38 true else bif !(h.Item==0) then match qeg h.Item with|some r7 =>k38 (!r7)|none =>none else k38 false;bif v2 then k39 true else match qeg h.Record with|some r4 =>k39 (!r4)|none =>none;bif v then k40 true else match qeg h.Patron with|some r1 =>k40 (!r1)|none =>none;bif decide (h.ID<1) then k41 true else k41 (decide (99999<h.ID))
def zvf:((List Hold)×Int×Unit)→Option (((List Hold)×Int×Unit)⊕(((List Hold)×Unit)⊕(Int×Unit))):=fun (l,i,_)=>
 bif decide (i<(l.length:Int)) then let k (v:Bool):Option (((List Hold)×Int×Unit)⊕(((List Hold)×Unit)⊕(Int×Unit))):=bif v then some (.inr (.inr (7,()))) else match getI l i with|some x2 =>(match qds x2 with|some r3 =>bif !(r3==0) then some (.inr (.inr (r3,()))) else some (.inl (l,wr .i64 (i+1),()))|none =>none)|none =>none;bif decide (0<i) then match getI l i with|some x =>(match getI l (wr .i64 (i-1)) with|some x1 =>k (decide (x.ID≤x1.ID))|none =>none)|none =>none else k false else some (.inr (.inl (l,())))
def zlm:((List Hold)×Int×Int×Unit)→Option (((List Hold)×Int×Int×Unit)⊕(((List Hold)×Int×Unit)⊕(Int×Unit))):=fun (l,i,k,_)=>
 bif decide (k<i) then match getI l i with|some x =>(match getI l k with|some x5 =>let k14 (v:Bool):Option (((List Hold)×Int×Int×Unit)⊕(((List Hold)×Int×Unit)⊕(Int×Unit))):=let k13 (v12:Bool):Option (((List Hold)×Int×Int×Unit)⊕(((List Hold)×Int×Unit)⊕(Int×Unit))):=bif v12 then some (.inr (.inr (7,()))) else some (.inl (l,i,wr .i64 (k+1),()));bif v then k13 true else match getI l i with|some x8 =>bif decide (0<x8.Got) then match getI l i with|some x9 =>(match getI l k with|some x10 =>k13 (x9.Got==x10.Got)|none =>none)|none =>none else k13 false|none =>none;bif x.Patron==x5.Patron then match getI l i with|some x6 =>(match getI l k with|some x7 =>k14 (x6.Record==x7.Record)|none =>none)|none =>none else k14 false|none =>none)|none =>none else some (.inr (.inl (l,i,())))
def zn6:((List Hold)×Int×Unit)→Option (((List Hold)×Int×Unit)⊕((Unit)⊕(Int×Unit))):=fun (l,i,_)=>
 bif decide (i<(l.length:Int)) then match zae zlm (l,i,0,()) with|some (.inl (l15,i16,_)) =>some (.inl (l15,wr .i64 (i16+1),()))|some (.inr (v,_)) =>some (.inr (.inr (v,())))|none =>none else some (.inr (.inl (())))
def qn (l:List Hold):Option Int:=
 bif decide (64<(l.length:Int)) then some 13 else match zae zvf (l,0,()) with|some (.inl (l4,_)) =>(match zae zn6 (l4,0,()) with|some (.inl (_)) =>some 0|some (.inr (v,_)) =>some v|none =>none)|some (.inr (v17,_)) =>some v17|none =>none
def qfb (n:Int):Option Bool:=
 let k (v:Bool):Option Bool:=some v;bif decide (0≤n) then k (decide (n≤109572)) else k false
def zk8:((List Charge)×Int×Unit)→Option (((List Charge)×Int×Unit)⊕((Unit)⊕(Int×Unit))):=fun (l,i,_)=>
 bif decide (i<(l.length:Int)) then match getI l i with|some x =>let k22 (v:Bool):Option (((List Charge)×Int×Unit)⊕((Unit)⊕(Int×Unit))):=bif v then some (.inr (.inr (7,()))) else let k21 (v2:Bool):Option (((List Charge)×Int×Unit)⊕((Unit)⊕(Int×Unit))):=let k20 (v3:Bool):Option (((List Charge)×Int×Unit)⊕((Unit)⊕(Int×Unit))):=let k19 (v4:Bool):Option (((List Charge)×Int×Unit)⊕((Unit)⊕(Int×Unit))):=let k18 (v5:Bool):Option (((List Charge)×Int×Unit)⊕((Unit)⊕(Int×Unit))):=let k17 (v6:Bool):Option (((List Charge)×Int×Unit)⊕((Unit)⊕(Int×Unit))):=let k16 (v8:Bool):Option (((List Charge)×Int×Unit)⊕((Unit)⊕(Int×Unit))):=bif v8 then some (.inr (.inr (2,()))) else let k15 (v9:Bool):Option (((List Charge)×Int×Unit)⊕((Unit)⊕(Int×Unit))):=bif v9 then some (.inr (.inr (1,()))) else let k14 (v10:Bool):Option (((List Charge)×Int×Unit)⊕((Unit)⊕(Int×Unit))):=let k13 (v11:Bool):Option (((List Charge)×Int×Unit)⊕((Unit)⊕(Int×Unit))):=let k (v12:Bool):Option (((List Charge)×Int×Unit)⊕((Unit)⊕(Int×Unit))):=bif v12 then some (.inr (.inr (2,()))) else some (.inl (l,wr .i64 (i+1),()));bif v11 then k true else k (decide (x.Amount≤x.Paid));bif v10 then k13 true else k13 (decide (x.Paid<0));bif decide (x.Amount<1) then k14 true else k14 (decide (100000000<x.Amount));bif decide (x.Kind<1) then k15 true else k15 (decide (3<x.Kind));bif v6 then k16 true else match qfb x.Day with|some r7 =>k16 (!r7)|none =>none;bif v5 then k17 true else k17 (decide (9999<x.Item));bif v4 then k18 true else k18 (decide (x.Item<1));bif v3 then k19 true else k19 (decide (9999<x.Patron));bif v2 then k20 true else k20 (decide (x.Patron<1));bif decide (x.ID<1) then k21 true else k21 (decide (99999<x.ID));bif decide (0<i) then match getI l (wr .i64 (i-1)) with|some x1 =>k22 (decide (x.ID≤x1.ID))|none =>none else k22 false|none =>none else some (.inr (.inl (())))
def qa1 (l:List Charge):Option Int:=
 bif decide (128<(l.length:Int)) then some 13 else match zae zk8 (l,0,()) with|some (.inl (_)) =>some 0|some (.inr (v,_)) =>some v|none =>none
def qbl (n:Int) (low:Int) (high:Int):Option Bool:=
 let k (v:Bool):Option Bool:=some v;bif decide (low≤n) then k (decide (n≤high)) else k false
def qc6 (r:Rule):Option Bool:=
 match qbl r.Patron 0 9 with|some r2 =>let k48 (v:Bool):Option Bool:=let k47 (v7:Bool):Option Bool:=match qbl r.Days 0 365 with|some r9 =>let k46 (v12:Bool):Option Bool:=let k45 (v15:Bool):Option Bool:=match qbl r.Fine 0 1000 with|some r17 =>let k44 (v20:Bool):Option Bool:=let k43 (v23:Bool):Option Bool:=let k42 (v24:Bool):Option Bool:=let k41 (v25:Bool):Option Bool:=let k40 (v28:Bool):Option Bool:=let k39 (v31:Bool):Option Bool:=let k38 (v34:Bool):Option Bool:=let k (v37:Bool):Option Bool:=some v37;bif v34 then match qbl r.Rank 0 9 with|some r36 =>k r36|none =>none else k false;bif v31 then match qbl r.Fixed 0 109572 with|some r33 =>k38 r33|none =>none else k38 false;bif v28 then match qbl r.Recall 1 60 with|some r30 =>k39 r30|none =>none else k39 false;bif v25 then match qbl r.Shelf 1 60 with|some r27 =>k40 r27|none =>none else k40 false;bif v24 then k41 v23 else k41 false;bif v7 then k42 v15 else k42 false;bif v20 then match qbl r.MaxFine 0 100000000 with|some r22 =>k43 r22|none =>none else k43 false;bif r17 then match qbl r.Grace 0 30 with|some r19 =>k44 r19|none =>none else k44 false|none =>none;bif v12 then match qbl r.Loans 0 99 with|some r14 =>k45 r14|none =>none else k45 false;bif r9 then match qbl r.Renewals 0 10 with|some r11 =>k46 r11|none =>none else k46 false|none =>none;bif v then match qbl r.Branch 0 4 with|some r6 =>k47 r6|none =>none else k47 false;bif r2 then match qbl r.Item 0 9 with|some r4 =>k48 r4|none =>none else k48 false|none =>none
def zve:((List Rule)×Int×Int×Unit)→Option (((List Rule)×Int×Int×Unit)⊕(((List Rule)×Int×Unit)⊕(Int×Unit))):=fun (l,i,k,_)=>
 bif decide (k<i) then match getI l k with|some x =>(match getI l i with|some x2 =>let k9 (v:Bool):Option (((List Rule)×Int×Int×Unit)⊕(((List Rule)×Int×Unit)⊕(Int×Unit))):=let k8 (v7:Bool):Option (((List Rule)×Int×Int×Unit)⊕(((List Rule)×Int×Unit)⊕(Int×Unit))):=bif v7 then some (.inr (.inr (7,()))) else some (.inl (l,i,wr .i64 (k+1),()));bif v then match getI l k with|some x5 =>(match getI l i with|some x6 =>k8 (x5.Branch==x6.Branch)|none =>none)|none =>none else k8 false;bif x.Patron==x2.Patron then match getI l k with|some x3 =>(match getI l i with|some x4 =>k9 (x3.Item==x4.Item)|none =>none)|none =>none else k9 false|none =>none)|none =>none else some (.inr (.inl (l,i,())))
def z2f:((List Rule)×Int×Unit)→Option (((List Rule)×Int×Unit)⊕((Unit)⊕(Int×Unit))):=fun (l,i,_)=>
 bif decide (i<(l.length:Int)) then match getI l i with|some x =>(match qc6 x with|some r1 =>(bif !r1 then some (.inr (.inr (2,()))) else match zae zve (l,i,0,()) with|some (.inl (l10,i11,_)) =>some (.inl (l10,wr .i64 (i11+1),()))|some (.inr (v,_)) =>some (.inr (.inr (v,())))|none =>none)|none =>none)|none =>none else some (.inr (.inl (())))
def qm (l:List Rule):Option Int:=
 bif decide (32<(l.length:Int)) then some 13 else match zae z2f (l,0,()) with|some (.inl (_)) =>some 0|some (.inr (v,_)) =>some v|none =>none
def zvj:(Int×Calendar×Unit)→Option ((Int×Calendar×Unit)⊕((Calendar×Unit)⊕(Int×Unit))):=fun (i,c,_)=>
 bif decide (i<(c.Closed.length:Int)) then match getI c.Closed i with|some x =>(let k (v:Bool):Option ((Int×Calendar×Unit)⊕((Calendar×Unit)⊕(Int×Unit))):=bif v then some (.inr (.inr (2,()))) else some (.inl (wr .i64 (i+1),c,()));bif decide (x<0) then k true else match getI c.Closed i with|some x1 =>k (decide (109572<x1))|none =>none)|none =>none else some (.inr (.inl (c,())))
def zln:(Int×Calendar×Unit)→Option ((Int×Calendar×Unit)⊕((Unit)⊕(Int×Unit))):=fun (i,c,_)=>
 bif decide (i<(c.Closed.length:Int)) then match getI c.Closed i with|some x =>(match getI c.Closed (wr .i64 (i-1)) with|some x3 =>bif decide (x≤x3) then some (.inr (.inr (7,()))) else some (.inl (wr .i64 (i+1),c,()))|none =>none)|none =>none else some (.inr (.inl (())))
def qy (c:Calendar):Option Int:=
 let k (v:Bool):Option Int:=bif v then some 1 else bif decide (64<(c.Closed.length:Int)) then some 13 else match zae zvj (0,c,()) with|some (.inl (c2,_)) =>(match zae zln (1,c2,()) with|some (.inl (_)) =>some 0|some (.inr (v4,_)) =>some v4|none =>none)|some (.inr (v5,_)) =>some v5|none =>none;bif decide (c.Week<0) then k true else k (decide (126<c.Week))
def znz:((List Patron)×Int×Int×Unit)→Option (((List Patron)×Int×Int×Unit)⊕((Unit)⊕(Int×Unit))):=fun (l,vid,i,_)=>
 bif decide (i<(l.length:Int)) then match getI l i with|some x =>bif x.ID==vid then some (.inr (.inr (i,()))) else some (.inl (l,vid,wr .i64 (i+1),()))|none =>none else some (.inr (.inl (())))
def qaw (l:List Patron) (vid:Int):Option Int:=
 match zae znz (l,vid,0,()) with|some (.inl (_)) =>some (-1)|some (.inr (v,_)) =>some v|none =>none
def qcb (l:List Patron) (vid:Int):Option (Patron×Bool):=
 match qaw l vid with|some r1 =>(bif decide (r1<0) then some ((⟨0,0,0,0,false,[]⟩:Patron),false) else match getI l r1 with|some x =>some (x,true)|none =>none)|none =>none
def qdt (branch:Int):Option Custody:=
 some (⟨1,branch,0,0⟩:Custody)
def qfi (state:Int):Option Bool:=
 let k6 (v:Bool):Option Bool:=let k5 (v1:Bool):Option Bool:=let k4 (v2:Bool):Option Bool:=let k (v3:Bool):Option Bool:=some v3;bif v2 then k true else k (state==10);bif v1 then k4 true else k4 (state==9);bif v then k5 true else k5 (state==8);bif state==4 then k6 true else k6 (state==5)
def qdu (c:Custody):Option Bool:=
 let k17 (v:Bool):Option Bool:=let k16 (v1:Bool):Option Bool:=let k15 (v2:Bool):Option Bool:=bif v2 then some false else let k10 (v9:Bool):Option Bool:=some v9;bif c.State==6 then let k8 (v3:Bool):Option Bool:=let k7 (v4:Bool):Option Bool:=let k (v5:Bool):Option Bool:=bif v5 then k10 (!(c.To==c.Branch)) else k10 false;bif v4 then k (decide (c.To≤4)) else k false;bif v3 then k7 (decide (1≤c.To)) else k7 false;bif decide (0≤c.Who) then k8 (decide (c.Who≤9999)) else k8 false else bif !(c.To==0) then some false else match qfi c.State with|some r11 =>let k14 (v13:Bool):Option Bool:=some v13;bif r11 then bif decide (1≤c.Who) then k14 (decide (c.Who≤9999)) else k14 false else some (c.Who==0)|none =>none;bif v1 then k15 true else k15 (decide (4<c.Branch));bif v then k16 true else k16 (decide (c.Branch<1));bif decide (c.State<1) then k17 true else k17 (decide (12<c.State))
def qes (m:Move):Option Bool:=
 let k16 (v:Bool):Option Bool:=let k15 (v1:Bool):Option Bool:=let k14 (v2:Bool):Option Bool:=let k13 (v3:Bool):Option Bool:=let k12 (v4:Bool):Option Bool:=let k11 (v5:Bool):Option Bool:=let k10 (v6:Bool):Option Bool:=let k9 (v7:Bool):Option Bool:=let k (v8:Bool):Option Bool:=some v8;bif v7 then k (decide (m.Who≤9999)) else k false;bif v6 then k9 (decide (0≤m.Who)) else k9 false;bif v5 then k10 (decide (m.Branch≤4)) else k10 false;bif v4 then k11 (decide (1≤m.Branch)) else k11 false;bif v3 then k12 (decide (m.Kind≤15)) else k12 false;bif v2 then k13 (decide (1≤m.Kind)) else k13 false;bif v1 then k14 (decide (m.Item≤9999)) else k14 false;bif v then k15 (decide (1≤m.Item)) else k15 false;bif decide (0≤m.Day) then k16 (decide (m.Day≤109572)) else k16 false
def qcy (kind:Int):Option (List Int):=
 bif kind==1 then some ([1]) else bif kind==2 then some ([2,5]) else bif kind==3 then some ([3,5]) else bif kind==4 then some ([4,8,9,10]) else let k (v:Bool):Option (List Int):=bif v then some ([2,3]) else bif kind==6 then some ([2,3,5]) else bif kind==7 then some ([6]) else bif kind==9 then some ([7]) else bif kind==10 then some ([3]) else bif kind==11 then some ([4]) else bif kind==12 then some ([4,9]) else bif kind==13 then some ([2,3,5,6,7]) else bif kind==14 then some ([11]) else bif kind==15 then some ([1,2,3,11,10]) else some ([]);bif kind==5 then k (kind==5) else k (kind==8)
def znw:(Int×(List Int)×Int×Unit)→Option ((Int×(List Int)×Int×Unit)⊕((Unit)⊕(Bool×Unit))):=fun (state,l,i,_)=>
 bif decide (i<(l.length:Int)) then match getI l i with|some x =>bif x==state then some (.inr (.inr (true,()))) else some (.inl (state,l,wr .i64 (i+1),()))|none =>none else some (.inr (.inl (())))
def qap (state:Int) (kind:Int):Option Bool:=
 match qcy kind with|some r1 =>(match zae znw (state,r1,0,()) with|some (.inl (_)) =>some false|some (.inr (v,_)) =>some v|none =>none)|none =>none
def qdg (c:Custody) (m:Move):Option Bool:=
 let k14 (v2:Bool):Option Bool:=let k11 (v10:Bool):Option Bool:=some v10;bif v2 then k11 (m.Who==0) else bif m.Kind==7 then bif m.Who==0 then k11 (m.Branch==c.To) else k11 false else bif m.Kind==6 then k11 (!(m.Branch==c.Branch)) else let k (v5:Bool):Option Bool:=bif v5 then bif m.Branch==c.Branch then k11 (decide (1≤m.Who)) else k11 false else let k13 (v12:Bool):Option Bool:=some v12;bif m.Branch==c.Branch then k13 (m.Who==0) else k13 false;bif m.Kind==3 then k (m.Kind==3) else bif m.Kind==5 then k (m.Kind==5) else k (m.Kind==10);bif m.Kind==1 then k14 (m.Kind==1) else bif m.Kind==4 then k14 (m.Kind==4) else bif m.Kind==9 then k14 (m.Kind==9) else k14 (m.Kind==14)
def qfm (kind:Int):Option Int:=
 let k13 (v3:Bool):Option Int:=let k (v12:Int):Option Int:=some v12;bif v3 then k 2 else bif kind==2 then k 3 else bif kind==3 then k 4 else bif kind==5 then k 5 else bif kind==6 then k 6 else bif kind==8 then k 7 else bif kind==10 then k 8 else bif kind==11 then k 9 else bif kind==12 then k 10 else bif kind==13 then k 11 else some 12;bif kind==1 then k13 (kind==1) else bif kind==4 then k13 (kind==4) else bif kind==7 then k13 (kind==7) else bif kind==9 then k13 (kind==9) else k13 (kind==14)
def qcc (c:Custody) (m:Move):Option (Custody×Int):=
 match qdu c with|some r1 =>(let k26 (v:Bool):Option (Custody×Int):=bif v then some ((⟨0,0,0,0⟩:Custody),1) else match qap c.State m.Kind with|some r5 =>bif !r5 then some ((⟨0,0,0,0⟩:Custody),12) else let k25 (v6:Bool):Option (Custody×Int):=let k24 (v7:Bool):Option (Custody×Int):=bif v7 then some ((⟨0,0,0,0⟩:Custody),16) else match qdg c m with|some r9 =>(bif !r9 then some ((⟨0,0,0,0⟩:Custody),1) else match qfm m.Kind with|some r11 =>let k23 (vout20:Int) (vout21:Int) (vout22:Int):Option (Custody×Int):=some ((⟨r11,vout20,vout21,vout22⟩:Custody),0);bif r11==2 then k23 m.Branch 0 0 else let k19 (v13:Bool):Option (Custody×Int):=bif v13 then k23 c.Branch m.Who 0 else bif r11==6 then k23 c.Branch m.Who m.Branch else let k (v14:Bool):Option (Custody×Int):=bif v14 then k23 c.Branch c.Who 0 else k23 c.Branch 0 0;bif r11==9 then k (r11==9) else k (r11==10);bif r11==4 then k19 (r11==4) else bif r11==5 then k19 (r11==5) else k19 (r11==8)|none =>none)|none =>none;bif v6 then k24 (!(m.Who==c.Who)) else k24 false;bif m.Kind==3 then k25 (c.State==5) else k25 false|none =>none;bif !r1 then k26 true else match qes m with|some r3 =>k26 (!r3)|none =>none)|none =>none
def znx:((List Move)×Int×Int×Custody×Custody×Unit)→Option (((List Move)×Int×Int×Custody×Custody×Unit)⊕((Custody×Custody×Unit)⊕(Int×Int×Custody×Unit))):=fun (l,item,i,v,c,_)=>
 bif decide (i<(l.length:Int)) then match getI l i with|some x =>(bif !(x.Item==item) then some (.inl (l,item,wr .i64 (i+1),v,c,())) else match getI l i with|some x2 =>(match qcc c x2 with|some (r3,r4) =>bif !(r4==0) then some (.inr (.inr (i,r4,(⟨0,0,0,0⟩:Custody),()))) else some (.inl (l,item,wr .i64 (i+1),v,r3,()))|none =>none)|none =>none)|none =>none else some (.inr (.inl (v,c,())))
def qaq (branch:Int) (l:List Move) (item:Int):Option (Custody×Int×Int):=
 let k (v:Bool):Option (Custody×Int×Int):=bif v then some ((⟨0,0,0,0⟩:Custody),(-1),1) else match qdt branch with|some r1 =>(match zae znx (l,item,0,(⟨0,0,0,0⟩:Custody),r1,()) with|some (.inl (v5,c,_)) =>some (c,(-1),0)|some (.inr (v6,v7,v8,_)) =>some (v8,v6,v7)|none =>none)|none =>none;bif decide (branch<1) then k true else k (decide (4<branch))
def z2i:(Int×Int×Circ×Unit)→Option ((Int×Int×Circ×Unit)⊕((Unit)⊕(Int×Unit))):=fun (item,i,c,_)=>
 bif decide (i<(c.Items.length:Int)) then match getI c.Items i with|some x =>bif x.ID==item then some (.inr (.inr (i,()))) else some (.inl (item,wr .i64 (i+1),c,()))|none =>none else some (.inr (.inl (())))
def qp (c:Circ) (item:Int):Option Int:=
 match zae z2i (item,0,c,()) with|some (.inl (_)) =>some (-1)|some (.inr (v,_)) =>some v|none =>none
def zla:(Int×Circ×Unit)→Option ((Int×Circ×Unit)⊕((Circ×Unit)⊕(Bool×Unit))):=fun (i,c,_)=>
 bif decide (i<(c.Items.length:Int)) then match getI c.Items i with|some x =>let k29 (v:Bool):Option ((Int×Circ×Unit)⊕((Circ×Unit)⊕(Bool×Unit))):=let k28 (v3:Bool):Option ((Int×Circ×Unit)⊕((Circ×Unit)⊕(Bool×Unit))):=let k27 (v4:Bool):Option ((Int×Circ×Unit)⊕((Circ×Unit)⊕(Bool×Unit))):=let k26 (v5:Bool):Option ((Int×Circ×Unit)⊕((Circ×Unit)⊕(Bool×Unit))):=let k25 (v6:Bool):Option ((Int×Circ×Unit)⊕((Circ×Unit)⊕(Bool×Unit))):=let k24 (v7:Bool):Option ((Int×Circ×Unit)⊕((Circ×Unit)⊕(Bool×Unit))):=bif v7 then some (.inr (.inr (false,()))) else let k23 (v8:Bool):Option ((Int×Circ×Unit)⊕((Circ×Unit)⊕(Bool×Unit))):=let k22 (v9:Bool):Option ((Int×Circ×Unit)⊕((Circ×Unit)⊕(Bool×Unit))):=let k21 (v10:Bool):Option ((Int×Circ×Unit)⊕((Circ×Unit)⊕(Bool×Unit))):=let k20 (v11:Bool):Option ((Int×Circ×Unit)⊕((Circ×Unit)⊕(Bool×Unit))):=let k19 (v13:Bool):Option ((Int×Circ×Unit)⊕((Circ×Unit)⊕(Bool×Unit))):=bif v13 then some (.inr (.inr (false,()))) else match qaq x.Branch c.Moves x.ID with|some (r15,r16,r17) =>let k (v18:Bool):Option ((Int×Circ×Unit)⊕((Circ×Unit)⊕(Bool×Unit))):=bif v18 then some (.inr (.inr (false,()))) else some (.inl (wr .i64 (i+1),c,()));bif !(r17==0) then k true else k (!(za1 r15 x.Custody))|none =>none;bif v11 then k19 true else match qal x.Call with|some r12 =>k19 (!r12)|none =>none;bif v10 then k20 true else k20 (decide (200<(x.Call.length:Int)));bif v9 then k21 true else k21 (decide (100000000<x.Price));bif v8 then k22 true else k22 (decide (x.Price<0));bif decide (x.Kind<1) then k23 true else k23 (decide (9<x.Kind));bif v6 then k24 true else k24 (decide (4<x.Branch));bif v5 then k25 true else k25 (decide (x.Branch<1));bif v4 then k26 true else k26 (decide (9999<x.Record));bif v3 then k27 true else k27 (decide (x.Record<1));bif v then k28 true else bif decide (0<i) then match getI c.Items (wr .i64 (i-1)) with|some x1 =>k28 (decide (x.ID≤x1.ID))|none =>none else k28 false;bif decide (x.ID<1) then k29 true else k29 (decide (9999<x.ID))|none =>none else some (.inr (.inl (c,())))
def zgx:(Int×Circ×Unit)→Option ((Int×Circ×Unit)⊕((Unit)⊕(Bool×Unit))):=fun (i,c,_)=>
 bif decide (i<(c.Moves.length:Int)) then match getI c.Moves i with|some x =>(match qp c x.Item with|some r31 =>bif decide (r31<0) then some (.inr (.inr (false,()))) else some (.inl (wr .i64 (i+1),c,()))|none =>none)|none =>none else some (.inr (.inl (())))
def qab (c:Circ):Option Bool:=
 let k (v:Bool):Option Bool:=bif v then some false else match zae zla (0,c,()) with|some (.inl (c30,_)) =>(match zae zgx (0,c30,()) with|some (.inl (_)) =>some true|some (.inr (v32,_)) =>some v32|none =>none)|some (.inr (v33,_)) =>some v33|none =>none;bif decide (64<(c.Items.length:Int)) then k true else k (decide (2000<(c.Moves.length:Int)))
def qen (u:Custody):Option Bool:=
 let k2 (v:Bool):Option Bool:=let k (v1:Bool):Option Bool:=some v1;bif v then k true else k (u.State==10);bif u.State==4 then k2 true else k2 (u.State==9)
def znu:((List Loan)×Int×Int×Unit)→Option (((List Loan)×Int×Int×Unit)⊕((Unit)⊕(Int×Unit))):=fun (l,item,i,_)=>
 bif decide (i<(l.length:Int)) then match getI l i with|some x =>bif x.Item==item then some (.inr (.inr (i,()))) else some (.inl (l,item,wr .i64 (i+1),()))|none =>none else some (.inr (.inl (())))
def qak (l:List Loan) (item:Int):Option Int:=
 match zae znu (l,item,0,()) with|some (.inl (_)) =>some (-1)|some (.inr (v,_)) =>some v|none =>none
def qdv (l:List Loan) (item:Int):Option (Loan×Bool):=
 match qak l item with|some r1 =>(bif decide (r1<0) then some ((⟨0,0,0,0,0,false⟩:Loan),false) else match getI l r1 with|some x =>some (x,true)|none =>none)|none =>none
def zk9:(Int×Circ×Unit)→Option ((Int×Circ×Unit)⊕((Circ×Unit)⊕(Bool×Unit))):=fun (i,c,_)=>
 bif decide (i<(c.Loans.length:Int)) then match getI c.Loans i with|some x =>(match qp c x.Item with|some r1 =>(match qcb c.Patrons x.Patron with|some (r3,r4) =>let k12 (v:Bool):Option ((Int×Circ×Unit)⊕((Circ×Unit)⊕(Bool×Unit))):=let k11 (v8:Bool):Option ((Int×Circ×Unit)⊕((Circ×Unit)⊕(Bool×Unit))):=let k (v10:Bool):Option ((Int×Circ×Unit)⊕((Circ×Unit)⊕(Bool×Unit))):=bif v10 then some (.inr (.inr (false,()))) else some (.inl (wr .i64 (i+1),c,()));bif v8 then k true else match getI c.Items r1 with|some x9 =>k (!(x9.Custody.Who==x.Patron))|none =>none;bif v then k11 true else match getI c.Items r1 with|some x5 =>(match qen x5.Custody with|some r7 =>k11 (!r7)|none =>none)|none =>none;bif decide (r1<0) then k12 true else k12 (!r4)|none =>none)|none =>none)|none =>none else some (.inr (.inl (c,())))
def zib:(Int×Circ×Unit)→Option ((Int×Circ×Unit)⊕((Unit)⊕(Bool×Unit))):=fun (i,c,_)=>
 bif decide (i<(c.Items.length:Int)) then match getI c.Items i with|some x =>(match qdv c.Loans x.ID with|some (r14,r15) =>(match getI c.Items i with|some x16 =>(match qen x16.Custody with|some r18 =>bif !(r15==r18) then some (.inr (.inr (false,()))) else some (.inl (wr .i64 (i+1),c,()))|none =>none)|none =>none)|none =>none)|none =>none else some (.inr (.inl (())))
def qaa (c:Circ):Option Bool:=
 match zae zk9 (0,c,()) with|some (.inl (c13,_)) =>(match zae zib (0,c13,()) with|some (.inl (_)) =>some true|some (.inr (v,_)) =>some v|none =>none)|some (.inr (v19,_)) =>some v19|none =>none
def zny:(Int×Int×Circ×Hold×Unit)→Option ((Int×Int×Circ×Hold×Unit)⊕((Hold×Unit)⊕(Bool×Hold×Unit))):=fun (item,i,c,v,_)=>
 bif decide (i<(c.Holds.length:Int)) then match getI c.Holds i with|some x =>bif x.Got==item then match getI c.Holds i with|some x1 =>some (.inr (.inr (true,x1,())))|none =>none else some (.inl (item,wr .i64 (i+1),c,v,()))|none =>none else some (.inr (.inl (v,())))
def qav (c:Circ) (item:Int):Option (Hold×Bool):=
 match zae zny (item,0,c,(⟨0,0,0,0,0,0,0,0,0,0,0⟩:Hold),()) with|some (.inl (v,_)) =>some ((⟨0,0,0,0,0,0,0,0,0,0,0⟩:Hold),false)|some (.inr (v2,v3,_)) =>some (v3,v2)|none =>none
def zlb:(Int×Circ×Unit)→Option ((Int×Circ×Unit)⊕((Circ×Unit)⊕(Bool×Unit))):=fun (i,c,_)=>
 bif decide (i<(c.Holds.length:Int)) then match getI c.Holds i with|some x =>(match qcb c.Patrons x.Patron with|some (r1,r2) =>let k18 (v:Bool):Option ((Int×Circ×Unit)⊕((Circ×Unit)⊕(Bool×Unit))):=bif v then some (.inr (.inr (false,()))) else bif x.State==1 then some (.inl (wr .i64 (i+1),c,())) else match qp c x.Got with|some r4 =>(let k17 (v6:Bool):Option ((Int×Circ×Unit)⊕((Circ×Unit)⊕(Bool×Unit))):=bif v6 then some (.inr (.inr (false,()))) else match getI c.Items r4 with|some x7 =>let k16 (v10:Bool):Option ((Int×Circ×Unit)⊕((Circ×Unit)⊕(Bool×Unit))):=bif v10 then some (.inr (.inr (false,()))) else let k15 (v14:Bool):Option ((Int×Circ×Unit)⊕((Circ×Unit)⊕(Bool×Unit))):=bif v14 then some (.inr (.inr (false,()))) else some (.inl (wr .i64 (i+1),c,()));bif x.State==2 then let k13 (v11:Bool):Option ((Int×Circ×Unit)⊕((Circ×Unit)⊕(Bool×Unit))):=bif v11 then k15 true else k15 (!(x7.Custody.Who==x.Patron));bif !(x7.Custody.State==6) then k13 true else k13 (!(x7.Custody.To==x.Pickup)) else k15 false;bif x.State==3 then let k (v8:Bool):Option ((Int×Circ×Unit)⊕((Circ×Unit)⊕(Bool×Unit))):=bif v8 then k16 true else k16 (!(x7.Custody.Who==x.Patron));bif !(x7.Custody.State==5) then k true else k (!(x7.Custody.Branch==x.Pickup)) else k16 false|none =>none;bif decide (r4<0) then k17 true else match getI c.Items r4 with|some x5 =>k17 (!(x5.Record==x.Record))|none =>none)|none =>none;bif !r2 then k18 true else k18 (decide (c.NextHold≤x.ID))|none =>none)|none =>none else some (.inr (.inl (c,())))
def zic:(Int×Circ×Unit)→Option ((Int×Circ×Unit)⊕((Unit)⊕(Bool×Unit))):=fun (i,c,_)=>
 bif decide (i<(c.Items.length:Int)) then match getI c.Items i with|some x =>(bif !(x.Custody.State==5) then some (.inl (wr .i64 (i+1),c,())) else match getI c.Items i with|some x20 =>(match qav c x20.ID with|some (r21,r22) =>let k (v:Bool):Option ((Int×Circ×Unit)⊕((Unit)⊕(Bool×Unit))):=bif v then some (.inr (.inr (false,()))) else some (.inl (wr .i64 (i+1),c,()));bif !r22 then k true else k (!(r21.State==3))|none =>none)|none =>none)|none =>none else some (.inr (.inl (())))
def qac (c:Circ):Option Bool:=
 match zae zlb (0,c,()) with|some (.inl (c19,_)) =>(match zae zic (0,c19,()) with|some (.inl (_)) =>some true|some (.inr (v,_)) =>some v|none =>none)|some (.inr (v23,_)) =>some v23|none =>none
def zis:(Int×Circ×Unit)→Option ((Int×Circ×Unit)⊕((Circ×Unit)⊕(Bool×Unit))):=fun (i,c,_)=>
 bif decide (i<4) then let k (v:Int) (v18:List Int):Option ((Int×Circ×Unit)⊕((Circ×Unit)⊕(Bool×Unit))):=match qy (⟨v,v18⟩:Calendar) with|some r19 =>bif !(r19==0) then some (.inr (.inr (false,()))) else some (.inl (wr .i64 (i+1),c,()))|none =>none;bif i==0 then k c.Cals.x0.Week c.Cals.x0.Closed else bif i==1 then k c.Cals.x1.Week c.Cals.x1.Closed else bif i==2 then k c.Cals.x2.Week c.Cals.x2.Closed else bif i==3 then k c.Cals.x3.Week c.Cals.x3.Closed else none else some (.inr (.inl (c,())))
def zgy:(Int×Circ×Unit)→Option ((Int×Circ×Unit)⊕((Circ×Unit)⊕(Bool×Unit))):=fun (i,c,_)=>
 bif decide (i<(c.Charges.length:Int)) then match getI c.Charges i with|some x =>(match qcb c.Patrons x.Patron with|some (r21,r22) =>(let k (v:Bool):Option ((Int×Circ×Unit)⊕((Circ×Unit)⊕(Bool×Unit))):=bif v then some (.inr (.inr (false,()))) else some (.inl (wr .i64 (i+1),c,()));bif !r22 then k true else match getI c.Charges i with|some x23 =>k (decide (c.NextCharge≤x23.ID))|none =>none)|none =>none)|none =>none else some (.inr (.inl (c,())))
def qaj (c:Circ):Option Bool:=
 let k44 (v:Bool):Option Bool:=let k43 (v1:Bool):Option Bool:=let k42 (v2:Bool):Option Bool:=let k41 (v3:Bool):Option Bool:=let k40 (v4:Bool):Option Bool:=bif v4 then some false else match qas c.Patrons with|some r5 =>(let k39 (v8:Bool):Option Bool:=let k38 (v11:Bool):Option Bool:=let k37 (v14:Bool):Option Bool:=let k36 (v17:Bool):Option Bool:=bif v17 then some false else match zae zis (0,c,()) with|some (.inl (c20,_)) =>(match zae zgy (0,c20,()) with|some (.inl (c24,_)) =>(match qab c24 with|some r26 =>let k33 (v29:Bool):Option Bool:=let k (v32:Bool):Option Bool:=some v32;bif v29 then match qac c24 with|some r31 =>k r31|none =>none else k false;bif r26 then match qaa c24 with|some r28 =>k33 r28|none =>none else k33 false|none =>none)|some (.inr (v34,_)) =>some v34|none =>none)|some (.inr (v35,_)) =>some v35|none =>none;bif v14 then k36 true else match qm c.Rules with|some r16 =>k36 (!(r16==0))|none =>none;bif v11 then k37 true else match qa1 c.Charges with|some r13 =>k37 (!(r13==0))|none =>none;bif v8 then k38 true else match qn c.Holds with|some r10 =>k38 (!(r10==0))|none =>none;bif !(r5==0) then k39 true else match qar c.Loans with|some r7 =>k39 (!(r7==0))|none =>none)|none =>none;bif v3 then k40 true else k40 (decide (100000<c.NextCharge));bif v2 then k41 true else k41 (decide (c.NextCharge<1));bif v1 then k42 true else k42 (decide (100000<c.NextHold));bif v then k43 true else k43 (decide (c.NextHold<1));bif decide (c.Today<0) then k44 true else k44 (decide (109572<c.Today))
def qee (c:Circ):Option Bool:=
 match qa c with|some r1 =>let k (v:Bool):Option Bool:=some v;bif r1 then match qaj c with|some r3 =>k r3|none =>none else k false|none =>none
def qef (today:Int):Option Circ:=
 some (⟨(if 109572<(if today<0 then 0 else today) then 109572 else (if today<0 then 0 else today)),[],[],[],[],[],[],⟨⟨0,[]⟩,⟨0,[]⟩,⟨0,[]⟩,⟨0,[]⟩⟩,[],1,1,false⟩:Circ)
def qcx (x:Item) (v:Int):Option Bool:=
 some (x.ID==v)
def zpw {γ0:Type} (p:γ0→Item→Option Bool):((List Item)×γ0×Int×Int×Unit)→Option (((List Item)×γ0×Int×Int×Unit)⊕((Unit)⊕(Int×Unit))):=fun (s,g,v,v1,_)=>
 bif decide (v1<v) then match getI s v1 with|some x =>(match p g x with|some r =>bif r then some (.inr (.inr (v1,()))) else some (.inl (s,g,v,wr .i64 (v1+1),()))|none =>none)|none =>none else some (.inr (.inl (())))
def qc {γ0:Type} (p:γ0→Item→Option Bool) (s:List Item) (g:γ0):Option Int:=
 match zae (zpw p) (s,g,(s.length:Int),0,()) with|some (.inl (_)) =>some (-1)|some (.inr (v,_)) =>some v|none =>none
def qao (c:Circ) (item:Int):Option Int:=
 match qc (fun g x0=>qcx x0 g.2.1) c.Items ((),(item,())) with|some r1 =>some r1|none =>none
def qd5 (branch:Int):Option Custody:=
 some (⟨1,branch,0,0⟩:Custody)
def qcu (z:Item) (v:Item):Option Bool:=
 some (decide (v.ID<z.ID))
def qck (s:List Item):Option (List Item):=
 bif decide (([]:List Item).length+s.length≤LIM) then some (([])++s) else none
def qb8 (n:Int) (low:Int) (high:Int):Option Bool:=
 let k (v:Bool):Option Bool:=some v;bif decide (low≤n) then k (decide (n≤high)) else k false
def qd4 (x:Item):Option Bool:=
 match qb8 x.ID 1 9999 with|some r1 =>let k21 (v:Bool):Option Bool:=let k20 (v6:Bool):Option Bool:=let k19 (v9:Bool):Option Bool:=let k18 (v12:Bool):Option Bool:=let k17 (v13:Bool):Option Bool:=let k (v16:Bool):Option Bool:=some v16;bif v13 then match qde x.Call with|some r15 =>k r15|none =>none else k false;bif v12 then k17 (decide ((x.Call.length:Int)≤200)) else k17 false;bif v9 then match qb8 x.Price 0 100000000 with|some r11 =>k18 r11|none =>none else k18 false;bif v6 then match qb8 x.Kind 1 9 with|some r8 =>k19 r8|none =>none else k19 false;bif v then match qb8 x.Branch 1 4 with|some r5 =>k20 r5|none =>none else k20 false;bif r1 then match qb8 x.Record 1 9999 with|some r3 =>k21 r3|none =>none else k21 false|none =>none
def qbw (n:Int) (least:Int) (most:Int):Option Bool:=
 let k (v:Bool):Option Bool:=some v;bif decide (least≤n) then k (decide (n≤most)) else k false
def qfh (c:Custody):Option Bool:=
 match qbw c.State 1 12 with|some r1 =>(let k23 (v:Bool):Option Bool:=bif v then some false else let k22 (v7:Bool):Option Bool:=let k19 (v18:Bool):Option Bool:=some v18;bif v7 then match qbw c.Who 1 9999 with|some r9 =>bif r9 then k19 (c.To==0) else k19 false|none =>none else bif c.State==6 then match qbw c.Who 0 9999 with|some r12 =>let k (v15:Bool):Option Bool:=bif v15 then k19 (!(c.To==c.Branch)) else k19 false;bif r12 then match qbw c.To 1 4 with|some r14 =>k r14|none =>none else k false|none =>none else let k21 (v20:Bool):Option Bool:=some v20;bif c.Who==0 then k21 (c.To==0) else k21 false;bif c.State==4 then k22 (c.State==4) else bif c.State==5 then k22 (c.State==5) else bif c.State==8 then k22 (c.State==8) else bif c.State==9 then k22 (c.State==9) else k22 (c.State==10);bif !r1 then k23 true else match qbw c.Branch 1 4 with|some r3 =>k23 (!r3)|none =>none)|none =>none
def qff (state:Int) (kind:Int):Option Bool:=
 match qbw state 1 12 with|some r1 =>let k5 (v:Bool):Option Bool:=let k (v4:Bool):Option Bool:=some v4;bif v then match getI zck state with|some x =>bif decide (kind<0) then none else k ((wr .u16 (BitVec.ofInt 16 (x.fdiv (2 ^ (min kind.toNat 16))) &&& BitVec.ofInt 16 1).toNat)==1)|none =>none else k false;bif r1 then match qbw kind 1 15 with|some r3 =>k5 r3|none =>none else k5 false|none =>none
def qcp (c:Custody) (ok:Bool):Option (Custody×Int):=
 bif !ok then some ((⟨0,0,0,0⟩:Custody),1) else some (c,0)
def qfj (c:Custody) (m:Move):Option (Custody×Int):=
 match qcp (⟨6,c.Branch,m.Who,m.Branch⟩:Custody) (!(m.Branch==c.Branch)) with|some (r1,r2) =>some (r1,r2)|none =>none
def qd6 (c:Custody) (m:Move):Option (Custody×Int):=
 match qfh c with|some r1 =>(let k95 (v:Bool):Option (Custody×Int):=let k94 (v6:Bool):Option (Custody×Int):=let k93 (v9:Bool):Option (Custody×Int):=let k92 (v12:Bool):Option (Custody×Int):=let k91 (v15:Bool):Option (Custody×Int):=bif v15 then some ((⟨0,0,0,0⟩:Custody),1) else match qff c.State m.Kind with|some r17 =>bif !r17 then some ((⟨0,0,0,0⟩:Custody),12) else let k90 (v18:Bool):Option (Custody×Int):=let k89 (v19:Bool):Option (Custody×Int):=bif v19 then some ((⟨0,0,0,0⟩:Custody),16) else let k88 (v22:Bool):Option (Custody×Int):=let k84 (state79:Int) (ok80:Bool):Option (Custody×Int):=match qcp (⟨state79,m.Branch,m.Who,0⟩:Custody) ok80 with|some (r82,r83) =>some (r82,r83)|none =>none;let k87 (v85:Int) (v86:Custody):Option (Custody×Int):=some (v86,v85);bif v22 then k84 2 (m.Who==0) else bif m.Kind==7 then bif m.Who==0 then k84 2 (m.Branch==c.To) else k84 2 false else bif m.Kind==6 then match qfj c m with|some (r25,r26) =>k87 r26 r25|none =>none else bif m.Kind==3 then bif m.Branch==c.Branch then k84 4 (!(m.Who==0)) else k84 4 false else bif m.Kind==5 then bif m.Branch==c.Branch then k84 5 (!(m.Who==0)) else k84 5 false else bif m.Kind==10 then bif m.Branch==c.Branch then k84 8 (!(m.Who==0)) else k84 8 false else bif m.Kind==2 then bif m.Branch==c.Branch then k84 3 (m.Who==0) else k84 3 false else bif m.Kind==8 then bif m.Branch==c.Branch then k84 7 (m.Who==0) else k84 7 false else bif m.Kind==11 then let k (v32:Bool):Option (Custody×Int):=match qcp (⟨9,c.Branch,c.Who,0⟩:Custody) v32 with|some (r34,r35) =>k87 r35 r34|none =>none;bif m.Branch==c.Branch then k (m.Who==0) else k false else bif m.Kind==12 then let k40 (v36:Bool):Option (Custody×Int):=match qcp (⟨10,c.Branch,c.Who,0⟩:Custody) v36 with|some (r38,r39) =>k87 r39 r38|none =>none;bif m.Branch==c.Branch then k40 (m.Who==0) else k40 false else bif m.Kind==13 then bif m.Branch==c.Branch then k84 11 (m.Who==0) else k84 11 false else bif m.Kind==15 then bif m.Branch==c.Branch then k84 12 (m.Who==0) else k84 12 false else k84 0 false;bif m.Kind==1 then k88 (m.Kind==1) else bif m.Kind==4 then k88 (m.Kind==4) else bif m.Kind==9 then k88 (m.Kind==9) else k88 (m.Kind==14);bif v18 then k89 (!(m.Who==c.Who)) else k89 false;bif m.Kind==3 then k90 (c.State==5) else k90 false|none =>none;bif v12 then k91 true else match qbw m.Who 0 9999 with|some r14 =>k91 (!r14)|none =>none;bif v9 then k92 true else match qbw m.Branch 1 4 with|some r11 =>k92 (!r11)|none =>none;bif v6 then k93 true else match qbw m.Kind 1 15 with|some r8 =>k93 (!r8)|none =>none;bif v then k94 true else match qbw m.Item 1 9999 with|some r5 =>k94 (!r5)|none =>none;bif !r1 then k95 true else match qbw m.Day 0 109572 with|some r3 =>k95 (!r3)|none =>none)|none =>none
def zn2:(Int×(List Move)×Int×Int×Custody×Custody×Unit)→Option ((Int×(List Move)×Int×Int×Custody×Custody×Unit)⊕((Custody×Custody×Unit)⊕(Int×Int×Custody×Unit))):=fun (item,v,v4,v5,v6,c,_)=>
 bif decide (v5<v4) then match getI v v5 with|some x =>(bif !(x.Item==item) then some (.inl (item,v,v4,wr .i64 (v5+1),v6,c,())) else match qd6 c x with|some (r7,r8) =>bif !(r8==0) then some (.inr (.inr (v5,r8,(⟨0,0,0,0⟩:Custody),()))) else some (.inl (item,v,v4,wr .i64 (v5+1),v6,r7,()))|none =>none)|none =>none else some (.inr (.inl (v6,c,())))
def qbq (branch:Int) (l:List Move) (item:Int):Option (Custody×Int×Int):=
 match qbw branch 1 4 with|some r1 =>(bif !r1 then some ((⟨0,0,0,0⟩:Custody),(-1),1) else match qd5 branch with|some r3 =>(match zae zn2 (item,l,(l.length:Int),0,(⟨0,0,0,0⟩:Custody),r3,()) with|some (.inl (v,c,_)) =>some (c,(-1),0)|some (.inr (v9,v10,v11,_)) =>some (v11,v9,v10)|none =>none)|none =>none)|none =>none
def zvh:((List Item)×Int×Int×Circ×Unit)→Option (((List Item)×Int×Int×Circ×Unit)⊕((Circ×Unit)⊕(Bool×Unit))):=fun (v,v1,v2,c,_)=>
 bif decide (v2<v1) then match getI v v2 with|some x =>(match qd4 x with|some r3 =>let k (v6:Bool):Option (((List Item)×Int×Int×Circ×Unit)⊕((Circ×Unit)⊕(Bool×Unit))):=bif v6 then some (.inr (.inr (false,()))) else some (.inl (v,v1,wr .i64 (v2+1),c,()));bif !r3 then k true else bif decide (0<v2) then match getI c.Items (wr .i64 (v2-1)) with|some x4 =>k (decide (x.ID≤x4.ID))|none =>none else k false|none =>none)|none =>none else some (.inr (.inl (c,())))
def zn9:((List Move)×Int×Int×Circ×Unit)→Option (((List Move)×Int×Int×Circ×Unit)⊕((Circ×Unit)⊕(Bool×Unit))):=fun (v,v8,v9,c,_)=>
 bif decide (v9<v8) then match getI v v9 with|some x =>(match qao c x.Item with|some r10 =>bif decide (r10<0) then some (.inr (.inr (false,()))) else some (.inl (v,v8,wr .i64 (v9+1),c,()))|none =>none)|none =>none else some (.inr (.inl (c,())))
def zoa:((List Item)×Int×Int×Circ×Unit)→Option (((List Item)×Int×Int×Circ×Unit)⊕((Unit)⊕(Bool×Unit))):=fun (v,v12,v13,c,_)=>
 bif decide (v13<v12) then match getI v v13 with|some x =>(match qbq x.Branch c.Moves x.ID with|some (r14,r15,r16) =>let k (v17:Bool):Option (((List Item)×Int×Int×Circ×Unit)⊕((Unit)⊕(Bool×Unit))):=bif v17 then some (.inr (.inr (false,()))) else some (.inl (v,v12,wr .i64 (v13+1),c,()));bif !(r16==0) then k true else k (!(za1 r14 x.Custody))|none =>none)|none =>none else some (.inr (.inl (())))
def qt (c:Circ):Option Bool:=
 let k (v:Bool):Option Bool:=bif v then some false else match zae zvh (c.Items,(c.Items.length:Int),0,c,()) with|some (.inl (c7,_)) =>(match zae zn9 (c7.Moves,(c7.Moves.length:Int),0,c7,()) with|some (.inl (c11,_)) =>(match zae zoa (c11.Items,(c11.Items.length:Int),0,c11,()) with|some (.inl (_)) =>some true|some (.inr (v18,_)) =>some v18|none =>none)|some (.inr (v19,_)) =>some v19|none =>none)|some (.inr (v20,_)) =>some v20|none =>none;bif decide (64<(c.Items.length:Int)) then k true else k (decide (2000<(c.Moves.length:Int)))
def qb4 (p:Patron):Option Int:=
 let k17 (v:Bool):Option Int:=let k16 (v1:Bool):Option Int:=let k15 (v2:Bool):Option Int:=let k14 (v13:Int):Option Int:=some v13;bif v2 then k14 1 else let k12 (v3:Bool):Option Int:=bif v3 then k14 2 else let k10 (v5:Bool):Option Int:=let k (v8:Bool):Option Int:=bif v8 then k14 3 else bif decide (200<(p.Name.length:Int)) then k14 4 else some 0;bif v5 then k true else match qea p.Name with|some r7 =>k (!(r7==p.Name))|none =>none;bif p.Name==([]) then k10 true else match qde p.Name with|some r4 =>k10 (!r4)|none =>none;bif decide (p.Until<0) then k12 true else k12 (decide (109572<p.Until));bif v1 then k15 true else k15 (decide (4<p.Branch));bif v then k16 true else k16 (decide (p.Branch<1));bif decide (p.Kind<1) then k17 true else k17 (decide (9<p.Kind))
def zns:(Int×(List Patron)×Int×Int×Unit)→Option ((Int×(List Patron)×Int×Int×Unit)⊕((Unit)⊕(Int×Unit))):=fun (last,v,v1,v2,_)=>
 bif decide (v2<v1) then match getI v v2 with|some x =>let k6 (v3:Bool):Option ((Int×(List Patron)×Int×Int×Unit)⊕((Unit)⊕(Int×Unit))):=let k (v4:Int):Option ((Int×(List Patron)×Int×Int×Unit)⊕((Unit)⊕(Int×Unit))):=some (.inr (.inr (v4,())));bif v3 then k 2 else bif decide (x.ID≤last) then k 7 else match qb4 x with|some r5 =>bif !(r5==0) then some (.inr (.inr (r5,()))) else some (.inl (x.ID,v,v1,wr .i64 (v2+1),()))|none =>none;bif decide (x.ID<1) then k6 true else k6 (decide (9999<x.ID))|none =>none else some (.inr (.inl (())))
def qa7 (l:List Patron):Option Int:=
 bif decide (32<(l.length:Int)) then some 13 else match zae zns (0,l,(l.length:Int),0,()) with|some (.inl (_)) =>some 0|some (.inr (v,_)) =>some v|none =>none
def qe0 (n:Int):Option Bool:=
 let k (v:Bool):Option Bool:=some v;bif decide (1≤n) then k (decide (n≤9999)) else k false
def qew (n:Int):Option Bool:=
 let k (v:Bool):Option Bool:=some v;bif decide (0≤n) then k (decide (n≤109572)) else k false
def zli:((List Loan)×(List Loan)×Int×Int×Unit)→Option (((List Loan)×(List Loan)×Int×Int×Unit)⊕((Unit)⊕(Int×Unit))):=fun (l,v,v1,v2,_)=>
 bif decide (v2<v1) then match getI v v2 with|some x =>let k25 (v4:Bool):Option (((List Loan)×(List Loan)×Int×Int×Unit)⊕((Unit)⊕(Int×Unit))):=let k24 (v23:Int):Option (((List Loan)×(List Loan)×Int×Int×Unit)⊕((Unit)⊕(Int×Unit))):=some (.inr (.inr (v23,())));bif v4 then k24 7 else match qe0 x.Item with|some r5 =>(let k22 (v8:Bool):Option (((List Loan)×(List Loan)×Int×Int×Unit)⊕((Unit)⊕(Int×Unit))):=let k21 (v11:Bool):Option (((List Loan)×(List Loan)×Int×Int×Unit)⊕((Unit)⊕(Int×Unit))):=let k20 (v14:Bool):Option (((List Loan)×(List Loan)×Int×Int×Unit)⊕((Unit)⊕(Int×Unit))):=let k19 (v15:Bool):Option (((List Loan)×(List Loan)×Int×Int×Unit)⊕((Unit)⊕(Int×Unit))):=let k18 (v16:Bool):Option (((List Loan)×(List Loan)×Int×Int×Unit)⊕((Unit)⊕(Int×Unit))):=let k (v17:Bool):Option (((List Loan)×(List Loan)×Int×Int×Unit)⊕((Unit)⊕(Int×Unit))):=bif v17 then k24 2 else some (.inl (l,v,v1,wr .i64 (v2+1),()));bif v16 then k true else k (decide (10<x.Renewals));bif v15 then k18 true else k18 (decide (x.Renewals<0));bif v14 then k19 true else k19 (decide (x.Due<x.Out));bif v11 then k20 true else match qew x.Due with|some r13 =>k20 (!r13)|none =>none;bif v8 then k21 true else match qew x.Out with|some r10 =>k21 (!r10)|none =>none;bif !r5 then k22 true else match qe0 x.Patron with|some r7 =>k22 (!r7)|none =>none)|none =>none;bif decide (0<v2) then match getI l (wr .i64 (v2-1)) with|some x3 =>k25 (decide (x.Item≤x3.Item))|none =>none else k25 false|none =>none else some (.inr (.inl (())))
def qba (l:List Loan):Option Int:=
 bif decide (64<(l.length:Int)) then some 13 else match zae zli (l,l,(l.length:Int),0,()) with|some (.inl (_)) =>some 0|some (.inr (v,_)) =>some v|none =>none
def qb7 (n:Int) (low:Int) (high:Int):Option Bool:=
 let k (v:Bool):Option Bool:=some v;bif decide (low≤n) then k (decide (n≤high)) else k false
def qet (n:Int):Option Bool:=
 match qb7 n 0 109572 with|some r1 =>some r1|none =>none
def qe8 (h:Hold):Option Int:=
 match qb7 h.ID 1 99999 with|some r1 =>(let k41 (v:Bool):Option Int:=let k40 (v6:Bool):Option Int:=let k39 (v9:Bool):Option Int:=let k38 (v37:Int):Option Int:=some v37;bif v9 then k38 2 else match qb7 h.Pickup 1 4 with|some r11 =>(let k36 (v14:Bool):Option Int:=let k35 (v17:Bool):Option Int:=let k34 (v20:Bool):Option Int:=let k33 (v23:Bool):Option Int:=let k32 (v26:Bool):Option Int:=bif v26 then k38 2 else match qb7 h.State 1 3 with|some r28 =>bif !r28 then k38 1 else let k (v29:Bool):Option Int:=bif v29 then k38 12 else some 0;bif !((decide (0<h.Got))==(!(h.State==1))) then k true else k (!((decide (0<h.Until))==(h.State==3)))|none =>none;bif v23 then k32 true else match qb7 h.Rank 0 9 with|some r25 =>k32 (!r25)|none =>none;bif v20 then k33 true else match qet h.Asleep with|some r22 =>k33 (!r22)|none =>none;bif v17 then k34 true else match qet h.Until with|some r19 =>k34 (!r19)|none =>none;bif v14 then k35 true else match qb7 h.Got 0 9999 with|some r16 =>k35 (!r16)|none =>none;bif !r11 then k36 true else match qet h.Placed with|some r13 =>k36 (!r13)|none =>none)|none =>none;bif v6 then k39 true else match qb7 h.Item 0 9999 with|some r8 =>k39 (!r8)|none =>none;bif v then k40 true else match qb7 h.Record 1 9999 with|some r5 =>k40 (!r5)|none =>none;bif !r1 then k41 true else match qb7 h.Patron 1 9999 with|some r3 =>k41 (!r3)|none =>none)|none =>none
def qcg (a:Hold) (b:Hold):Option Bool:=
 let k (v:Bool):Option Bool:=some v;bif a.Patron==b.Patron then k (a.Record==b.Record) else k false
def zs4 {γ0:Type} (p:γ0→Hold→Hold→Option Bool):((List Hold)×γ0×Int×Int×Int×Int×Int×Unit)→Option (((List Hold)×γ0×Int×Int×Int×Int×Int×Unit)⊕(((List Hold)×γ0×Int×Int×Unit)⊕(Bool×Unit))):=fun (l,g,i,v,v2,v3,v4,_)=>
 bif decide (v4<v3) then match getI l v4 with|some x =>(match getI l i with|some x5 =>(match p g x x5 with|some r =>bif r then some (.inr (.inr (true,()))) else some (.inl (l,g,i,v,v2,v3,wr .i64 (v4+1),()))|none =>none)|none =>none)|none =>none else some (.inr (.inl (l,g,v,v2,())))
def zu9 {γ0:Type} (p:γ0→Hold→Hold→Option Bool):((List Hold)×γ0×Int×Int×Unit)→Option (((List Hold)×γ0×Int×Int×Unit)⊕((Unit)⊕(Bool×Unit))):=fun (l,g,v,v1,_)=>
 bif decide (v1<v) then match zae (zs4 p) (l,g,v1,v,v1,v1,0,()) with|some (.inl (l6,g7,v8,v9,_)) =>some (.inl (l6,g7,v8,wr .i64 (v9+1),()))|some (.inr (v10,_)) =>some (.inr (.inr (v10,())))|none =>none else some (.inr (.inl (())))
def qe {γ0:Type} (p:γ0→Hold→Hold→Option Bool) (l:List Hold) (g:γ0):Option Bool:=
 match zae (zu9 p) (l,g,(l.length:Int),0,()) with|some (.inl (_)) =>some false|some (.inr (v,_)) =>some v|none =>none
def qdo (a:Hold) (b:Hold):Option Bool:=
 let k (v:Bool):Option Bool:=some v;bif a.Got==b.Got then k (decide (0<a.Got)) else k false
def zvd:((List Hold)×(List Hold)×Int×Int×Unit)→Option (((List Hold)×(List Hold)×Int×Int×Unit)⊕(((List Hold)×Unit)⊕(Int×Unit))):=fun (l,v,v1,v2,_)=>
 bif decide (v2<v1) then match getI v v2 with|some x =>let k (v4:Bool):Option (((List Hold)×(List Hold)×Int×Int×Unit)⊕(((List Hold)×Unit)⊕(Int×Unit))):=bif v4 then some (.inr (.inr (7,()))) else match qe8 x with|some r5 =>bif !(r5==0) then some (.inr (.inr (r5,()))) else some (.inl (l,v,v1,wr .i64 (v2+1),()))|none =>none;bif decide (0<v2) then match getI l (wr .i64 (v2-1)) with|some x3 =>k (decide (x.ID≤x3.ID))|none =>none else k false|none =>none else some (.inr (.inl (l,())))
def ql (l:List Hold):Option Int:=
 bif decide (64<(l.length:Int)) then some 13 else match zae zvd (l,l,(l.length:Int),0,()) with|some (.inl (l6,_)) =>(match qe (fun g x0 x1=>qcg x0 x1) l6 ((),()) with|some r7 =>(bif r7 then some 7 else match qe (fun g x0 x1=>qdo x0 x1) l6 ((),()) with|some r9 =>bif r9 then some 7 else some 0|none =>none)|none =>none)|some (.inr (v,_)) =>some v|none =>none
def qe6 (n:Int):Option Bool:=
 let k (v:Bool):Option Bool:=some v;bif decide (1≤n) then k (decide (n≤9999)) else k false
def qec (n:Int):Option Bool:=
 let k (v:Bool):Option Bool:=some v;bif decide (0≤n) then k (decide (n≤109572)) else k false
def qb9 (x:Charge):Option Int:=
 let k22 (v:Bool):Option Int:=let k21 (v2:Bool):Option Int:=let k20 (v5:Bool):Option Int:=let k19 (v8:Bool):Option Int:=let k18 (v17:Int):Option Int:=some v17;bif v8 then k18 2 else let k16 (v9:Bool):Option Int:=bif v9 then k18 1 else let k14 (v10:Bool):Option Int:=let k13 (v11:Bool):Option Int:=let k (v12:Bool):Option Int:=bif v12 then k18 2 else some 0;bif v11 then k true else k (decide (x.Amount≤x.Paid));bif v10 then k13 true else k13 (decide (x.Paid<0));bif decide (x.Amount<1) then k14 true else k14 (decide (100000000<x.Amount));bif decide (x.Kind<1) then k16 true else k16 (decide (3<x.Kind));bif v5 then k19 true else match qec x.Day with|some r7 =>k19 (!r7)|none =>none;bif v2 then k20 true else match qe6 x.Item with|some r4 =>k20 (!r4)|none =>none;bif v then k21 true else match qe6 x.Patron with|some r1 =>k21 (!r1)|none =>none;bif decide (x.ID<1) then k22 true else k22 (decide (99999<x.ID))
def zlj:((List Charge)×(List Charge)×Int×Int×Unit)→Option (((List Charge)×(List Charge)×Int×Int×Unit)⊕((Unit)⊕(Int×Unit))):=fun (l,v,v1,v2,_)=>
 bif decide (v2<v1) then match getI v v2 with|some x =>let k (v4:Bool):Option (((List Charge)×(List Charge)×Int×Int×Unit)⊕((Unit)⊕(Int×Unit))):=bif v4 then some (.inr (.inr (7,()))) else match qb9 x with|some r5 =>bif !(r5==0) then some (.inr (.inr (r5,()))) else some (.inl (l,v,v1,wr .i64 (v2+1),()))|none =>none;bif decide (0<v2) then match getI l (wr .i64 (v2-1)) with|some x3 =>k (decide (x.ID≤x3.ID))|none =>none else k false|none =>none else some (.inr (.inl (())))
def qbb (l:List Charge):Option Int:=
 bif decide (128<(l.length:Int)) then some 13 else match zae zlj (l,l,(l.length:Int),0,()) with|some (.inl (_)) =>some 0|some (.inr (v,_)) =>some v|none =>none
def qby (n:Int) (least:Int) (most:Int):Option Bool:=
 let k (v:Bool):Option Bool:=some v;bif decide (least≤n) then k (decide (n≤most)) else k false
def qe4 (r:Rule):Option Bool:=
 match qby r.Patron 0 9 with|some r2 =>let k48 (v:Bool):Option Bool:=let k47 (v7:Bool):Option Bool:=let k46 (v10:Bool):Option Bool:=let k45 (v13:Bool):Option Bool:=let k44 (v16:Bool):Option Bool:=let k43 (v19:Bool):Option Bool:=let k42 (v22:Bool):Option Bool:=let k41 (v25:Bool):Option Bool:=let k40 (v28:Bool):Option Bool:=let k39 (v31:Bool):Option Bool:=let k38 (v34:Bool):Option Bool:=let k (v37:Bool):Option Bool:=some v37;bif v34 then match qby r.Rank 0 9 with|some r36 =>k r36|none =>none else k false;bif v31 then match qby r.Fixed 0 109572 with|some r33 =>k38 r33|none =>none else k38 false;bif v28 then match qby r.Recall 1 60 with|some r30 =>k39 r30|none =>none else k39 false;bif v25 then match qby r.Shelf 1 60 with|some r27 =>k40 r27|none =>none else k40 false;bif v22 then match qby r.Loans 0 99 with|some r24 =>k41 r24|none =>none else k41 false;bif v19 then match qby r.MaxFine 0 100000000 with|some r21 =>k42 r21|none =>none else k42 false;bif v16 then match qby r.Grace 0 30 with|some r18 =>k43 r18|none =>none else k43 false;bif v13 then match qby r.Fine 0 1000 with|some r15 =>k44 r15|none =>none else k44 false;bif v10 then match qby r.Renewals 0 10 with|some r12 =>k45 r12|none =>none else k45 false;bif v7 then match qby r.Days 0 365 with|some r9 =>k46 r9|none =>none else k46 false;bif v then match qby r.Branch 0 4 with|some r6 =>k47 r6|none =>none else k47 false;bif r2 then match qby r.Item 0 9 with|some r4 =>k48 r4|none =>none else k48 false|none =>none
def qcl (o:Rule) (v:Rule):Option Bool:=
 let k3 (v1:Bool):Option Bool:=let k (v2:Bool):Option Bool:=some v2;bif v1 then k (o.Branch==v.Branch) else k false;bif o.Patron==v.Patron then k3 (o.Item==v.Item) else k3 false
def znq {γ0:Type} (p:γ0→Rule→Option Bool):((List Rule)×γ0×Int×Int×Unit)→Option (((List Rule)×γ0×Int×Int×Unit)⊕((Unit)⊕(Int×Unit))):=fun (s,g,v,v1,_)=>
 bif decide (v1<v) then match getI s v1 with|some x =>(match p g x with|some r =>bif r then some (.inr (.inr (v1,()))) else some (.inl (s,g,v,wr .i64 (v1+1),()))|none =>none)|none =>none else some (.inr (.inl (())))
def qa3 {γ0:Type} (p:γ0→Rule→Option Bool) (s:List Rule) (g:γ0):Option Int:=
 match zae (znq p) (s,g,(s.length:Int),0,()) with|some (.inl (_)) =>some (-1)|some (.inr (v,_)) =>some v|none =>none
def qe1 {γ0:Type} (p:γ0→Rule→Option Bool) (s:List Rule) (g:γ0):Option Bool:=
 match qa3 p s g with|some r1 =>some (decide (0≤r1))|none =>none
def z2j:((List Rule)×(List Rule)×Int×Int×Unit)→Option (((List Rule)×(List Rule)×Int×Int×Unit)⊕((Unit)⊕(Int×Unit))):=fun (l,v,v1,v2,_)=>
 bif decide (v2<v1) then match getI v v2 with|some x =>(match qe4 x with|some r3 =>bif !r3 then some (.inr (.inr (2,()))) else bif decide (0≤(0:Int))&&(decide ((0:Int)≤v2)&&decide (v2≤(l.length:Int))) then match qe1 (fun g x0=>qcl x0 g.2.1) ((l.take v2.toNat).drop (0:Int).toNat) ((),(x,())) with|some r5 =>bif r5 then some (.inr (.inr (7,()))) else some (.inl (l,v,v1,wr .i64 (v2+1),()))|none =>none else none|none =>none)|none =>none else some (.inr (.inl (())))
def qx (l:List Rule):Option Int:=
 bif decide (32<(l.length:Int)) then some 13 else match zae z2j (l,l,(l.length:Int),0,()) with|some (.inl (_)) =>some 0|some (.inr (v,_)) =>some v|none =>none
def qc5 (d:Int):Option Bool:=
 let k (v:Bool):Option Bool:=some v;bif decide (0≤d) then k (decide (d≤109572)) else k false
def qc2 (d:Int):Option Bool:=
 match qc5 d with|some r1 =>some (!r1)|none =>none
def znr {γ0:Type} (p:γ0→Int→Option Bool):((List Int)×γ0×Int×Int×Unit)→Option (((List Int)×γ0×Int×Int×Unit)⊕((Unit)⊕(Int×Unit))):=fun (s,g,v,v1,_)=>
 bif decide (v1<v) then match getI s v1 with|some x =>(match p g x with|some r =>bif r then some (.inr (.inr (v1,()))) else some (.inl (s,g,v,wr .i64 (v1+1),()))|none =>none)|none =>none else some (.inr (.inl (())))
def qa4 {γ0:Type} (p:γ0→Int→Option Bool) (s:List Int) (g:γ0):Option Int:=
 match zae (znr p) (s,g,(s.length:Int),0,()) with|some (.inl (_)) =>some (-1)|some (.inr (v,_)) =>some v|none =>none
def qe2 {γ0:Type} (p:γ0→Int→Option Bool) (s:List Int) (g:γ0):Option Bool:=
 match qa4 p s g with|some r1 =>some (decide (0≤r1))|none =>none
def zvi:((List Int)×Int×Int×Calendar×Unit)→Option (((List Int)×Int×Int×Calendar×Unit)⊕((Unit)⊕(Int×Unit))):=fun (v,v4,v5,c,_)=>
 bif decide (v5<v4) then match getI v v5 with|some x =>let k (v7:Bool):Option (((List Int)×Int×Int×Calendar×Unit)⊕((Unit)⊕(Int×Unit))):=bif v7 then some (.inr (.inr (7,()))) else some (.inl (v,v4,wr .i64 (v5+1),c,()));bif decide (0<v5) then match getI c.Closed (wr .i64 (v5-1)) with|some x6 =>k (decide (x≤x6))|none =>none else k false|none =>none else some (.inr (.inl (())))
def qv (c:Calendar):Option Int:=
 let k9 (v:Bool):Option Int:=let k (v3:Int):Option Int:=some v3;bif v then k 1 else bif decide (64<(c.Closed.length:Int)) then k 13 else match qe2 (fun g x0=>qc2 x0) c.Closed ((),()) with|some r1 =>(bif r1 then k 2 else match zae zvi (c.Closed,(c.Closed.length:Int),0,c,()) with|some (.inl (_)) =>some 0|some (.inr (v8,_)) =>some v8|none =>none)|none =>none;bif decide (c.Week<0) then k9 true else k9 (decide (127≤c.Week))
def zs5:((V4 Calendar)×Int×Circ×Unit)→Option (((V4 Calendar)×Int×Circ×Unit)⊕((Circ×Unit)⊕(Bool×Unit))):=fun (v,v13,c,_)=>
 bif decide (v13<4) then let k (v14:Int) (v15:List Int):Option (((V4 Calendar)×Int×Circ×Unit)⊕((Circ×Unit)⊕(Bool×Unit))):=match qv (⟨v14,v15⟩:Calendar) with|some r16 =>bif !(r16==0) then some (.inr (.inr (false,()))) else some (.inl (v,wr .i64 (v13+1),c,()))|none =>none;bif v13==0 then k v.x0.Week v.x0.Closed else bif v13==1 then k v.x1.Week v.x1.Closed else bif v13==2 then k v.x2.Week v.x2.Closed else bif v13==3 then k v.x3.Week v.x3.Closed else none else some (.inr (.inl (c,())))
def zn7:((List Hold)×Int×Int×Circ×Unit)→Option (((List Hold)×Int×Int×Circ×Unit)⊕((Circ×Unit)⊕(Bool×Unit))):=fun (v,v23,v24,c,_)=>
 bif decide (v24<v23) then match getI v v24 with|some x =>bif decide (c.NextHold≤x.ID) then some (.inr (.inr (false,()))) else some (.inl (v,v23,wr .i64 (v24+1),c,()))|none =>none else some (.inr (.inl (c,())))
def zn8:((List Charge)×Int×Int×Circ×Unit)→Option (((List Charge)×Int×Int×Circ×Unit)⊕((Unit)⊕(Bool×Unit))):=fun (v,v26,v27,c,_)=>
 bif decide (v27<v26) then match getI v v27 with|some x =>bif decide (c.NextCharge≤x.ID) then some (.inr (.inr (false,()))) else some (.inl (v,v26,wr .i64 (v27+1),c,()))|none =>none else some (.inr (.inl (())))
def qs (c:Circ):Option Bool:=
 match qa7 c.Patrons with|some r1 =>(let k34 (v:Bool):Option Bool:=let k33 (v6:Bool):Option Bool:=let k32 (v9:Bool):Option Bool:=let k31 (v12:Bool):Option Bool:=bif v12 then some false else match zae zs5 (c.Cals,0,c,()) with|some (.inl (c17,_)) =>(match qb8 c17.NextHold 1 100000 with|some r19 =>(let k (v22:Bool):Option Bool:=bif v22 then some false else match zae zn7 (c17.Holds,(c17.Holds.length:Int),0,c17,()) with|some (.inl (c25,_)) =>(match zae zn8 (c25.Charges,(c25.Charges.length:Int),0,c25,()) with|some (.inl (_)) =>some true|some (.inr (v28,_)) =>some v28|none =>none)|some (.inr (v29,_)) =>some v29|none =>none;bif !r19 then k true else match qb8 c17.NextCharge 1 100000 with|some r21 =>k (!r21)|none =>none)|none =>none)|some (.inr (v30,_)) =>some v30|none =>none;bif v9 then k31 true else match qx c.Rules with|some r11 =>k31 (!(r11==0))|none =>none;bif v6 then k32 true else match qbb c.Charges with|some r8 =>k32 (!(r8==0))|none =>none;bif v then k33 true else match ql c.Holds with|some r5 =>k33 (!(r5==0))|none =>none;bif !(r1==0) then k34 true else match qba c.Loans with|some r3 =>k34 (!(r3==0))|none =>none)|none =>none
def qc4 (p:Patron) (v:Int):Option Bool:=
 some (p.ID==v)
def zvg {γ0:Type} (p:γ0→Patron→Option Bool):((List Patron)×γ0×Int×Int×Unit)→Option (((List Patron)×γ0×Int×Int×Unit)⊕((Unit)⊕(Int×Unit))):=fun (s,g,v,v1,_)=>
 bif decide (v1<v) then match getI s v1 with|some x =>(match p g x with|some r =>bif r then some (.inr (.inr (v1,()))) else some (.inl (s,g,v,wr .i64 (v1+1),()))|none =>none)|none =>none else some (.inr (.inl (())))
def qo {γ0:Type} (p:γ0→Patron→Option Bool) (s:List Patron) (g:γ0):Option Int:=
 match zae (zvg p) (s,g,(s.length:Int),0,()) with|some (.inl (_)) =>some (-1)|some (.inr (v,_)) =>some v|none =>none
def qbz (l:List Patron) (vid:Int):Option Int:=
 match qo (fun g x0=>qc4 x0 g.2.1) l ((),(vid,())) with|some r1 =>some r1|none =>none
def qdq (l:List Patron) (vid:Int):Option (Patron×Bool):=
 match qbz l vid with|some r1 =>(bif decide (r1<0) then some ((⟨0,0,0,0,false,[]⟩:Patron),false) else match getI l r1 with|some x =>some (x,true)|none =>none)|none =>none
def qca (vid:Int) (v:Circ):Option Bool:=
 match qdq v.Patrons vid with|some (r1,r2) =>some r2|none =>none
def zvb:((List Loan)×Int×Int×Circ×Unit)→Option (((List Loan)×Int×Int×Circ×Unit)⊕((Circ×Unit)⊕(Bool×Unit))):=fun (v,v1,v2,c,_)=>
 bif decide (v2<v1) then match getI v v2 with|some x =>(match qca x.Patron c with|some r3 =>(let k (v6:Bool):Option (((List Loan)×Int×Int×Circ×Unit)⊕((Circ×Unit)⊕(Bool×Unit))):=bif v6 then some (.inr (.inr (false,()))) else some (.inl (v,v1,wr .i64 (v2+1),c,()));bif !r3 then k true else match qao c x.Item with|some r5 =>k (decide (r5<0))|none =>none)|none =>none)|none =>none else some (.inr (.inl (c,())))
def z2d:((List Hold)×Int×Int×Circ×Unit)→Option (((List Hold)×Int×Int×Circ×Unit)⊕((Circ×Unit)⊕(Bool×Unit))):=fun (v,v8,v9,c,_)=>
 bif decide (v9<v8) then match getI v v9 with|some x =>(match qca x.Patron c with|some r10 =>bif !r10 then some (.inr (.inr (false,()))) else some (.inl (v,v8,wr .i64 (v9+1),c,()))|none =>none)|none =>none else some (.inr (.inl (c,())))
def zn5:((List Charge)×Int×Int×Circ×Unit)→Option (((List Charge)×Int×Int×Circ×Unit)⊕((Unit)⊕(Bool×Unit))):=fun (v,v12,v13,c,_)=>
 bif decide (v13<v12) then match getI v v13 with|some x =>(match qca x.Patron c with|some r14 =>bif !r14 then some (.inr (.inr (false,()))) else some (.inl (v,v12,wr .i64 (v13+1),c,()))|none =>none)|none =>none else some (.inr (.inl (())))
def qh (c:Circ):Option Bool:=
 match zae zvb (c.Loans,(c.Loans.length:Int),0,c,()) with|some (.inl (c7,_)) =>(match zae z2d (c7.Holds,(c7.Holds.length:Int),0,c7,()) with|some (.inl (c11,_)) =>(match zae zn5 (c11.Charges,(c11.Charges.length:Int),0,c11,()) with|some (.inl (_)) =>some true|some (.inr (v,_)) =>some v|none =>none)|some (.inr (v15,_)) =>some v15|none =>none)|some (.inr (v16,_)) =>some v16|none =>none
def qat (item:Int):Option (Int×Unit):=
 some (item,())
def qcd (n:Loan) (v:Int):Option Bool:=
 some (n.Item==v)
def zvc {γ0:Type} (p:γ0→Loan→Option Bool):((List Loan)×γ0×Int×Int×Unit)→Option (((List Loan)×γ0×Int×Int×Unit)⊕((Unit)⊕(Int×Unit))):=fun (s,g,v,v1,_)=>
 bif decide (v1<v) then match getI s v1 with|some x =>(match p g x with|some r =>bif r then some (.inr (.inr (v1,()))) else some (.inl (s,g,v,wr .i64 (v1+1),()))|none =>none)|none =>none else some (.inr (.inl (())))
def qk {γ0:Type} (p:γ0→Loan→Option Bool) (s:List Loan) (g:γ0):Option Int:=
 match zae (zvc p) (s,g,(s.length:Int),0,()) with|some (.inl (_)) =>some (-1)|some (.inr (v,_)) =>some v|none =>none
def qb3 {γ0:Type} (p:γ0→Loan→Option Bool) (l:List Loan) (g:γ0):Option (Loan×Int):=
 match qk p l g with|some r1 =>(bif decide (r1<0) then some ((⟨0,0,0,0,0,false⟩:Loan),(-1)) else match getI l r1 with|some x =>some (x,r1)|none =>none)|none =>none
def qed (l:List Loan) (item:Int):Option (Loan×Bool):=
 match qat item with|some r1 =>(match qb3 (fun g x0=>qcd x0 g.2.1) l ((),(r1.1,())) with|some (r3,r4) =>some (r3,decide (0≤r4))|none =>none)|none =>none
def zn3:((List Item)×Int×Int×Circ×Unit)→Option (((List Item)×Int×Int×Circ×Unit)⊕((Unit)⊕(Bool×Unit))):=fun (v,v1,v2,c,_)=>
 bif decide (v2<v1) then match getI v v2 with|some x =>(match qed c.Loans x.ID with|some (r3,r4) =>let k10 (v5:Bool):Option (((List Item)×Int×Int×Circ×Unit)⊕((Unit)⊕(Bool×Unit))):=let k9 (v6:Bool):Option (((List Item)×Int×Int×Circ×Unit)⊕((Unit)⊕(Bool×Unit))):=let k (v8:Bool):Option (((List Item)×Int×Int×Circ×Unit)⊕((Unit)⊕(Bool×Unit))):=bif v8 then some (.inr (.inr (false,()))) else some (.inl (v,v1,wr .i64 (v2+1),c,()));bif !(r4==v6) then k true else bif r4 then k (!(r3.Patron==x.Custody.Who)) else k false;bif v5 then k9 true else k9 (x.Custody.State==10);bif x.Custody.State==4 then k10 true else k10 (x.Custody.State==9)|none =>none)|none =>none else some (.inr (.inl (())))
def qbu (c:Circ):Option Bool:=
 match zae zn3 (c.Items,(c.Items.length:Int),0,c,()) with|some (.inl (_)) =>some true|some (.inr (v,_)) =>some v|none =>none
def qcv (h:Hold) (v:Int):Option Bool:=
 some (h.Got==v)
def zlh {γ0:Type} (p:γ0→Hold→Option Bool):((List Hold)×γ0×Int×Int×Unit)→Option (((List Hold)×γ0×Int×Int×Unit)⊕((Unit)⊕(Int×Unit))):=fun (s,g,v,v1,_)=>
 bif decide (v1<v) then match getI s v1 with|some x =>(match p g x with|some r =>bif r then some (.inr (.inr (v1,()))) else some (.inl (s,g,v,wr .i64 (v1+1),()))|none =>none)|none =>none else some (.inr (.inl (())))
def qb {γ0:Type} (p:γ0→Hold→Option Bool) (s:List Hold) (g:γ0):Option Int:=
 match zae (zlh p) (s,g,(s.length:Int),0,()) with|some (.inl (_)) =>some (-1)|some (.inr (v,_)) =>some v|none =>none
def qa9 (c:Circ) (item:Int):Option (Hold×Bool):=
 match qb (fun g x0=>qcv x0 g.2.1) c.Holds ((),(item,())) with|some r1 =>(bif decide (r1<0) then some ((⟨0,0,0,0,0,0,0,0,0,0,0⟩:Hold),false) else match getI c.Holds r1 with|some x =>some (x,true)|none =>none)|none =>none
def zld:((List Hold)×Int×Int×Circ×Unit)→Option (((List Hold)×Int×Int×Circ×Unit)⊕((Circ×Unit)⊕(Bool×Unit))):=fun (v,v1,v2,c,_)=>
 bif decide (v2<v1) then match getI v v2 with|some x =>(bif x.State==1 then some (.inl (v,v1,wr .i64 (v2+1),c,())) else match qao c x.Got with|some r3 =>(let k9 (v5:Bool):Option (((List Hold)×Int×Int×Circ×Unit)⊕((Circ×Unit)⊕(Bool×Unit))):=bif v5 then some (.inr (.inr (false,()))) else match getI c.Items r3 with|some x6 =>let k (want:Int) (want7:Int) (want8:Int):Option (((List Hold)×Int×Int×Circ×Unit)⊕((Circ×Unit)⊕(Bool×Unit))):=bif !(za1 x6.Custody (⟨want,want7,x.Patron,want8⟩:Custody)) then some (.inr (.inr (false,()))) else some (.inl (v,v1,wr .i64 (v2+1),c,()));bif x.State==2 then k 6 x6.Custody.Branch x.Pickup else k 5 x.Pickup 0|none =>none;bif decide (r3<0) then k9 true else match getI c.Items r3 with|some x4 =>k9 (!(x4.Record==x.Record))|none =>none)|none =>none)|none =>none else some (.inr (.inl (c,())))
def zie:((List Item)×Int×Int×Circ×Unit)→Option (((List Item)×Int×Int×Circ×Unit)⊕((Unit)⊕(Bool×Unit))):=fun (v,v11,v12,c,_)=>
 bif decide (v12<v11) then match getI v v12 with|some x =>(match qa9 c x.ID with|some (r13,r14) =>let k (v16:Bool):Option (((List Item)×Int×Int×Circ×Unit)⊕((Unit)⊕(Bool×Unit))):=bif v16 then some (.inr (.inr (false,()))) else some (.inl (v,v11,wr .i64 (v12+1),c,()));bif x.Custody.State==5 then bif !r14 then k true else k (!(r13.State==3)) else k false|none =>none)|none =>none else some (.inr (.inl (())))
def qae (c:Circ):Option Bool:=
 match zae zld (c.Holds,(c.Holds.length:Int),0,c,()) with|some (.inl (c10,_)) =>(match zae zie (c10.Items,(c10.Items.length:Int),0,c10,()) with|some (.inl (_)) =>some true|some (.inr (v,_)) =>some v|none =>none)|some (.inr (v17,_)) =>some v17|none =>none
def qdr (c:Circ):Option Bool:=
 match qb8 c.Today 0 109572 with|some r1 =>let k19 (v:Bool):Option Bool:=let k18 (v6:Bool):Option Bool:=let k17 (v9:Bool):Option Bool:=let k16 (v12:Bool):Option Bool:=let k (v15:Bool):Option Bool:=some v15;bif v12 then match qae c with|some r14 =>k r14|none =>none else k false;bif v9 then match qbu c with|some r11 =>k16 r11|none =>none else k16 false;bif v6 then match qh c with|some r8 =>k17 r8|none =>none else k17 false;bif v then match qs c with|some r5 =>k18 r5|none =>none else k18 false;bif r1 then match qt c with|some r3 =>k19 r3|none =>none else k19 false|none =>none
def q8 (c:Circ) (x:Item):Option (Circ×Int):=
 match qao c x.ID with|some r1 =>(bif decide (0≤r1) then some ((⟨0,[],[],[],[],[],[],⟨⟨0,[]⟩,⟨0,[]⟩,⟨0,[]⟩,⟨0,[]⟩⟩,[],0,0,false⟩:Circ),7) else bif decide (64≤(c.Items.length:Int)) then some ((⟨0,[],[],[],[],[],[],⟨⟨0,[]⟩,⟨0,[]⟩,⟨0,[]⟩,⟨0,[]⟩⟩,[],0,0,false⟩:Circ),13) else match qd5 x.Branch with|some r3 =>(match qc (fun g x0=>qcu x0 g.2.1) c.Items ((),(x,())) with|some r5 =>let k (i:Int):Option (Circ×Int):=match qck c.Items with|some l =>(match qd0 l i ([(⟨x.ID,x.Record,x.Branch,x.Kind,x.Price,x.Call,r3⟩:Item)]) with|some l8 =>(match qdr (⟨c.Today,l8,c.Patrons,c.Loans,c.Holds,c.Charges,c.Rules,c.Cals,c.Moves,c.NextHold,c.NextCharge,c.Local⟩:Circ) with|some r10 =>bif !r10 then some ((⟨0,[],[],[],[],[],[],⟨⟨0,[]⟩,⟨0,[]⟩,⟨0,[]⟩,⟨0,[]⟩⟩,[],0,0,false⟩:Circ),1) else some ((⟨c.Today,l8,c.Patrons,c.Loans,c.Holds,c.Charges,c.Rules,c.Cals,c.Moves,c.NextHold,c.NextCharge,c.Local⟩:Circ),0)|none =>none)|none =>none)|none =>none;bif decide (r5<0) then k (c.Items.length:Int) else k r5|none =>none)|none =>none)|none =>none
def qc8 (x:Patron) (v:Patron):Option Bool:=
 some (decide (v.ID<x.ID))
def qdy (s:List Patron):Option (List Patron):=
 bif decide (([]:List Patron).length+s.length≤LIM) then some (([])++s) else none
def qd3 (l:List Patron):Option ((List Patron)×Int):=
 match qa7 l with|some r1 =>bif !(r1==0) then some ([],r1) else some (l,0)|none =>none
def qb1 (l:List Patron) (p:Patron):Option ((List Patron)×Int):=
 match qbz l p.ID with|some r1 =>(bif decide (0≤r1) then some ([],7) else match qo (fun g x0=>qc8 x0 g.2.1) l ((),(p,())) with|some r3 =>let k (i:Int):Option ((List Patron)×Int):=match qdy l with|some l5 =>(match qdx l5 i ([p]) with|some l7 =>(match qd3 l7 with|some (r9,r10) =>some (r9,r10)|none =>none)|none =>none)|none =>none;bif decide (r3<0) then k (l.length:Int) else k r3|none =>none)|none =>none
def qdm (c:Circ) (p:Patron):Option (Circ×Int):=
 match qb1 c.Patrons p with|some (r1,r2) =>bif !(r2==0) then some ((⟨0,[],[],[],[],[],[],⟨⟨0,[]⟩,⟨0,[]⟩,⟨0,[]⟩,⟨0,[]⟩⟩,[],0,0,false⟩:Circ),r2) else some ((⟨c.Today,c.Items,r1,c.Loans,c.Holds,c.Charges,c.Rules,c.Cals,c.Moves,c.NextHold,c.NextCharge,c.Local⟩:Circ),0)|none =>none
def qc9:Option Circ:=
 match qef 100 with|some r1 =>(match q8 (⟨r1.Today,r1.Items,r1.Patrons,r1.Loans,r1.Holds,r1.Charges,[(⟨0,0,0,14,1,10,0,500,2,5,7,0,0⟩:Rule)],r1.Cals,r1.Moves,r1.NextHold,r1.NextCharge,r1.Local⟩:Circ) (⟨1,5,1,1,2000,[],⟨0,0,0,0⟩⟩:Item) with|some (r3,r4) =>(match qdm r3 (⟨7,1,1,5000,false,[65,110,110]⟩:Patron) with|some (r6,r7) =>(match qdm r6 (⟨8,1,1,5000,false,[66,111,98]⟩:Patron) with|some (r9,r10) =>some r9|none =>none)|none =>none)|none =>none)|none =>none
def qch (c:Circ):Option Circ_desk:=
 some (⟨c,0⟩:Circ_desk)
def qu (e:Int) (d:Circ_desk):Option (Unit×Circ_desk):=
 let k (v:Int):Option (Unit×Circ_desk):=some ((),(⟨d.c,v⟩:Circ_desk));bif d.err==0 then k e else k d.err
def qcs (vid:Int) (d:Circ_desk):Option (Int×Circ_desk):=
 match qao d.c vid with|some r1 =>let k (v3:Circ_desk):Option (Int×Circ_desk):=some (r1,v3);bif decide (r1<0) then match qu 9 d with|some (_,v) =>k v|none =>none else k d|none =>none
def qdk (s:List Move):Option (List Move):=
 bif decide (([]:List Move).length+s.length≤LIM) then some (([])++s) else none
def qbi (i:Int) (kind:Int) (branch:Int) (who:Int) (d:Circ_desk):Option (Unit×Circ_desk):=
 bif !(d.err==0) then some ((),d) else match getI d.c.Items i with|some x =>(match getI d.c.Items i with|some x1 =>(match qd6 x1.Custody (⟨d.c.Today,x.ID,kind,branch,who⟩:Move) with|some (r2,r3) =>let k10 (v:Bool):Option (Unit×Circ_desk):=let k (e:Int):Option (Unit×Circ_desk):=bif !(e==0) then match qu e d with|some (_,v5) =>some ((),v5)|none =>none else match qck d.c.Items with|some l =>(match getI l i with|some _ =>(match l[i.toNat]? with|some x7 =>(match qdk d.c.Moves with|some l9 =>bif decide (l9.length+([(⟨d.c.Today,x.ID,kind,branch,who⟩:Move)]:List Move).length≤LIM) then some ((),(⟨⟨d.c.Today,l.set i.toNat (⟨x7.ID,x7.Record,x7.Branch,x7.Kind,x7.Price,x7.Call,r2⟩:Item),d.c.Patrons,d.c.Loans,d.c.Holds,d.c.Charges,d.c.Rules,d.c.Cals,l9++([(⟨d.c.Today,x.ID,kind,branch,who⟩:Move)]:List Move),d.c.NextHold,d.c.NextCharge,d.c.Local⟩,d.err⟩:Circ_desk)) else none|none =>none)|none =>none)|none =>none)|none =>none;bif v then k 13 else k r3;bif r3==0 then k10 (decide (2000≤(d.c.Moves.length:Int))) else k10 false|none =>none)|none =>none)|none =>none
def qb5 (a:Hold) (b:Hold):Option Int:=
 some (wr .i64 (b.Rank-a.Rank))
def za3i {γ0:Type} (p:γ0→Hold→Hold→Option Int):(Int×Int×γ0×Int×Int×(List Hold)×Unit)→Option ((Int×Int×γ0×Int×Int×(List Hold)×Unit)⊕((Int×Int×γ0×Int×(List Hold)×Unit))):=fun (a,b,g,i,j,l,_)=>
 let k (v:Bool):Option ((Int×Int×γ0×Int×Int×(List Hold)×Unit)⊕((Int×Int×γ0×Int×(List Hold)×Unit))):=bif v then match getI l (wr .i64 (j-1)) with|some _ =>(match l[(wr .i64 (j-1)).toNat]? with|some x2 =>(match getI l j with|some _ =>(match l[j.toNat]? with|some x3 =>(match getI l j with|some _ =>(match l[j.toNat]? with|some x4 =>(match getI (l.set j.toNat x2) (wr .i64 (j-1)) with|some _ =>(match (l.set j.toNat x2)[(wr .i64 (j-1)).toNat]? with|some x5 =>some (.inl (a,b,g,i,wr .i64 (j-1),(l.set j.toNat x2).set (wr .i64 (j-1)).toNat x3,()))|none =>none)|none =>none)|none =>none)|none =>none)|none =>none)|none =>none)|none =>none)|none =>none else some (.inr ((a,b,g,i,l,())));bif decide (a<j) then match getI l j with|some _ =>(match l[j.toNat]? with|some x =>(match getI l (wr .i64 (j-1)) with|some _ =>(match l[(wr .i64 (j-1)).toNat]? with|some x1 =>(match p g x x1 with|some r =>k (decide (r<0))|none =>none)|none =>none)|none =>none)|none =>none)|none =>none else k false
def za3h {γ0:Type} (p:γ0→Hold→Hold→Option Int):(Int×Int×γ0×Int×(List Hold)×Unit)→Option ((Int×Int×γ0×Int×(List Hold)×Unit)⊕(((List Hold)×Unit))):=fun (a,b,g,i,l,_)=>
 bif decide (i<b) then match zae (za3i p) (a,b,g,i,i,l,()) with|some ((a6,b7,g8,i9,l10,_)) =>some (.inl (a6,b7,g8,wr .i64 (i9+1),l10,()))|none =>none else some (.inr ((l,())))
def qr {γ0:Type} (p:γ0→Hold→Hold→Option Int) (data:List Hold) (a:Int) (b:Int) (g:γ0):Option (List Hold):=
 match zae (za3h p) (a,b,g,wr .i64 (a+1),data,()) with|some ((l,_)) =>some l|none =>none
def za3e {γ0:Type} (p:γ0→Hold→Hold→Option Int):(Int×γ0×Int×Int×Int×(List Hold)×Unit)→Option ((Int×γ0×Int×Int×Int×(List Hold)×Unit)⊕((Int×γ0×Int×Int×(List Hold)×Unit))):=fun (n,g,blockSize,a,b,l,_)=>
 bif decide (b≤n) then match qr p l a b g with|some l1 =>some (.inl (n,g,blockSize,b,wr .i64 (b+blockSize),l1,()))|none =>none else some (.inr ((n,g,blockSize,a,l,())))
def za3g {γ0:Type} (p:γ0→Hold→Hold→Option Int):(Int×γ0×Int×Int×Int×(List Hold)×Unit)→Option ((Int×γ0×Int×Int×Int×(List Hold)×Unit)⊕((Int×γ0×Int×Int×(List Hold)×Unit))):=fun (n,g,blockSize,a,b,l,_)=>
 bif decide (b≤n) then match qc1 p l a (wr .i64 (a+blockSize)) b g with|some l5 =>some (.inl (n,g,blockSize,b,wr .i64 (b+(wr .i64 (2*blockSize))),l5,()))|none =>none else some (.inr ((n,g,blockSize,a,l,())))
def za3f {γ0:Type} (p:γ0→Hold→Hold→Option Int):(Int×γ0×Int×(List Hold)×Unit)→Option ((Int×γ0×Int×(List Hold)×Unit)⊕(((List Hold)×Unit))):=fun (n,g,blockSize,l,_)=>
 bif decide (blockSize<n) then match zae (za3g p) (n,g,blockSize,0,wr .i64 (2*blockSize),l,()) with|some ((n6,g7,blockSize8,a,l9,_)) =>let k (l11:List Hold):Option ((Int×γ0×Int×(List Hold)×Unit)⊕(((List Hold)×Unit))):=some (.inl (n6,g7,wr .i64 (blockSize8*2),l11,()));bif decide (wr .i64 (a+blockSize8)<n6) then match qc1 p l9 a (wr .i64 (a+blockSize8)) n6 g7 with|some l10 =>k l10|none =>none else k l9|none =>none else some (.inr ((l,())))
def qq {γ0:Type} (p:γ0→Hold→Hold→Option Int) (data:List Hold) (n:Int) (g:γ0):Option (List Hold):=
 match zae (za3e p) (n,g,20,0,20,data,()) with|some ((n2,g3,blockSize,a,l,_)) =>(match qr p l a n2 g3 with|some l4 =>(match zae (za3f p) (n2,g3,blockSize,l4,()) with|some ((l12,_)) =>some l12|none =>none)|none =>none)|none =>none
def qdw {γ0:Type} (p:γ0→Hold→Hold→Option Int) (x:List Hold) (g:γ0):Option (List Hold):=
 match qq p x (x.length:Int) g with|some l =>some l|none =>none
def za3d:(Int×Int×(List Hold)×Int×Int×(List Hold)×Unit)→Option ((Int×Int×(List Hold)×Int×Int×(List Hold)×Unit)⊕(((List Hold)×Unit))):=fun (record,day,v,v1,v2,l,_)=>
 bif decide (v2<v1) then match getI v v2 with|some x =>let k5 (v3:Bool):Option ((Int×Int×(List Hold)×Int×Int×(List Hold)×Unit)⊕(((List Hold)×Unit))):=let k (v4:Bool):Option ((Int×Int×(List Hold)×Int×Int×(List Hold)×Unit)⊕(((List Hold)×Unit))):=bif v4 then bif decide (l.length+([x]:List Hold).length≤LIM) then some (.inl (record,day,v,v1,wr .i64 (v2+1),l++([x]:List Hold),())) else none else some (.inl (record,day,v,v1,wr .i64 (v2+1),l,()));bif v3 then k (decide (x.Asleep≤day)) else k false;bif x.Record==record then k5 (x.State==1) else k5 false|none =>none else some (.inr ((l,())))
def qj (l:List Hold) (record:Int) (day:Int):Option (List Hold):=
 match zae za3d (record,day,l,(l.length:Int),0,([]:List Hold),()) with|some ((l6,_)) =>(match qdw (fun g x0 x1=>qb5 x0 x1) l6 ((),()) with|some l7 =>some l7|none =>none)|none =>none
def zal5:(Int×Bool×Int×(List Hold)×Int×Int×Item×Unit)→Option ((Int×Bool×Int×(List Hold)×Int×Int×Item×Unit)⊕((Int×Unit)⊕(Int×Unit))):=fun (branch,vlocal,first,v,v2,v3,x,_)=>
 bif decide (v3<v2) then match getI v v3 with|some x4 =>let k9 (v5:Bool):Option ((Int×Bool×Int×(List Hold)×Int×Int×Item×Unit)⊕((Int×Unit)⊕(Int×Unit))):=bif v5 then some (.inl (branch,vlocal,first,v,v2,wr .i64 (v3+1),x,())) else let k8 (v6:Bool):Option ((Int×Bool×Int×(List Hold)×Int×Int×Item×Unit)⊕((Int×Unit)⊕(Int×Unit))):=bif v6 then some (.inr (.inr (x4.ID,()))) else let k (first7:Int):Option ((Int×Bool×Int×(List Hold)×Int×Int×Item×Unit)⊕((Int×Unit)⊕(Int×Unit))):=some (.inl (branch,vlocal,first7,v,v2,wr .i64 (v3+1),x,()));bif first==0 then k x4.ID else k first;bif !vlocal then k8 true else k8 (x4.Pickup==branch);bif !(x4.Item==0) then k9 (!(x4.Item==x.ID)) else k9 false|none =>none else some (.inr (.inl (first,())))
def qbo (l:List Hold) (x:Item) (branch:Int) (day:Int) (vlocal:Bool):Option Int:=
 match qj l x.Record day with|some r1 =>(match zae zal5 (branch,vlocal,0,r1,(r1.length:Int),0,x,()) with|some (.inl (first,_)) =>some first|some (.inr (v,_)) =>some v|none =>none)|none =>none
def qeu (c:Circ) (x:Item):Option Int:=
 match qbo c.Holds x x.Custody.Branch c.Today c.Local with|some r1 =>some r1|none =>none
def qd9 (h:Hold) (v:Int):Option Bool:=
 some (h.ID==v)
def qbn (l:List Hold) (vid:Int):Option Int:=
 match qb (fun g x0=>qd9 x0 g.2.1) l ((),(vid,())) with|some r1 =>some r1|none =>none
def qey (l:List Hold) (vid:Int):Option (Hold×Bool):=
 match qbn l vid with|some r1 =>bif decide (0≤r1) then match getI l r1 with|some x =>some (x,true)|none =>none else some ((⟨0,0,0,0,0,0,0,0,0,0,0⟩:Hold),false)|none =>none
def qct (i:Int) (kind:Int) (d:Circ_desk):Option (Unit×Circ_desk):=
 let k (v1:Circ_desk):Option (Unit×Circ_desk):=some ((),v1);bif d.err==0 then match getI d.c.Items i with|some x =>(match qbi i kind x.Custody.Branch 0 d with|some (_,v) =>k v|none =>none)|none =>none else k d
def qeo (key:Int) (n:Int):Option Bool:=
 let k (v:Bool):Option Bool:=some v;bif key==0 then k true else k (key==n)
def qb6 (r:Rule) (patron:Int) (item:Int) (branch:Int):Option Bool:=
 match qeo r.Patron patron with|some r2 =>let k8 (v:Bool):Option Bool:=let k (v7:Bool):Option Bool:=some v7;bif v then match qeo r.Branch branch with|some r6 =>k r6|none =>none else k false;bif r2 then match qeo r.Item item with|some r4 =>k8 r4|none =>none else k8 false|none =>none
def zal2:(Int×Int×Int×(List Int)×Unit)→Option ((Int×Int×Int×(List Int)×Unit)⊕((Int×Unit))):=fun (n,v,v1,l,_)=>
 bif decide (v1<v) then match getI l v1 with|some _ =>(match l[v1.toNat]? with|some x =>let k (n2:Int):Option ((Int×Int×Int×(List Int)×Unit)⊕((Int×Unit))):=some (.inl (n2,v,wr .i64 (v1+1),l,()));bif !(x==0) then k (wr .i64 ((wr .i64 (n*2))+1)) else k (wr .i64 (n*2))|none =>none)|none =>none else some (.inr ((n,())))
def qbj (r:Rule):Option Int:=
 match zae zal2 (0,(([r.Patron,r.Item,r.Branch]).length:Int),0,[r.Patron,r.Item,r.Branch],()) with|some ((n,_)) =>some n|none =>none
def zalk:((List Rule)×Int×Int×Int×Int×(List Rule)×Int×Int×Unit)→Option (((List Rule)×Int×Int×Int×Int×(List Rule)×Int×Int×Unit)⊕((Int×Unit))):=fun (l,patron,item,branch,vat,v,v1,v2,_)=>
 bif decide (v2<v1) then match getI v v2 with|some x =>(match qb6 x patron item branch with|some r3 =>let k12 (v10:Bool):Option (((List Rule)×Int×Int×Int×Int×(List Rule)×Int×Int×Unit)⊕((Int×Unit))):=let k (vat11:Int):Option (((List Rule)×Int×Int×Int×Int×(List Rule)×Int×Int×Unit)⊕((Int×Unit))):=some (.inl (l,patron,item,branch,vat11,v,v1,wr .i64 (v2+1),()));bif v10 then k v2 else k vat;bif r3 then bif decide (vat<0) then k12 true else match qbj x with|some r5 =>(match getI l vat with|some x6 =>(match qbj x6 with|some r8 =>k12 (decide (r8<r5))|none =>none)|none =>none)|none =>none else k12 false|none =>none)|none =>none else some (.inr ((vat,())))
def qa8 (l:List Rule) (patron:Int) (item:Int) (branch:Int):Option Int:=
 match zae zalk (l,patron,item,branch,(-1),l,(l.length:Int),0,()) with|some ((vat,_)) =>some vat|none =>none
def qd8 (l:List Rule) (patron:Int) (item:Int) (branch:Int):Option (Rule×Bool):=
 match qa8 l patron item branch with|some r1 =>(bif decide (r1<0) then some ((⟨0,0,0,0,0,0,0,0,0,0,0,0,0⟩:Rule),false) else match getI l r1 with|some x =>some (x,true)|none =>none)|none =>none
def qcz (c:Circ) (vid:Int) (x:Item):Option (Rule×Bool):=
 match qdq c.Patrons vid with|some (r1,r2) =>(bif !r2 then some ((⟨0,0,0,0,0,0,0,0,0,0,0,0,0⟩:Rule),false) else match qd8 c.Rules r1.Kind x.Kind x.Branch with|some (r4,r5) =>some (r4,r5)|none =>none)|none =>none
def qc0 (c:Circ) (branch:Int):Option Calendar:=
 match qb8 branch 1 4 with|some r1 =>bif !r1 then some (⟨0,[]⟩:Calendar) else let k (v:Int) (v2:List Int):Option Calendar:=some (⟨v,v2⟩:Calendar);bif (wr .i64 (branch-1))==0 then k c.Cals.x0.Week c.Cals.x0.Closed else bif (wr .i64 (branch-1))==1 then k c.Cals.x1.Week c.Cals.x1.Closed else bif (wr .i64 (branch-1))==2 then k c.Cals.x2.Week c.Cals.x2.Closed else bif (wr .i64 (branch-1))==3 then k c.Cals.x3.Week c.Cals.x3.Closed else none|none =>none
def qdn (x:Int):Option Bool:=
 some (!(x==x))
def qe7 (x:Int) (y:Int):Option Bool:=
 match qdn x with|some r1 =>let k5 (v:Bool):Option Bool:=let k (v4:Bool):Option Bool:=some v4;bif v then k true else k (decide (x<y));bif r1 then match qdn y with|some r3 =>k5 (!r3)|none =>none else k5 false|none =>none
def qel (x:Int):Option Bool:=
 some (!(x==x))
def zalt:((List Int)×Int×Int×Int×Int×Unit)→Option (((List Int)×Int×Int×Int×Int×Unit)⊕(((List Int)×Int×Int×Int×Unit))):=fun (x,target,n,i,j,_)=>
 bif decide (i<j) then match getI x (wr .i64 ((wr .u64 (wr .i64 (i+j))).fdiv (2 ^ 1))) with|some x1 =>(match qe7 x1 target with|some r2 =>let k (i3:Int) (j4:Int):Option (((List Int)×Int×Int×Int×Int×Unit)⊕(((List Int)×Int×Int×Int×Unit))):=some (.inl (x,target,n,i3,j4,()));bif r2 then k (wr .i64 ((wr .i64 ((wr .u64 (wr .i64 (i+j))).fdiv (2 ^ 1)))+1)) j else k i (wr .i64 ((wr .u64 (wr .i64 (i+j))).fdiv (2 ^ 1)))|none =>none)|none =>none else some (.inr ((x,target,n,i,())))
def qax (x:List Int) (target:Int):Option (Int×Bool):=
 match zae zalt (x,target,(x.length:Int),0,(x.length:Int),()) with|some ((x5,target6,n,i,_)) =>let k (v13:Bool):Option (Int×Bool):=some (i,v13);bif decide (i<n) then match getI x5 i with|some x7 =>(bif x7==target6 then k true else match getI x5 i with|some x8 =>(match qel x8 with|some r9 =>bif r9 then match qel target6 with|some r11 =>k r11|none =>none else k false|none =>none)|none =>none)|none =>none else k false|none =>none
def zals:(Int×Calendar×(V7 Bool)×(V7 Bool)×Unit)→Option ((Int×Calendar×(V7 Bool)×(V7 Bool)×Unit)⊕(((V7 Bool)×(V7 Bool)×Unit))):=fun (v,c,v1,vopen,_)=>
 bif decide (v<7) then bif decide (v<0) then none else bif v==0 then some (.inl (wr .i64 (v+1),c,v1,(⟨(wr .i64 (BitVec.ofInt 64 (c.Week.fdiv (2 ^ (min v.toNat 64))) &&& BitVec.ofInt 64 1).toNat)==0,vopen.x1,vopen.x2,vopen.x3,vopen.x4,vopen.x5,vopen.x6⟩:V7 Bool),())) else bif v==1 then some (.inl (wr .i64 (v+1),c,v1,(⟨vopen.x0,(wr .i64 (BitVec.ofInt 64 (c.Week.fdiv (2 ^ (min v.toNat 64))) &&& BitVec.ofInt 64 1).toNat)==0,vopen.x2,vopen.x3,vopen.x4,vopen.x5,vopen.x6⟩:V7 Bool),())) else bif v==2 then some (.inl (wr .i64 (v+1),c,v1,(⟨vopen.x0,vopen.x1,(wr .i64 (BitVec.ofInt 64 (c.Week.fdiv (2 ^ (min v.toNat 64))) &&& BitVec.ofInt 64 1).toNat)==0,vopen.x3,vopen.x4,vopen.x5,vopen.x6⟩:V7 Bool),())) else bif v==3 then some (.inl (wr .i64 (v+1),c,v1,(⟨vopen.x0,vopen.x1,vopen.x2,(wr .i64 (BitVec.ofInt 64 (c.Week.fdiv (2 ^ (min v.toNat 64))) &&& BitVec.ofInt 64 1).toNat)==0,vopen.x4,vopen.x5,vopen.x6⟩:V7 Bool),())) else bif v==4 then some (.inl (wr .i64 (v+1),c,v1,(⟨vopen.x0,vopen.x1,vopen.x2,vopen.x3,(wr .i64 (BitVec.ofInt 64 (c.Week.fdiv (2 ^ (min v.toNat 64))) &&& BitVec.ofInt 64 1).toNat)==0,vopen.x5,vopen.x6⟩:V7 Bool),())) else bif v==5 then some (.inl (wr .i64 (v+1),c,v1,(⟨vopen.x0,vopen.x1,vopen.x2,vopen.x3,vopen.x4,(wr .i64 (BitVec.ofInt 64 (c.Week.fdiv (2 ^ (min v.toNat 64))) &&& BitVec.ofInt 64 1).toNat)==0,vopen.x6⟩:V7 Bool),())) else bif v==6 then some (.inl (wr .i64 (v+1),c,v1,(⟨vopen.x0,vopen.x1,vopen.x2,vopen.x3,vopen.x4,vopen.x5,(wr .i64 (BitVec.ofInt 64 (c.Week.fdiv (2 ^ (min v.toNat 64))) &&& BitVec.ofInt 64 1).toNat)==0⟩:V7 Bool),())) else none else some (.inr ((v1,vopen,())))
def qau (c:Calendar):Option (V7 Bool):=
 match zae zals (0,c,(⟨false,false,false,false,false,false,false⟩:V7 Bool),(⟨false,false,false,false,false,false,false⟩:V7 Bool),()) with|some ((v,vopen,_)) =>some vopen|none =>none
def qfl (day:Int):Option Bool:=
 let k (v:Bool):Option Bool:=some v;bif decide (0≤day) then k (decide (day≤109572)) else k false
def qda (day:Int):Option Int:=
 match qfl day with|some r1 =>bif !r1 then some (-1) else some (day.tmod 7)|none =>none
def qcf (c:Calendar) (day:Int):Option Bool:=
 match qc5 day with|some r1 =>(bif !r1 then some false else match qax c.Closed day with|some (r3,r4) =>let k (v9:Bool):Option Bool:=some v9;bif !r4 then match qau c with|some r6 =>(match qda day with|some r8 =>bif r8==0 then k r6.x0 else bif r8==1 then k r6.x1 else bif r8==2 then k r6.x2 else bif r8==3 then k r6.x3 else bif r8==4 then k r6.x4 else bif r8==5 then k r6.x5 else bif r8==6 then k r6.x6 else none|none =>none)|none =>none else k false|none =>none)|none =>none
def zalu:(Int×Calendar×Unit)→Option ((Int×Calendar×Unit)⊕((Unit)⊕(Int×Int×Unit))):=fun (d,c,_)=>
 bif decide (d≤109572) then match qcf c d with|some r1 =>bif r1 then some (.inr (.inr (d,0,()))) else some (.inl (wr .i64 (d+1),c,()))|none =>none else some (.inr (.inl (())))
def qay (c:Calendar) (day:Int):Option (Int×Int):=
 match zae zalu ((if day<0 then 0 else day),c,()) with|some (.inl (_)) =>some (0,2)|some (.inr (v,v2,_)) =>some (v,v2)|none =>none
def zalj:(Int×Int×Int×Calendar×Unit)→Option ((Int×Int×Int×Calendar×Unit)⊕((Int×Unit)⊕(Int×Int×Unit))):=fun (d,v,v5,c,_)=>
 bif decide (v5<v) then match qay c (wr .i64 (d+1)) with|some (r6,r7) =>bif !(r7==0) then some (.inr (.inr (0,r7,()))) else some (.inl (r6,v,wr .i64 (v5+1),c,()))|none =>none else some (.inr (.inl (d,())))
def qa6 (c:Calendar) (day:Int) (n:Int):Option (Int×Int):=
 let k (v:Bool):Option (Int×Int):=bif v then some (0,1) else match qc5 day with|some r1 =>(bif !r1 then some (0,2) else bif n==0 then match qay c day with|some (r3,r4) =>some (r3,r4)|none =>none else match zae zalj (day,n,0,c,()) with|some (.inl (d,_)) =>some (d,0)|some (.inr (v8,v9,_)) =>some (v8,v9)|none =>none)|none =>none;bif decide (n<0) then k true else k (decide (1000<n))
def qfg (branch:Int) (n:Int) (d:Circ_desk):Option (Int×Circ_desk):=
 match qc0 d.c branch with|some r1 =>(match qa6 r1 d.c.Today n with|some (r3,r4) =>let k (v6:Circ_desk):Option (Int×Circ_desk):=some (r3,v6);bif !(r4==0) then match qu r4 d with|some (_,v) =>k v|none =>none else k d|none =>none)|none =>none
def qcm (o:Hold) (v:Int) (v1:Int):Option Bool:=
 let k (v2:Bool):Option Bool:=some v2;bif o.Got==v then k (!(o.ID==v1)) else k false
def qb2 {γ0:Type} (p:γ0→Hold→Option Bool) (s:List Hold) (g:γ0):Option Bool:=
 match qb p s g with|some r1 =>some (decide (0≤r1))|none =>none
def qej (s:List Hold):Option (List Hold):=
 bif decide (([]:List Hold).length+s.length≤LIM) then some (([])++s) else none
def qex (l:List Hold) (i:Int) (h:Hold):Option (List Hold):=
 match qej l with|some l1 =>(match getI l1 i with|some _ =>(match l1[i.toNat]? with|some x =>some (l1.set i.toNat h)|none =>none)|none =>none)|none =>none
def qa0 (l:List Hold) (vid:Int) (item:Int) (state:Int) (vuntil:Int):Option ((List Hold)×Int):=
 match qbn l vid with|some r1 =>bif decide (r1<0) then some ([],9) else let k18 (v:Bool):Option ((List Hold)×Int):=match qb7 item 1 9999 with|some r5 =>let k17 (v8:Bool):Option ((List Hold)×Int):=bif v8 then some ([],1) else match getI l r1 with|some x =>let k16 (v11:Bool):Option ((List Hold)×Int):=bif v11 then some ([],12) else match qb2 (fun g x0=>qcm x0 g.2.1 g.2.2.1) l ((),(item,vid,())) with|some r13 =>(bif r13 then some ([],7) else match qex l r1 (⟨x.ID,x.Patron,x.Record,x.Item,x.Pickup,x.Placed,state,item,vuntil,x.Asleep,x.Rank⟩:Hold) with|some r15 =>some (r15,0)|none =>none)|none =>none;bif !(x.State==1) then let k (v9:Bool):Option ((List Hold)×Int):=bif v9 then k16 true else k16 (!(state==3));bif !(x.State==2) then k true else k (!(x.Got==item)) else k16 false|none =>none;bif !r5 then k17 true else bif !v then bif !(state==2) then k17 true else k17 (!(vuntil==0)) else k17 false|none =>none;bif state==3 then match qb7 vuntil 1 109572 with|some r3 =>k18 r3|none =>none else k18 false|none =>none
def qcr (l:List Hold) (e:Int) (d:Circ_desk):Option (Unit×Circ_desk):=
 let k3 (v1:Circ_desk):Option (Unit×Circ_desk):=let k (v2:List Hold):Option (Unit×Circ_desk):=some ((),(⟨⟨v1.c.Today,v1.c.Items,v1.c.Patrons,v1.c.Loans,v2,v1.c.Charges,v1.c.Rules,v1.c.Cals,v1.c.Moves,v1.c.NextHold,v1.c.NextCharge,v1.c.Local⟩,v1.err⟩:Circ_desk));bif v1.err==0 then k l else k v1.c.Holds;bif !(e==0) then match qu e d with|some (_,v) =>k3 v|none =>none else k3 d
def qdl (i:Int) (h:Hold) (d:Circ_desk):Option (Unit×Circ_desk):=
 bif !(d.err==0) then some ((),d) else match getI d.c.Items i with|some x =>(match qcz d.c h.Patron x with|some (r1,r2) =>let k13 (days:Int):Option (Unit×Circ_desk):=match qbi i 5 x.Custody.Branch h.Patron d with|some (_,v) =>(match qfg x.Custody.Branch days v with|some (r5,v6) =>let k (v12:Circ_desk):Option (Unit×Circ_desk):=some ((),v12);bif v6.err==0 then match qa0 v6.c.Holds h.ID x.ID 3 r5 with|some (r8,r9) =>(match qcr r8 r9 v6 with|some (_,v11) =>k v11|none =>none)|none =>none else k v6|none =>none)|none =>none;bif r2 then k13 r1.Shelf else k13 7|none =>none)|none =>none
def qek (i:Int) (d:Circ_desk):Option (Unit×Circ_desk):=
 bif !(d.err==0) then some ((),d) else match getI d.c.Items i with|some x =>(match qeu d.c x with|some r1 =>(match qey d.c.Holds r1 with|some (r3,r4) =>let k25 (v:Bool):Option (Unit×Circ_desk):=let k24 (v23:Circ_desk):Option (Unit×Circ_desk):=some ((),v23);bif v then match qbi i 6 x.Branch 0 d with|some (_,v6) =>k24 v6|none =>none else let k (v7:Bool):Option (Unit×Circ_desk):=bif v7 then match qct i 2 d with|some (_,v9) =>k24 v9|none =>none else bif !r4 then k24 d else bif r3.Pickup==x.Custody.Branch then match qdl i r3 d with|some (_,v11) =>k24 v11|none =>none else match qbi i 6 r3.Pickup r3.Patron d with|some (_,v13) =>bif v13.err==0 then match qa0 v13.c.Holds r1 x.ID 2 0 with|some (r15,r16) =>(match qcr r15 r16 v13 with|some (_,v18) =>k24 v18|none =>none)|none =>none else k24 v13|none =>none;bif !r4 then k (!(x.Custody.State==3)) else k false;bif !r4 then k25 (!(x.Branch==x.Custody.Branch)) else k25 false|none =>none)|none =>none)|none =>none
def qa5 (d:Circ_desk):Option ((Circ×Int)×Circ_desk):=
 bif !(d.err==0) then some (((⟨0,[],[],[],[],[],[],⟨⟨0,[]⟩,⟨0,[]⟩,⟨0,[]⟩,⟨0,[]⟩⟩,[],0,0,false⟩:Circ),d.err),d) else some ((d.c,0),d)
def qcw (c:Circ) (item:Int) (branch:Int):Option (Circ×Int):=
 match qch c with|some d =>(match qcs item d with|some (r2,v) =>let k (v7:Circ_desk):Option (Circ×Int):=match qa5 v7 with|some ((r9,r10),v11) =>some (r9,r10)|none =>none;bif decide (0≤r2) then match qbi r2 1 branch 0 v with|some (_,v4) =>(match qek r2 v4 with|some (_,v6) =>k v6|none =>none)|none =>none else k v|none =>none)|none =>none
def zal6:(Int×Int×(List Charge)×Int×Int×Unit)→Option ((Int×Int×(List Charge)×Int×Int×Unit)⊕((Int×Unit))):=fun (patron,vsum,v,v1,v2,_)=>
 bif decide (v2<v1) then match getI v v2 with|some x =>let k (vsum3:Int):Option ((Int×Int×(List Charge)×Int×Int×Unit)⊕((Int×Unit))):=some (.inl (patron,vsum3,v,v1,wr .i64 (v2+1),()));bif x.Patron==patron then k (wr .i64 (vsum+(wr .i64 (x.Amount-x.Paid)))) else k vsum|none =>none else some (.inr ((vsum,())))
def qbp (l:List Charge) (patron:Int):Option Int:=
 match zae zal6 (patron,0,l,(l.length:Int),0,()) with|some ((vsum,_)) =>some vsum|none =>none
def zalq:(Int×(List Loan)×Int×Int×(List Loan)×Unit)→Option ((Int×(List Loan)×Int×Int×(List Loan)×Unit)⊕(((List Loan)×Unit))):=fun (patron,v,v1,v2,l,_)=>
 bif decide (v2<v1) then match getI v v2 with|some x =>bif x.Patron==patron then bif decide (l.length+([x]:List Loan).length≤LIM) then some (.inl (patron,v,v1,wr .i64 (v2+1),l++([x]:List Loan),())) else none else some (.inl (patron,v,v1,wr .i64 (v2+1),l,()))|none =>none else some (.inr ((l,())))
def qam (l:List Loan) (patron:Int):Option (List Loan):=
 match zae zalq (patron,l,(l.length:Int),0,([]:List Loan),()) with|some ((l3,_)) =>some l3|none =>none
def zalz:(Int×Int×(List Loan)×Int×Int×Unit)→Option ((Int×Int×(List Loan)×Int×Int×Unit)⊕((Int×Unit))):=fun (day,n,v,v2,v3,_)=>
 bif decide (v3<v2) then match getI v v3 with|some x =>let k (n4:Int):Option ((Int×Int×(List Loan)×Int×Int×Unit)⊕((Int×Unit))):=some (.inl (day,n4,v,v2,wr .i64 (v3+1),()));bif decide (x.Due<day) then k (wr .i64 (n+1)) else k n|none =>none else some (.inr ((n,())))
def qbf (l:List Loan) (patron:Int) (day:Int):Option Int:=
 match qam l patron with|some r1 =>(match zae zalz (day,0,r1,(r1.length:Int),0,()) with|some ((n,_)) =>some n|none =>none)|none =>none
def zal1:(Int×Int×(List Int)×(List Bool)×Unit)→Option ((Int×Int×(List Int)×(List Bool)×Unit)⊕(((List Int)×Unit))):=fun (v,v1,l,l2,_)=>
 bif decide (v1<v) then match getI l2 v1 with|some _ =>(match l2[v1.toNat]? with|some x =>bif x then bif decide (l.length+([wr .i64 (v1+1)]:List Int).length≤LIM) then some (.inl (v,wr .i64 (v1+1),l++([wr .i64 (v1+1)]:List Int),l2,())) else none else some (.inl (v,wr .i64 (v1+1),l,l2,()))|none =>none)|none =>none else some (.inr ((l,())))
def qbh (p:Patron) (day:Int) (owed:Int) (late:Int):Option (List Int):=
 match zae zal1 ((([p.Stopped,decide (p.Until<day),decide (1000<owed),decide (2<late)]).length:Int),0,([]:List Int),[p.Stopped,decide (p.Until<day),decide (1000<owed),decide (2<late)],()) with|some ((l,_)) =>some l|none =>none
def qfk (c:Circ) (p:Patron):Option Bool:=
 match qbp c.Charges p.ID with|some r1 =>(match qbf c.Loans p.ID c.Today with|some r3 =>(match qbh p c.Today r1 r3 with|some r5 =>some (decide (0<(r5.length:Int)))|none =>none)|none =>none)|none =>none
def zal8:(Int×Calendar×Unit)→Option ((Int×Calendar×Unit)⊕((Unit)⊕(Int×Int×Unit))):=fun (d,c,_)=>
 bif decide (0≤d) then match qcf c d with|some r1 =>bif r1 then some (.inr (.inr (d,0,()))) else some (.inl (wr .i64 (d-1),c,()))|none =>none else some (.inr (.inl (())))
def qbv (c:Calendar) (day:Int):Option (Int×Int):=
 match zae zal8 ((if 109572<day then 109572 else day),c,()) with|some (.inl (_)) =>some (0,2)|some (.inr (v,v2,_)) =>some (v,v2)|none =>none
def qeb (r:Rule) (c:Calendar) (day:Int) (vuntil:Int):Option (Int×Int):=
 match qby day 0 109572 with|some r2 =>(let k17 (v:Bool):Option (Int×Int):=bif v then some (0,2) else let k16 (last:Int):Option (Int×Int):=let k15 (v5:Bool):Option (Int×Int):=bif v5 then some (0,15) else match qay c (if last<wr .i64 (day+r.Days) then last else wr .i64 (day+r.Days)) with|some (r7,r8) =>let k14 (v9:Bool):Option (Int×Int):=bif v9 then some (r7,0) else match qbv c last with|some (r11,r12) =>let k (v13:Bool):Option (Int×Int):=bif v13 then some (0,15) else some (r11,0);bif !(r12==0) then k true else k (decide (r11≤day))|none =>none;bif r8==0 then k14 (decide (r7≤last)) else k14 false|none =>none;bif r.Days==0 then k15 true else k15 (decide (last≤day));bif decide (0<r.Fixed) then k16 (if r.Fixed<vuntil then r.Fixed else vuntil) else k16 vuntil;bif !r2 then k17 true else match qby vuntil 0 109572 with|some r4 =>k17 (!r4)|none =>none)|none =>none
def qeq (c:Circ) (x:Item) (p:Patron) (branch:Int):Option (Int×Int):=
 let k26 (v:Bool):Option (Int×Int):=let k4 (v3:Int):Option (Int×Int):=some (0,v3);bif v then k4 12 else bif !(x.Custody.Branch==branch) then k4 1 else let k (v1:Bool):Option (Int×Int):=bif v1 then k4 16 else let k25 (_:Unit):Option (Int×Int):=match qfk c p with|some r12 =>(bif r12 then some (0,14) else match qcz c p.ID x with|some (r14,r15) =>(let k24 (v18:Bool):Option (Int×Int):=bif v18 then some (0,15) else match qc0 c branch with|some r20 =>(match qeb r14 r20 c.Today p.Until with|some (r22,r23) =>some (r22,r23)|none =>none)|none =>none;bif !r15 then k24 true else match qam c.Loans p.ID with|some r17 =>k24 (decide (r14.Loans≤(r17.length:Int)))|none =>none)|none =>none)|none =>none;bif x.Custody.State==3 then match qeu c x with|some r5 =>(match qey c.Holds r5 with|some (r7,r8) =>let k10 (v9:Bool):Option (Int×Int):=bif v9 then some (0,16) else k25 ();bif r8 then k10 (!(r7.Patron==p.ID)) else k10 false|none =>none)|none =>none else k25 ();bif x.Custody.State==5 then k (!(x.Custody.Who==p.ID)) else k false;bif !(x.Custody.State==3) then k26 (!(x.Custody.State==5)) else k26 false
def qco (x:Loan) (v:Loan):Option Bool:=
 some (decide (v.Item<x.Item))
def qei (s:List Loan):Option (List Loan):=
 bif decide (([]:List Loan).length+s.length≤LIM) then some (([])++s) else none
def qd7 (l:List Loan):Option ((List Loan)×Int):=
 match qba l with|some r1 =>bif !(r1==0) then some ([],r1) else some (l,0)|none =>none
def qbx (l:List Loan) (n:Loan):Option ((List Loan)×Int):=
 match qat n.Item with|some r1 =>(match qb3 (fun g x0=>qcd x0 g.2.1) l ((),(r1.1,())) with|some (r3,r4) =>(bif decide (0≤r4) then some ([],7) else match qb3 (fun g x0=>qco x0 g.2.1) l ((),(n,())) with|some (r6,r7) =>let k (i:Int):Option ((List Loan)×Int):=match qei l with|some l9 =>(match qdz l9 i ([n]) with|some l11 =>(match qd7 l11 with|some (r13,r14) =>some (r13,r14)|none =>none)|none =>none)|none =>none;bif decide (r7<0) then k (l.length:Int) else k r7|none =>none)|none =>none)|none =>none
def qcq (l:List Loan) (e:Int) (d:Circ_desk):Option (Unit×Circ_desk):=
 let k3 (v1:Circ_desk):Option (Unit×Circ_desk):=let k (v2:List Loan):Option (Unit×Circ_desk):=some ((),(⟨⟨v1.c.Today,v1.c.Items,v1.c.Patrons,v2,v1.c.Holds,v1.c.Charges,v1.c.Rules,v1.c.Cals,v1.c.Moves,v1.c.NextHold,v1.c.NextCharge,v1.c.Local⟩,v1.err⟩:Circ_desk));bif v1.err==0 then k l else k v1.c.Loans;bif !(e==0) then match qu e d with|some (_,v) =>k3 v|none =>none else k3 d
def qer (l:List Hold) (vid:Int):Option ((List Hold)×Hold×Int):=
 match qbn l vid with|some r1 =>(bif decide (r1<0) then some ([],(⟨0,0,0,0,0,0,0,0,0,0,0⟩:Hold),9) else match qej l with|some l3 =>(match qd2 l3 r1 (wr .i64 (r1+1)) with|some l5 =>(match getI l r1 with|some x =>some (l5,x,0)|none =>none)|none =>none)|none =>none)|none =>none
def qe3 (vid:Int) (d:Circ_desk):Option (Unit×Circ_desk):=
 let k (v5:Circ_desk):Option (Unit×Circ_desk):=some ((),v5);bif d.err==0 then match qer d.c.Holds vid with|some (r1,r2,r3) =>(match qcr r1 r3 d with|some (_,v) =>k v|none =>none)|none =>none else k d
def qce (n:Int) (d:Circ_desk):Option ((Circ×Int×Int)×Circ_desk):=
 bif !(d.err==0) then some (((⟨0,[],[],[],[],[],[],⟨⟨0,[]⟩,⟨0,[]⟩,⟨0,[]⟩,⟨0,[]⟩⟩,[],0,0,false⟩:Circ),0,d.err),d) else some ((d.c,n,0),d)
def qev (h:Hold) (x:Item):Option Bool:=
 let k (v1:Bool):Option Bool:=some v1;bif h.Record==x.Record then bif h.Item==0 then k true else k (h.Item==x.ID) else k false
def qdd (h:Hold) (v:Int) (v1:Item):Option Bool:=
 let k5 (v2:Bool):Option Bool:=let k (v4:Bool):Option Bool:=some v4;bif v2 then match qev h v1 with|some r3 =>k r3|none =>none else k false;bif h.Patron==v then k5 (h.State==1) else k5 false
def qbt (c:Circ) (item:Int) (vid:Int) (branch:Int):Option (Circ×Int×Int):=
 match qch c with|some d =>(match qcs item d with|some (r2,v) =>(match qdq c.Patrons vid with|some (r4,r5) =>let k40 (v8:Circ_desk):Option (Circ×Int×Int):=bif !(v8.err==0) then some ((⟨0,[],[],[],[],[],[],⟨⟨0,[]⟩,⟨0,[]⟩,⟨0,[]⟩,⟨0,[]⟩⟩,[],0,0,false⟩:Circ),0,v8.err) else match getI c.Items r2 with|some x =>(match qeq c x r4 branch with|some (r10,r11) =>(bif !(r11==0) then some ((⟨0,[],[],[],[],[],[],⟨⟨0,[]⟩,⟨0,[]⟩,⟨0,[]⟩,⟨0,[]⟩⟩,[],0,0,false⟩:Circ),0,r11) else match qbi r2 3 branch vid v8 with|some (_,v13) =>(match qbx c.Loans (⟨item,vid,c.Today,r10,0,false⟩:Loan) with|some (r15,r16) =>(match qcq r15 r16 v13 with|some (_,v18) =>(match qa9 c item with|some (r20,r21) =>(bif r21 then match qe3 r20.ID v18 with|some (_,v23) =>(match qce r10 v23 with|some ((r25,r26,r27),v28) =>some (r25,r26,r27)|none =>none)|none =>none else match qb (fun g x0=>qdd x0 g.2.1 g.2.2.1) c.Holds ((),(vid,x,())) with|some r30 =>let k (v34:Circ_desk):Option (Circ×Int×Int):=match qce r10 v34 with|some ((r36,r37,r38),v39) =>some (r36,r37,r38)|none =>none;bif decide (0≤r30) then match getI c.Holds r30 with|some x31 =>(match qe3 x31.ID v18 with|some (_,v33) =>k v33|none =>none)|none =>none else k v18|none =>none)|none =>none)|none =>none)|none =>none)|none =>none)|none =>none)|none =>none;bif !r5 then match qu 9 v with|some (_,v7) =>k40 v7|none =>none else k40 v|none =>none)|none =>none)|none =>none
def qfd (l:List Loan) (i:Int):Option (List Loan):=
 match qei l with|some l1 =>(match qd1 l1 i (wr .i64 (i+1)) with|some l3 =>some l3|none =>none)|none =>none
def qdf (l:List Loan) (item:Int):Option ((List Loan)×Loan×Int):=
 match qat item with|some r1 =>(match qb3 (fun g x0=>qcd x0 g.2.1) l ((),(r1.1,())) with|some (r3,r4) =>(bif decide (r4<0) then some ([],(⟨0,0,0,0,0,false⟩:Loan),9) else match qfd l r4 with|some r6 =>some (r6,r3,0)|none =>none)|none =>none)|none =>none
def qep (day:Int) (weekday:Int):Option Int:=
 match qda 0 with|some r1 =>bif decide (day<(wr .i64 ((wr .i64 (weekday-r1))+7)).tmod 7) then some 0 else some (wr .i64 ((wr .i64 ((wr .i64 (day-((wr .i64 ((wr .i64 (weekday-r1))+7)).tmod 7))).tdiv 7))+1))|none =>none
def zall:(Int×Int×Int×(V7 Bool)×Int×Calendar×(V7 Bool)×Unit)→Option ((Int×Int×Int×(V7 Bool)×Int×Calendar×(V7 Bool)×Unit)⊕((Int×Int×Int×Calendar×(V7 Bool)×Unit))):=fun (vfrom,vto,n,v,v2,c,vopen,_)=>
 bif decide (v2<7) then let k8 (v3:Bool):Option ((Int×Int×Int×(V7 Bool)×Int×Calendar×(V7 Bool)×Unit)⊕((Int×Int×Int×Calendar×(V7 Bool)×Unit))):=let k (n7:Int):Option ((Int×Int×Int×(V7 Bool)×Int×Calendar×(V7 Bool)×Unit)⊕((Int×Int×Int×Calendar×(V7 Bool)×Unit))):=some (.inl (vfrom,vto,n7,v,wr .i64 (v2+1),c,vopen,()));bif v3 then match qep vto v2 with|some r4 =>(match qep (wr .i64 (vfrom-1)) v2 with|some r6 =>k (wr .i64 (n+(wr .i64 (r4-r6))))|none =>none)|none =>none else k n;bif v2==0 then k8 v.x0 else bif v2==1 then k8 v.x1 else bif v2==2 then k8 v.x2 else bif v2==3 then k8 v.x3 else bif v2==4 then k8 v.x4 else bif v2==5 then k8 v.x5 else bif v2==6 then k8 v.x6 else none else some (.inr ((vfrom,vto,n,c,vopen,())))
def z9p:(Int×Int×Int×(List Int)×Int×Int×(V7 Bool)×Unit)→Option ((Int×Int×Int×(List Int)×Int×Int×(V7 Bool)×Unit)⊕((Int×Unit))):=fun (vfrom,vto,n,v,v12,v13,vopen,_)=>
 bif decide (v13<v12) then match getI v v13 with|some x =>let k20 (v14:Bool):Option ((Int×Int×Int×(List Int)×Int×Int×(V7 Bool)×Unit)⊕((Int×Unit))):=let k19 (v17:Bool):Option ((Int×Int×Int×(List Int)×Int×Int×(V7 Bool)×Unit)⊕((Int×Unit))):=let k (n18:Int):Option ((Int×Int×Int×(List Int)×Int×Int×(V7 Bool)×Unit)⊕((Int×Unit))):=some (.inl (vfrom,vto,n18,v,v12,wr .i64 (v13+1),vopen,()));bif v17 then k (wr .i64 (n-1)) else k n;bif v14 then match qda x with|some r15 =>bif r15==0 then k19 vopen.x0 else bif r15==1 then k19 vopen.x1 else bif r15==2 then k19 vopen.x2 else bif r15==3 then k19 vopen.x3 else bif r15==4 then k19 vopen.x4 else bif r15==5 then k19 vopen.x5 else bif r15==6 then k19 vopen.x6 else none|none =>none else k19 false;bif decide (vfrom≤x) then k20 (decide (x≤vto)) else k20 false|none =>none else some (.inr ((n,())))
def qaf (c:Calendar) (vfrom:Int) (vto:Int):Option Int:=
 bif decide ((if 109572<vto then 109572 else vto)<(if vfrom<0 then 0 else vfrom)) then some 0 else match qau c with|some r1 =>(match zae zall ((if vfrom<0 then 0 else vfrom),(if 109572<vto then 109572 else vto),0,r1,0,c,r1,()) with|some ((vfrom9,vto10,n,c11,vopen,_)) =>(match zae z9p (vfrom9,vto10,n,c11.Closed,(c11.Closed.length:Int),0,vopen,()) with|some ((n21,_)) =>some n21|none =>none)|none =>none)|none =>none
def qfn (r:Rule) (c:Calendar) (due:Int) (back:Int):Option Int:=
 match qv c with|some r2 =>(let k10 (v:Bool):Option Int:=let k (v7:Bool):Option Int:=bif v7 then some 0 else match qaf c (wr .i64 (due+1)) back with|some r9 =>bif decide (r9≤r.Grace) then some 0 else some (if r.MaxFine<wr .i64 (r9*r.Fine) then r.MaxFine else wr .i64 (r9*r.Fine))|none =>none;bif v then k true else match qec back with|some r6 =>k (!r6)|none =>none;bif !(r2==0) then k10 true else match qec due with|some r4 =>k10 (!r4)|none =>none)|none =>none
def qdh (l:List Charge) (c:Charge):Option ((List Charge)×Int):=
 bif decide (l.length≤LIM) then bif decide (l.length+([c]:List Charge).length≤LIM) then match qbb (l++([c]:List Charge)) with|some r1 =>bif !(r1==0) then some ([],r1) else some (l++([c]:List Charge),0)|none =>none else none else none
def qfe (vid:Int) (item:Int) (kind:Int) (amount:Int) (d:Circ_desk):Option (Unit×Circ_desk):=
 bif !(d.err==0) then some ((),d) else bif decide (99999<d.c.NextCharge) then match qu 13 d with|some (_,v) =>some ((),v)|none =>none else match qdh d.c.Charges (⟨d.c.NextCharge,vid,item,d.c.Today,kind,amount,0⟩:Charge) with|some (r2,r3) =>bif !(r3==0) then match qu r3 d with|some (_,v5) =>some ((),v5)|none =>none else some ((),(⟨⟨d.c.Today,d.c.Items,d.c.Patrons,d.c.Loans,d.c.Holds,r2,d.c.Rules,d.c.Cals,d.c.Moves,d.c.NextHold,wr .i64 (d.c.NextCharge+1),d.c.Local⟩,d.err⟩:Circ_desk))|none =>none
def qc7 (x:Charge) (v:Int) (v1:Int) (v2:Int):Option Bool:=
 let k6 (v3:Bool):Option Bool:=let k (v5:Bool):Option Bool:=some v5;bif v3 then bif v2==0 then k true else k (x.Kind==v2) else k false;bif x.Patron==v then k6 (x.Item==v1) else k6 false
def zalv {γ0:Type} (p:γ0→Charge→Option Bool):(γ0×Int×Int×(List Charge)×Int×Int×(List Charge)×Unit)→Option ((γ0×Int×Int×(List Charge)×Int×Int×(List Charge)×Unit)⊕((Int×Int×(List Charge)×Unit))):=fun (g,paid,n,v,v1,v2,l,_)=>
 bif decide (v2<v1) then match getI v v2 with|some x =>(match p g x with|some r =>bif r then some (.inl (g,wr .i64 (paid+x.Paid),wr .i64 (n+1),v,v1,wr .i64 (v2+1),l,())) else bif decide (l.length+([x]:List Charge).length≤LIM) then some (.inl (g,paid,n,v,v1,wr .i64 (v2+1),l++([x]:List Charge),())) else none|none =>none)|none =>none else some (.inr ((paid,n,l,())))
def qaz {γ0:Type} (p:γ0→Charge→Option Bool) (l:List Charge) (g:γ0):Option ((List Charge)×Int×Int):=
 match zae (zalv p) (g,0,0,l,(l.length:Int),0,([]:List Charge),()) with|some ((paid,n,l3,_)) =>some (l3,paid,n)|none =>none
def qb0 (l:List Charge) (patron:Int) (item:Int) (kind:Int):Option ((List Charge)×Int):=
 match qaz (fun g x0=>qc7 x0 g.2.1 g.2.2.1 g.2.2.2.1) l ((),(patron,item,kind,())) with|some (r1,r2,r3) =>some (r1,r2)|none =>none
def qfc (i:Int) (branch:Int) (d:Circ_desk):Option (Unit×Circ_desk):=
 match getI d.c.Items i with|some x =>(match qbi i 4 branch 0 d with|some (_,v) =>(bif !(v.err==0) then some ((),v) else match qdf v.c.Loans x.ID with|some (r2,r3,r4) =>(match qcq r2 r4 v with|some (_,v6) =>(match qcz v6.c r3.Patron x with|some (r8,r9) =>let k (v17:Circ_desk):Option (Unit×Circ_desk):=match qb0 v17.c.Charges r3.Patron x.ID 2 with|some (r19,r20) =>some ((),(⟨⟨v17.c.Today,v17.c.Items,v17.c.Patrons,v17.c.Loans,v17.c.Holds,r19,v17.c.Rules,v17.c.Cals,v17.c.Moves,v17.c.NextHold,v17.c.NextCharge,v17.c.Local⟩,v17.err⟩:Circ_desk))|none =>none;bif r9 then match qc0 v6.c branch with|some r11 =>(match qfn r8 r11 r3.Due v6.c.Today with|some r13 =>bif !(r13==0) then match qfe r3.Patron x.ID 1 r13 v6 with|some (_,v15) =>k v15|none =>none else k v6|none =>none)|none =>none else k v6|none =>none)|none =>none)|none =>none)|none =>none)|none =>none
def qe9 (c:Circ) (item:Int) (branch:Int):Option (Circ×Int×Int):=
 match qch c with|some d =>(match qcs item d with|some (r2,v) =>(bif decide (r2<0) then match qce 0 v with|some ((r4,r5,r6),v7) =>some (r4,r5,r6)|none =>none else match getI c.Items r2 with|some x =>let k43 (v9:Bool):Option (Circ×Int×Int):=let k42 (v23:Circ_desk):Option (Circ×Int×Int):=match qa9 v23.c item with|some (r25,r26) =>let k41 (v27:Bool):Option (Circ×Int×Int):=let k (v32:Circ_desk):Option (Circ×Int×Int):=match qa9 v32.c item with|some (r34,r35) =>(match qce r34.ID v32 with|some ((r37,r38,r39),v40) =>some (r37,r38,r39)|none =>none)|none =>none;bif v27 then match qdl r2 r25 v23 with|some (_,v29) =>k v29|none =>none else match qek r2 v23 with|some (_,v31) =>k v31|none =>none;bif r26 then k41 (r25.State==2) else k41 false|none =>none;bif v9 then match qfc r2 branch v with|some (_,v11) =>k42 v11|none =>none else bif x.Custody.State==8 then match qbi r2 4 branch 0 v with|some (_,v13) =>k42 v13|none =>none else bif x.Custody.State==11 then match qbi r2 14 branch 0 v with|some (_,v15) =>k42 v15|none =>none else bif x.Custody.State==6 then match qbi r2 7 branch 0 v with|some (_,v17) =>k42 v17|none =>none else match qu 12 v with|some (_,v19) =>k42 v19|none =>none;bif x.Custody.State==4 then k43 (x.Custody.State==4) else bif x.Custody.State==9 then k43 (x.Custody.State==9) else k43 (x.Custody.State==10)|none =>none)|none =>none)|none =>none
def zal3:(Bool×Int×Circ×Circ×Unit)→Option ((Bool×Int×Circ×Circ×Unit)⊕((Bool×Circ×Circ×Unit))):=fun (ok,i,v,c,_)=>
 bif decide (i≤3) then match qcw c i 1 with|some (r8,r9) =>let k (v10:Bool):Option ((Bool×Int×Circ×Circ×Unit)⊕((Bool×Circ×Circ×Unit))):=some (.inl (v10,wr .i64 (i+1),v,r8,()));bif ok then k (r9==0) else k false|none =>none else some (.inr ((ok,v,c,())))
def qbk:Option (Circ×Bool):=
 match qc9 with|some r1 =>(match q8 r1 (⟨2,5,1,1,0,[],⟨0,0,0,0⟩⟩:Item) with|some (r3,r4) =>(match q8 r3 (⟨3,6,1,1,0,[],⟨0,0,0,0⟩⟩:Item) with|some (r6,r7) =>let k23 (v:Bool):Option (Circ×Bool):=match zae zal3 (v,1,(⟨0,[],[],[],[],[],[],⟨⟨0,[]⟩,⟨0,[]⟩,⟨0,[]⟩,⟨0,[]⟩⟩,[],0,0,false⟩:Circ),r6,()) with|some ((ok,v11,c,_)) =>(match qbt (⟨110,c.Items,c.Patrons,c.Loans,c.Holds,c.Charges,c.Rules,c.Cals,c.Moves,c.NextHold,c.NextCharge,c.Local⟩:Circ) 2 7 1 with|some (r13,r14,r15) =>let k22 (v16:Bool):Option (Circ×Bool):=match qe9 (⟨120,r13.Items,r13.Patrons,r13.Loans,r13.Holds,r13.Charges,r13.Rules,r13.Cals,r13.Moves,r13.NextHold,r13.NextCharge,r13.Local⟩:Circ) 2 1 with|some (r18,r19,r20) =>let k (v21:Bool):Option (Circ×Bool):=some ((⟨300,r18.Items,r18.Patrons,r18.Loans,r18.Holds,r18.Charges,r18.Rules,r18.Cals,r18.Moves,r18.NextHold,r18.NextCharge,r18.Local⟩:Circ),v21);bif v16 then k (r20==0) else k false|none =>none;bif ok then k22 (r15==0) else k22 false|none =>none)|none =>none;bif r4==0 then k23 (r7==0) else k23 false|none =>none)|none =>none)|none =>none
def zn0:(Int×Int×Int×(List Move)×Int×Int×Unit)→Option ((Int×Int×Int×(List Move)×Int×Int×Unit)⊕((Int×Int×Unit))):=fun (item,loans,last,v,v1,v2,_)=>
 bif decide (v2<v1) then match getI v v2 with|some x =>bif !(x.Item==item) then some (.inl (item,loans,last,v,v1,wr .i64 (v2+1),())) else let k7 (loans5:Int) (last6:Int):Option ((Int×Int×Int×(List Move)×Int×Int×Unit)⊕((Int×Int×Unit))):=some (.inl (item,loans5,last6,v,v1,wr .i64 (v2+1),()));bif x.Kind==3 then k7 (wr .i64 (loans+1)) (if last<x.Day then x.Day else last) else let k (v3:Bool):Option ((Int×Int×Int×(List Move)×Int×Int×Unit)⊕((Int×Int×Unit))):=bif v3 then k7 loans (if last<x.Day then x.Day else last) else k7 loans last;bif x.Kind==1 then k (x.Kind==1) else k (x.Kind==4)|none =>none else some (.inr ((loans,last,())))
def qbc (c:Circ) (item:Int):Option (Int×Int):=
 match zae zn0 (item,0,(-1),c.Moves,(c.Moves.length:Int),0,()) with|some ((loans,last,_)) =>some (loans,last)|none =>none
def znt:(Int×Int×(List Item)×Int×Int×Unit)→Option ((Int×Int×(List Item)×Int×Int×Unit)⊕((Int×Unit))):=fun (record,n,v,v1,v2,_)=>
 bif decide (v2<v1) then match getI v v2 with|some x =>let k5 (v3:Bool):Option ((Int×Int×(List Item)×Int×Int×Unit)⊕((Int×Unit))):=let k (n4:Int):Option ((Int×Int×(List Item)×Int×Int×Unit)⊕((Int×Unit))):=some (.inl (record,n4,v,v1,wr .i64 (v2+1),()));bif v3 then k (wr .i64 (n+1)) else k n;bif x.Record==record then k5 (!(x.Custody.State==12)) else k5 false|none =>none else some (.inr ((n,())))
def qah (c:Circ) (record:Int):Option Int:=
 match zae znt (record,0,c.Items,(c.Items.length:Int),0,()) with|some ((n,_)) =>some n|none =>none
def qcj (h:Hold) (v:Item):Option Bool:=
 let k (v1:Bool):Option Bool:=some v1;bif h.Record==v.Record then k true else k (h.Item==v.ID)
def qem (x:Int) (y:Int):Option Int:=
 match qdn x with|some r1 =>(match qdn y with|some r3 =>let k (v:Int):Option Int:=some v;bif r1 then bif r3 then k 0 else k (-1) else bif r3 then some 1 else bif decide (x<y) then some (-1) else bif decide (y<x) then some 1 else some 0|none =>none)|none =>none
def zal4:(Int×(List Int)×Int×Int×Unit)→Option ((Int×(List Int)×Int×Int×Unit)⊕((Int×Unit)⊕(Int×Unit))):=fun (zero,v,v1,v2,_)=>
 bif decide (v2<v1) then match getI v v2 with|some x =>bif !(x==zero) then some (.inr (.inr (x,()))) else some (.inl (zero,v,v1,wr .i64 (v2+1),()))|none =>none else some (.inr (.inl (zero,())))
def qbm (vals:List Int):Option Int:=
 match zae zal4 (0,vals,(vals.length:Int),0,()) with|some (.inl (zero,_)) =>some zero|some (.inr (v,_)) =>some v|none =>none
def qeh (a:Weed_candidate) (b:Weed_candidate):Option Int:=
 match qem a.loans b.loans with|some r1 =>(match qem a.last b.last with|some r3 =>(match qem a.id_ b.id_ with|some r5 =>(match qbm ([r1,r3,r5]) with|some r7 =>some r7|none =>none)|none =>none)|none =>none)|none =>none
def z2e:(Int×Int×(List Item)×Int×Int×Circ×(List Weed_candidate)×Unit)→Option ((Int×Int×(List Item)×Int×Int×Circ×(List Weed_candidate)×Unit)⊕(((List Weed_candidate)×Unit))):=fun (days,loans,v,v1,v2,c,l,_)=>
 bif decide (v2<v1) then match getI v v2 with|some x =>(match qb2 (fun g x0=>qcj x0 g.2.1) c.Holds ((),(x,())) with|some r3 =>(match qbc c x.ID with|some (r5,r6) =>let k11 (v7:Bool):Option ((Int×Int×(List Item)×Int×Int×Circ×(List Weed_candidate)×Unit)⊕(((List Weed_candidate)×Unit))):=let k10 (v8:Bool):Option ((Int×Int×(List Item)×Int×Int×Circ×(List Weed_candidate)×Unit)⊕(((List Weed_candidate)×Unit))):=let k (v9:Bool):Option ((Int×Int×(List Item)×Int×Int×Circ×(List Weed_candidate)×Unit)⊕(((List Weed_candidate)×Unit))):=bif v9 then bif decide (l.length+([(⟨x.ID,x.Record,r5,r6⟩:Weed_candidate)]:List Weed_candidate).length≤LIM) then some (.inl (days,loans,v,v1,wr .i64 (v2+1),c,l++([(⟨x.ID,x.Record,r5,r6⟩:Weed_candidate)]:List Weed_candidate),())) else none else some (.inl (days,loans,v,v1,wr .i64 (v2+1),c,l,()));bif v8 then k (!r3) else k false;bif v7 then k10 (decide (days<wr .i64 (c.Today-r6))) else k10 false;bif x.Custody.State==3 then k11 (decide (r5≤loans)) else k11 false|none =>none)|none =>none)|none =>none else some (.inr ((l,())))
def qi (c:Circ) (days:Int) (loans:Int):Option (List Weed_candidate):=
 match zae z2e (days,loans,c.Items,(c.Items.length:Int),0,c,([]:List Weed_candidate),()) with|some ((l,_)) =>(match qdi (fun g x0 x1=>qeh x0 x1) l ((),()) with|some l12 =>some l12|none =>none)|none =>none
def zal0:((List Weed_candidate)×Int×Int×(List Int)×Unit)→Option (((List Weed_candidate)×Int×Int×(List Int)×Unit)⊕(((List Int)×Unit))):=fun (v,v2,v3,l,_)=>
 bif decide (v3<v2) then match getI v v3 with|some x =>bif decide (l.length+([x.id_]:List Int).length≤LIM) then some (.inl (v,v2,wr .i64 (v3+1),l++([x.id_]:List Int),())) else none|none =>none else some (.inr ((l,())))
def qbg (c:Circ) (days:Int) (loans:Int):Option (List Int):=
 match qi c days loans with|some r1 =>(match zae zal0 (r1,(r1.length:Int),0,([]:List Int),()) with|some ((l,_)) =>some l|none =>none)|none =>none
def z1z:((List Int)×(List Int)×Int×Unit)→Option (((List Int)×(List Int)×Int×Unit)⊕((Unit)⊕(Bool×Unit))):=fun (a,b,i,_)=>
 bif decide (i<(a.length:Int)) then match getI a i with|some x =>(match getI b i with|some x1 =>bif !(x==x1) then some (.inr (.inr (false,()))) else some (.inl (a,b,wr .i64 (i+1),()))|none =>none)|none =>none else some (.inr (.inl (())))
def q9 (a:List Int) (b:List Int):Option Bool:=
 bif !((a.length:Int)==(b.length:Int)) then some false else match zae z1z (a,b,0,()) with|some (.inl (_)) =>some true|some (.inr (v,_)) =>some v|none =>none
def qc3 (x:Item) (v:Int):Option Bool:=
 some (x.ID==v)
def qci {γ0:Type} (p:γ0→Item→Option Bool) (s:List Item) (g:γ0):Option Bool:=
 match qc p s g with|some r1 =>some (decide (0≤r1))|none =>none
def qdp (x:Item) (record:Int):Option Bool:=
 let k (v:Bool):Option Bool:=some v;bif x.Record==record then k (!(x.Custody.State==12)) else k false
def qdb (y:Item) (v:Item):Option Bool:=
 let k (v2:Bool):Option Bool:=some v2;bif !(y.ID==v.ID) then match qdp y v.Record with|some r1 =>k r1|none =>none else k false
def qcn (h:Hold) (v:Item) (v1:Bool):Option Bool:=
 let k (v3:Bool):Option Bool:=some v3;bif h.Item==v.ID then k true else bif v1 then k (h.Record==v.Record) else k false
def qai (c:Circ) (x:Item):Option Bool:=
 match qci (fun g x0=>qdb x0 g.2.1) c.Items ((),(x,())) with|some r1 =>(match qdp x x.Record with|some r3 =>let k (v:Bool):Option Bool:=match qb2 (fun g x0=>qcn x0 g.2.1 g.2.2.1) c.Holds ((),(x,v,())) with|some r5 =>some r5|none =>none;bif r3 then k (!r1) else k false|none =>none)|none =>none
def qe5 (c:Circ) (item:Int):Option (Circ×Int):=
 match qch c with|some d =>(match qcs item d with|some (r2,v) =>let k26 (v5:Bool):Option (Circ×Int):=let k25 (v8:Circ_desk):Option (Circ×Int):=match qct r2 15 v8 with|some (_,v10) =>(match qed c.Loans item with|some (r12,r13) =>let k (v20:Circ_desk):Option (Circ×Int):=match qa5 v20 with|some ((r22,r23),v24) =>some (r22,r23)|none =>none;bif r13 then match qdf c.Loans item with|some (r15,r16,r17) =>(match qcq r15 r17 v10 with|some (_,v19) =>k v19|none =>none)|none =>none else k v10|none =>none)|none =>none;bif v5 then match qu 10 v with|some (_,v7) =>k25 v7|none =>none else k25 v;bif decide (0≤r2) then match getI c.Items r2 with|some x =>(match qai c x with|some r4 =>k26 r4|none =>none)|none =>none else k26 false|none =>none)|none =>none
def z2c:((List Int)×(List Int)×Int×Int×Circ×Circ×Unit)→Option (((List Int)×(List Int)×Int×Int×Circ×Circ×Unit)⊕(((List Int)×Circ×Circ×Unit)⊕((List Int)×Int×Circ×Unit))):=fun (l,v,v1,v2,c,v3,_)=>
 bif decide (v2<v1) then match getI v v2 with|some x =>(match qci (fun g x0=>qc3 x0 g.2.1) c.Items ((),(x,())) with|some r4 =>bif !r4 then some (.inr (.inr ([],9,(⟨0,[],[],[],[],[],[],⟨⟨0,[]⟩,⟨0,[]⟩,⟨0,[]⟩,⟨0,[]⟩⟩,[],0,0,false⟩:Circ),()))) else some (.inl (l,v,v1,wr .i64 (v2+1),c,v3,()))|none =>none)|none =>none else some (.inr (.inl (l,c,v3,())))
def zva:((List Int)×Int×Int×Circ×Circ×(List Int)×Unit)→Option (((List Int)×Int×Int×Circ×Circ×(List Int)×Unit)⊕((Circ×Circ×(List Int)×Unit))):=fun (v,v7,v8,c,v9,l,_)=>
 bif decide (v8<v7) then match getI v v8 with|some x =>(match qe5 c x with|some (r10,r11) =>bif r11==0 then bif decide (l.length+([x]:List Int).length≤LIM) then some (.inl (v,v7,wr .i64 (v8+1),r10,v9,l++([x]:List Int),())) else none else some (.inl (v,v7,wr .i64 (v8+1),c,v9,l,()))|none =>none)|none =>none else some (.inr ((c,v9,l,())))
def qg (c:Circ) (l:List Int):Option (Circ×(List Int)×Int):=
 match zae z2c (l,l,(l.length:Int),0,c,(⟨0,[],[],[],[],[],[],⟨⟨0,[]⟩,⟨0,[]⟩,⟨0,[]⟩,⟨0,[]⟩⟩,[],0,0,false⟩:Circ),()) with|some (.inl (l5,c6,v,_)) =>(match zae zva (l5,(l5.length:Int),0,c6,v,([]:List Int),()) with|some ((c12,v13,l14,_)) =>some (c12,l14,0)|none =>none)|some (.inr (v15,v16,v17,_)) =>some (v17,v15,v16)|none =>none
def zn1:(Int×(List Weed_candidate)×Int×Int×Circ×(List Int)×(List MapI)×Unit)→Option ((Int×(List Weed_candidate)×Int×Int×Circ×(List Int)×(List MapI)×Unit)⊕(((List Int)×Unit))):=fun (most,v,v2,v3,c,l,l4,_)=>
 bif decide (v3<v2) then match getI v v3 with|some x =>let k (v6:Bool):Option ((Int×(List Weed_candidate)×Int×Int×Circ×(List Int)×(List MapI)×Unit)⊕(((List Int)×Unit))):=bif v6 then bif decide (l.length+([x.id_]:List Int).length≤LIM) then some (.inl (most,v,v2,wr .i64 (v3+1),c,l++([x.id_]:List Int),setM MapI.key x.record (⟨x.record,wr .i64 ((zuz MapI.key MapI.val l4 x.record)+1)⟩:MapI) l4,())) else none else some (.inl (most,v,v2,wr .i64 (v3+1),c,l,l4,()));bif decide ((l.length:Int)<most) then match qah c x.record with|some r5 =>k (decide (1<wr .i64 (r5-(zuz MapI.key MapI.val l4 x.record))))|none =>none else k false|none =>none else some (.inr ((l,())))
def qbd (c:Circ) (days:Int) (loans:Int) (most:Int):Option (List Int):=
 match qi c days loans with|some r1 =>(match zae zn1 (most,r1,(r1.length:Int),0,c,([]:List Int),([]:List MapI),()) with|some ((l,_)) =>some l|none =>none)|none =>none
def qdc:Option Bool:=
 match qbk with|some (r1,r2) =>(match qbc r1 2 with|some (r4,r5) =>let k53 (v:Bool):Option Bool:=let k52 (v6:Bool):Option Bool:=let k51 (v9:Bool):Option Bool:=let k50 (v14:Bool):Option Bool:=let k49 (v19:Bool):Option Bool:=let k48 (v24:Bool):Option Bool:=bif v24 then some false else match qg r1 ([1,3]) with|some (r26,r27,r28) =>(match qg r1 ([1,9]) with|some (r30,r31,r32) =>(match qbd r1 50 1 5 with|some r34 =>(match q9 r34 ([1]) with|some r36 =>let k47 (v37:Bool):Option Bool:=let k46 (v40:Bool):Option Bool:=let k45 (v43:Bool):Option Bool:=let k (v44:Bool):Option Bool:=some v44;bif v43 then k (r32==9) else k false;bif v40 then match qah r26 5 with|some r42 =>k45 (r42==1)|none =>none else k45 false;bif v37 then match q9 r27 ([1,3]) with|some r39 =>k46 r39|none =>none else k46 false;bif r36 then k47 (r28==0) else k47 false|none =>none)|none =>none)|none =>none)|none =>none;bif v19 then k48 true else match qbg r1 50 0 with|some r21 =>(match q9 r21 ([1,3]) with|some r23 =>k48 (!r23)|none =>none)|none =>none;bif v14 then k49 true else match qbg r1 190 1 with|some r16 =>(match q9 r16 ([1,3]) with|some r18 =>k49 (!r18)|none =>none)|none =>none;bif v9 then k50 true else match qbg r1 50 1 with|some r11 =>(match q9 r11 ([1,3,2]) with|some r13 =>k50 (!r13)|none =>none)|none =>none;bif v6 then k51 true else match qah r1 5 with|some r8 =>k51 (!(r8==2))|none =>none;bif v then k52 true else k52 (!(r5==120));bif !r2 then k53 true else k53 (!(r4==1))|none =>none)|none =>none
def zal7:(Int×Int×Circ×Unit)→Option ((Int×Int×Circ×Unit)⊕((Unit)⊕(Int×Unit))):=fun (item,i,c,_)=>
 bif decide (i<(c.Items.length:Int)) then match getI c.Items i with|some x =>bif x.ID==item then match getI c.Items i with|some x1 =>some (.inr (.inr (x1.Record,())))|none =>none else some (.inl (item,wr .i64 (i+1),c,()))|none =>none else some (.inr (.inl (())))
def qbr (c:Circ) (item:Int):Option Int:=
 match zae zal7 (item,0,c,()) with|some (.inl (_)) =>some 0|some (.inr (v,_)) =>some v|none =>none
def zgz:(Int×Int×Circ×Circ×Move×Custody×(List Item)×Unit)→Option ((Int×Int×Circ×Circ×Move×Custody×(List Item)×Unit)⊕((Circ×Circ×Move×(List Item)×Unit))):=fun (i,k,c,v,m,u,l,_)=>
 bif decide (k<(c.Items.length:Int)) then match getI c.Items k with|some x =>let k6 (x5:Item):Option ((Int×Int×Circ×Circ×Move×Custody×(List Item)×Unit)⊕((Circ×Circ×Move×(List Item)×Unit))):=bif decide (l.length+([x5]:List Item).length≤LIM) then some (.inl (i,wr .i64 (k+1),c,v,m,u,l++([x5]:List Item),())) else none;bif k==i then k6 (⟨x.ID,x.Record,x.Branch,x.Kind,x.Price,x.Call,u⟩:Item) else k6 x|none =>none else some (.inr ((c,v,m,l,())))
def qbe (c:Circ) (item:Int) (kind:Int) (branch:Int) (who:Int):Option (Circ×Int):=
 match qp c item with|some r1 =>(match getI c.Items r1 with|some x =>(match qcc x.Custody (⟨c.Today,item,kind,branch,who⟩:Move) with|some (r3,r4) =>(bif !(r4==0) then some ((⟨0,[],[],[],[],[],[],⟨⟨0,[]⟩,⟨0,[]⟩,⟨0,[]⟩,⟨0,[]⟩⟩,[],0,0,false⟩:Circ),r4) else bif decide (2000≤(c.Moves.length:Int)) then some ((⟨0,[],[],[],[],[],[],⟨⟨0,[]⟩,⟨0,[]⟩,⟨0,[]⟩,⟨0,[]⟩⟩,[],0,0,false⟩:Circ),13) else match zae zgz (r1,0,c,(⟨0,[],[],[],[],[],[],⟨⟨0,[]⟩,⟨0,[]⟩,⟨0,[]⟩,⟨0,[]⟩⟩,[],0,0,false⟩:Circ),(⟨c.Today,item,kind,branch,who⟩:Move),r3,([]:List Item),()) with|some ((c7,v,m,l,_)) =>bif decide (c7.Moves.length≤LIM) then bif decide (c7.Moves.length+([m]:List Move).length≤LIM) then some ((⟨c7.Today,l,c7.Patrons,c7.Loans,c7.Holds,c7.Charges,c7.Rules,c7.Cals,c7.Moves++([m]:List Move),c7.NextHold,c7.NextCharge,c7.Local⟩:Circ),0) else none else none|none =>none)|none =>none)|none =>none)|none =>none
def qfa (l:List Loan) (item:Int):Option ((List Loan)×Loan×Int):=
 match qak l item with|some r1 =>bif decide (r1<0) then some ([],(⟨0,0,0,0,0,false⟩:Loan),9) else bif decide (0≤(0:Int))&&(decide ((0:Int)≤r1)&&decide (r1≤(l.length:Int))) then bif decide (([]:List Loan).length+((l.take r1.toNat).drop (0:Int).toNat).length≤LIM) then bif decide (0≤(wr .i64 (r1+1):Int))&&(decide ((wr .i64 (r1+1):Int)≤(l.length:Int))&&decide ((l.length:Int)≤(l.length:Int))) then bif decide ((([])++((l.take r1.toNat).drop (0:Int).toNat)).length+((l.take (l.length:Int).toNat).drop (wr .i64 (r1+1):Int).toNat).length≤LIM) then match getI l r1 with|some x =>some ((([])++((l.take r1.toNat).drop (0:Int).toNat))++((l.take (l.length:Int).toNat).drop (wr .i64 (r1+1):Int).toNat),x,0)|none =>none else none else none else none else none|none =>none
def zlc:(Int×Int×Bool×Int×Circ×Circ×Item×Unit)→Option ((Int×Int×Bool×Int×Circ×Circ×Item×Unit)⊕((Int×Bool×Circ×Circ×Item×Unit))):=fun (item,i,others,k,c,v,x,_)=>
 bif decide (k<(c.Items.length:Int)) then let k8 (v7:Bool):Option ((Int×Int×Bool×Int×Circ×Circ×Item×Unit)⊕((Int×Bool×Circ×Circ×Item×Unit))):=some (.inl (item,i,v7,wr .i64 (k+1),c,v,x,()));bif others then k8 true else let k6 (v3:Bool):Option ((Int×Int×Bool×Int×Circ×Circ×Item×Unit)⊕((Int×Bool×Circ×Circ×Item×Unit))):=bif v3 then match getI c.Items k with|some x4 =>k8 (!(x4.Custody.State==12))|none =>none else k8 false;bif !(k==i) then match getI c.Items k with|some x2 =>k6 (x2.Record==x.Record)|none =>none else k6 false else some (.inr ((item,others,c,v,x,())))
def zid:(Int×Bool×Int×Circ×Circ×Item×Unit)→Option ((Int×Bool×Int×Circ×Circ×Item×Unit)⊕((Int×Circ×Circ×Item×Unit)⊕(Int×Circ×Unit))):=fun (item,others,k,c,v,x,_)=>
 bif decide (k<(c.Holds.length:Int)) then match getI c.Holds k with|some x12 =>(let k18 (v17:Bool):Option ((Int×Bool×Int×Circ×Circ×Item×Unit)⊕((Int×Circ×Circ×Item×Unit)⊕(Int×Circ×Unit))):=bif v17 then some (.inr (.inr (10,(⟨0,[],[],[],[],[],[],⟨⟨0,[]⟩,⟨0,[]⟩,⟨0,[]⟩,⟨0,[]⟩⟩,[],0,0,false⟩:Circ),()))) else some (.inl (item,others,wr .i64 (k+1),c,v,x,()));bif x12.Item==item then k18 true else match getI c.Holds k with|some x13 =>let k16 (v14:Bool):Option ((Int×Bool×Int×Circ×Circ×Item×Unit)⊕((Int×Circ×Circ×Item×Unit)⊕(Int×Circ×Unit))):=bif v14 then k18 (!(x.Custody.State==12)) else k18 false;bif x13.Record==x.Record then k16 (!others) else k16 false|none =>none)|none =>none else some (.inr (.inl (item,c,v,x,())))
def qad (c:Circ) (item:Int):Option (Circ×Int):=
 match qp c item with|some r1 =>(bif decide (r1<0) then some ((⟨0,[],[],[],[],[],[],⟨⟨0,[]⟩,⟨0,[]⟩,⟨0,[]⟩,⟨0,[]⟩⟩,[],0,0,false⟩:Circ),9) else match getI c.Items r1 with|some x =>(match zae zlc (item,r1,false,0,c,(⟨0,[],[],[],[],[],[],⟨⟨0,[]⟩,⟨0,[]⟩,⟨0,[]⟩,⟨0,[]⟩⟩,[],0,0,false⟩:Circ),x,()) with|some ((item9,others,c10,v,x11,_)) =>(match zae zid (item9,others,0,c10,v,x11,()) with|some (.inl (item19,c20,v21,x22,_)) =>(match qbe c20 item19 15 x22.Custody.Branch 0 with|some (r24,r25) =>(bif !(r25==0) then some ((⟨0,[],[],[],[],[],[],⟨⟨0,[]⟩,⟨0,[]⟩,⟨0,[]⟩,⟨0,[]⟩⟩,[],0,0,false⟩:Circ),r25) else match qfa r24.Loans item19 with|some (r27,r28,r29) =>let k (c30:List Loan):Option (Circ×Int):=some ((⟨r24.Today,r24.Items,r24.Patrons,c30,r24.Holds,r24.Charges,r24.Rules,r24.Cals,r24.Moves,r24.NextHold,r24.NextCharge,r24.Local⟩:Circ),0);bif r29==0 then k r27 else k r24.Loans|none =>none)|none =>none)|some (.inr (v31,v32,_)) =>some (v32,v31)|none =>none)|none =>none)|none =>none)|none =>none
def zalm:((List Int)×Int×Circ×Circ×Unit)→Option (((List Int)×Int×Circ×Circ×Unit)⊕(((List Int)×Circ×Circ×Unit)⊕((List Int)×Int×Circ×Unit))):=fun (l,i,c,v,_)=>
 bif decide (i<(l.length:Int)) then match getI l i with|some x =>(match qbr c x with|some r1 =>bif r1==0 then some (.inr (.inr ([],9,(⟨0,[],[],[],[],[],[],⟨⟨0,[]⟩,⟨0,[]⟩,⟨0,[]⟩,⟨0,[]⟩⟩,[],0,0,false⟩:Circ),()))) else some (.inl (l,wr .i64 (i+1),c,v,()))|none =>none)|none =>none else some (.inr (.inl (l,c,v,())))
def zaln:((List Int)×Int×Circ×Circ×(List Int)×Unit)→Option (((List Int)×Int×Circ×Circ×(List Int)×Unit)⊕((Circ×Circ×(List Int)×Unit))):=fun (l,i,c,v,l4,_)=>
 bif decide (i<(l.length:Int)) then match getI l i with|some x =>(match qad c x with|some (r5,r6) =>bif r6==0 then match getI l i with|some x7 =>bif decide (l4.length+([x7]:List Int).length≤LIM) then some (.inl (l,wr .i64 (i+1),r5,v,l4++([x7]:List Int),())) else none|none =>none else some (.inl (l,wr .i64 (i+1),c,v,l4,()))|none =>none)|none =>none else some (.inr ((c,v,l4,())))
def qag (c:Circ) (l:List Int):Option (Circ×(List Int)×Int):=
 match zae zalm (l,0,c,(⟨0,[],[],[],[],[],[],⟨⟨0,[]⟩,⟨0,[]⟩,⟨0,[]⟩,⟨0,[]⟩⟩,[],0,0,false⟩:Circ),()) with|some (.inl (l2,c3,v,_)) =>(match zae zaln (l2,0,c3,v,([]:List Int),()) with|some ((c8,v9,l10,_)) =>some (c8,l10,0)|none =>none)|some (.inr (v11,v12,v13,_)) =>some (v13,v11,v12)|none =>none
def za3k:(Int×Int×Circ×Circ×Unit)→Option ((Int×Int×Circ×Circ×Unit)⊕((Int×Circ×Circ×Unit)⊕(Bool×Unit))):=fun (i,k,a,b,_)=>
 let k17 (v:Int) (v9:List Int):Option ((Int×Int×Circ×Circ×Unit)⊕((Int×Circ×Circ×Unit)⊕(Bool×Unit))):=bif decide (k<(v9.length:Int)) then let k16 (v10:Int) (v11:List Int):Option ((Int×Int×Circ×Circ×Unit)⊕((Int×Circ×Circ×Unit)⊕(Bool×Unit))):=match getI v11 k with|some x =>let k15 (v12:Int) (v13:List Int):Option ((Int×Int×Circ×Circ×Unit)⊕((Int×Circ×Circ×Unit)⊕(Bool×Unit))):=match getI v13 k with|some x14 =>bif !(x==x14) then some (.inr (.inr (false,()))) else some (.inl (i,wr .i64 (k+1),a,b,()))|none =>none;bif i==0 then k15 b.Cals.x0.Week b.Cals.x0.Closed else bif i==1 then k15 b.Cals.x1.Week b.Cals.x1.Closed else bif i==2 then k15 b.Cals.x2.Week b.Cals.x2.Closed else bif i==3 then k15 b.Cals.x3.Week b.Cals.x3.Closed else none|none =>none;bif i==0 then k16 a.Cals.x0.Week a.Cals.x0.Closed else bif i==1 then k16 a.Cals.x1.Week a.Cals.x1.Closed else bif i==2 then k16 a.Cals.x2.Week a.Cals.x2.Closed else bif i==3 then k16 a.Cals.x3.Week a.Cals.x3.Closed else none else some (.inr (.inl (i,a,b,())));bif i==0 then k17 a.Cals.x0.Week a.Cals.x0.Closed else bif i==1 then k17 a.Cals.x1.Week a.Cals.x1.Closed else bif i==2 then k17 a.Cals.x2.Week a.Cals.x2.Closed else bif i==3 then k17 a.Cals.x3.Week a.Cals.x3.Closed else none
def za3j:(Int×Circ×Circ×Unit)→Option ((Int×Circ×Circ×Unit)⊕((Unit)⊕(Bool×Unit))):=fun (i,a,b,_)=>
 bif decide (i<4) then let k24 (v:Int) (v1:List Int):Option ((Int×Circ×Circ×Unit)⊕((Unit)⊕(Bool×Unit))):=let k23 (v2:Int) (v3:List Int):Option ((Int×Circ×Circ×Unit)⊕((Unit)⊕(Bool×Unit))):=let k22 (v8:Bool):Option ((Int×Circ×Circ×Unit)⊕((Unit)⊕(Bool×Unit))):=bif v8 then some (.inr (.inr (false,()))) else match zae za3k (i,0,a,b,()) with|some (.inl (i18,a19,b20,_)) =>some (.inl (wr .i64 (i18+1),a19,b20,()))|some (.inr (v21,_)) =>some (.inr (.inr (v21,())))|none =>none;bif !(v==v2) then k22 true else let k (v4:Int) (v5:List Int):Option ((Int×Circ×Circ×Unit)⊕((Unit)⊕(Bool×Unit))):=bif i==0 then k22 (!((v5.length:Int)==(b.Cals.x0.Closed.length:Int))) else bif i==1 then k22 (!((v5.length:Int)==(b.Cals.x1.Closed.length:Int))) else bif i==2 then k22 (!((v5.length:Int)==(b.Cals.x2.Closed.length:Int))) else bif i==3 then k22 (!((v5.length:Int)==(b.Cals.x3.Closed.length:Int))) else none;bif i==0 then k a.Cals.x0.Week a.Cals.x0.Closed else bif i==1 then k a.Cals.x1.Week a.Cals.x1.Closed else bif i==2 then k a.Cals.x2.Week a.Cals.x2.Closed else bif i==3 then k a.Cals.x3.Week a.Cals.x3.Closed else none;bif i==0 then k23 b.Cals.x0.Week b.Cals.x0.Closed else bif i==1 then k23 b.Cals.x1.Week b.Cals.x1.Closed else bif i==2 then k23 b.Cals.x2.Week b.Cals.x2.Closed else bif i==3 then k23 b.Cals.x3.Week b.Cals.x3.Closed else none;bif i==0 then k24 a.Cals.x0.Week a.Cals.x0.Closed else bif i==1 then k24 a.Cals.x1.Week a.Cals.x1.Closed else bif i==2 then k24 a.Cals.x2.Week a.Cals.x2.Closed else bif i==3 then k24 a.Cals.x3.Week a.Cals.x3.Closed else none else some (.inr (.inl (())))
def qw (a:Circ) (b:Circ):Option Bool:=
 match zae za3j (0,a,b,()) with|some (.inl (_)) =>some true|some (.inr (v,_)) =>some v|none =>none
def za2w:(Int×Circ×Circ×Unit)→Option ((Int×Circ×Circ×Unit)⊕((Circ×Circ×Unit)⊕(Bool×Unit))):=fun (i,a,b,_)=>
 bif decide (i<(a.Items.length:Int)) then match getI a.Items i with|some x =>(match getI b.Items i with|some x10 =>bif !(zafs x x10) then some (.inr (.inr (false,()))) else some (.inl (wr .i64 (i+1),a,b,()))|none =>none)|none =>none else some (.inr (.inl (a,b,())))
def zame:(Int×Circ×Circ×Unit)→Option ((Int×Circ×Circ×Unit)⊕((Circ×Circ×Unit)⊕(Bool×Unit))):=fun (i,a,b,_)=>
 bif decide (i<(a.Patrons.length:Int)) then match getI a.Patrons i with|some x =>(match getI b.Patrons i with|some x13 =>bif !(z0z x x13) then some (.inr (.inr (false,()))) else some (.inl (wr .i64 (i+1),a,b,()))|none =>none)|none =>none else some (.inr (.inl (a,b,())))
def zamf:(Int×Circ×Circ×Unit)→Option ((Int×Circ×Circ×Unit)⊕((Circ×Circ×Unit)⊕(Bool×Unit))):=fun (i,a,b,_)=>
 bif decide (i<(a.Loans.length:Int)) then match getI a.Loans i with|some x =>(match getI b.Loans i with|some x16 =>bif !(zaft x x16) then some (.inr (.inr (false,()))) else some (.inl (wr .i64 (i+1),a,b,()))|none =>none)|none =>none else some (.inr (.inl (a,b,())))
def zamg:(Int×Circ×Circ×Unit)→Option ((Int×Circ×Circ×Unit)⊕((Circ×Circ×Unit)⊕(Bool×Unit))):=fun (i,a,b,_)=>
 bif decide (i<(a.Holds.length:Int)) then match getI a.Holds i with|some x =>(match getI b.Holds i with|some x19 =>bif !(zafr x x19) then some (.inr (.inr (false,()))) else some (.inl (wr .i64 (i+1),a,b,()))|none =>none)|none =>none else some (.inr (.inl (a,b,())))
def zamh:(Int×Circ×Circ×Unit)→Option ((Int×Circ×Circ×Unit)⊕((Circ×Circ×Unit)⊕(Bool×Unit))):=fun (i,a,b,_)=>
 bif decide (i<(a.Charges.length:Int)) then match getI a.Charges i with|some x =>(match getI b.Charges i with|some x22 =>bif !(z0y x x22) then some (.inr (.inr (false,()))) else some (.inl (wr .i64 (i+1),a,b,()))|none =>none)|none =>none else some (.inr (.inl (a,b,())))
def zami:(Int×Circ×Circ×Unit)→Option ((Int×Circ×Circ×Unit)⊕((Circ×Circ×Unit)⊕(Bool×Unit))):=fun (i,a,b,_)=>
 bif decide (i<(a.Rules.length:Int)) then match getI a.Rules i with|some x =>(match getI b.Rules i with|some x25 =>bif !(zafv x x25) then some (.inr (.inr (false,()))) else some (.inl (wr .i64 (i+1),a,b,()))|none =>none)|none =>none else some (.inr (.inl (a,b,())))
def zamj:(Int×Circ×Circ×Unit)→Option ((Int×Circ×Circ×Unit)⊕((Circ×Circ×Unit)⊕(Bool×Unit))):=fun (i,a,b,_)=>
 bif decide (i<(a.Moves.length:Int)) then match getI a.Moves i with|some x =>(match getI b.Moves i with|some x28 =>bif !(zafu x x28) then some (.inr (.inr (false,()))) else some (.inl (wr .i64 (i+1),a,b,()))|none =>none)|none =>none else some (.inr (.inl (a,b,())))
def qd (a:Circ) (b:Circ):Option Bool:=
 let k47 (v:Bool):Option Bool:=let k46 (v1:Bool):Option Bool:=let k45 (v2:Bool):Option Bool:=let k44 (v3:Bool):Option Bool:=bif v3 then some false else let k43 (v4:Bool):Option Bool:=let k42 (v5:Bool):Option Bool:=let k41 (v6:Bool):Option Bool:=let k40 (v7:Bool):Option Bool:=let k39 (v8:Bool):Option Bool:=let k (v9:Bool):Option Bool:=bif v9 then some false else match zae za2w (0,a,b,()) with|some (.inl (a11,b12,_)) =>(match zae zame (0,a11,b12,()) with|some (.inl (a14,b15,_)) =>(match zae zamf (0,a14,b15,()) with|some (.inl (a17,b18,_)) =>(match zae zamg (0,a17,b18,()) with|some (.inl (a20,b21,_)) =>(match zae zamh (0,a20,b21,()) with|some (.inl (a23,b24,_)) =>(match zae zami (0,a23,b24,()) with|some (.inl (a26,b27,_)) =>(match zae zamj (0,a26,b27,()) with|some (.inl (a29,b30,_)) =>(match qw a29 b30 with|some r31 =>some r31|none =>none)|some (.inr (v32,_)) =>some v32|none =>none)|some (.inr (v33,_)) =>some v33|none =>none)|some (.inr (v34,_)) =>some v34|none =>none)|some (.inr (v35,_)) =>some v35|none =>none)|some (.inr (v36,_)) =>some v36|none =>none)|some (.inr (v37,_)) =>some v37|none =>none)|some (.inr (v38,_)) =>some v38|none =>none;bif v8 then k true else k (!((a.Moves.length:Int)==(b.Moves.length:Int)));bif v7 then k39 true else k39 (!((a.Rules.length:Int)==(b.Rules.length:Int)));bif v6 then k40 true else k40 (!((a.Charges.length:Int)==(b.Charges.length:Int)));bif v5 then k41 true else k41 (!((a.Holds.length:Int)==(b.Holds.length:Int)));bif v4 then k42 true else k42 (!((a.Loans.length:Int)==(b.Loans.length:Int)));bif !((a.Items.length:Int)==(b.Items.length:Int)) then k43 true else k43 (!((a.Patrons.length:Int)==(b.Patrons.length:Int)));bif v2 then k44 true else k44 (!(a.Local==b.Local));bif v1 then k45 true else k45 (!(a.NextCharge==b.NextCharge));bif v then k46 true else k46 (!(a.NextHold==b.NextHold));bif !(a.Today==b.Today) then k47 true else k47 (!(a.Cals.x0.Week==b.Cals.x0.Week))
def qdj (c:Circ) (l:List Int):Option Bool:=
 match qee c with|some r1 =>let k23 (v:Bool):Option Bool:=bif v then match qdc with|some r3 =>some r3|none =>none else match qg c l with|some (r5,r6,r7) =>(match qag c l with|some (r9,r10,r11) =>(match qdc with|some r13 =>let k22 (v16:Bool):Option Bool:=let k21 (v19:Bool):Option Bool:=let k (v20:Bool):Option Bool:=some v20;bif v19 then k (r7==r11) else k false;bif v16 then match q9 r6 r10 with|some r18 =>k21 r18|none =>none else k21 false;bif r13 then match qd r5 r9 with|some r15 =>k22 r15|none =>none else k22 false|none =>none)|none =>none)|none =>none;bif !r1 then k23 true else k23 (decide (20<(l.length:Int)))|none =>none
def z2l:((List Int)×Int×Circ×(List Int)×Unit)→Option (((List Int)×Int×Circ×(List Int)×Unit)⊕(((List Int)×Circ×(List Int)×Unit))):=fun (l,i,c,l6,_)=>
 bif decide (0≤i) then match getI l i with|some x =>bif decide (l6.length+([x]:List Int).length≤LIM) then some (.inl (l,wr .i64 (i-1),c,l6++([x]:List Int),())) else none|none =>none else some (.inr ((l,c,l6,())))
def zlo:(Int×Circ×Circ×Circ×Unit)→Option ((Int×Circ×Circ×Circ×Unit)⊕((Unit)⊕(Bool×Unit))):=fun (i,c,x,y,_)=>
 bif decide (i<(c.Items.length:Int)) then match getI c.Items i with|some x29 =>(match qah c x29.Record with|some r30 =>let k (v37:Bool):Option ((Int×Circ×Circ×Circ×Unit)⊕((Unit)⊕(Bool×Unit))):=bif v37 then some (.inr (.inr (false,()))) else some (.inl (wr .i64 (i+1),c,x,y,()));bif decide (0<r30) then match qah x x29.Record with|some r32 =>(bif decide (r32<1) then k true else match qah y x29.Record with|some r34 =>(match qah x x29.Record with|some r36 =>k (!(r34==r36))|none =>none)|none =>none)|none =>none else k false|none =>none)|none =>none else some (.inr (.inl (())))
def qz (c:Circ) (days:Int) (loans:Int) (most:Int):Option Bool:=
 match qee c with|some r1 =>(bif !r1 then match qdc with|some r3 =>some r3|none =>none else match qbd c days loans most with|some r5 =>(match zae z2l (r5,wr .i64 ((r5.length:Int)-1),c,([]:List Int),()) with|some ((l,c7,l8,_)) =>(match qg c7 l with|some (r10,r11,r12) =>(match qg c7 l8 with|some (r14,r15,r16) =>let k44 (v:Bool):Option Bool:=let k43 (v19:Bool):Option Bool:=let k42 (v22:Bool):Option Bool:=let k41 (v25:Bool):Option Bool:=let k (v28:Bool):Option Bool:=bif v28 then some false else match zae zlo (0,c7,r10,r14,()) with|some (.inl (_)) =>(match qdc with|some r39 =>some r39|none =>none)|some (.inr (v40,_)) =>some v40|none =>none;bif v25 then k true else match qdr r14 with|some r27 =>k (!r27)|none =>none;bif v22 then k41 true else match qdr r10 with|some r24 =>k41 (!r24)|none =>none;bif v19 then k42 true else match q9 r15 l8 with|some r21 =>k42 (!r21)|none =>none;bif v then k43 true else match q9 r11 l with|some r18 =>k43 (!r18)|none =>none;bif !(r12==0) then k44 true else k44 (!(r16==0))|none =>none)|none =>none)|none =>none)|none =>none)|none =>none
end Go.Proofs.YtpaidiaknfhclaaGreatDoor
namespace Go.Proofs.YtpaidiaknfhclaaGreatDoor
set_option maxRecDepth 100000
open Ev
open Go (IntKind)
open Go
theorem zqi:CCOk za2:=CCOk.iso (CCOk.cons (zak.int _) (CCOk.cons (zak.int _) (CCOk.cons (zak.int _) (CCOk.cons (zak.int _) CCOk.nil)))) (fun _=>rfl)
theorem zqk:CCOk za3:=CCOk.iso (CCOk.cons (zak.int _) (CCOk.cons (zak.int _) (CCOk.cons (zak.int _) (CCOk.cons (zak.int _) (CCOk.cons (zak.int _) (CCOk.cons zak.str (CCOk.cons (zak.int _) (CCOk.cons (zak.int _) (CCOk.cons (zak.int _) (CCOk.cons (zak.int _) CCOk.nil)))))))))) (fun _=>rfl)
theorem zjv:CCOk zbn:=CCOk.iso (CCOk.cons (zak.int _) (CCOk.cons (zak.int _) (CCOk.cons (zak.int _) (CCOk.cons (zak.int _) (CCOk.cons zak.bool (CCOk.cons zak.str CCOk.nil)))))) (fun _=>rfl)
theorem zql:CCOk zdi:=CCOk.iso (CCOk.cons (zak.int _) (CCOk.cons (zak.int _) (CCOk.cons (zak.int _) (CCOk.cons (zak.int _) (CCOk.cons (zak.int _) (CCOk.cons zak.bool CCOk.nil)))))) (fun _=>rfl)
theorem zqj:CCOk zby:=CCOk.iso (CCOk.cons (zak.int _) (CCOk.cons (zak.int _) (CCOk.cons (zak.int _) (CCOk.cons (zak.int _) (CCOk.cons (zak.int _) (CCOk.cons (zak.int _) (CCOk.cons (zak.int _) (CCOk.cons (zak.int _) (CCOk.cons (zak.int _) (CCOk.cons (zak.int _) (CCOk.cons (zak.int _) CCOk.nil))))))))))) (fun _=>rfl)
theorem zju:CCOk zef:=CCOk.iso (CCOk.cons (zak.int _) (CCOk.cons (zak.int _) (CCOk.cons (zak.int _) (CCOk.cons (zak.int _) (CCOk.cons (zak.int _) (CCOk.cons (zak.int _) (CCOk.cons (zak.int _) CCOk.nil))))))) (fun _=>rfl)
theorem zqo:CCOk zd0:=CCOk.iso (CCOk.cons (zak.int _) (CCOk.cons (zak.int _) (CCOk.cons (zak.int _) (CCOk.cons (zak.int _) (CCOk.cons (zak.int _) (CCOk.cons (zak.int _) (CCOk.cons (zak.int _) (CCOk.cons (zak.int _) (CCOk.cons (zak.int _) (CCOk.cons (zak.int _) (CCOk.cons (zak.int _) (CCOk.cons (zak.int _) (CCOk.cons (zak.int _) CCOk.nil))))))))))))) (fun _=>rfl)
theorem zot:CCOk za0:=CCOk.iso (CCOk.cons (zak.int _) (CCOk.cons (zak.lst _) CCOk.nil)) (fun _=>rfl)
theorem zqn:CCOk zf3:=CCOk.iso (CCOk.cons (zak.int _) (CCOk.cons (zak.int _) (CCOk.cons (zak.int _) (CCOk.cons (zak.int _) (CCOk.cons (zak.int _) CCOk.nil))))) (fun _=>rfl)
theorem z4l:CCOk zag:=CCOk.iso (CCOk.cons (zak.int _) (CCOk.cons (zak.lst _) (CCOk.cons (zak.lst _) (CCOk.cons (zak.lst _) (CCOk.cons (zak.lst _) (CCOk.cons (zak.lst _) (CCOk.cons (zak.lst _) (CCOk.cons (zak.int _) (CCOk.cons (zak.lst _) (CCOk.cons (zak.int _) (CCOk.cons (zak.lst _) (CCOk.cons (zak.int _) (CCOk.cons (zak.lst _) (CCOk.cons (zak.int _) (CCOk.cons (zak.lst _) (CCOk.cons (zak.lst _) (CCOk.cons (zak.int _) (CCOk.cons (zak.int _) (CCOk.cons zak.bool CCOk.nil))))))))))))))))))) (fun _=>rfl)
theorem zmc:CCOk zax:=CCOk.iso (CCOk.cons (zak.int _) (CCOk.cons (zak.lst _) (CCOk.cons (zak.lst _) (CCOk.cons (zak.lst _) (CCOk.cons (zak.lst _) (CCOk.cons (zak.lst _) (CCOk.cons (zak.lst _) (CCOk.cons (zak.int _) (CCOk.cons (zak.lst _) (CCOk.cons (zak.int _) (CCOk.cons (zak.lst _) (CCOk.cons (zak.int _) (CCOk.cons (zak.lst _) (CCOk.cons (zak.int _) (CCOk.cons (zak.lst _) (CCOk.cons (zak.lst _) (CCOk.cons (zak.int _) (CCOk.cons (zak.int _) (CCOk.cons zak.bool (CCOk.cons (zak.int _) CCOk.nil)))))))))))))))))))) (fun _=>rfl)
theorem zeg:CCOk zb0:=CCOk.iso (CCOk.cons (zak.int _) (CCOk.cons (zak.int _) (CCOk.cons (zak.int _) (CCOk.cons (zak.int _) CCOk.nil)))) (fun _=>rfl)
theorem zqm:CCOk ztu:=CCOk.iso (CCOk.cons (zak.int _) (CCOk.cons (zak.int _) CCOk.nil)) (fun _=>rfl)
theorem zds:CCOk zcz:=CCOk.iso (CCOk.cons (zak.int _) (CCOk.cons (zak.int _) CCOk.nil)) (fun _=>rfl)
theorem ziy:CCOk ze4:=CCOk.iso (CCOk.cons (zak.int _) (CCOk.cons (zak.lst _) (CCOk.cons (zak.int _) (CCOk.cons (zak.lst _) (CCOk.cons (zak.int _) (CCOk.cons (zak.lst _) (CCOk.cons (zak.int _) (CCOk.cons (zak.lst _) CCOk.nil)))))))) (fun _=>rfl)
theorem zqp:CCOk zbz:=CCOk.iso (CCOk.cons zak.bool (CCOk.cons zak.bool (CCOk.cons zak.bool (CCOk.cons zak.bool (CCOk.cons zak.bool (CCOk.cons zak.bool (CCOk.cons zak.bool CCOk.nil))))))) (fun _=>rfl)
instance:CCC za2:=⟨zqi⟩
instance:CCC za3:=⟨zqk⟩
instance:CCC zbn:=⟨zjv⟩
instance:CCC zdi:=⟨zql⟩
instance:CCC zby:=⟨zqj⟩
instance:CCC zef:=⟨zju⟩
instance:CCC zd0:=⟨zqo⟩
instance:CCC za0:=⟨zot⟩
instance:CCC zf3:=⟨zqn⟩
instance:CCC zag:=⟨z4l⟩
instance:CCC zax:=⟨zmc⟩
instance:CCC zb0:=⟨zeg⟩
instance:CCC ztu:=⟨zqm⟩
instance:CCC zcz:=⟨zds⟩
instance:CCC ze4:=⟨ziy⟩
instance:CCC zbz:=⟨zqp⟩
end Go.Proofs.YtpaidiaknfhclaaGreatDoor
namespace Go.Proofs.YtpaidiaknfhclaaGreatDoor
set_option maxRecDepth 100000
open Ev
open Go (IntKind)
abbrev zh0:ZC (Circ×Unit):=Zc (Cod.agg zag) Zn
abbrev zaw:ZD (Bool):=Zb
abbrev za3z {R:Type}:Sm R:=semP zh0 zaw (fun a=>qa a.1)
def zaof {R:Type}:Nat→Sm R:=c0
abbrev z7g:=mkld [] [] [1,3] [1] [] (Zp 1 1 (Zs 3 Zi (Zx 1 zag Zz))) z13 (.xs 0 [1] [1] [] (Zp 1 1 (Zx 1 zag Zz)) (.r [2] [] [] (Zs 2 Zb Zz)))
abbrev z7h:=mkld [] [] [1,4] [1] [] (Zp 1 1 (Zs 4 Zi (Zx 1 zag Zz))) z14 (.xs 2 [1] [1] [] (Zp 1 1 (Zx 1 zag Zz)) (.r [2] [] [] (Zs 2 Zb Zz)))
abbrev zxh:=mkld [] [] [1,5] [1] [] (Zp 1 1 (Zs 5 Zi (Zx 1 zag Zz))) zir (.xs 4 [] [] [] Zz (.r [2] [] [] (Zs 2 Zb Zz)))
def zi8 {R:Type}:Lp Kd El R:=lp 14 zxh.sem (lp 9 z7h.sem (lp 4 z7g.sem l0))
abbrev zai9:ZC ((List UInt8)×Int×Unit):=Zc Cod.str (Zc Zi Zn)
abbrev zlp:ZD (Int×Int):=(Cod.tup2 (Zc Zi (Zc Zi Zn)))
abbrev zvx {R:Type}:Sm R:=semP zai9 zlp (fun a=>qbs a.1 a.2.1)
abbrev zv9:ZC ((List UInt8)×Unit):=Zc Cod.str Zn
abbrev zvv {R:Type}:Sm R:=semP zv9 zaw (fun a=>qal a.1)
def zaee {R:Type}:Nat→Sm R:=cl 146 zvx c0
abbrev zxt:=mkld [] [] [0,3] [] [] (Zs 0 Cod.str (Zs 3 Zi Zz)) znv (.xs 0 [] [] [] Zz (.r [2] [] [] (Zs 2 Zb Zz)))
def zr2 {R:Type}:Lp Kd El R:=lp 2 zxt.sem l0
abbrev za9:ZD (Int):=Zi
abbrev zanl {R:Type}:Sm R:=semP zai9 za9 (fun a=>qf a.1 a.2.1)
abbrev zcs:ZC (Int×Unit):=Zc Zi Zn
abbrev zaar {R:Type}:Sm R:=semP zcs zaw (fun a=>qan a.1)
abbrev zamv:ZD ((List UInt8)):=Cod.str
abbrev zaaj {R:Type}:Sm R:=semP zv9 zamv (fun a=>qa2 a.1)
def zady {R:Type}:Nat→Sm R:=cl 146 zvx (cl 147 zanl (cl 148 zaar c0))
abbrev zxb:=mkld [] [] [0,3,4,5] [] [] (Zs 0 Cod.str (Zs 3 Cod.str (Zs 4 Zb (Zs 5 Zi Zz)))) znp (.x 0 [3] [] [] (Zs 3 Cod.str Zz))
def zru {R:Type}:Lp Kd El R:=lp 4 zxb.sem l0
abbrev zwb:ZC ((List Patron)×Unit):=Zc (Zl .kPatron) Zn
abbrev zaau {R:Type}:Sm R:=semP zwb za9 (fun a=>qas a.1)
def zaej {R:Type}:Nat→Sm R:=cl 88 zvv (cl 89 zaaj c0)
abbrev zxy:=mkld [] [] [0,3] [] [] (Zs 0 (Zl .kPatron) (Zs 3 Zi Zz)) zlg (.xs 0 [] [] [] Zz (.r [2] [] [] (Zs 2 Zi Zz)))
def zr7 {R:Type}:Lp Kd El R:=lp 4 zxy.sem l0
abbrev zwa:ZC ((List Loan)×Unit):=Zc (Zl .kLoan) Zn
abbrev zaat {R:Type}:Sm R:=semP zwa za9 (fun a=>qar a.1)
def zaei {R:Type}:Nat→Sm R:=c0
abbrev zxx:=mkld [] [] [0,3] [] [] (Zs 0 (Zl .kLoan) (Zs 3 Zi Zz)) zlf (.xs 0 [] [] [] Zz (.r [2] [] [] (Zs 2 Zi Zz)))
def zr6 {R:Type}:Lp Kd El R:=lp 4 zxx.sem l0
abbrev zaw8 {R:Type}:Sm R:=semP zcs zaw (fun a=>qeg a.1)
abbrev zaxn {R:Type}:Sm R:=semP zcs zaw (fun a=>qez a.1)
abbrev zajf:ZC (Hold×Unit):=Zc (Cod.agg zby) Zn
abbrev zacg {R:Type}:Sm R:=semP zajf za9 (fun a=>qds a.1)
abbrev zan3:ZC ((List Hold)×Unit):=Zc (Zl .kHold) Zn
abbrev zanq {R:Type}:Sm R:=semP zan3 za9 (fun a=>qn a.1)
def zaor {R:Type}:Nat→Sm R:=cl 90 zacg c0
abbrev z7x:=mkld [] [] [0,3] [] [] (Zs 0 (Zl .kHold) (Zs 3 Zi Zz)) zvf (.xs 0 [0] [] [] (Zs 0 (Zl .kHold) Zz) (.r [2] [] [] (Zs 2 Zi Zz)))
abbrev zyt:=mkld [] [] [0,5,6] [] [] (Zs 0 (Zl .kHold) (Zs 5 Zi (Zs 6 Zi Zz))) zlm (.xs 4 [0,5] [] [] (Zs 0 (Zl .kHold) (Zs 5 Zi Zz)) (.r [2] [] [] (Zs 2 Zi Zz)))
abbrev zys:=mkld [] [] [0,5] [] [] (Zs 0 (Zl .kHold) (Zs 5 Zi Zz)) zn6 (.xs 2 [] [] [] Zz (.r [2] [] [] (Zs 2 Zi Zz)))
def zja {R:Type}:Lp Kd El R:=lp 12 zys.sem (lp 15 zyt.sem (lp 4 z7x.sem l0))
abbrev zacz {R:Type}:Sm R:=semP zcs zaw (fun a=>qfb a.1)
abbrev zai1:ZC ((List Charge)×Unit):=Zc (Zl .kCharge) Zn
abbrev zaai {R:Type}:Sm R:=semP zai1 za9 (fun a=>qa1 a.1)
def zadx {R:Type}:Nat→Sm R:=cl 91 zacz c0
abbrev zxa:=mkld [] [] [0,3] [] [] (Zs 0 (Zl .kCharge) (Zs 3 Zi Zz)) zk8 (.xs 0 [] [] [] Zz (.r [2] [] [] (Zs 2 Zi Zz)))
def zrt {R:Type}:Lp Kd El R:=lp 4 zxa.sem l0
abbrev zp6:ZC (Int×Int×Int×Unit):=Zc Zi (Zc Zi (Zc Zi Zn))
abbrev zav2 {R:Type}:Sm R:=semP zp6 zaw (fun a=>qbl a.1 a.2.1 a.2.2.1)
abbrev z3a:ZC (Rule×Unit):=Zc (Cod.agg zd0) Zn
abbrev zabl {R:Type}:Sm R:=semP z3a zaw (fun a=>qc6 a.1)
abbrev zazj:ZC ((List Rule)×Unit):=Zc (Zl .kRule) Zn
abbrev zanp {R:Type}:Sm R:=semP zazj za9 (fun a=>qm a.1)
def zaoq {R:Type}:Nat→Sm R:=cl 92 zabl c0
abbrev z7w:=mkld [] [] [0,3,4] [] [] (Zs 0 (Zl .kRule) (Zs 3 Zi (Zs 4 Zi Zz))) zve (.xs 2 [0,3] [] [] (Zs 0 (Zl .kRule) (Zs 3 Zi Zz)) (.r [2] [] [] (Zs 2 Zi Zz)))
abbrev z7v:=mkld [] [] [0,3] [] [] (Zs 0 (Zl .kRule) (Zs 3 Zi Zz)) z2f (.xs 0 [] [] [] Zz (.r [2] [] [] (Zs 2 Zi Zz)))
def zpm {R:Type}:Lp Kd El R:=lp 4 z7v.sem (lp 9 z7w.sem l0)
abbrev zan4:ZC (Calendar×Unit):=Zc (Cod.agg za0) Zn
abbrev zanv {R:Type}:Sm R:=semP zan4 za9 (fun a=>qy a.1)
def zao1 {R:Type}:Nat→Sm R:=c0
abbrev z8g:=mkld [] [] [1,3] [1] [] (Zp 1 1 (Zs 3 Zi (Zx 1 za0 Zz))) zvj (.xs 0 [1] [1] [] (Zp 1 1 (Zx 1 za0 Zz)) (.r [2] [] [] (Zs 2 Zi Zz)))
abbrev zyy:=mkld [] [] [1,4] [1] [] (Zp 1 1 (Zs 4 Zi (Zx 1 za0 Zz))) zln (.xs 2 [] [] [] Zz (.r [2] [] [] (Zs 2 Zi Zz)))
def zpp {R:Type}:Lp Kd El R:=lp 11 zyy.sem (lp 6 z8g.sem l0)
abbrev zwc:ZC ((List Patron)×Int×Unit):=Zc (Zl .kPatron) (Zc Zi Zn)
abbrev zavp {R:Type}:Sm R:=semP zwc za9 (fun a=>qaw a.1 a.2.1)
def zaem {R:Type}:Nat→Sm R:=c0
abbrev zx1:=mkld [] [] [0,1,5] [] [] (Zs 0 (Zl .kPatron) (Zs 1 Zi (Zs 5 Zi Zz))) znz (.xs 0 [] [] [] Zz (.r [4] [] [] (Zs 4 Zi Zz)))
def zsa {R:Type}:Lp Kd El R:=lp 2 zx1.sem l0
abbrev zamz:ZD (Patron×Bool):=(Cod.tup2 (Zc (Cod.agg zbn) (Zc Zb Zn)))
abbrev zp0 {R:Type}:Sm R:=semP zwc zamz (fun a=>qcb a.1 a.2.1)
abbrev zanb:ZD (Custody):=(Cod.agg za2)
abbrev zach {R:Type}:Sm R:=semP zcs zanb (fun a=>qdt a.1)
abbrev zaxu {R:Type}:Sm R:=semP zcs zaw (fun a=>qfi a.1)
abbrev z3k:ZC (Custody×Unit):=Zc (Cod.agg za2) Zn
abbrev zaw1 {R:Type}:Sm R:=semP z3k zaw (fun a=>qdu a.1)
abbrev zazf:ZC (Move×Unit):=Zc (Cod.agg zf3) Zn
abbrev zaxh {R:Type}:Sm R:=semP zazf zaw (fun a=>qes a.1)
abbrev zzm:ZD ((List Int)):=(Zl .ki64)
abbrev zab5 {R:Type}:Sm R:=semP zcs zzm (fun a=>qcy a.1)
abbrev zmv:ZC (Int×Int×Unit):=Zc Zi (Zc Zi Zn)
abbrev zavn {R:Type}:Sm R:=semP zmv zaw (fun a=>qap a.1 a.2.1)
def zaeg {R:Type}:Nat→Sm R:=cl 238 zab5 c0
abbrev zxv:=mkld [] [] [0,5,6] [] [] (Zs 0 Zi (Zs 5 (Zl .ki64) (Zs 6 Zi Zz))) znw (.xs 0 [] [] [] Zz (.r [4] [] [] (Zs 4 Zb Zz)))
def zr4 {R:Type}:Lp Kd El R:=lp 3 zxv.sem l0
abbrev zwj:ZC (Custody×Move×Unit):=Zc (Cod.agg za2) (Zc (Cod.agg zf3) Zn)
abbrev zawr {R:Type}:Sm R:=semP zwj zaw (fun a=>qdg a.1 a.2.1)
abbrev zaxy {R:Type}:Sm R:=semP zcs za9 (fun a=>qfm a.1)
abbrev zzl:ZD (Custody×Int):=(Cod.tup2 (Zc (Cod.agg za2) (Zc Zi Zn)))
abbrev zvy {R:Type}:Sm R:=semP zwj zzl (fun a=>qcc a.1 a.2.1)
abbrev zai6:ZC (Int×(List Move)×Int×Unit):=Zc Zi (Zc (Zl .kMove) (Zc Zi Zn))
abbrev zamw:ZD (Custody×Int×Int):=(Cod.tup3 (Zc (Cod.agg za2) (Zc Zi (Zc Zi Zn))))
abbrev zaas {R:Type}:Sm R:=semP zai6 zamw (fun a=>qaq a.1 a.2.1 a.2.2.1)
def zaeh {R:Type}:Nat→Sm R:=cl 124 zvy (cl 152 zach c0)
abbrev zxw:=mkld [] [] [1,2,6,9,10] [6,9] [] (Zs 1 (Zl .kMove) (Zs 2 Zi (Zp 6 6 (Zp 9 9 (Zs 10 Zi (Zx 6 za2 (Zx 9 za2 Zz))))))) znx (.xs 0 [6,9] [6,9] [] (Zp 6 6 (Zp 9 9 (Zx 6 za2 (Zx 9 za2 Zz)))) (.r [7,8] [6] [6] (Zp 6 6 (Zs 7 Zi (Zs 8 Zi (Zx 6 za2 Zz))))))
def zr5 {R:Type}:Lp Kd El R:=lp 5 zxw.sem l0
abbrev zl9:ZC (Circ×Int×Unit):=Zc (Cod.agg zag) (Zc Zi Zn)
abbrev zoe {R:Type}:Sm R:=semP zl9 za9 (fun a=>qp a.1 a.2.1)
def zaot {R:Type}:Nat→Sm R:=c0
abbrev z7z:=mkld [] [] [1,2,5] [2] [] (Zs 1 Zi (Zp 2 2 (Zs 5 Zi (Zx 2 zag Zz)))) z2i (.xs 0 [] [] [] Zz (.r [4] [] [] (Zs 4 Zi Zz)))
def zzc {R:Type}:Lp Kd El R:=lp 2 z7z.sem l0
abbrev zaan {R:Type}:Sm R:=semP zh0 zaw (fun a=>qab a.1)
def zad5 {R:Type}:Nat→Sm R:=cl 73 zoe (cl 88 zvv (cl 94 zaas c0))
abbrev zxj:=mkld [] [] [1,3] [1] [] (Zp 1 1 (Zs 3 Zi (Zx 1 zag Zz))) zla (.xs 0 [1] [1] [] (Zp 1 1 (Zx 1 zag Zz)) (.r [2] [] [] (Zs 2 Zb Zz)))
abbrev zrh:=mkld [] [] [1,8] [1] [] (Zp 1 1 (Zs 8 Zi (Zx 1 zag Zz))) zgx (.xs 2 [] [] [] Zz (.r [2] [] [] (Zs 2 Zb Zz)))
def zkl {R:Type}:Lp Kd El R:=lp 15 zrh.sem (lp 4 zxj.sem l0)
abbrev zacv {R:Type}:Sm R:=semP z3k zaw (fun a=>qen a.1)
abbrev zjk:ZC ((List Loan)×Int×Unit):=Zc (Zl .kLoan) (Zc Zi Zn)
abbrev zavm {R:Type}:Sm R:=semP zjk za9 (fun a=>qak a.1 a.2.1)
def zaed {R:Type}:Nat→Sm R:=c0
abbrev zxs:=mkld [] [] [0,1,5] [] [] (Zs 0 (Zl .kLoan) (Zs 1 Zi (Zs 5 Zi Zz))) znu (.xs 0 [] [] [] Zz (.r [4] [] [] (Zs 4 Zi Zz)))
def zr1 {R:Type}:Lp Kd El R:=lp 2 zxs.sem l0
abbrev zanc:ZD (Loan×Bool):=(Cod.tup2 (Zc (Cod.agg zdi) (Zc Zb Zn)))
abbrev zaci {R:Type}:Sm R:=semP zjk zanc (fun a=>qdv a.1 a.2.1)
abbrev zaam {R:Type}:Sm R:=semP zh0 zaw (fun a=>qaa a.1)
def zad4 {R:Type}:Nat→Sm R:=cl 48 zp0 (cl 73 zoe (cl 95 zacv (cl 96 zaci c0)))
abbrev zxi:=mkld [] [] [1,3] [1] [] (Zp 1 1 (Zs 3 Zi (Zx 1 zag Zz))) zk9 (.xs 0 [1] [1] [] (Zp 1 1 (Zx 1 zag Zz)) (.r [2] [] [] (Zs 2 Zb Zz)))
abbrev zrg:=mkld [] [] [1,8] [1] [] (Zp 1 1 (Zs 8 Zi (Zx 1 zag Zz))) zib (.xs 2 [] [] [] Zz (.r [2] [] [] (Zs 2 Zb Zz)))
def zkk {R:Type}:Lp Kd El R:=lp 10 zrg.sem (lp 2 zxi.sem l0)
abbrev z97:ZD (Hold×Bool):=(Cod.tup2 (Zc (Cod.agg zby) (Zc Zb Zn)))
abbrev zaaw {R:Type}:Sm R:=semP zl9 z97 (fun a=>qav a.1 a.2.1)
def zael {R:Type}:Nat→Sm R:=c0
abbrev zx0:=mkld [] [] [1,2,4,6] [2,4] [] (Zs 1 Zi (Zp 2 2 (Zp 4 4 (Zs 6 Zi (Zx 2 zag (Zx 4 zby Zz)))))) zny (.xs 0 [4] [4] [] (Zp 4 4 (Zx 4 zby Zz)) (.r [5] [4] [4] (Zp 4 4 (Zs 5 Zb (Zx 4 zby Zz)))))
def zr9 {R:Type}:Lp Kd El R:=lp 2 zx0.sem l0
abbrev zaao {R:Type}:Sm R:=semP zh0 zaw (fun a=>qac a.1)
def zad6 {R:Type}:Nat→Sm R:=cl 48 zp0 (cl 73 zoe (cl 97 zaaw c0))
abbrev zxk:=mkld [] [] [1,3] [1] [] (Zp 1 1 (Zs 3 Zi (Zx 1 zag Zz))) zlb (.xs 0 [1] [1] [] (Zp 1 1 (Zx 1 zag Zz)) (.r [2] [] [] (Zs 2 Zb Zz)))
abbrev zri:=mkld [] [] [1,9] [1] [] (Zp 1 1 (Zs 9 Zi (Zx 1 zag Zz))) zic (.xs 2 [] [] [] Zz (.r [2] [] [] (Zs 2 Zb Zz)))
def zkm {R:Type}:Lp Kd El R:=lp 18 zri.sem (lp 2 zxk.sem l0)
abbrev zavl {R:Type}:Sm R:=semP zh0 zaw (fun a=>qaj a.1)
def zaec {R:Type}:Nat→Sm R:=cl 42 zaau (cl 43 zaat (cl 44 zanq (cl 45 zaai (cl 46 zanp (cl 47 zanv (cl 48 zp0 (cl 49 zaan (cl 50 zaam (cl 51 zaao c0)))))))))
abbrev zxr:=mkld [] [] [1,3] [1] [] (Zp 1 1 (Zs 3 Zi (Zx 1 zag Zz))) zis (.xs 0 [1] [1] [] (Zp 1 1 (Zx 1 zag Zz)) (.r [2] [] [] (Zs 2 Zb Zz)))
abbrev zrm:=mkld [] [] [1,4] [1] [] (Zp 1 1 (Zs 4 Zi (Zx 1 zag Zz))) zgy (.xs 2 [1] [1] [] (Zp 1 1 (Zx 1 zag Zz)) (.r [2] [] [] (Zs 2 Zb Zz)))
def zkr {R:Type}:Lp Kd El R:=lp 11 zrm.sem (lp 6 zxr.sem l0)
abbrev zact {R:Type}:Sm R:=semP zh0 zaw (fun a=>qee a.1)
abbrev zanh:ZD (Circ):=(Cod.agg zag)
abbrev zaw7 {R:Type}:Sm R:=semP zcs zanh (fun a=>qef a.1)
abbrev zajd:ZC (Item×Int×Unit):=Zc (Cod.agg za3) (Zc (Cod.cptr (CC.one Zi)) Zn)
abbrev zab4 {R:Type}:Sm R:=semP zajd zaw (fun a=>qcx a.1 a.2.1)
abbrev za4k:ZC ((List Item)×((Unit)×(Int×Unit))×Unit):=Zc (Zl .kItem) (Zc (Cod.fnc 127 (Zn) (Zc (Cod.cptr (CC.one Zi)) Zn)) Zn)
abbrev za31 {R:Type}:Sm R:=semP za4k za9 (fun a=>qc (fun g x0=>qcx x0 g.2.1) a.1 a.2.1)
def zaoh {R:Type}:Nat→Sm R:=cl 127 zab4 c0
abbrev z7j:=mkld [] [] [0,1,7,8] [] [] (Zs 0 (Zl .kItem) (Zs 1 (Cod.fnc 127 (Zn) (Zc (Cod.cptr (CC.one Zi)) Zn)) (Zs 7 Zi (Zs 8 Zi Zz)))) (zpw (fun g x0=>qcx x0 g.2.1)) (.xs 0 [] [] [] Zz (.r [4] [] [] (Zs 4 Zi Zz)))
def zy6 {R:Type}:Lp Kd El R:=lp 2 z7j.sem l0
abbrev zpz {R:Type}:Sm R:=semP zl9 za9 (fun a=>qao a.1 a.2.1)
abbrev zab7 {R:Type}:Sm R:=semP zcs zanb (fun a=>qd5 a.1)
abbrev zajb:ZC (Item×Item×Unit):=Zc (Cod.agg za3) (Zc (Cod.cptr za3) Zn)
abbrev zab1 {R:Type}:Sm R:=semP zajb zaw (fun a=>qcu a.1 a.2.1)
abbrev zadj:ZC ((List Item)×((Unit)×(Item×Unit))×Unit):=Zc (Zl .kItem) (Zc (Cod.fnc 101 (Zn) (Zc (Cod.cptr za3) Zn)) Zn)
abbrev zabp {R:Type}:Sm R:=semP zadj za9 (fun a=>qc (fun g x0=>qcu x0 g.2.1) a.1 a.2.1)
def z0c {R:Type}:Nat→Sm R:=cl 101 zab1 c0
abbrev znf:=mkld [] [] [0,1,7,8] [] [] (Zs 0 (Zl .kItem) (Zs 1 (Cod.fnc 101 (Zn) (Zc (Cod.cptr za3) Zn)) (Zs 7 Zi (Zs 8 Zi Zz)))) (zpw (fun g x0=>qcu x0 g.2.1)) (.xs 0 [] [] [] Zz (.r [4] [] [] (Zs 4 Zi Zz)))
def zkx {R:Type}:Lp Kd El R:=lp 2 znf.sem l0
abbrev zayv:ZC ((List Item)×Unit):=Zc (Zl .kItem) Zn
abbrev zam0:ZD ((List Item)):=(Zl .kItem)
abbrev zawg {R:Type}:Sm R:=semP zayv zam0 (fun a=>qck a.1)
abbrev z3f:ZC ((List Item)×Int×(List Item)×Unit):=Zc (Zl .kItem) (Zc Zi (Zc (Zl .kItem) Zn))
abbrev zam1:ZD ((List Item)):=zam0
def zalb (a:(List Item)×Int×(List Item)×Unit):Option ((List Item)):=qd0 a.1 a.2.1 a.2.2.1
abbrev za45 {R:Type}:Sm R:=semP z3f zam1 zalb
abbrev zaa0 {R:Type}:Sm R:=semP zp6 zaw (fun a=>qb8 a.1 a.2.1 a.2.2.1)
abbrev z3i:ZC ((List UInt8)×Unit):=zv9
abbrev zam7:ZD (Bool):=zaw
def zale (a:(List UInt8)×Unit):Option (Bool):=qde a.1
abbrev za48 {R:Type}:Sm R:=semP z3i zam7 zale
abbrev zay4:ZC (Item×Unit):=Zc (Cod.agg za3) Zn
abbrev zab6 {R:Type}:Sm R:=semP zay4 zaw (fun a=>qd4 a.1)
abbrev zabg {R:Type}:Sm R:=semP zp6 zaw (fun a=>qbw a.1 a.2.1 a.2.2.1)
abbrev zaxt {R:Type}:Sm R:=semP z3k zaw (fun a=>qfh a.1)
abbrev zaxr {R:Type}:Sm R:=semP zmv zaw (fun a=>qff a.1 a.2.1)
abbrev zay0:ZC (Custody×Bool×Unit):=Zc (Cod.agg za2) (Zc Zb Zn)
abbrev zawh {R:Type}:Sm R:=semP zay0 zzl (fun a=>qcp a.1 a.2.1)
abbrev zaxv {R:Type}:Sm R:=semP zwj zzl (fun a=>qfj a.1 a.2.1)
abbrev zab8 {R:Type}:Sm R:=semP zwj zzl (fun a=>qd6 a.1 a.2.1)
abbrev zabd {R:Type}:Sm R:=semP zai6 zamw (fun a=>qbq a.1 a.2.1 a.2.2.1)
def zae3 {R:Type}:Nat→Sm R:=cl 100 zab7 (cl 128 zabg (cl 129 zab8 c0))
abbrev zyh:=mkld [] [] [2,6,9,20,21,22] [6,9] [] (Zs 2 Zi (Zp 6 6 (Zp 9 9 (Zs 20 (Zl .kMove) (Zs 21 Zi (Zs 22 Zi (Zx 6 za2 (Zx 9 za2 Zz)))))))) zn2 (.xs 0 [6,9] [6,9] [] (Zp 6 6 (Zp 9 9 (Zx 6 za2 (Zx 9 za2 Zz)))) (.r [7,8] [6] [6] (Zp 6 6 (Zs 7 Zi (Zs 8 Zi (Zx 6 za2 Zz))))))
def zsr {R:Type}:Lp Kd El R:=lp 5 zyh.sem l0
abbrev za38 {R:Type}:Sm R:=semP zh0 zaw (fun a=>qt a.1)
def zaox {R:Type}:Nat→Sm R:=cl 76 zab6 (cl 77 zpz (cl 78 zabd c0))
abbrev z8b:=mkld [] [] [1,23,24,25] [1] [] (Zp 1 1 (Zs 23 (Zl .kItem) (Zs 24 Zi (Zs 25 Zi (Zx 1 zag Zz))))) zvh (.xs 0 [1] [1] [] (Zp 1 1 (Zx 1 zag Zz)) (.r [2] [] [] (Zs 2 Zb Zz)))
abbrev zyw:=mkld [] [] [1,51,52,53] [1] [] (Zp 1 1 (Zs 51 (Zl .kMove) (Zs 52 Zi (Zs 53 Zi (Zx 1 zag Zz))))) zn9 (.xs 2 [1] [1] [] (Zp 1 1 (Zx 1 zag Zz)) (.r [2] [] [] (Zs 2 Zb Zz)))
abbrev zyx:=mkld [] [] [1,64,65,66] [1] [] (Zp 1 1 (Zs 64 (Zl .kItem) (Zs 65 Zi (Zs 66 Zi (Zx 1 zag Zz))))) zoa (.xs 4 [] [] [] Zz (.r [2] [] [] (Zs 2 Zb Zz)))
def zjd {R:Type}:Lp Kd El R:=lp 16 zyx.sem (lp 10 zyw.sem (lp 4 z8b.sem l0))
abbrev z3n:ZC ((List UInt8)×Unit):=zv9
abbrev zang:ZD ((List UInt8)):=zamv
def zali (a:(List UInt8)×Unit):Option ((List UInt8)):=qea a.1
abbrev za5b {R:Type}:Sm R:=semP z3n zang zali
abbrev zayg:ZC (Patron×Unit):=Zc (Cod.agg zbn) Zn
abbrev zaay {R:Type}:Sm R:=semP zayg za9 (fun a=>qb4 a.1)
abbrev zaak {R:Type}:Sm R:=semP zwb za9 (fun a=>qa7 a.1)
def zad2 {R:Type}:Nat→Sm R:=cl 130 zaay c0
abbrev zxf:=mkld [] [] [3,10,11,12] [] [] (Zs 3 Zi (Zs 10 (Zl .kPatron) (Zs 11 Zi (Zs 12 Zi Zz)))) zns (.xs 0 [] [] [] Zz (.r [2] [] [] (Zs 2 Zi Zz)))
def zry {R:Type}:Lp Kd El R:=lp 5 zxf.sem l0
abbrev zack {R:Type}:Sm R:=semP zcs zaw (fun a=>qe0 a.1)
abbrev zacx {R:Type}:Sm R:=semP zcs zaw (fun a=>qew a.1)
abbrev zaa7 {R:Type}:Sm R:=semP zwa za9 (fun a=>qba a.1)
def zaeq {R:Type}:Nat→Sm R:=cl 131 zack (cl 132 zacx c0)
abbrev zx5:=mkld [] [] [0,8,9,10] [] [] (Zs 0 (Zl .kLoan) (Zs 8 (Zl .kLoan) (Zs 9 Zi (Zs 10 Zi Zz)))) zli (.xs 0 [] [] [] Zz (.r [2] [] [] (Zs 2 Zi Zz)))
def zse {R:Type}:Lp Kd El R:=lp 4 zx5.sem l0
abbrev zavw {R:Type}:Sm R:=semP zp6 zaw (fun a=>qb7 a.1 a.2.1 a.2.2.1)
abbrev zaxi {R:Type}:Sm R:=semP zcs zaw (fun a=>qet a.1)
abbrev zacq {R:Type}:Sm R:=semP zajf za9 (fun a=>qe8 a.1)
abbrev z3d:ZC (Hold×Hold×Unit):=Zc (Cod.agg zby) (Zc (Cod.agg zby) Zn)
abbrev zabu {R:Type}:Sm R:=semP z3d zaw (fun a=>qcg a.1 a.2.1)
abbrev zazc:ZC ((List Hold)×((Unit)×(Unit))×Unit):=Zc (Zl .kHold) (Zc (Cod.fnc 135 (Zn) (Zn)) Zn)
abbrev zank {R:Type}:Sm R:=semP zazc zaw (fun a=>qe (fun g x0 x1=>qcg x0 x1) a.1 a.2.1)
def zaoj {R:Type}:Nat→Sm R:=cl 135 zabu c0
abbrev z7m:=mkld [] [] [0,1,5,8,9,12,13] [] [] (Zs 0 (Zl .kHold) (Zs 1 (Cod.fnc 135 (Zn) (Zn)) (Zs 5 Zi (Zs 8 Zi (Zs 9 Zi (Zs 12 Zi (Zs 13 Zi Zz))))))) (zs4 (fun g x0 x1=>qcg x0 x1)) (.xs 2 [0,1,8,9] [] [] (Zs 0 (Zl .kHold) (Zs 1 (Cod.fnc 135 (Zn) (Zn)) (Zs 8 Zi (Zs 9 Zi Zz)))) (.r [4] [] [] (Zs 4 Zb Zz)))
abbrev z7l:=mkld [] [] [0,1,8,9] [] [] (Zs 0 (Zl .kHold) (Zs 1 (Cod.fnc 135 (Zn) (Zn)) (Zs 8 Zi (Zs 9 Zi Zz)))) (zu9 (fun g x0 x1=>qcg x0 x1)) (.xs 0 [] [] [] Zz (.r [4] [] [] (Zs 4 Zb Zz)))
def zpk {R:Type}:Lp Kd El R:=lp 2 z7l.sem (lp 5 z7m.sem l0)
abbrev zace {R:Type}:Sm R:=semP z3d zaw (fun a=>qdo a.1 a.2.1)
abbrev zwk:ZC ((List Hold)×((Unit)×(Unit))×Unit):=Zc (Zl .kHold) (Zc (Cod.fnc 136 (Zn) (Zn)) Zn)
abbrev ztc {R:Type}:Sm R:=semP zwk zaw (fun a=>qe (fun g x0 x1=>qdo x0 x1) a.1 a.2.1)
def z0f {R:Type}:Nat→Sm R:=cl 136 zace c0
abbrev znj:=mkld [] [] [0,1,5,8,9,12,13] [] [] (Zs 0 (Zl .kHold) (Zs 1 (Cod.fnc 136 (Zn) (Zn)) (Zs 5 Zi (Zs 8 Zi (Zs 9 Zi (Zs 12 Zi (Zs 13 Zi Zz))))))) (zs4 (fun g x0 x1=>qdo x0 x1)) (.xs 2 [0,1,8,9] [] [] (Zs 0 (Zl .kHold) (Zs 1 (Cod.fnc 136 (Zn) (Zn)) (Zs 8 Zi (Zs 9 Zi Zz)))) (.r [4] [] [] (Zs 4 Zb Zz)))
abbrev zni:=mkld [] [] [0,1,8,9] [] [] (Zs 0 (Zl .kHold) (Zs 1 (Cod.fnc 136 (Zn) (Zn)) (Zs 8 Zi (Zs 9 Zi Zz)))) (zu9 (fun g x0 x1=>qdo x0 x1)) (.xs 0 [] [] [] Zz (.r [4] [] [] (Zs 4 Zb Zz)))
def zgv {R:Type}:Lp Kd El R:=lp 2 zni.sem (lp 5 znj.sem l0)
abbrev zano {R:Type}:Sm R:=semP zan3 za9 (fun a=>ql a.1)
def zaop {R:Type}:Nat→Sm R:=cl 133 zacq (cl 134 (si zazc zank (si zwk ztc s0)) c0)
abbrev z7u:=mkld [] [] [0,9,10,11] [] [] (Zs 0 (Zl .kHold) (Zs 9 (Zl .kHold) (Zs 10 Zi (Zs 11 Zi Zz)))) zvd (.xs 0 [0] [] [] (Zs 0 (Zl .kHold) Zz) (.r [2] [] [] (Zs 2 Zi Zz)))
def zza {R:Type}:Lp Kd El R:=lp 4 z7u.sem l0
abbrev zaw4 {R:Type}:Sm R:=semP zcs zaw (fun a=>qe6 a.1)
abbrev zaw6 {R:Type}:Sm R:=semP zcs zaw (fun a=>qec a.1)
abbrev zayi:ZC (Charge×Unit):=Zc (Cod.agg zef) Zn
abbrev zaa1 {R:Type}:Sm R:=semP zayi za9 (fun a=>qb9 a.1)
abbrev zaa8 {R:Type}:Sm R:=semP zai1 za9 (fun a=>qbb a.1)
def zaer {R:Type}:Nat→Sm R:=cl 137 zaa1 c0
abbrev zx6:=mkld [] [] [0,9,10,11] [] [] (Zs 0 (Zl .kCharge) (Zs 9 (Zl .kCharge) (Zs 10 Zi (Zs 11 Zi Zz)))) zlj (.xs 0 [] [] [] Zz (.r [2] [] [] (Zs 2 Zi Zz)))
def zsf {R:Type}:Lp Kd El R:=lp 4 zx6.sem l0
abbrev zawa {R:Type}:Sm R:=semP zp6 zaw (fun a=>qby a.1 a.2.1 a.2.2.1)
abbrev zacn {R:Type}:Sm R:=semP z3a zaw (fun a=>qe4 a.1)
abbrev zayw:ZC (Rule×Rule×Unit):=Zc (Cod.agg zd0) (Zc (Cod.cptr zd0) Zn)
abbrev zabx {R:Type}:Sm R:=semP zayw zaw (fun a=>qcl a.1 a.2.1)
abbrev zai2:ZC ((List Rule)×((Unit)×(Rule×Unit))×Unit):=Zc (Zl .kRule) (Zc (Cod.fnc 139 (Zn) (Zc (Cod.cptr zd0) Zn)) Zn)
abbrev zavc {R:Type}:Sm R:=semP zai2 za9 (fun a=>qa3 (fun g x0=>qcl x0 g.2.1) a.1 a.2.1)
def zadz {R:Type}:Nat→Sm R:=cl 139 zabx c0
abbrev zxc:=mkld [] [] [0,1,7,8] [] [] (Zs 0 (Zl .kRule) (Zs 1 (Cod.fnc 139 (Zn) (Zc (Cod.cptr zd0) Zn)) (Zs 7 Zi (Zs 8 Zi Zz)))) (znq (fun g x0=>qcl x0 g.2.1)) (.xs 0 [] [] [] Zz (.r [4] [] [] (Zs 4 Zi Zz)))
def zrv {R:Type}:Lp Kd El R:=lp 2 zxc.sem l0
abbrev zacl {R:Type}:Sm R:=semP zai2 zaw (fun a=>qe1 (fun g x0=>qcl x0 g.2.1) a.1 a.2.1)
abbrev zanu {R:Type}:Sm R:=semP zazj za9 (fun a=>qx a.1)
def zao0 {R:Type}:Nat→Sm R:=cl 138 zacn (cl 140 zacl c0)
abbrev z8f:=mkld [] [] [0,9,10,11] [] [] (Zs 0 (Zl .kRule) (Zs 9 (Zl .kRule) (Zs 10 Zi (Zs 11 Zi Zz)))) z2j (.xs 0 [] [] [] Zz (.r [2] [] [] (Zs 2 Zi Zz)))
def zze {R:Type}:Lp Kd El R:=lp 4 z8f.sem l0
abbrev zabk {R:Type}:Sm R:=semP zcs zaw (fun a=>qc5 a.1)
abbrev zabh {R:Type}:Sm R:=semP zcs zaw (fun a=>qc2 a.1)
abbrev zai3:ZC ((List Int)×((Unit)×(Unit))×Unit):=Zc (Zl .ki64) (Zc (Cod.fnc 142 (Zn) (Zn)) Zn)
abbrev zavd {R:Type}:Sm R:=semP zai3 za9 (fun a=>qa4 (fun g x0=>qc2 x0) a.1 a.2.1)
def zad0 {R:Type}:Nat→Sm R:=cl 142 zabh c0
abbrev zxd:=mkld [] [] [0,1,7,8] [] [] (Zs 0 (Zl .ki64) (Zs 1 (Cod.fnc 142 (Zn) (Zn)) (Zs 7 Zi (Zs 8 Zi Zz)))) (znr (fun g x0=>qc2 x0)) (.xs 0 [] [] [] Zz (.r [4] [] [] (Zs 4 Zi Zz)))
def zrw {R:Type}:Lp Kd El R:=lp 2 zxd.sem l0
abbrev zacm {R:Type}:Sm R:=semP zai3 zaw (fun a=>qe2 (fun g x0=>qc2 x0) a.1 a.2.1)
abbrev zans {R:Type}:Sm R:=semP zan4 za9 (fun a=>qv a.1)
def zaoy {R:Type}:Nat→Sm R:=cl 141 zacm c0
abbrev z8c:=mkld [] [] [1,24,25,26] [1] [] (Zp 1 1 (Zs 24 (Zl .ki64) (Zs 25 Zi (Zs 26 Zi (Zx 1 za0 Zz))))) zvi (.xs 1 [] [] [] Zz (.r [2] [] [] (Zs 2 Zi Zz)))
def zzd {R:Type}:Lp Kd El R:=lp 8 z8c.sem l0
abbrev za37 {R:Type}:Sm R:=semP zh0 zaw (fun a=>qs a.1)
def zaow {R:Type}:Nat→Sm R:=cl 36 zaa0 (cl 79 zaak (cl 80 zaa7 (cl 81 zano (cl 82 zaa8 (cl 83 zanu (cl 84 zans c0))))))
abbrev z8a:=mkld [] [] [1,38,39] [1] [] (Zp 1 1 (Zs 38 (Cod.agg ze4) (Zs 39 Zi (Zx 1 zag Zz)))) zs5 (.xs 0 [1] [1] [] (Zp 1 1 (Zx 1 zag Zz)) (.r [2] [] [] (Zs 2 Zb Zz)))
abbrev zyu:=mkld [] [] [1,57,58,59] [1] [] (Zp 1 1 (Zs 57 (Zl .kHold) (Zs 58 Zi (Zs 59 Zi (Zx 1 zag Zz))))) zn7 (.xs 2 [1] [1] [] (Zp 1 1 (Zx 1 zag Zz)) (.r [2] [] [] (Zs 2 Zb Zz)))
abbrev zyv:=mkld [] [] [1,70,71,72] [1] [] (Zp 1 1 (Zs 70 (Zl .kCharge) (Zs 71 Zi (Zs 72 Zi (Zx 1 zag Zz))))) zn8 (.xs 4 [] [] [] Zz (.r [2] [] [] (Zs 2 Zb Zz)))
def zjc {R:Type}:Lp Kd El R:=lp 18 zyv.sem (lp 12 zyu.sem (lp 4 z8a.sem l0))
abbrev zayp:ZC (Patron×Int×Unit):=Zc (Cod.agg zbn) (Zc (Cod.cptr (CC.one Zi)) Zn)
abbrev zabj {R:Type}:Sm R:=semP zayp zaw (fun a=>qc4 a.1 a.2.1)
abbrev za4l:ZC ((List Patron)×((Unit)×(Int×Unit))×Unit):=Zc (Zl .kPatron) (Zc (Cod.fnc 207 (Zn) (Zc (Cod.cptr (CC.one Zi)) Zn)) Zn)
abbrev za35 {R:Type}:Sm R:=semP za4l za9 (fun a=>qo (fun g x0=>qc4 x0 g.2.1) a.1 a.2.1)
def zaos {R:Type}:Nat→Sm R:=cl 207 zabj c0
abbrev z7y:=mkld [] [] [0,1,7,8] [] [] (Zs 0 (Zl .kPatron) (Zs 1 (Cod.fnc 207 (Zn) (Zc (Cod.cptr (CC.one Zi)) Zn)) (Zs 7 Zi (Zs 8 Zi Zz)))) (zvg (fun g x0=>qc4 x0 g.2.1)) (.xs 0 [] [] [] Zz (.r [4] [] [] (Zs 4 Zi Zz)))
def zzb {R:Type}:Lp Kd El R:=lp 2 z7y.sem l0
abbrev zawb {R:Type}:Sm R:=semP zwc za9 (fun a=>qbz a.1 a.2.1)
abbrev zaw0 {R:Type}:Sm R:=semP zwc zamz (fun a=>qdq a.1 a.2.1)
abbrev zays:ZC (Int×Circ×Unit):=Zc Zi (Zc (Cod.cptr zag) Zn)
abbrev zabs {R:Type}:Sm R:=semP zays zaw (fun a=>qca a.1 a.2.1)
abbrev za33 {R:Type}:Sm R:=semP zh0 zaw (fun a=>qh a.1)
def zaol {R:Type}:Nat→Sm R:=cl 77 zpz (cl 85 zabs c0)
abbrev z7p:=mkld [] [] [1,3,12,13,14] [1] [] (Zp 1 1 (FC.clo 3 85 [] [1] (Zs 12 (Zl .kLoan) (Zs 13 Zi (Zs 14 Zi (Zx 1 zag Zz)))))) zvb (.xs 0 [1,3] [1] [] (Zp 1 1 (FC.clo 3 85 [] [1] (Zx 1 zag Zz))) (.r [2] [] [] (Zs 2 Zb Zz)))
abbrev z7q:=mkld [] [] [1,3,32,33,34] [1] [] (Zp 1 1 (FC.clo 3 85 [] [1] (Zs 32 (Zl .kHold) (Zs 33 Zi (Zs 34 Zi (Zx 1 zag Zz)))))) z2d (.xs 2 [1,3] [1] [] (Zp 1 1 (FC.clo 3 85 [] [1] (Zx 1 zag Zz))) (.r [2] [] [] (Zs 2 Zb Zz)))
abbrev zyr:=mkld [] [] [3,45,46,47] [1] [] (FC.clo 3 85 [] [1] (Zs 45 (Zl .kCharge) (Zs 46 Zi (Zs 47 Zi (Zx 1 zag Zz))))) zn5 (.xs 4 [] [] [] Zz (.r [2] [] [] (Zs 2 Zb Zz)))
def zi9 {R:Type}:Lp Kd El R:=lp 15 zyr.sem (lp 9 z7q.sem (lp 3 z7p.sem l0))
abbrev za3m:ZD ((Int×Unit)):=(Cod.clo 186 (Zc (Cod.cptr (CC.one Zi)) Zn))
abbrev zavo {R:Type}:Sm R:=semP zcs za3m (fun a=>qat a.1)
abbrev zayt:ZC (Loan×Int×Unit):=Zc (Cod.agg zdi) (Zc (Cod.cptr (CC.one Zi)) Zn)
abbrev zabt {R:Type}:Sm R:=semP zayt zaw (fun a=>qcd a.1 a.2.1)
abbrev zan2:ZC ((List Loan)×((Unit)×(Int×Unit))×Unit):=Zc (Zl .kLoan) (Zc (Cod.fnc 186 (Zn) (Zc (Cod.cptr (CC.one Zi)) Zn)) Zn)
abbrev za34 {R:Type}:Sm R:=semP zan2 za9 (fun a=>qk (fun g x0=>qcd x0 g.2.1) a.1 a.2.1)
def zaoo {R:Type}:Nat→Sm R:=cl 186 zabt c0
abbrev z7t:=mkld [] [] [0,1,7,8] [] [] (Zs 0 (Zl .kLoan) (Zs 1 (Cod.fnc 186 (Zn) (Zc (Cod.cptr (CC.one Zi)) Zn)) (Zs 7 Zi (Zs 8 Zi Zz)))) (zvc (fun g x0=>qcd x0 g.2.1)) (.xs 0 [] [] [] Zz (.r [4] [] [] (Zs 4 Zi Zz)))
def zy9 {R:Type}:Lp Kd El R:=lp 2 z7t.sem l0
abbrev zamx:ZD (Loan×Int):=(Cod.tup2 (Zc (Cod.agg zdi) (Zc Zi Zn)))
abbrev zavv {R:Type}:Sm R:=semP zan2 zamx (fun a=>qb3 (fun g x0=>qcd x0 g.2.1) a.1 a.2.1)
abbrev zacs {R:Type}:Sm R:=semP zjk zanc (fun a=>qed a.1 a.2.1)
abbrev zav7 {R:Type}:Sm R:=semP zh0 zaw (fun a=>qbu a.1)
def zae5 {R:Type}:Nat→Sm R:=cl 69 zacs c0
abbrev zyj:=mkld [] [] [1,9,10,11] [1] [] (Zp 1 1 (Zs 9 (Zl .kItem) (Zs 10 Zi (Zs 11 Zi (Zx 1 zag Zz))))) zn3 (.xs 0 [] [] [] Zz (.r [2] [] [] (Zs 2 Zb Zz)))
def zst {R:Type}:Lp Kd El R:=lp 2 zyj.sem l0
abbrev zajc:ZC (Hold×Int×Unit):=Zc (Cod.agg zby) (Zc (Cod.cptr (CC.one Zi)) Zn)
abbrev zab2 {R:Type}:Sm R:=semP zajc zaw (fun a=>qcv a.1 a.2.1)
abbrev za4j:ZC ((List Hold)×((Unit)×(Int×Unit))×Unit):=Zc (Zl .kHold) (Zc (Cod.fnc 145 (Zn) (Zc (Cod.cptr (CC.one Zi)) Zn)) Zn)
abbrev za30 {R:Type}:Sm R:=semP za4j za9 (fun a=>qb (fun g x0=>qcv x0 g.2.1) a.1 a.2.1)
def zaog {R:Type}:Nat→Sm R:=cl 145 zab2 c0
abbrev z7i:=mkld [] [] [0,1,7,8] [] [] (Zs 0 (Zl .kHold) (Zs 1 (Cod.fnc 145 (Zn) (Zc (Cod.cptr (CC.one Zi)) Zn)) (Zs 7 Zi (Zs 8 Zi Zz)))) (zlh (fun g x0=>qcv x0 g.2.1)) (.xs 0 [] [] [] Zz (.r [4] [] [] (Zs 4 Zi Zz)))
def zy5 {R:Type}:Lp Kd El R:=lp 2 z7i.sem l0
abbrev zaal {R:Type}:Sm R:=semP zl9 z97 (fun a=>qa9 a.1 a.2.1)
abbrev zavh {R:Type}:Sm R:=semP zh0 zaw (fun a=>qae a.1)
def zad8 {R:Type}:Nat→Sm R:=cl 77 zpz (cl 87 zaal c0)
abbrev zxm:=mkld [] [] [1,13,14,15] [1] [] (Zp 1 1 (Zs 13 (Zl .kHold) (Zs 14 Zi (Zs 15 Zi (Zx 1 zag Zz))))) zld (.xs 0 [1] [1] [] (Zp 1 1 (Zx 1 zag Zz)) (.r [2] [] [] (Zs 2 Zb Zz)))
abbrev zrk:=mkld [] [] [1,65,66,67] [1] [] (Zp 1 1 (Zs 65 (Zl .kItem) (Zs 66 Zi (Zs 67 Zi (Zx 1 zag Zz))))) zie (.xs 2 [] [] [] Zz (.r [2] [] [] (Zs 2 Zb Zz)))
def zko {R:Type}:Lp Kd El R:=lp 16 zrk.sem (lp 2 zxm.sem l0)
abbrev zacf {R:Type}:Sm R:=semP zh0 zaw (fun a=>qdr a.1)
abbrev zan0:ZC (Circ×Item×Unit):=Zc (Cod.agg zag) (Zc (Cod.agg za3) Zn)
abbrev zvk:ZD (Circ×Int):=(Cod.tup2 (Zc (Cod.agg zag) (Zc Zi Zn)))
abbrev zani {R:Type}:Sm R:=semP zan0 zvk (fun a=>q8 a.1 a.2.1)
abbrev zayr:ZC (Patron×Patron×Unit):=Zc (Cod.agg zbn) (Zc (Cod.cptr zbn) Zn)
abbrev zabn {R:Type}:Sm R:=semP zayr zaw (fun a=>qc8 a.1 a.2.1)
abbrev zadk:ZC ((List Patron)×((Unit)×(Patron×Unit))×Unit):=Zc (Zl .kPatron) (Zc (Cod.fnc 208 (Zn) (Zc (Cod.cptr zbn) Zn)) Zn)
abbrev zac2 {R:Type}:Sm R:=semP zadk za9 (fun a=>qo (fun g x0=>qc8 x0 g.2.1) a.1 a.2.1)
def z0h {R:Type}:Nat→Sm R:=cl 208 zabn c0
abbrev znl:=mkld [] [] [0,1,7,8] [] [] (Zs 0 (Zl .kPatron) (Zs 1 (Cod.fnc 208 (Zn) (Zc (Cod.cptr zbn) Zn)) (Zs 7 Zi (Zs 8 Zi Zz)))) (zvg (fun g x0=>qc8 x0 g.2.1)) (.xs 0 [] [] [] Zz (.r [4] [] [] (Zs 4 Zi Zz)))
def zk1 {R:Type}:Lp Kd El R:=lp 2 znl.sem l0
abbrev zane:ZD ((List Patron)):=(Zl .kPatron)
abbrev zaw2 {R:Type}:Sm R:=semP zwb zane (fun a=>qdy a.1)
abbrev z3l:ZC ((List Patron)×Int×(List Patron)×Unit):=Zc (Zl .kPatron) (Zc Zi (Zc (Zl .kPatron) Zn))
abbrev zand:ZD ((List Patron)):=zane
def zalg (a:(List Patron)×Int×(List Patron)×Unit):Option ((List Patron)):=qdx a.1 a.2.1 a.2.2.1
abbrev za49 {R:Type}:Sm R:=semP z3l zand zalg
abbrev zam4:ZD ((List Patron)×Int):=(Cod.tup2 (Zc (Zl .kPatron) (Zc Zi Zn)))
abbrev zawn {R:Type}:Sm R:=semP zwb zam4 (fun a=>qd3 a.1)
abbrev zayf:ZC ((List Patron)×Patron×Unit):=Zc (Zl .kPatron) (Zc (Cod.agg zbn) Zn)
abbrev zavt {R:Type}:Sm R:=semP zayf zam4 (fun a=>qb1 a.1 a.2.1)
abbrev zaje:ZC (Circ×Patron×Unit):=Zc (Cod.agg zag) (Zc (Cod.agg zbn) Zn)
abbrev zawx {R:Type}:Sm R:=semP zaje zvk (fun a=>qdm a.1 a.2.1)
abbrev z3b:ZC (Unit):=Zn
abbrev zabo {R:Type}:Sm R:=semP z3b zanh (fun a=>qc9)
abbrev za3s:ZC (Circ_desk):=zax
abbrev zawf {R:Type}:Sm R:=semN zh0 za3s (fun a=>qch a.1)
abbrev z3o:ZC (Unit×Int×Unit):=Zc (Cod.ptrc 100000) (Zc Zi Zn)
abbrev zmn:ZD (Unit):=Cod.unit
abbrev za39 {R:Type}:Sm R:=semM z3o (BC.one zax) zmn (fun a b=>qu a.2.1 b)
abbrev zawk {R:Type}:Sm R:=semM z3o (BC.one zax) za9 (fun a b=>qcs a.2.1 b)
abbrev zay8:ZC ((List Move)×Unit):=Zc (Zl .kMove) Zn
abbrev za3u:ZD ((List Move)):=(Zl .kMove)
abbrev zawv {R:Type}:Sm R:=semP zay8 za3u (fun a=>qdk a.1)
abbrev zai8:ZC (Unit×Int×Int×Int×Int×Unit):=Zc (Cod.ptrc 100000) (Zc Zi (Zc Zi (Zc Zi (Zc Zi Zn))))
abbrev zav0 {R:Type}:Sm R:=semM zai8 (BC.one zax) zmn (fun a b=>qbi a.2.1 a.2.2.1 a.2.2.2.1 a.2.2.2.2.1 b)
abbrev zvw {R:Type}:Sm R:=semP z3d za9 (fun a=>qb5 a.1 a.2.1)
abbrev za4n:ZC ((List Hold)×Int×Int×((Unit)×(Unit))×Unit):=Zc (Zl .kHold) (Zc Zi (Zc Zi (Zc (Cod.fnc 260 (Zn) (Zn)) Zn)))
abbrev zaim:ZD (List Hold):=(Zl .kHold)
abbrev zanr {R:Type}:Sm R:=semP za4n zaim (fun a=>qr (fun g x0 x1=>qb5 x0 x1) a.1 a.2.1 a.2.2.1 a.2.2.2.1)
def zaov {R:Type}:Nat→Sm R:=cl 260 zvw c0
abbrev z79:=mkld [] [] [0,1,2,3,8,9] [] [99999] (FC.arr 0 99999 (Zs 1 Zi (Zs 2 Zi (Zs 3 (Cod.fnc 260 (Zn) (Zn)) (Zs 8 Zi (Zs 9 Zi (FC.own 99999 Kd.kHold false Zz))))))) (za3i (fun g x0 x1=>qb5 x0 x1)) (.x 2 [0,1,2,3,8] [] [99999] (FC.arr 0 99999 (Zs 1 Zi (Zs 2 Zi (Zs 3 (Cod.fnc 260 (Zn) (Zn)) (Zs 8 Zi (FC.own 99999 Kd.kHold false Zz)))))))
abbrev z78:=mkld [] [] [0,1,2,3,8] [] [99999] (FC.arr 0 99999 (Zs 1 Zi (Zs 2 Zi (Zs 3 (Cod.fnc 260 (Zn) (Zn)) (Zs 8 Zi (FC.own 99999 Kd.kHold false Zz)))))) (za3h (fun g x0 x1=>qb5 x0 x1)) (.x 0 [] [] [99999] (FC.own 99999 Kd.kHold false Zz))
def zpn {R:Type}:Lp Kd El R:=lp 1 z78.sem (lp 4 z79.sem l0)
abbrev zaja:ZC ((List Hold)×Int×Int×Int×((Unit)×(Unit))×Unit):=Zc (Zl .kHold) (Zc Zi (Zc Zi (Zc Zi (Zc (Cod.fnc 260 (Zn) (Zn)) Zn))))
abbrev zamy:ZD (List Hold):=zaim
def zala (a:(List Hold)×Int×Int×Int×((Unit)×(Unit))×Unit):Option (List Hold):=qc1 (fun g x0 x1=>qb5 x0 x1) a.1 a.2.1 a.2.2.1 a.2.2.2.1 a.2.2.2.2.1
abbrev zawd {R:Type}:Sm R:=semP zaja zamy zala
abbrev za4m:ZC ((List Hold)×Int×((Unit)×(Unit))×Unit):=Zc (Zl .kHold) (Zc Zi (Zc (Cod.fnc 260 (Zn) (Zn)) Zn))
abbrev za36 {R:Type}:Sm R:=semP za4m zaim (fun a=>qq (fun g x0 x1=>qb5 x0 x1) a.1 a.2.1 a.2.2.1)
def zaou {R:Type}:Nat→Sm R:=cl 260 zvw (cl 275 zanr (cl 276 zawd c0))
abbrev z71:=mkld [] [] [0,1,2,6,7,8] [] [99999] (FC.arr 0 99999 (Zs 1 Zi (Zs 2 (Cod.fnc 260 (Zn) (Zn)) (Zs 6 Zi (Zs 7 Zi (Zs 8 Zi (FC.own 99999 Kd.kHold false Zz))))))) (za3e (fun g x0 x1=>qb5 x0 x1)) (.x 0 [0,1,2,6,7] [] [99999] (FC.arr 0 99999 (Zs 1 Zi (Zs 2 (Cod.fnc 260 (Zn) (Zn)) (Zs 6 Zi (Zs 7 Zi (FC.own 99999 Kd.kHold false Zz)))))))
abbrev z74:=mkld [] [] [0,1,2,6,7,8] [] [99999] (FC.arr 0 99999 (Zs 1 Zi (Zs 2 (Cod.fnc 260 (Zn) (Zn)) (Zs 6 Zi (Zs 7 Zi (Zs 8 Zi (FC.own 99999 Kd.kHold false Zz))))))) (za3g (fun g x0 x1=>qb5 x0 x1)) (.x 4 [0,1,2,6,7] [] [99999] (FC.arr 0 99999 (Zs 1 Zi (Zs 2 (Cod.fnc 260 (Zn) (Zn)) (Zs 6 Zi (Zs 7 Zi (FC.own 99999 Kd.kHold false Zz)))))))
abbrev z73:=mkld [] [] [0,1,2,6] [] [99999] (FC.arr 0 99999 (Zs 1 Zi (Zs 2 (Cod.fnc 260 (Zn) (Zn)) (Zs 6 Zi (FC.own 99999 Kd.kHold false Zz))))) (za3f (fun g x0 x1=>qb5 x0 x1)) (.x 2 [] [] [99999] (FC.own 99999 Kd.kHold false Zz))
def zjb {R:Type}:Lp Kd El R:=lp 7 z73.sem (lp 9 z74.sem (lp 2 z71.sem l0))
abbrev zazb:ZC ((List Hold)×((Unit)×(Unit))×Unit):=Zc (Zl .kHold) (Zc (Cod.fnc 260 (Zn) (Zn)) Zn)
abbrev zacj {R:Type}:Sm R:=semP zazb zaim (fun a=>qdw (fun g x0 x1=>qb5 x0 x1) a.1 a.2.1)
abbrev zazi:ZC ((List Hold)×Int×Int×Unit):=Zc (Zl .kHold) (Zc Zi (Zc Zi Zn))
abbrev zail:ZD ((List Hold)):=(Zl .kHold)
abbrev zann {R:Type}:Sm R:=semP zazi zail (fun a=>qj a.1 a.2.1 a.2.2.1)
def zaon {R:Type}:Nat→Sm R:=cl 259 zacj c0
abbrev z7s:=mkld [(7,7,Kd.kHold)] [] [1,2,7,10,11,12] [] [7] (Zs 1 Zi (Zs 2 Zi (FC.arr 7 7 (Zs 10 (Zl .kHold) (Zs 11 Zi (Zs 12 Zi (FC.own 7 Kd.kHold false Zz))))))) za3d (.x 0 [7] [] [7] (FC.arr 7 7 (FC.own 7 Kd.kHold false Zz)))
def zy8 {R:Type}:Lp Kd El R:=lp 3 z7s.sem l0
abbrev zaym:ZC ((List Hold)×Item×Int×Int×Bool×Unit):=Zc (Zl .kHold) (Zc (Cod.agg za3) (Zc Zi (Zc Zi (Zc Zb Zn))))
abbrev zav5 {R:Type}:Sm R:=semP zaym za9 (fun a=>qbo a.1 a.2.1 a.2.2.1 a.2.2.2.1 a.2.2.2.2.1)
def zae1 {R:Type}:Nat→Sm R:=cl 246 zann c0
abbrev zyf:=mkld [] [] [2,4,6,11,18,19,20] [6] [] (Zs 2 Zi (Zs 4 Zb (Zp 6 6 (Zs 11 Zi (Zs 18 (Zl .kHold) (Zs 19 Zi (Zs 20 Zi (Zx 6 za3 Zz)))))))) zal5 (.xs 0 [11] [] [] (Zs 11 Zi Zz) (.r [10] [] [] (Zs 10 Zi Zz)))
def zsp {R:Type}:Lp Kd El R:=lp 3 zyf.sem l0
abbrev zaxj {R:Type}:Sm R:=semP zan0 za9 (fun a=>qeu a.1 a.2.1)
abbrev zab9 {R:Type}:Sm R:=semP zajc zaw (fun a=>qd9 a.1 a.2.1)
abbrev zadh:ZC ((List Hold)×((Unit)×(Int×Unit))×Unit):=Zc (Zl .kHold) (Zc (Cod.fnc 247 (Zn) (Zc (Cod.cptr (CC.one Zi)) Zn)) Zn)
abbrev zaa2 {R:Type}:Sm R:=semP zadh za9 (fun a=>qb (fun g x0=>qd9 x0 g.2.1) a.1 a.2.1)
def zz7 {R:Type}:Nat→Sm R:=cl 247 zab9 c0
abbrev zna:=mkld [] [] [0,1,7,8] [] [] (Zs 0 (Zl .kHold) (Zs 1 (Cod.fnc 247 (Zn) (Zc (Cod.cptr (CC.one Zi)) Zn)) (Zs 7 Zi (Zs 8 Zi Zz)))) (zlh (fun g x0=>qd9 x0 g.2.1)) (.xs 0 [] [] [] Zz (.r [4] [] [] (Zs 4 Zi Zz)))
def zks {R:Type}:Lp Kd El R:=lp 2 zna.sem l0
abbrev z28:ZC ((List Hold)×Int×Unit):=Zc (Zl .kHold) (Zc Zi Zn)
abbrev zav4 {R:Type}:Sm R:=semP z28 za9 (fun a=>qbn a.1 a.2.1)
abbrev zaxm {R:Type}:Sm R:=semP z28 z97 (fun a=>qey a.1 a.2.1)
abbrev z3e:ZC (Unit×Int×Int×Unit):=Zc (Cod.ptrc 100000) (Zc Zi (Zc Zi Zn))
abbrev zawl {R:Type}:Sm R:=semM z3e (BC.one zax) zmn (fun a b=>qct a.2.1 a.2.2.1 b)
abbrev zaxe {R:Type}:Sm R:=semP zmv zaw (fun a=>qeo a.1 a.2.1)
abbrev zayh:ZC (Rule×Int×Int×Int×Unit):=Zc (Cod.agg zd0) (Zc Zi (Zc Zi (Zc Zi Zn)))
abbrev zaaz {R:Type}:Sm R:=semP zayh zaw (fun a=>qb6 a.1 a.2.1 a.2.2.1 a.2.2.2.1)
abbrev zabc {R:Type}:Sm R:=semP z3a za9 (fun a=>qbj a.1)
def zaey {R:Type}:Nat→Sm R:=c0
abbrev zyc:=mkld [] [] [3,12,13,14] [] [12] (Zs 3 Zi (FC.arr 12 12 (Zs 13 Zi (Zs 14 Zi (FC.own 12 Kd.ki64 false Zz))))) zal2 (.x 0 [3] [] [] (Zs 3 Zi Zz))
def zsm {R:Type}:Lp Kd El R:=lp 3 zyc.sem l0
abbrev zai5:ZC ((List Rule)×Int×Int×Int×Unit):=Zc (Zl .kRule) (Zc Zi (Zc Zi (Zc Zi Zn)))
abbrev zavg {R:Type}:Sm R:=semP zai5 za9 (fun a=>qa8 a.1 a.2.1 a.2.2.1 a.2.2.2.1)
def zad3 {R:Type}:Nat→Sm R:=cl 261 zaaz (cl 262 zabc c0)
abbrev zxg:=mkld [] [] [0,1,2,3,9,12,13,14] [] [] (Zs 0 (Zl .kRule) (Zs 1 Zi (Zs 2 Zi (Zs 3 Zi (Zs 9 Zi (Zs 12 (Zl .kRule) (Zs 13 Zi (Zs 14 Zi Zz)))))))) zalk (.x 0 [9] [] [] (Zs 9 Zi Zz))
def zrz {R:Type}:Lp Kd El R:=lp 3 zxg.sem l0
abbrev zam6:ZD (Rule×Bool):=(Cod.tup2 (Zc (Cod.agg zd0) (Zc Zb Zn)))
abbrev zawp {R:Type}:Sm R:=semP zai5 zam6 (fun a=>qd8 a.1 a.2.1 a.2.2.1 a.2.2.2.1)
abbrev zay3:ZC (Circ×Int×Item×Unit):=Zc (Cod.agg zag) (Zc Zi (Zc (Cod.agg za3) Zn))
abbrev zawm {R:Type}:Sm R:=semP zay3 zam6 (fun a=>qcz a.1 a.2.1 a.2.2.1)
abbrev za3r:ZD (Calendar):=(Cod.agg za0)
abbrev zawc {R:Type}:Sm R:=semP zl9 za3r (fun a=>qc0 a.1 a.2.1)
abbrev zawy {R:Type}:Sm R:=semP zcs zaw (fun a=>qdn a.1)
abbrev zacp {R:Type}:Sm R:=semP zmv zaw (fun a=>qe7 a.1 a.2.1)
abbrev zacu {R:Type}:Sm R:=semP zcs zaw (fun a=>qel a.1)
abbrev zayc:ZC ((List Int)×Int×Unit):=Zc (Zl .ki64) (Zc Zi Zn)
abbrev za3o:ZD (Int×Bool):=(Cod.tup2 (Zc Zi (Zc Zb Zn)))
abbrev zavq {R:Type}:Sm R:=semP zayc za3o (fun a=>qax a.1 a.2.1)
def zaen {R:Type}:Nat→Sm R:=cl 271 zacp (cl 272 zacu c0)
abbrev zx2:=mkld [] [] [0,1,6,7,8] [] [] (Zs 0 (Zl .ki64) (Zs 1 Zi (Zs 6 Zi (Zs 7 Zi (Zs 8 Zi Zz))))) zalt (.x 0 [0,1,6,7] [] [] (Zs 0 (Zl .ki64) (Zs 1 Zi (Zs 6 Zi (Zs 7 Zi Zz)))))
def zsb {R:Type}:Lp Kd El R:=lp 3 zx2.sem l0
abbrev za3n:ZD ((V7 Bool)):=(Cod.agg zbz)
abbrev zaav {R:Type}:Sm R:=semP zan4 za3n (fun a=>qau a.1)
def zaek {R:Type}:Nat→Sm R:=c0
abbrev zxz:=mkld [] [] [1,2,3,5] [1,2,3] [] (Zp 1 1 (Zp 2 2 (Zp 3 3 (Zs 5 Zi (Zx 1 za0 (Zx 2 zbz (Zx 3 zbz Zz))))))) zals (.x 0 [2,3] [2,3] [] (Zp 2 2 (Zp 3 3 (Zx 2 zbz (Zx 3 zbz Zz)))))
def zr8 {R:Type}:Lp Kd El R:=lp 3 zxz.sem l0
abbrev zaxx {R:Type}:Sm R:=semP zcs zaw (fun a=>qfl a.1)
abbrev zaca {R:Type}:Sm R:=semP zcs za9 (fun a=>qda a.1)
abbrev z3c:ZC (Calendar×Int×Unit):=Zc (Cod.agg za0) (Zc Zi Zn)
abbrev zvz {R:Type}:Sm R:=semP z3c zaw (fun a=>qcf a.1 a.2.1)
abbrev zaax {R:Type}:Sm R:=semP z3c zlp (fun a=>qay a.1 a.2.1)
def zaeo {R:Type}:Nat→Sm R:=cl 249 zvz c0
abbrev zx3:=mkld [] [] [2,6] [2] [] (Zp 2 2 (Zs 6 Zi (Zx 2 za0 Zz))) zalu (.xs 0 [] [] [] Zz (.r [4,5] [] [] (Zs 4 Zi (Zs 5 Zi Zz))))
def zsc {R:Type}:Lp Kd El R:=lp 2 zx3.sem l0
abbrev zai4:ZC (Calendar×Int×Int×Unit):=Zc (Cod.agg za0) (Zc Zi (Zc Zi Zn))
abbrev zavf {R:Type}:Sm R:=semP zai4 zlp (fun a=>qa6 a.1 a.2.1 a.2.2.1)
def zad1 {R:Type}:Nat→Sm R:=cl 143 zabk (cl 221 zaax c0)
abbrev zxe:=mkld [] [] [3,8,28,29] [3] [] (Zp 3 3 (Zs 8 Zi (Zs 28 Zi (Zs 29 Zi (Zx 3 za0 Zz))))) zalj (.xs 0 [8] [] [] (Zs 8 Zi Zz) (.r [6,7] [] [] (Zs 6 Zi (Zs 7 Zi Zz))))
def zrx {R:Type}:Lp Kd El R:=lp 9 zxe.sem l0
abbrev zaxs {R:Type}:Sm R:=semM z3e (BC.one zax) za9 (fun a b=>qfg a.2.1 a.2.2.1 b)
abbrev zayx:ZC (Hold×Int×Int×Unit):=Zc (Cod.agg zby) (Zc (Cod.cptr (CC.one Zi)) (Zc (Cod.cptr (CC.one Zi)) Zn))
abbrev zaby {R:Type}:Sm R:=semP zayx zaw (fun a=>qcm a.1 a.2.1 a.2.2.1)
abbrev zwd:ZC ((List Hold)×((Unit)×(Int×Int×Unit))×Unit):=Zc (Zl .kHold) (Zc (Cod.fnc 215 (Zn) (Zc (Cod.cptr (CC.one Zi)) (Zc (Cod.cptr (CC.one Zi)) Zn))) Zn)
abbrev zaa3 {R:Type}:Sm R:=semP zwd za9 (fun a=>qb (fun g x0=>qcm x0 g.2.1 g.2.2.1) a.1 a.2.1)
def zz8 {R:Type}:Nat→Sm R:=cl 215 zaby c0
abbrev znb:=mkld [] [] [0,1,7,8] [] [] (Zs 0 (Zl .kHold) (Zs 1 (Cod.fnc 215 (Zn) (Zc (Cod.cptr (CC.one Zi)) (Zc (Cod.cptr (CC.one Zi)) Zn))) (Zs 7 Zi (Zs 8 Zi Zz)))) (zlh (fun g x0=>qcm x0 g.2.1 g.2.2.1)) (.xs 0 [] [] [] Zz (.r [4] [] [] (Zs 4 Zi Zz)))
def zkt {R:Type}:Lp Kd El R:=lp 2 znb.sem l0
abbrev zavu {R:Type}:Sm R:=semP zwd zaw (fun a=>qb2 (fun g x0=>qcm x0 g.2.1 g.2.2.1) a.1 a.2.1)
abbrev zaxb {R:Type}:Sm R:=semP zan3 zail (fun a=>qej a.1)
abbrev zazh:ZC ((List Hold)×Int×Hold×Unit):=Zc (Zl .kHold) (Zc Zi (Zc (Cod.agg zby) Zn))
abbrev zaxl {R:Type}:Sm R:=semP zazh zail (fun a=>qex a.1 a.2.1 a.2.2.1)
abbrev zaya:ZC ((List Hold)×Int×Int×Int×Int×Unit):=Zc (Zl .kHold) (Zc Zi (Zc Zi (Zc Zi (Zc Zi Zn))))
abbrev za3l:ZD ((List Hold)×Int):=(Cod.tup2 (Zc (Zl .kHold) (Zc Zi Zn)))
abbrev zavb {R:Type}:Sm R:=semP zaya za3l (fun a=>qa0 a.1 a.2.1 a.2.2.1 a.2.2.2.1 a.2.2.2.2.1)
abbrev zay2:ZC (Unit×(List Hold)×Int×Unit):=Zc (Cod.ptrc 100000) (Zc (Zl .kHold) (Zc Zi Zn))
abbrev zawj {R:Type}:Sm R:=semM zay2 (BC.one zax) zmn (fun a b=>qcr a.2.1 a.2.2.1 b)
abbrev zay9:ZC (Unit×Int×Hold×Unit):=Zc (Cod.ptrc 100000) (Zc Zi (Zc (Cod.agg zby) Zn))
abbrev zaww {R:Type}:Sm R:=semM zay9 (BC.one zax) zmn (fun a b=>qdl a.2.1 a.2.2.1 b)
abbrev zaxc {R:Type}:Sm R:=semM z3o (BC.one zax) zmn (fun a b=>qek a.2.1 b)
abbrev zayb:ZC (Unit×Unit):=Zc (Cod.ptrc 100000) Zn
abbrev zave {R:Type}:Sm R:=semM zayb (BC.one zax) zvk (fun a b=>qa5 b)
abbrev zwi:ZC (Circ×Int×Int×Unit):=Zc (Cod.agg zag) (Zc Zi (Zc Zi Zn))
abbrev zab3 {R:Type}:Sm R:=semP zwi zvk (fun a=>qcw a.1 a.2.1 a.2.2.1)
abbrev zayn:ZC ((List Charge)×Int×Unit):=Zc (Zl .kCharge) (Zc Zi Zn)
abbrev zav6 {R:Type}:Sm R:=semP zayn za9 (fun a=>qbp a.1 a.2.1)
def zae2 {R:Type}:Nat→Sm R:=c0
abbrev zyg:=mkld [] [] [1,5,8,9,10] [] [] (Zs 1 Zi (Zs 5 Zi (Zs 8 (Zl .kCharge) (Zs 9 Zi (Zs 10 Zi Zz))))) zal6 (.x 0 [5] [] [] (Zs 5 Zi Zz))
def zsq {R:Type}:Lp Kd El R:=lp 3 zyg.sem l0
abbrev zs6:ZD ((List Loan)):=(Zl .kLoan)
abbrev zaaq {R:Type}:Sm R:=semP zjk zs6 (fun a=>qam a.1 a.2.1)
def zaef {R:Type}:Nat→Sm R:=c0
abbrev zxu:=mkld [(5,5,Kd.kLoan)] [] [1,5,8,9,10] [] [5] (Zs 1 Zi (FC.arr 5 5 (Zs 8 (Zl .kLoan) (Zs 9 Zi (Zs 10 Zi (FC.own 5 Kd.kLoan false Zz)))))) zalq (.x 0 [5] [] [5] (FC.arr 5 5 (FC.own 5 Kd.kLoan false Zz)))
def zr3 {R:Type}:Lp Kd El R:=lp 3 zxu.sem l0
abbrev zai7:ZC ((List Loan)×Int×Int×Unit):=Zc (Zl .kLoan) (Zc Zi (Zc Zi Zn))
abbrev zavx {R:Type}:Sm R:=semP zai7 za9 (fun a=>qbf a.1 a.2.1 a.2.2.1)
def zaev {R:Type}:Nat→Sm R:=cl 163 zaaq c0
abbrev zx9:=mkld [] [] [2,7,12,13,14] [] [] (Zs 2 Zi (Zs 7 Zi (Zs 12 (Zl .kLoan) (Zs 13 Zi (Zs 14 Zi Zz))))) zalz (.x 0 [7] [] [] (Zs 7 Zi Zz))
def zsj {R:Type}:Lp Kd El R:=lp 3 zx9.sem l0
abbrev zayk:ZC (Patron×Int×Int×Int×Unit):=Zc (Cod.agg zbn) (Zc Zi (Zc Zi (Zc Zi Zn)))
abbrev zavz {R:Type}:Sm R:=semP zayk zzm (fun a=>qbh a.1 a.2.1 a.2.2.1 a.2.2.2.1)
def zaex {R:Type}:Nat→Sm R:=c0
abbrev zyb:=mkld [(9,9,Kd.ki64)] [] [9,22,23,24] [] [9,22] (FC.arr 9 9 (FC.arr 22 22 (Zs 23 Zi (Zs 24 Zi (FC.own 9 Kd.ki64 false (FC.own 22 Kd.kbool false Zz)))))) zal1 (.x 0 [9] [] [9] (FC.arr 9 9 (FC.own 9 Kd.ki64 false Zz)))
def zsl {R:Type}:Lp Kd El R:=lp 3 zyb.sem l0
abbrev zaxw {R:Type}:Sm R:=semP zaje zaw (fun a=>qfk a.1 a.2.1)
abbrev zav8 {R:Type}:Sm R:=semP z3c zlp (fun a=>qbv a.1 a.2.1)
def zae6 {R:Type}:Nat→Sm R:=cl 249 zvz c0
abbrev zyk:=mkld [] [] [2,6] [2] [] (Zp 2 2 (Zs 6 Zi (Zx 2 za0 Zz))) zal8 (.xs 0 [] [] [] Zz (.r [4,5] [] [] (Zs 4 Zi (Zs 5 Zi Zz))))
def zsu {R:Type}:Lp Kd El R:=lp 2 zyk.sem l0
abbrev zajg:ZC (Rule×Calendar×Int×Int×Unit):=Zc (Cod.agg zd0) (Zc (Cod.agg za0) (Zc Zi (Zc Zi Zn)))
abbrev zaw5 {R:Type}:Sm R:=semP zajg zlp (fun a=>qeb a.1 a.2.1 a.2.2.1 a.2.2.2.1)
abbrev zaze:ZC (Circ×Item×Patron×Int×Unit):=Zc (Cod.agg zag) (Zc (Cod.agg za3) (Zc (Cod.agg zbn) (Zc Zi Zn)))
abbrev zaxf {R:Type}:Sm R:=semP zaze zlp (fun a=>qeq a.1 a.2.1 a.2.2.1 a.2.2.2.1)
abbrev zayz:ZC (Loan×Loan×Unit):=Zc (Cod.agg zdi) (Zc (Cod.cptr zdi) Zn)
abbrev zab0 {R:Type}:Sm R:=semP zayz zaw (fun a=>qco a.1 a.2.1)
abbrev zoj:ZC ((List Loan)×((Unit)×(Loan×Unit))×Unit):=Zc (Zl .kLoan) (Zc (Cod.fnc 166 (Zn) (Zc (Cod.cptr zdi) Zn)) Zn)
abbrev zac1 {R:Type}:Sm R:=semP zoj za9 (fun a=>qk (fun g x0=>qco x0 g.2.1) a.1 a.2.1)
def z0g {R:Type}:Nat→Sm R:=cl 166 zab0 c0
abbrev znk:=mkld [] [] [0,1,7,8] [] [] (Zs 0 (Zl .kLoan) (Zs 1 (Cod.fnc 166 (Zn) (Zc (Cod.cptr zdi) Zn)) (Zs 7 Zi (Zs 8 Zi Zz)))) (zvc (fun g x0=>qco x0 g.2.1)) (.xs 0 [] [] [] Zz (.r [4] [] [] (Zs 4 Zi Zz)))
def zk0 {R:Type}:Lp Kd El R:=lp 2 znk.sem l0
abbrev z2s {R:Type}:Sm R:=semP zoj zamx (fun a=>qb3 (fun g x0=>qco x0 g.2.1) a.1 a.2.1)
abbrev zaxa {R:Type}:Sm R:=semP zwa zs6 (fun a=>qei a.1)
abbrev z3m:ZC ((List Loan)×Int×(List Loan)×Unit):=Zc (Zl .kLoan) (Zc Zi (Zc (Zl .kLoan) Zn))
abbrev zanf:ZD ((List Loan)):=zs6
def zalh (a:(List Loan)×Int×(List Loan)×Unit):Option ((List Loan)):=qdz a.1 a.2.1 a.2.2.1
abbrev za5a {R:Type}:Sm R:=semP z3m zanf zalh
abbrev zam5:ZD ((List Loan)×Int):=(Cod.tup2 (Zc (Zl .kLoan) (Zc Zi Zn)))
abbrev zawo {R:Type}:Sm R:=semP zwa zam5 (fun a=>qd7 a.1)
abbrev zayo:ZC ((List Loan)×Loan×Unit):=Zc (Zl .kLoan) (Zc (Cod.agg zdi) Zn)
abbrev zav9 {R:Type}:Sm R:=semP zayo zam5 (fun a=>qbx a.1 a.2.1)
abbrev zay1:ZC (Unit×(List Loan)×Int×Unit):=Zc (Cod.ptrc 100000) (Zc (Zl .kLoan) (Zc Zi Zn))
abbrev zawi {R:Type}:Sm R:=semM zay1 (BC.one zax) zmn (fun a b=>qcq a.2.1 a.2.2.1 b)
abbrev z3h:ZC ((List Hold)×Int×Int×Unit):=zazi
abbrev zam3:ZD ((List Hold)):=zail
def zald (a:(List Hold)×Int×Int×Unit):Option ((List Hold)):=qd2 a.1 a.2.1 a.2.2.1
abbrev za47 {R:Type}:Sm R:=semP z3h zam3 zald
abbrev za3v:ZD ((List Hold)×Hold×Int):=(Cod.tup3 (Zc (Zl .kHold) (Zc (Cod.agg zby) (Zc Zi Zn))))
abbrev zaxg {R:Type}:Sm R:=semP z28 za3v (fun a=>qer a.1 a.2.1)
abbrev zaw3 {R:Type}:Sm R:=semM z3o (BC.one zax) zmn (fun a b=>qe3 a.2.1 b)
abbrev z98:ZD (Circ×Int×Int):=(Cod.tup3 (Zc (Cod.agg zag) (Zc Zi (Zc Zi Zn))))
abbrev zawe {R:Type}:Sm R:=semM z3o (BC.one zax) z98 (fun a b=>qce a.2.1 b)
abbrev zazg:ZC (Hold×Item×Unit):=Zc (Cod.agg zby) (Zc (Cod.agg za3) Zn)
abbrev zaxk {R:Type}:Sm R:=semP zazg zaw (fun a=>qev a.1 a.2.1)
abbrev zay5:ZC (Hold×Int×Item×Unit):=Zc (Cod.agg zby) (Zc (Cod.cptr (CC.one Zi)) (Zc (Cod.cptr za3) Zn))
abbrev zacd {R:Type}:Sm R:=semP zay5 zaw (fun a=>qdd a.1 a.2.1 a.2.2.1)
abbrev zadi:ZC ((List Hold)×((Unit)×(Int×Item×Unit))×Unit):=Zc (Zl .kHold) (Zc (Cod.fnc 111 (Zn) (Zc (Cod.cptr (CC.one Zi)) (Zc (Cod.cptr za3) Zn))) Zn)
abbrev zaa4 {R:Type}:Sm R:=semP zadi za9 (fun a=>qb (fun g x0=>qdd x0 g.2.1 g.2.2.1) a.1 a.2.1)
def zz9 {R:Type}:Nat→Sm R:=cl 111 zacd c0
abbrev znc:=mkld [] [] [0,1,7,8] [] [] (Zs 0 (Zl .kHold) (Zs 1 (Cod.fnc 111 (Zn) (Zc (Cod.cptr (CC.one Zi)) (Zc (Cod.cptr za3) Zn))) (Zs 7 Zi (Zs 8 Zi Zz)))) (zlh (fun g x0=>qdd x0 g.2.1 g.2.2.1)) (.xs 0 [] [] [] Zz (.r [4] [] [] (Zs 4 Zi Zz)))
def zku {R:Type}:Lp Kd El R:=lp 2 znc.sem l0
abbrev z29:ZC (Circ×Int×Int×Int×Unit):=Zc (Cod.agg zag) (Zc Zi (Zc Zi (Zc Zi Zn)))
abbrev zabf {R:Type}:Sm R:=semP z29 z98 (fun a=>qbt a.1 a.2.1 a.2.2.1 a.2.2.2.1)
abbrev z3g:ZC ((List Loan)×Int×Int×Unit):=zai7
abbrev zam2:ZD ((List Loan)):=zs6
def zalc (a:(List Loan)×Int×Int×Unit):Option ((List Loan)):=qd1 a.1 a.2.1 a.2.2.1
abbrev za46 {R:Type}:Sm R:=semP z3g zam2 zalc
abbrev zaxp {R:Type}:Sm R:=semP zjk zs6 (fun a=>qfd a.1 a.2.1)
abbrev zam8:ZD ((List Loan)×Loan×Int):=(Cod.tup3 (Zc (Zl .kLoan) (Zc (Cod.agg zdi) (Zc Zi Zn))))
abbrev zawq {R:Type}:Sm R:=semP zjk zam8 (fun a=>qdf a.1 a.2.1)
abbrev zacw {R:Type}:Sm R:=semP zmv za9 (fun a=>qep a.1 a.2.1)
abbrev zavi {R:Type}:Sm R:=semP zai4 za9 (fun a=>qaf a.1 a.2.1 a.2.2.1)
def zad9 {R:Type}:Nat→Sm R:=cl 251 zaav (cl 252 zacw (cl 253 zaca c0))
abbrev zxn:=mkld [] [] [1,2,3,7,8,22,23] [3,7] [] (Zs 1 Zi (Zs 2 Zi (Zp 3 3 (Zp 7 7 (Zs 8 Zi (Zs 22 (Cod.agg zbz) (Zs 23 Zi (Zx 3 za0 (Zx 7 zbz Zz))))))))) zall (.x 0 [1,2,3,7,8] [3,7] [] (Zs 1 Zi (Zs 2 Zi (Zp 3 3 (Zp 7 7 (Zs 8 Zi (Zx 3 za0 (Zx 7 zbz Zz))))))))
abbrev zrl:=mkld [] [] [1,2,7,8,40,41,42] [7] [] (Zs 1 Zi (Zs 2 Zi (Zp 7 7 (Zs 8 Zi (Zs 40 (Zl .ki64) (Zs 41 Zi (Zs 42 Zi (Zx 7 zbz Zz)))))))) z9p (.x 2 [8] [] [] (Zs 8 Zi Zz))
def zkp {R:Type}:Lp Kd El R:=lp 13 zrl.sem (lp 7 zxn.sem l0)
abbrev zaxz {R:Type}:Sm R:=semP zajg za9 (fun a=>qfn a.1 a.2.1 a.2.2.1 a.2.2.2.1)
abbrev zay6:ZC ((List Charge)×Charge×Unit):=Zc (Zl .kCharge) (Zc (Cod.agg zef) Zn)
abbrev zam9:ZD ((List Charge)×Int):=(Cod.tup2 (Zc (Zl .kCharge) (Zc Zi Zn)))
abbrev zaws {R:Type}:Sm R:=semP zay6 zam9 (fun a=>qdh a.1 a.2.1)
abbrev zaxq {R:Type}:Sm R:=semM zai8 (BC.one zax) zmn (fun a b=>qfe a.2.1 a.2.2.1 a.2.2.2.1 a.2.2.2.2.1 b)
abbrev zayq:ZC (Charge×Int×Int×Int×Unit):=Zc (Cod.agg zef) (Zc (Cod.cptr (CC.one Zi)) (Zc (Cod.cptr (CC.one Zi)) (Zc (Cod.cptr (CC.one Zi)) Zn)))
abbrev zabm {R:Type}:Sm R:=semP zayq zaw (fun a=>qc7 a.1 a.2.1 a.2.2.1 a.2.2.2.1)
abbrev zayd:ZC ((List Charge)×((Unit)×(Int×Int×Int×Unit))×Unit):=Zc (Zl .kCharge) (Zc (Cod.fnc 230 (Zn) (Zc (Cod.cptr (CC.one Zi)) (Zc (Cod.cptr (CC.one Zi)) (Zc (Cod.cptr (CC.one Zi)) Zn)))) Zn)
abbrev za3p:ZD ((List Charge)×Int×Int):=(Cod.tup3 (Zc (Zl .kCharge) (Zc Zi (Zc Zi Zn))))
abbrev zavr {R:Type}:Sm R:=semP zayd za3p (fun a=>qaz (fun g x0=>qc7 x0 g.2.1 g.2.2.1 g.2.2.2.1) a.1 a.2.1)
def zaep {R:Type}:Nat→Sm R:=cl 230 zabm c0
abbrev zx4:=mkld [(4,4,Kd.kCharge)] [] [1,4,5,6,9,10,11] [] [4] (Zs 1 (Cod.fnc 230 (Zn) (Zc (Cod.cptr (CC.one Zi)) (Zc (Cod.cptr (CC.one Zi)) (Zc (Cod.cptr (CC.one Zi)) Zn)))) (FC.arr 4 4 (Zs 5 Zi (Zs 6 Zi (Zs 9 (Zl .kCharge) (Zs 10 Zi (Zs 11 Zi (FC.own 4 Kd.kCharge false Zz)))))))) (zalv (fun g x0=>qc7 x0 g.2.1 g.2.2.1 g.2.2.2.1)) (.x 0 [4,5,6] [] [4] (FC.arr 4 4 (Zs 5 Zi (Zs 6 Zi (FC.own 4 Kd.kCharge false Zz)))))
def zsd {R:Type}:Lp Kd El R:=lp 2 zx4.sem l0
abbrev zaye:ZC ((List Charge)×Int×Int×Int×Unit):=Zc (Zl .kCharge) (Zc Zi (Zc Zi (Zc Zi Zn)))
abbrev zavs {R:Type}:Sm R:=semP zaye zam9 (fun a=>qb0 a.1 a.2.1 a.2.2.1 a.2.2.2.1)
abbrev zaxo {R:Type}:Sm R:=semM z3e (BC.one zax) zmn (fun a b=>qfc a.2.1 a.2.2.1 b)
abbrev zacr {R:Type}:Sm R:=semP zwi z98 (fun a=>qe9 a.1 a.2.1 a.2.2.1)
abbrev za3q:ZD (Circ×Bool):=(Cod.tup2 (Zc (Cod.agg zag) (Zc Zb Zn)))
abbrev zav1 {R:Type}:Sm R:=semP z3b za3q (fun a=>qbk)
def zaez {R:Type}:Nat→Sm R:=cl 52 zabo (cl 53 zani (cl 54 zab3 (cl 55 zabf (cl 56 zacr c0))))
abbrev zyd:=mkld [] [] [0,2,5,6] [0,2] [] (Zp 0 0 (Zp 2 2 (Zs 5 Zb (Zs 6 Zi (Zx 0 zag (Zx 2 zag Zz)))))) zal3 (.x 0 [0,2,5] [0,2] [] (Zp 0 0 (Zp 2 2 (Zs 5 Zb (Zx 0 zag (Zx 2 zag Zz))))))
def zsn {R:Type}:Lp Kd El R:=lp 6 zyd.sem l0
abbrev zaa9 {R:Type}:Sm R:=semP zl9 zlp (fun a=>qbc a.1 a.2.1)
def zaes {R:Type}:Nat→Sm R:=c0
abbrev zx7:=mkld [] [] [1,6,7,11,12,13] [] [] (Zs 1 Zi (Zs 6 Zi (Zs 7 Zi (Zs 11 (Zl .kMove) (Zs 12 Zi (Zs 13 Zi Zz)))))) zn0 (.x 0 [6,7] [] [] (Zs 6 Zi (Zs 7 Zi Zz)))
def zsg {R:Type}:Lp Kd El R:=lp 3 zx7.sem l0
abbrev zvu {R:Type}:Sm R:=semP zl9 za9 (fun a=>qah a.1 a.2.1)
def zaeb {R:Type}:Nat→Sm R:=c0
abbrev zxq:=mkld [] [] [1,5,9,10,11] [] [] (Zs 1 Zi (Zs 5 Zi (Zs 9 (Zl .kItem) (Zs 10 Zi (Zs 11 Zi Zz))))) znt (.x 0 [5] [] [] (Zs 5 Zi Zz))
def zr0 {R:Type}:Lp Kd El R:=lp 3 zxq.sem l0
abbrev zayu:ZC (Hold×Item×Unit):=Zc (Cod.agg zby) (Zc (Cod.cptr za3) Zn)
abbrev zabw {R:Type}:Sm R:=semP zayu zaw (fun a=>qcj a.1 a.2.1)
abbrev zwe:ZC ((List Hold)×((Unit)×(Item×Unit))×Unit):=Zc (Zl .kHold) (Zc (Cod.fnc 58 (Zn) (Zc (Cod.cptr za3) Zn)) Zn)
abbrev zaa5 {R:Type}:Sm R:=semP zwe za9 (fun a=>qb (fun g x0=>qcj x0 g.2.1) a.1 a.2.1)
def z0a {R:Type}:Nat→Sm R:=cl 58 zabw c0
abbrev znd:=mkld [] [] [0,1,7,8] [] [] (Zs 0 (Zl .kHold) (Zs 1 (Cod.fnc 58 (Zn) (Zc (Cod.cptr za3) Zn)) (Zs 7 Zi (Zs 8 Zi Zz)))) (zlh (fun g x0=>qcj x0 g.2.1)) (.xs 0 [] [] [] Zz (.r [4] [] [] (Zs 4 Zi Zz)))
def zkv {R:Type}:Lp Kd El R:=lp 2 znd.sem l0
abbrev zod {R:Type}:Sm R:=semP zwe zaw (fun a=>qb2 (fun g x0=>qcj x0 g.2.1) a.1 a.2.1)
abbrev zaxd {R:Type}:Sm R:=semP zmv za9 (fun a=>qem a.1 a.2.1)
abbrev zayl:ZC ((List Int)×Unit):=Zc (Zl .ki64) Zn
abbrev zav3 {R:Type}:Sm R:=semP zayl za9 (fun a=>qbm a.1)
def zae0 {R:Type}:Nat→Sm R:=c0
abbrev zye:=mkld [] [] [3,6,7,8] [] [] (Zs 3 Zi (Zs 6 (Zl .ki64) (Zs 7 Zi (Zs 8 Zi Zz)))) zal4 (.xs 0 [3] [] [] (Zs 3 Zi Zz) (.r [2] [] [] (Zs 2 Zi Zz)))
def zso {R:Type}:Lp Kd El R:=lp 3 zye.sem l0
abbrev zazd:ZC (Weed_candidate×Weed_candidate×Unit):=Zc (Cod.agg zb0) (Zc (Cod.agg zb0) Zn)
abbrev zaw9 {R:Type}:Sm R:=semP zazd za9 (fun a=>qeh a.1 a.2.1)
abbrev z3j:ZC ((List Weed_candidate)×((Unit)×(Unit))×Unit):=Zc (Zl .kWeed_candidate) (Zc (Cod.fnc 60 (Zn) (Zn)) Zn)
abbrev zana:ZD (List Weed_candidate):=(Zl .kWeed_candidate)
def zalf (a:(List Weed_candidate)×((Unit)×(Unit))×Unit):Option (List Weed_candidate):=qdi (fun g x0 x1=>qeh x0 x1) a.1 a.2.1
abbrev zawt {R:Type}:Sm R:=semP z3j zana zalf
abbrev za43:ZD ((List Weed_candidate)):=(Zl .kWeed_candidate)
abbrev zac0 {R:Type}:Sm R:=semP zwi za43 (fun a=>qi a.1 a.2.1 a.2.2.1)
def zaom {R:Type}:Nat→Sm R:=cl 11 zaa9 (cl 57 zod (cl 59 zawt c0))
abbrev z7r:=mkld [(7,7,Kd.kWeed_candidate)] [] [1,2,3,7,14,15,16] [3] [7] (Zs 1 Zi (Zs 2 Zi (Zp 3 3 (FC.arr 7 7 (Zs 14 (Zl .kItem) (Zs 15 Zi (Zs 16 Zi (Zx 3 zag (FC.own 7 Kd.kWeed_candidate false Zz))))))))) z2e (.x 0 [7] [] [7] (FC.arr 7 7 (FC.own 7 Kd.kWeed_candidate false Zz)))
def zy7 {R:Type}:Lp Kd El R:=lp 3 z7r.sem l0
abbrev zavy {R:Type}:Sm R:=semP zwi zzm (fun a=>qbg a.1 a.2.1 a.2.2.1)
def zaew {R:Type}:Nat→Sm R:=cl 27 zac0 c0
abbrev zya:=mkld [(7,7,Kd.ki64)] [] [7,13,14,15] [] [7] (FC.arr 7 7 (Zs 13 (Zl .kWeed_candidate) (Zs 14 Zi (Zs 15 Zi (FC.own 7 Kd.ki64 false Zz))))) zal0 (.x 0 [7] [] [7] (FC.arr 7 7 (FC.own 7 Kd.ki64 false Zz)))
def zsk {R:Type}:Lp Kd El R:=lp 3 zya.sem l0
abbrev za4i:ZC ((List Int)×(List Int)×Unit):=Zc (Zl .ki64) (Zc (Zl .ki64) Zn)
abbrev zanj {R:Type}:Sm R:=semP za4i zaw (fun a=>q9 a.1 a.2.1)
def zaoe {R:Type}:Nat→Sm R:=c0
abbrev z7f:=mkld [] [] [0,1,5] [] [] (Zs 0 (Zl .ki64) (Zs 1 (Zl .ki64) (Zs 5 Zi Zz))) z1z (.xs 0 [] [] [] Zz (.r [4] [] [] (Zs 4 Zb Zz)))
def zy4 {R:Type}:Lp Kd El R:=lp 4 z7f.sem l0
abbrev zabi {R:Type}:Sm R:=semP zajd zaw (fun a=>qc3 a.1 a.2.1)
abbrev zwg:ZC ((List Item)×((Unit)×(Int×Unit))×Unit):=Zc (Zl .kItem) (Zc (Cod.fnc 32 (Zn) (Zc (Cod.cptr (CC.one Zi)) Zn)) Zn)
abbrev zabq {R:Type}:Sm R:=semP zwg za9 (fun a=>qc (fun g x0=>qc3 x0 g.2.1) a.1 a.2.1)
def z0d {R:Type}:Nat→Sm R:=cl 32 zabi c0
abbrev zng:=mkld [] [] [0,1,7,8] [] [] (Zs 0 (Zl .kItem) (Zs 1 (Cod.fnc 32 (Zn) (Zc (Cod.cptr (CC.one Zi)) Zn)) (Zs 7 Zi (Zs 8 Zi Zz)))) (zpw (fun g x0=>qc3 x0 g.2.1)) (.xs 0 [] [] [] Zz (.r [4] [] [] (Zs 4 Zi Zz)))
def zky {R:Type}:Lp Kd El R:=lp 2 zng.sem l0
abbrev zabv {R:Type}:Sm R:=semP zwg zaw (fun a=>qci (fun g x0=>qc3 x0 g.2.1) a.1 a.2.1)
abbrev zaza:ZC (Item×Int×Unit):=Zc (Cod.agg za3) (Zc Zi Zn)
abbrev zawz {R:Type}:Sm R:=semP zaza zaw (fun a=>qdp a.1 a.2.1)
abbrev zacb {R:Type}:Sm R:=semP zajb zaw (fun a=>qdb a.1 a.2.1)
abbrev zwh:ZC ((List Item)×((Unit)×(Item×Unit))×Unit):=Zc (Zl .kItem) (Zc (Cod.fnc 118 (Zn) (Zc (Cod.cptr za3) Zn)) Zn)
abbrev zabr {R:Type}:Sm R:=semP zwh za9 (fun a=>qc (fun g x0=>qdb x0 g.2.1) a.1 a.2.1)
def z0e {R:Type}:Nat→Sm R:=cl 118 zacb c0
abbrev znh:=mkld [] [] [0,1,7,8] [] [] (Zs 0 (Zl .kItem) (Zs 1 (Cod.fnc 118 (Zn) (Zc (Cod.cptr za3) Zn)) (Zs 7 Zi (Zs 8 Zi Zz)))) (zpw (fun g x0=>qdb x0 g.2.1)) (.xs 0 [] [] [] Zz (.r [4] [] [] (Zs 4 Zi Zz)))
def zkz {R:Type}:Lp Kd El R:=lp 2 znh.sem l0
abbrev z2t {R:Type}:Sm R:=semP zwh zaw (fun a=>qci (fun g x0=>qdb x0 g.2.1) a.1 a.2.1)
abbrev zayy:ZC (Hold×Item×Bool×Unit):=Zc (Cod.agg zby) (Zc (Cod.cptr za3) (Zc (Cod.cptr (CC.one Zb)) Zn))
abbrev zabz {R:Type}:Sm R:=semP zayy zaw (fun a=>qcn a.1 a.2.1 a.2.2.1)
abbrev zwf:ZC ((List Hold)×((Unit)×(Item×Bool×Unit))×Unit):=Zc (Zl .kHold) (Zc (Cod.fnc 120 (Zn) (Zc (Cod.cptr za3) (Zc (Cod.cptr (CC.one Zb)) Zn))) Zn)
abbrev zaa6 {R:Type}:Sm R:=semP zwf za9 (fun a=>qb (fun g x0=>qcn x0 g.2.1 g.2.2.1) a.1 a.2.1)
def z0b {R:Type}:Nat→Sm R:=cl 120 zabz c0
abbrev zne:=mkld [] [] [0,1,7,8] [] [] (Zs 0 (Zl .kHold) (Zs 1 (Cod.fnc 120 (Zn) (Zc (Cod.cptr za3) (Zc (Cod.cptr (CC.one Zb)) Zn))) (Zs 7 Zi (Zs 8 Zi Zz)))) (zlh (fun g x0=>qcn x0 g.2.1 g.2.2.1)) (.xs 0 [] [] [] Zz (.r [4] [] [] (Zs 4 Zi Zz)))
def zkw {R:Type}:Lp Kd El R:=lp 2 zne.sem l0
abbrev z2r {R:Type}:Sm R:=semP zwf zaw (fun a=>qb2 (fun g x0=>qcn x0 g.2.1 g.2.2.1) a.1 a.2.1)
abbrev zavk {R:Type}:Sm R:=semP zan0 zaw (fun a=>qai a.1 a.2.1)
abbrev zaco {R:Type}:Sm R:=semP zl9 zvk (fun a=>qe5 a.1 a.2.1)
abbrev zan1:ZC (Circ×(List Int)×Unit):=Zc (Cod.agg zag) (Zc (Zl .ki64) Zn)
abbrev za3w:ZD (Circ×(List Int)×Int):=(Cod.tup3 (Zc (Cod.agg zag) (Zc (Zl .ki64) (Zc Zi Zn))))
abbrev zanm {R:Type}:Sm R:=semP zan1 za3w (fun a=>qg a.1 a.2.1)
def zaok {R:Type}:Nat→Sm R:=cl 31 zabv (cl 33 zaco c0)
abbrev z7n:=mkld [] [] [1,2,4,14,15,16] [2,4] [] (Zs 1 (Zl .ki64) (Zp 2 2 (Zp 4 4 (Zs 14 (Zl .ki64) (Zs 15 Zi (Zs 16 Zi (Zx 2 zag (Zx 4 zag Zz)))))))) z2c (.xs 0 [1,2,4] [2,4] [] (Zs 1 (Zl .ki64) (Zp 2 2 (Zp 4 4 (Zx 2 zag (Zx 4 zag Zz))))) (.r [5,6] [4] [4] (Zp 4 4 (Zs 5 (Zl .ki64) (Zs 6 Zi (Zx 4 zag Zz))))))
abbrev z7o:=mkld [(9,9,Kd.ki64)] [] [2,4,9,27,28,29] [2,4] [9] (Zp 2 2 (Zp 4 4 (FC.arr 9 9 (Zs 27 (Zl .ki64) (Zs 28 Zi (Zs 29 Zi (Zx 2 zag (Zx 4 zag (FC.own 9 Kd.ki64 false Zz))))))))) zva (.x 2 [2,4,9] [2,4] [9] (Zp 2 2 (Zp 4 4 (FC.arr 9 9 (Zx 2 zag (Zx 4 zag (FC.own 9 Kd.ki64 false Zz)))))))
def zpl {R:Type}:Lp Kd El R:=lp 9 z7o.sem (lp 2 z7n.sem l0)
abbrev zaba {R:Type}:Sm R:=semP z29 zzm (fun a=>qbd a.1 a.2.1 a.2.2.1 a.2.2.2.1)
def zaet {R:Type}:Nat→Sm R:=cl 13 zvu (cl 27 zac0 c0)
abbrev zx8:=mkld [(9,9,Kd.ki64)] [] [3,4,9,10,17,18,19] [4] [9,13] (Zs 3 Zi (Zp 4 4 (FC.arr 9 9 (FC.arr 10 13 (Zs 17 (Zl .kWeed_candidate) (Zs 18 Zi (Zs 19 Zi (Zx 4 zag (FC.own 9 Kd.ki64 false (FC.map 13 Kd.kMapI Zz)))))))))) zn1 (.x 0 [9] [] [9] (FC.arr 9 9 (FC.own 9 Kd.ki64 false Zz)))
def zsh {R:Type}:Lp Kd El R:=lp 4 zx8.sem l0
abbrev zacc {R:Type}:Sm R:=semP z3b zaw (fun a=>qdc)
abbrev zabe {R:Type}:Sm R:=semP zl9 za9 (fun a=>qbr a.1 a.2.1)
def zae4 {R:Type}:Nat→Sm R:=c0
abbrev zyi:=mkld [] [] [1,2,5] [2] [] (Zs 1 Zi (Zp 2 2 (Zs 5 Zi (Zx 2 zag Zz)))) zal7 (.xs 0 [] [] [] Zz (.r [4] [] [] (Zs 4 Zi Zz)))
def zss {R:Type}:Lp Kd El R:=lp 2 zyi.sem l0
abbrev zayj:ZC (Circ×Int×Int×Int×Int×Unit):=Zc (Cod.agg zag) (Zc Zi (Zc Zi (Zc Zi (Zc Zi Zn))))
abbrev zabb {R:Type}:Sm R:=semP zayj zvk (fun a=>qbe a.1 a.2.1 a.2.2.1 a.2.2.2.1 a.2.2.2.2.1)
def zaeu {R:Type}:Nat→Sm R:=cl 73 zoe (cl 124 zvy c0)
abbrev zrn:=mkld [(16,16,Kd.kItem)] [] [5,10,12,13,14,16,17] [5,10,13,14] [16] (Zp 5 5 (Zp 10 10 (Zs 12 Zi (Zp 13 13 (Zp 14 14 (FC.arr 16 16 (Zs 17 Zi (Zx 5 zag (Zx 10 zag (Zx 13 zf3 (Zx 14 za2 (FC.own 16 Kd.kItem false Zz)))))))))))) zgz (.x 0 [5,10,13,16] [5,10,13] [16] (Zp 5 5 (Zp 10 10 (Zp 13 13 (FC.arr 16 16 (Zx 5 zag (Zx 10 zag (Zx 13 zf3 (FC.own 16 Kd.kItem false Zz)))))))))
def zsi {R:Type}:Lp Kd El R:=lp 10 zrn.sem l0
abbrev zacy {R:Type}:Sm R:=semP zjk zam8 (fun a=>qfa a.1 a.2.1)
abbrev zaap {R:Type}:Sm R:=semP zl9 zvk (fun a=>qad a.1 a.2.1)
def zad7 {R:Type}:Nat→Sm R:=cl 73 zoe (cl 74 zabb (cl 75 zacy c0))
abbrev zxl:=mkld [] [] [1,2,4,6,7,8,9] [2,4,7] [] (Zs 1 Zi (Zp 2 2 (Zp 4 4 (Zs 6 Zi (Zp 7 7 (Zs 8 Zb (Zs 9 Zi (Zx 2 zag (Zx 4 zag (Zx 7 za3 Zz)))))))))) zlc (.x 0 [1,2,4,7,8] [2,4,7] [] (Zs 1 Zi (Zp 2 2 (Zp 4 4 (Zp 7 7 (Zs 8 Zb (Zx 2 zag (Zx 4 zag (Zx 7 za3 Zz)))))))))
abbrev zrj:=mkld [] [] [1,2,4,7,8,10] [2,4,7] [] (Zs 1 Zi (Zp 2 2 (Zp 4 4 (Zp 7 7 (Zs 8 Zb (Zs 10 Zi (Zx 2 zag (Zx 4 zag (Zx 7 za3 Zz))))))))) zid (.xs 2 [1,2,4,7] [2,4,7] [] (Zs 1 Zi (Zp 2 2 (Zp 4 4 (Zp 7 7 (Zx 2 zag (Zx 4 zag (Zx 7 za3 Zz))))))) (.r [5] [4] [4] (Zp 4 4 (Zs 5 Zi (Zx 4 zag Zz)))))
def zkn {R:Type}:Lp Kd El R:=lp 11 zrj.sem (lp 7 zxl.sem l0)
abbrev zavj {R:Type}:Sm R:=semP zan1 za3w (fun a=>qag a.1 a.2.1)
def zaea {R:Type}:Nat→Sm R:=cl 30 zabe (cl 34 zaap c0)
abbrev zxo:=mkld [] [] [1,2,4,7] [2,4] [] (Zs 1 (Zl .ki64) (Zp 2 2 (Zp 4 4 (Zs 7 Zi (Zx 2 zag (Zx 4 zag Zz)))))) zalm (.xs 0 [1,2,4] [2,4] [] (Zs 1 (Zl .ki64) (Zp 2 2 (Zp 4 4 (Zx 2 zag (Zx 4 zag Zz))))) (.r [5,6] [4] [4] (Zp 4 4 (Zs 5 (Zl .ki64) (Zs 6 Zi (Zx 4 zag Zz))))))
abbrev zxp:=mkld [(8,8,Kd.ki64)] [] [1,2,4,8,9] [2,4] [8] (Zs 1 (Zl .ki64) (Zp 2 2 (Zp 4 4 (FC.arr 8 8 (Zs 9 Zi (Zx 2 zag (Zx 4 zag (FC.own 8 Kd.ki64 false Zz)))))))) zaln (.x 2 [2,4,8] [2,4] [8] (Zp 2 2 (Zp 4 4 (FC.arr 8 8 (Zx 2 zag (Zx 4 zag (FC.own 8 Kd.ki64 false Zz)))))))
def zkq {R:Type}:Lp Kd El R:=lp 8 zxp.sem (lp 2 zxo.sem l0)
abbrev zazk:ZC (Circ×Circ×Unit):=Zc (Cod.agg zag) (Zc (Cod.agg zag) Zn)
abbrev zant {R:Type}:Sm R:=semP zazk zaw (fun a=>qw a.1 a.2.1)
def zaoz {R:Type}:Nat→Sm R:=c0
abbrev z8e:=mkld [] [] [2,3,5,6] [2,3] [] (Zp 2 2 (Zp 3 3 (Zs 5 Zi (Zs 6 Zi (Zx 2 zag (Zx 3 zag Zz)))))) za3k (.xs 2 [2,3,5] [2,3] [] (Zp 2 2 (Zp 3 3 (Zs 5 Zi (Zx 2 zag (Zx 3 zag Zz))))) (.r [4] [] [] (Zs 4 Zb Zz)))
abbrev z8d:=mkld [] [] [2,3,5] [2,3] [] (Zp 2 2 (Zp 3 3 (Zs 5 Zi (Zx 2 zag (Zx 3 zag Zz))))) za3j (.xs 0 [] [] [] Zz (.r [4] [] [] (Zs 4 Zb Zz)))
def zpo {R:Type}:Lp Kd El R:=lp 2 z8d.sem (lp 7 z8e.sem l0)
abbrev za32 {R:Type}:Sm R:=semP zazk zaw (fun a=>qd a.1 a.2.1)
def zaoi {R:Type}:Nat→Sm R:=cl 35 zant c0
abbrev z7k:=mkld [] [] [2,3,5] [2,3] [] (Zp 2 2 (Zp 3 3 (Zs 5 Zi (Zx 2 zag (Zx 3 zag Zz))))) za2w (.xs 0 [2,3] [2,3] [] (Zp 2 2 (Zp 3 3 (Zx 2 zag (Zx 3 zag Zz)))) (.r [4] [] [] (Zs 4 Zb Zz)))
abbrev zyl:=mkld [] [] [2,3,6] [2,3] [] (Zp 2 2 (Zp 3 3 (Zs 6 Zi (Zx 2 zag (Zx 3 zag Zz))))) zame (.xs 2 [2,3] [2,3] [] (Zp 2 2 (Zp 3 3 (Zx 2 zag (Zx 3 zag Zz)))) (.r [4] [] [] (Zs 4 Zb Zz)))
abbrev zym:=mkld [] [] [2,3,7] [2,3] [] (Zp 2 2 (Zp 3 3 (Zs 7 Zi (Zx 2 zag (Zx 3 zag Zz))))) zamf (.xs 4 [2,3] [2,3] [] (Zp 2 2 (Zp 3 3 (Zx 2 zag (Zx 3 zag Zz)))) (.r [4] [] [] (Zs 4 Zb Zz)))
abbrev zyn:=mkld [] [] [2,3,8] [2,3] [] (Zp 2 2 (Zp 3 3 (Zs 8 Zi (Zx 2 zag (Zx 3 zag Zz))))) zamg (.xs 6 [2,3] [2,3] [] (Zp 2 2 (Zp 3 3 (Zx 2 zag (Zx 3 zag Zz)))) (.r [4] [] [] (Zs 4 Zb Zz)))
abbrev zyo:=mkld [] [] [2,3,9] [2,3] [] (Zp 2 2 (Zp 3 3 (Zs 9 Zi (Zx 2 zag (Zx 3 zag Zz))))) zamh (.xs 8 [2,3] [2,3] [] (Zp 2 2 (Zp 3 3 (Zx 2 zag (Zx 3 zag Zz)))) (.r [4] [] [] (Zs 4 Zb Zz)))
abbrev zyp:=mkld [] [] [2,3,10] [2,3] [] (Zp 2 2 (Zp 3 3 (Zs 10 Zi (Zx 2 zag (Zx 3 zag Zz))))) zami (.xs 10 [2,3] [2,3] [] (Zp 2 2 (Zp 3 3 (Zx 2 zag (Zx 3 zag Zz)))) (.r [4] [] [] (Zs 4 Zb Zz)))
abbrev zyq:=mkld [] [] [2,3,11] [2,3] [] (Zp 2 2 (Zp 3 3 (Zs 11 Zi (Zx 2 zag (Zx 3 zag Zz))))) zamj (.xs 12 [2,3] [2,3] [] (Zp 2 2 (Zp 3 3 (Zx 2 zag (Zx 3 zag Zz)))) (.r [4] [] [] (Zs 4 Zb Zz)))
def zey {R:Type}:Lp Kd El R:=lp 36 zyq.sem (lp 31 zyp.sem (lp 26 zyo.sem (lp 21 zyn.sem (lp 16 zym.sem (lp 11 zyl.sem (lp 6 z7k.sem l0))))))
abbrev zay7:ZC (Circ×(List Int)×Unit):=zan1
abbrev za3t:ZD (Bool):=zaw
def za1q (a:Circ×(List Int)×Unit):Option (Bool):=qdj a.1 a.2.1
abbrev zawu {R:Type}:Sm R:=semP zay7 za3t za1q
abbrev zazl:ZC (Circ×Int×Int×Int×Unit):=z29
abbrev za44:ZD (Bool):=zaw
def za1r (a:Circ×Int×Int×Int×Unit):Option (Bool):=qz a.1 a.2.1 a.2.2.1 a.2.2.2.1
abbrev za4a {R:Type}:Sm R:=semP zazl za44 za1r
def zao2 {R:Type}:Nat→Sm R:=cl 9 zact (cl 10 zacc (cl 13 zvu (cl 15 zanj (cl 18 zaba (cl 20 zanm (cl 23 zacf c0))))))
abbrev z8h:=mkld [(10,10,Kd.ki64)] [] [4,9,10,11] [4] [10] (Zp 4 4 (Zs 9 (Zl .ki64) (FC.arr 10 10 (Zs 11 Zi (Zx 4 zag (FC.own 10 Kd.ki64 false Zz)))))) z2l (.x 0 [4,9,10] [4] [10] (Zp 4 4 (Zs 9 (Zl .ki64) (FC.arr 10 10 (Zx 4 zag (FC.own 10 Kd.ki64 false Zz))))))
abbrev zyz:=mkld [] [] [4,12,15,18] [4,12,15] [] (Zp 4 4 (Zp 12 12 (Zp 15 15 (Zs 18 Zi (Zx 4 zag (Zx 12 zag (Zx 15 zag Zz))))))) zlo (.xs 2 [] [] [] Zz (.r [8] [] [] (Zs 8 Zb Zz)))
def zpq {R:Type}:Lp Kd El R:=lp 14 zyz.sem (lp 6 z8h.sem l0)
end Go.Proofs.YtpaidiaknfhclaaGreatDoor
namespace Go.Proofs.YtpaidiaknfhclaaGreatDoor
set_option maxRecDepth 100000
open Ev
open Go (IntKind)
open Go
theorem zazz:∀k,CCOk (ccK k)
 |.kItem=>zqk
 |.kPatron=>zjv
 |.kLoan=>zql
 |.kHold=>zqj
 |.kCharge=>zju
 |.kRule=>zqo
 |.ki64=>CCOk.one (zak.int _)
 |.kMove=>zqn
 |.kbool=>CCOk.one zak.bool
 |.kWeed_candidate=>zeg
 |.kMapI=>zqm
 |.ku8=>CCOk.one (zak.int _)
 |.kUtf8_acceptRange=>zds
 |.ku16=>CCOk.one (zak.int _)
theorem sgok:SgOk sg:=zax0 (cc:=ccK) (fun _=>rfl) (fun _=>rfl) zazz (by intro k x;cases k<;>rfl) (by intro k x;cases k<;>rfl) (by intro k;cases k<;>decide)
theorem eok:∀t,za0r t=true→EqOk Tryz.prog t:=zew (by kernel_rfl) (zew (by kernel_rfl) (zew (by kernel_rfl) (zew (by kernel_rfl) (zew (by kernel_rfl) (zew (by kernel_rfl) (zew (by kernel_rfl) (zew (by kernel_rfl) (zasx))))))))
theorem mok:∀t M,za11 t=some M→MpOk Tryz.prog sg t M:=zah8 (zaia (kt:=3) (et:=3) (by kernel_rfl) (by kernel_rfl) (by kernel_rfl) (fun _ _=>rfl) (fun _ _=>rfl) (fun _=>rfl)) (zaup)
theorem good:GoodP Tryz.prog sg:=⟨prOk (by kernel_rfl) (by kernel_rfl),sgok,eok,mok⟩
end Go.Proofs.YtpaidiaknfhclaaGreatDoor
namespace Go.Proofs.YtpaidiaknfhclaaGreatDoor.Ev
open Go
section
variable {P:Program} {w:World}
theorem zbr {dT sT ty elem:TypeId} {i0:TypeInfo} {g o dLen dCap sLen sCap z:Nat} {a:Addr} {L cs:List Value} {t:TypeId} (hu:P.underlying dT=some (.slice elem)) (hi:P.info? elem=some i0) (hz:i0.size=z)
 (hg:w.heap[g]?=some (.cells L.toArray t (0,0))) (hn:cs.length=Nat.min sLen dLen*z) (hsrc:∀j v,cs[j]?=some v→w.cell? (a.add j)=some v) (hfit:o+cs.length≤L.length) (h1:∀v∈cs,v.oneCell'=true) :
 (Builtin.copy_ #[dT,sT] ty #[.slice (some ⟨g,o,none⟩) dLen dCap,.slice (some a) sLen sCap]).run P w=.ok (goInt (Nat.min sLen dLen)) (w.setRow g (Go.splice L o cs).toArray):=by
 have hl:=run_firstCells_some (P:=P) w z (Nat.min sLen dLen) a sLen sCap cs hn hsrc
 have hst:=run_storeCells_at P g o t cs 0 L.toArray w hg (by simpa using hfit) h1
 simp only[Nat.add_zero]at hst
 subst hz
 simp[Builtin.copy_,run_underlying hu,Builtin.lenOf,sizeOf,typeInfo,hi,hl,hst,Go.splice]
theorem zl7 {ops:Array Oper} {rest:List Oper} {o:Oper} {a:Act} {Q:Exit→Act→World→Prop} (hgd:o.guard=none) (d s:Operand) (t t':TypeId)
 (ho:o.op=.call {callee:=.builtin .copy,args:=#[d,s],argTypes:=#[t,t']}) (v u:Value) (hd:a.eval d=v) (hs:a.eval s=u) {v':Value} {w':World}
 (hr:(Builtin.copy_ #[t,t'] o.type #[v,u]).run P w=.ok v' w') (h:wpList P ops Q rest (a.put o.dst v') w'):wpList P ops Q (o::rest) a w:=
 wpList_plain hgd fun _ hK=>by
  unfold Oper.wp execOp
  simp only[ho,resolve,invoke,builtin,Sem.run_bind,Sem.run_pure,Result.andThen_ok,List.map_toArray,List.map_cons,List.map_nil,hd,hs,hr]
  exact hK _ _ h
theorem zdm {ops:Array Oper} {o:Oper} {a:Act} {K:Act→World→Prop} {Q:Exit→Act→World→Prop} {E:Prop}
 (hg:o.guard=none) (d x:Operand) (dT sT:TypeId) (hop:o.op=Op.call {callee:=Callee.builtin Builtin.copy,args:=#[d,x],argTypes:=#[dT,sT]})
 (v u:Value) (hd:a.eval d=v) (hx:a.eval x=u) {v':Value} {w':World} (hr:(Builtin.copy_ #[dT,sT] o.type #[v,u]).run P w=.ok v' w') (hK:K (a.put o.dst v') w') :
 if Region.wanted o (yielded ops a.tmps)=true then Oper.wp P o a w K Q else E:=by
 have hw:Region.wanted o (yielded ops a.tmps)=true:=by simp[Region.wanted,hg]
 rw[if_pos hw]
 unfold Oper.wp
 simp[execOp,hop,resolve,invoke,builtin,hd,hx,hr,Result.andThen]
 exact hK
theorem zof {ops:Array Oper} {o:Oper} {a:Act} {K:Act→World→Prop} {Q:Exit→Act→World→Prop} {E:Prop}
 (hg:o.guard=none) (d x:Operand) (dT sT:TypeId) (hop:o.op=Op.call {callee:=Callee.builtin Builtin.append,args:=#[d,x],argTypes:=#[dT,sT]})
 (v u:Value) (hd:a.eval d=v) (hx:a.eval x=u) {v':Value} {w':World} (hr:(Builtin.append_ #[dT,sT] o.type #[v,u]).run P w=.ok v' w') (hK:K (a.put o.dst v') w') :
 if Region.wanted o (yielded ops a.tmps)=true then Oper.wp P o a w K Q else E:=by
 have hw:Region.wanted o (yielded ops a.tmps)=true:=by simp[Region.wanted,hg]
 rw[if_pos hw]
 unfold Oper.wp
 simp[execOp,hop,resolve,invoke,builtin,hd,hx,hr,Result.andThen]
 exact hK
theorem zbs {ops:Array Oper} {rest:List Oper} {o:Oper} {a:Act} {Q:Exit→Act→World→Prop} (hgd:o.guard=none) (s x:Operand) (t tn:TypeId)
 (ho:o.op=.call {callee:=.builtin .append,args:=#[s,x],argTypes:=#[t,tn]}) (vs vx:Value) (hs:a.eval s=vs) (hx:a.eval x=vx)
 {v':Value} {w':World} (hr:(Builtin.append_ #[t,tn] o.type #[vs,vx]).run P w=.ok v' w') (h:wpList P ops Q rest (a.put o.dst v') w'):wpList P ops Q (o::rest) a w:=
 Lib.wpList_append_run w hgd s x t tn ho vs vx hs hx v' w' hr h
theorem zls {t e ty:TypeId} {i0:TypeInfo} {z0:Value} {b o n c:Nat} {L:List Value} {tt:TypeId} (ht:P.underlying t=some (.slice e)) (hi:P.info? e=some i0) (hz:i0.zero=some z0)
 (hn:0<n) (hb:w.heap[b]?=some (.cells L.toArray tt (0,0))) (hfit:o+n*z0.cells.size≤L.length) (h1:∀v∈z0.cells,v.oneCell'=true) :
 (Builtin.clear_ #[t] ty #[.slice (some ⟨b,o,none⟩) n c]).run P w=.ok (.tuple #[]) (w.setRow b (Go.splice L o (Builtin.zeroCells z0.cells n).toList).toArray):=by
 have hl:(Builtin.zeroCells z0.cells n).toList.length=n*z0.cells.size:=by rw[Array.length_toList,Go.size_zeroCells]
 have hst:=run_storeCells_at P b o tt (Builtin.zeroCells z0.cells n).toList 0 L.toArray w hb (by rw[hl];simpa using hfit) (fun v hv=>by
  simp only[Builtin.zeroCells,Array.toList_map,List.mem_map,Array.toList_range,List.mem_range]at hv
  obtain ⟨q,hq,rfl⟩:=hv
  have hp:0<z0.cells.size:=Nat.pos_of_ne_zero (fun h=>by rw[h]at hq;omega)
  rw[getElem!_pos z0.cells _ (Nat.mod_lt _ hp)]
  exact h1 _ (Array.getElem_mem _))
 simp only[Nat.add_zero]at hst
 obtain ⟨m,rfl⟩:∃m,n=m+1:=⟨n-1,by omega⟩
 simp only[List.append_assoc]at hst
 simp[Builtin.clear_,run_underlying ht,sizeOf,typeInfo,zeroValue,hi,hz,hst,Go.splice]
theorem zd4 {tS tR e:TypeId} {i0:TypeInfo} (ht:P.underlying tS=some (.slice e)) (hi:P.info? e=some i0) {a b:Addr} {la ca lb cb:Nat} (hne:a.block≠b.block)
 {va vb:Array Value} {ta tb:TypeId} {fa:Nat×Nat} (ha:w.heap[a.block]?=some (.cells va ta fa)) (ha0:0<va.size) (hb:w.heap[b.block]?=some (.cells vb tb (0,0))) (hb0:0<vb.size) :
 (Extern.SlicesOverlaps.overlaps #[tS,tS] #[tR] #[.slice (some a) la ca,.slice (some b) lb cb]).run P w=.ok (.bool false) w:=by
 have hnb:(a.block != b.block)=true:=by simpa using hne
 have hnb':(a.block==b.block)=false:=by simpa using hne
 have hsa:w.shape? a.block=some (ta,va.size):=by simp[World.shape?,ha]
 have hsb:w.shape? b.block=some (tb,vb.size):=by simp[World.shape?,hb]
 have hfb:w.frozen? b=false:=by simp[World.frozen?,hb]
 have hfb':w.frozen? {block:=b.block,off:=vb.size}=false:=by simp[World.frozen?,hb]
 change Sem.run P (α:=Value) (do
  let some t:=(#[tS,tS]:Array TypeId)[0]?|stuck "slices.overlaps: no parameter types"
  let .slice elem ←underlying t|stuck "slices.overlaps: slice type expected"
  let size ←sizeOf elem
  match (some a:Option Addr),(some b:Option Addr) with
  |some a,some b=>
   if la=0∨lb=0∨size=0 then pure (Value.bool false)
   else if a.block != b.block&&(←frozen a)&&(←frozen b) then unsupported .addressObserved
   else do
    if a.block != b.block then do
     noView a;noView b
     if ←mayBeOne a b then return Value.bool ((←choose (.extern "sameAddr.stringBytes" 2))==1)
    pure (Value.bool (a.block==b.block&&a.off<b.off+lb*size&&b.off<a.off+la*size))
  |_,_=>pure (Value.bool false)) w=_
 have hz:(Go.sizeOf e).run P w=.ok i0.size w:=by simp[sizeOf,typeInfo,hi]
 by_cases h0:la=0∨lb=0∨i0.size=0
 ·simp[run_underlying ht,hz,h0]
 ·obtain ⟨ka,hka⟩:∃k,va.size=k+1:=⟨va.size-1,by omega⟩
  obtain ⟨kb,hkb⟩:∃k,vb.size=k+1:=⟨vb.size-1,by omega⟩
  rw[hka]at hsa
  rw[hkb]at hsb hfb'
  by_cases hfa:w.frozen? a=true
  ·simp[run_underlying ht,hz,h0,hnb,hnb',frozen,noView,viewAt,mayBeOne,stringish,shape,Sem.run,hsa,hsb,hfa,hfb,hfb']
  ·have hfa:w.frozen? a=false:=by simpa using hfa
   by_cases hfe:w.frozen? {block:=a.block,off:=ka+1}=true
   ·simp[run_underlying ht,hz,h0,hnb,hnb',frozen,noView,viewAt,mayBeOne,stringish,shape,Sem.run,hsa,hsb,hfa,hfb,hfb',hfe]
   ·have hfe:w.frozen? {block:=a.block,off:=ka+1}=false:=by simpa using hfe
    simp[run_underlying ht,hz,h0,hnb,hnb',frozen,noView,viewAt,mayBeOne,stringish,shape,Sem.run,hsa,hsb,hfa,hfb,hfb',hfe]
end
end Go.Proofs.YtpaidiaknfhclaaGreatDoor.Ev
