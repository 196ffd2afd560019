/- WeedFewer: a part of the proof of the given statement, which is proved without conditions. -/
import Derived.Test.YtpaidiaknfhclaaGreatDoorF3
import Derived.KernelRfl
import Derived.Test.YtpaidiaknfhclaaGreatDoorProg
import Derived.Shelf.RegionOpenPlain
import Derived.WalkKit
import Derived.Lib.Walk
import Derived.Lib.AppendZerosOnto
import Derived.Lib.AppendZeros
import Derived.Laws.Externs
import Derived.Laws.CopyOwn
import Derived.Deep.RegionLaw
set_option linter.all false
namespace Go.Proofs.YtpaidiaknfhclaaGreatDoor
set_option maxRecDepth 100000
open Ev
open Go (IntKind)
def zxz:(Int×Circ×Unit)→Option ((Int×Circ×Unit)⊕((Circ×Unit)⊕(Bool×Unit))):=fun (i,c,_)=>
 bif decide (i<(c.Items.length:Int)) then match getI c.Items i with|some x =>bif decide (300<(x.Call.length:Int)) then some (.inr (.inr (false,()))) else some (.inl (wr .i64 (i+1),c,()))|none =>none else some (.inr (.inl (c,())))
def zx0:(Int×Circ×Unit)→Option ((Int×Circ×Unit)⊕((Circ×Unit)⊕(Bool×Unit))):=fun (i,c,_)=>
 bif decide (i<(c.Patrons.length:Int)) then match getI c.Patrons i with|some x =>bif decide (300<(x.Name.length:Int)) then some (.inr (.inr (false,()))) else some (.inl (wr .i64 (i+1),c,()))|none =>none else some (.inr (.inl (c,())))
def zhd:(Int×Circ×Unit)→Option ((Int×Circ×Unit)⊕((Unit)⊕(Bool×Unit))):=fun (i,c,_)=>
 bif decide (i<4) then let k (v:Int) (v8:List Int):Option ((Int×Circ×Unit)⊕((Unit)⊕(Bool×Unit))):=bif decide (20<(v8.length:Int)) then some (.inr (.inr (false,()))) else some (.inl (wr .i64 (i+1),c,()));bif i==0 then k c.Cals.x0.Week c.Cals.x0.Closed else bif i==1 then k c.Cals.x1.Week c.Cals.x1.Closed else bif i==2 then k c.Cals.x2.Week c.Cals.x2.Closed else bif i==3 then k c.Cals.x3.Week c.Cals.x3.Closed else none else some (.inr (.inl (())))
def qa (c:Circ):Option Bool:=
 let k16 (v:Bool):Option Bool:=let k15 (v1:Bool):Option Bool:=let k14 (v2:Bool):Option Bool:=let k13 (v3:Bool):Option Bool:=let k12 (v4:Bool):Option Bool:=let k (v5:Bool):Option Bool:=bif v5 then some false else match zah zxz (0,c,()) with|some (.inl (c6,_)) =>(match zah zx0 (0,c6,()) with|some (.inl (c7,_)) =>(match zah zhd (0,c7,()) with|some (.inl (_)) =>some true|some (.inr (v9,_)) =>some v9|none =>none)|some (.inr (v10,_)) =>some v10|none =>none)|some (.inr (v11,_)) =>some v11|none =>none;bif v4 then k true else k (decide (200<(c.Moves.length:Int)));bif v3 then k12 true else k12 (decide (10<(c.Rules.length:Int)));bif v2 then k13 true else k13 (decide (30<(c.Charges.length:Int)));bif v1 then k14 true else k14 (decide (12<(c.Loans.length:Int)));bif v then k15 true else k15 (decide (12<(c.Holds.length:Int)));bif decide (10<(c.Items.length:Int)) then k16 true else k16 (decide (8<(c.Patrons.length:Int)))
def qbm (s:List UInt8) (i:Int):Option (Int×Int):=
 match getI s i with|some b =>let k35 (v:Bool):Option (Int×Int):=bif v then some (wr .i64 (b.toNat:Int),1) else let k34 (v1:Bool):Option (Int×Int):=let k33 (v2:Bool):Option (Int×Int):=let k32 (v4:Bool):Option (Int×Int):=let k31 (v6:Bool):Option (Int×Int):=let k (v8:Int) (v9:Int):Option (Int×Int):=some (v8,v9);bif v6 then match getI s (wr .i64 (i+1)) with|some b7 =>bif decide (160≤wr .i64 ((wr .i64 ((wr .i64 ((wr .i64 ((wr .i64 (b.toNat:Int))-192))*64))+(wr .i64 (b7.toNat:Int))))-128)) then k (wr .i64 ((wr .i64 ((wr .i64 ((wr .i64 ((wr .i64 (b.toNat:Int))-192))*64))+(wr .i64 (b7.toNat:Int))))-128)) 2 else k 0 0|none =>none else let k30 (v10:Bool):Option (Int×Int):=let k29 (v11:Bool):Option (Int×Int):=let k28 (v13:Bool):Option (Int×Int):=let k27 (v15:Bool):Option (Int×Int):=let k26 (v17:Bool):Option (Int×Int):=let k25 (v19:Bool):Option (Int×Int):=bif v19 then match getI s (wr .i64 (i+1)) with|some b20 =>(match getI s (wr .i64 (i+2)) with|some b21 =>let k24 (v23:Bool):Option (Int×Int):=bif v23 then some (wr .i64 ((wr .i64 ((wr .i64 ((wr .i64 ((wr .i64 ((wr .i64 (b.toNat:Int))-224))*4096))+(wr .i64 ((wr .i64 ((wr .i64 (b20.toNat:Int))-128))*64))))+(wr .i64 (b21.toNat:Int))))-128),3) else some (0,0);bif decide (2048≤wr .i64 ((wr .i64 ((wr .i64 ((wr .i64 ((wr .i64 ((wr .i64 (b.toNat:Int))-224))*4096))+(wr .i64 ((wr .i64 ((wr .i64 (b20.toNat:Int))-128))*64))))+(wr .i64 (b21.toNat:Int))))-128)) then bif decide (wr .i64 ((wr .i64 ((wr .i64 ((wr .i64 ((wr .i64 ((wr .i64 (b.toNat:Int))-224))*4096))+(wr .i64 ((wr .i64 ((wr .i64 (b20.toNat:Int))-128))*64))))+(wr .i64 (b21.toNat:Int))))-128)<55296) then k24 true else k24 (decide (57343<wr .i64 ((wr .i64 ((wr .i64 ((wr .i64 ((wr .i64 ((wr .i64 (b.toNat:Int))-224))*4096))+(wr .i64 ((wr .i64 ((wr .i64 (b20.toNat:Int))-128))*64))))+(wr .i64 (b21.toNat:Int))))-128))) else k24 false|none =>none)|none =>none else some (0,0);bif v17 then match getI s (wr .i64 (i+2)) with|some b18 =>k25 (decide ((b18.toNat:Int)<192))|none =>none else k25 false;bif v15 then match getI s (wr .i64 (i+2)) with|some b16 =>k26 (decide (128≤(b16.toNat:Int)))|none =>none else k26 false;bif v13 then match getI s (wr .i64 (i+1)) with|some b14 =>k27 (decide ((b14.toNat:Int)<192))|none =>none else k27 false;bif v11 then match getI s (wr .i64 (i+1)) with|some b12 =>k28 (decide (128≤(b12.toNat:Int)))|none =>none else k28 false;bif v10 then k29 (decide (wr .i64 (i+2)<(s.length:Int))) else k29 false;bif decide (224≤wr .i64 (b.toNat:Int)) then k30 (decide (wr .i64 (b.toNat:Int)<240)) else k30 false;bif v4 then match getI s (wr .i64 (i+1)) with|some b5 =>k31 (decide ((b5.toNat:Int)<192))|none =>none else k31 false;bif v2 then match getI s (wr .i64 (i+1)) with|some b3 =>k32 (decide (128≤(b3.toNat:Int)))|none =>none else k32 false;bif v1 then k33 (decide (wr .i64 (i+1)<(s.length:Int))) else k33 false;bif decide (194≤wr .i64 (b.toNat:Int)) then k34 (decide (wr .i64 (b.toNat:Int)<224)) else k34 false;bif decide (32≤wr .i64 (b.toNat:Int)) then k35 (decide (wr .i64 (b.toNat:Int)<127)) else k35 false|none =>none
def zlf:((List UInt8)×Int×Unit)→Option (((List UInt8)×Int×Unit)⊕((Unit)⊕(Bool×Unit))):=fun (s,i,_)=>
 bif decide (i<(s.length:Int)) then match qbm s i with|some (r1,r2) =>bif r2==0 then some (.inr (.inr (false,()))) else some (.inl (s,wr .i64 (i+r2),()))|none =>none else some (.inr (.inl (())))
def qae (s:List UInt8):Option Bool:=
 match zah zlf (s,0,()) with|some (.inl (_)) =>some true|some (.inr (v,_)) =>some v|none =>none
def qe (s:List UInt8) (i:Int):Option Int:=
 match qbm s i with|some (r1,r2) =>some (if r2<1 then 1 else r2)|none =>none
def qag (c:Int):Option Bool:=
 let k (v:Bool):Option Bool:=some v;bif c==32 then k true else k (c==160)
def zln:((List UInt8)×(List UInt8)×Bool×Int×Unit)→Option (((List UInt8)×(List UInt8)×Bool×Int×Unit)⊕(((List UInt8)×Unit))):=fun (s,vout,gap,i,_)=>
 bif decide (i<(s.length:Int)) then match qbm s i with|some (r1,r2) =>(match qe s i with|some r4 =>(match qag r1 with|some r6 =>let k11 (vout9:List UInt8) (gap10:Bool):Option (((List UInt8)×(List UInt8)×Bool×Int×Unit)⊕(((List UInt8)×Unit))):=some (.inl (s,vout9,gap10,wr .i64 (i+r4),()));bif r6 then k11 vout true else let k8 (v:Bool):Option (((List UInt8)×(List UInt8)×Bool×Int×Unit)⊕(((List UInt8)×Unit))):=let k (vout7:List UInt8):Option (((List UInt8)×(List UInt8)×Bool×Int×Unit)⊕(((List UInt8)×Unit))):=bif decide (0≤(i:Int))&&(decide ((i:Int)≤wr .i64 (i+r4))&&decide (wr .i64 (i+r4)≤(s.length:Int))) then bif decide (vout7.length+((s.take (wr .i64 (i+r4)).toNat).drop (i:Int).toNat).length≤LIM) then k11 (vout7++((s.take (wr .i64 (i+r4)).toNat).drop (i:Int).toNat)) false else none else none;bif v then bif decide (vout.length+([32]).length≤LIM) then k (vout++([32])) else none else k vout;bif gap then k8 (!(vout==([]))) else k8 false|none =>none)|none =>none)|none =>none else some (.inr ((vout,())))
def qaz (s:List UInt8):Option (List UInt8):=
 match zah zln (s,[],false,0,()) with|some ((vout,_)) =>some vout|none =>none
def zje:((List Patron)×Int×Unit)→Option (((List Patron)×Int×Unit)⊕((Unit)⊕(Int×Unit))):=fun (l,i,_)=>
 bif decide (i<(l.length:Int)) then match getI l i with|some x =>let k18 (v:Bool):Option (((List Patron)×Int×Unit)⊕((Unit)⊕(Int×Unit))):=bif v then some (.inr (.inr (2,()))) else let k17 (v2:Bool):Option (((List Patron)×Int×Unit)⊕((Unit)⊕(Int×Unit))):=bif v2 then some (.inr (.inr (7,()))) else let k16 (v3:Bool):Option (((List Patron)×Int×Unit)⊕((Unit)⊕(Int×Unit))):=let k15 (v4:Bool):Option (((List Patron)×Int×Unit)⊕((Unit)⊕(Int×Unit))):=let k14 (v5:Bool):Option (((List Patron)×Int×Unit)⊕((Unit)⊕(Int×Unit))):=bif v5 then some (.inr (.inr (1,()))) else let k13 (v6:Bool):Option (((List Patron)×Int×Unit)⊕((Unit)⊕(Int×Unit))):=bif v6 then some (.inr (.inr (2,()))) else let k12 (v8:Bool):Option (((List Patron)×Int×Unit)⊕((Unit)⊕(Int×Unit))):=let k (v11:Bool):Option (((List Patron)×Int×Unit)⊕((Unit)⊕(Int×Unit))):=bif v11 then some (.inr (.inr (3,()))) else bif decide (200<(x.Name.length:Int)) then some (.inr (.inr (4,()))) else some (.inl (l,wr .i64 (i+1),()));bif v8 then k true else match qaz x.Name with|some r10 =>k (!(r10==x.Name))|none =>none;bif x.Name==([]) then k12 true else match qae x.Name with|some r7 =>k12 (!r7)|none =>none;bif decide (x.Until<0) then k13 true else k13 (decide (109572<x.Until));bif v4 then k14 true else k14 (decide (4<x.Branch));bif v3 then k15 true else k15 (decide (x.Branch<1));bif decide (x.Kind<1) then k16 true else k16 (decide (9<x.Kind));bif decide (0<i) then match getI l (wr .i64 (i-1)) with|some x1 =>k17 (decide (x.ID≤x1.ID))|none =>none else k17 false;bif decide (x.ID<1) then k18 true else k18 (decide (9999<x.ID))|none =>none else some (.inr (.inl (())))
def qao (l:List Patron):Option Int:=
 bif decide (32<(l.length:Int)) then some 13 else match zah zje (l,0,()) with|some (.inl (_)) =>some 0|some (.inr (v,_)) =>some v|none =>none
def zjd:((List Loan)×Int×Unit)→Option (((List Loan)×Int×Unit)⊕((Unit)⊕(Int×Unit))):=fun (l,i,_)=>
 bif decide (i<(l.length:Int)) then match getI l i with|some x =>let k21 (v:Bool):Option (((List Loan)×Int×Unit)⊕((Unit)⊕(Int×Unit))):=bif v then some (.inr (.inr (7,()))) else let k20 (v2:Bool):Option (((List Loan)×Int×Unit)⊕((Unit)⊕(Int×Unit))):=let k19 (v3:Bool):Option (((List Loan)×Int×Unit)⊕((Unit)⊕(Int×Unit))):=let k18 (v4:Bool):Option (((List Loan)×Int×Unit)⊕((Unit)⊕(Int×Unit))):=let k17 (v5:Bool):Option (((List Loan)×Int×Unit)⊕((Unit)⊕(Int×Unit))):=let k16 (v6:Bool):Option (((List Loan)×Int×Unit)⊕((Unit)⊕(Int×Unit))):=let k15 (v7:Bool):Option (((List Loan)×Int×Unit)⊕((Unit)⊕(Int×Unit))):=let k14 (v8:Bool):Option (((List Loan)×Int×Unit)⊕((Unit)⊕(Int×Unit))):=let k13 (v9:Bool):Option (((List Loan)×Int×Unit)⊕((Unit)⊕(Int×Unit))):=let k12 (v10:Bool):Option (((List Loan)×Int×Unit)⊕((Unit)⊕(Int×Unit))):=let k (v11:Bool):Option (((List Loan)×Int×Unit)⊕((Unit)⊕(Int×Unit))):=bif v11 then some (.inr (.inr (2,()))) else some (.inl (l,wr .i64 (i+1),()));bif v10 then k true else k (decide (10<x.Renewals));bif v9 then k12 true else k12 (decide (x.Renewals<0));bif v8 then k13 true else k13 (decide (x.Due<x.Out));bif v7 then k14 true else k14 (decide (109572<x.Due));bif v6 then k15 true else k15 (decide (x.Due<0));bif v5 then k16 true else k16 (decide (109572<x.Out));bif v4 then k17 true else k17 (decide (x.Out<0));bif v3 then k18 true else k18 (decide (9999<x.Patron));bif v2 then k19 true else k19 (decide (x.Patron<1));bif decide (x.Item<1) then k20 true else k20 (decide (9999<x.Item));bif decide (0<i) then match getI l (wr .i64 (i-1)) with|some x1 =>k21 (decide (x.Item≤x1.Item))|none =>none else k21 false|none =>none else some (.inr (.inl (())))
def qan (l:List Loan):Option Int:=
 bif decide (64<(l.length:Int)) then some 13 else match zah zjd (l,0,()) with|some (.inl (_)) =>some 0|some (.inr (v,_)) =>some v|none =>none
def qd6 (n:Int):Option Bool:=
 let k (v:Bool):Option Bool:=some v;bif decide (1≤n) then k (decide (n≤9999)) else k false
def qeq (n:Int):Option Bool:=
 let k (v:Bool):Option Bool:=some v;bif decide (0≤n) then k (decide (n≤109572)) else k false
def qdi (h:Hold):Option Int:=
 let k41 (v:Bool):Option Int:=let k40 (v2:Bool):Option Int:=let k39 (v5:Bool):Option Int:=let k38 (v9:Bool):Option Int:=let k37 (v10:Bool):Option Int:=let k36 (v11:Bool):Option Int:=let k35 (v14:Bool):Option Int:=let k34 (v18:Bool):Option Int:=let k33 (v21:Bool):Option Int:=let k32 (v24:Bool):Option Int:=let k31 (v25:Bool):Option Int:=let k30 (v26:Bool):Option Int:=bif v26 then some 2 else let k29 (v27:Bool):Option Int:=bif v27 then some 1 else let k (v28:Bool):Option Int:=bif v28 then some 12 else some 0;bif !((decide (0<h.Got))==(!(h.State==1))) then k true else k (!((decide (0<h.Until))==(h.State==3)));bif decide (h.State<1) then k29 true else k29 (decide (3<h.State));bif v25 then k30 true else k30 (decide (9<h.Rank));bif v24 then k31 true else k31 (decide (h.Rank<0));bif v21 then k32 true else match qeq h.Asleep with|some r23 =>k32 (!r23)|none =>none;bif v18 then k33 true else match qeq h.Until with|some r20 =>k33 (!r20)|none =>none;bif v14 then k34 true else bif !(h.Got==0) then match qd6 h.Got with|some r16 =>k34 (!r16)|none =>none else k34 false;bif v11 then k35 true else match qeq h.Placed with|some r13 =>k35 (!r13)|none =>none;bif v10 then k36 true else k36 (decide (4<h.Pickup));bif v9 then k37 true else k37 (decide (h.Pickup<1));bif v5 then k38 true else bif !(h.Item==0) then match qd6 h.Item with|some r7 =>k38 (!r7)|none =>none else k38 false;bif v2 then k39 true else match qd6 h.Record with|some r4 =>k39 (!r4)|none =>none;bif v then k40 true else match qd6 h.Patron with|some r1 =>k40 (!r1)|none =>none;bif decide (h.ID<1) then k41 true else k41 (decide (99999<h.ID))
def zr7:((List Hold)×Int×Unit)→Option (((List Hold)×Int×Unit)⊕(((List Hold)×Unit)⊕(Int×Unit))):=fun (l,i,_)=>
 bif decide (i<(l.length:Int)) then let k (v:Bool):Option (((List Hold)×Int×Unit)⊕(((List Hold)×Unit)⊕(Int×Unit))):=bif v then some (.inr (.inr (7,()))) else match getI l i with|some x2 =>(match qdi x2 with|some r3 =>bif !(r3==0) then some (.inr (.inr (r3,()))) else some (.inl (l,wr .i64 (i+1),()))|none =>none)|none =>none;bif decide (0<i) then match getI l i with|some x =>(match getI l (wr .i64 (i-1)) with|some x1 =>k (decide (x.ID≤x1.ID))|none =>none)|none =>none else k false else some (.inr (.inl (l,())))
def zjk:((List Hold)×Int×Int×Unit)→Option (((List Hold)×Int×Int×Unit)⊕(((List Hold)×Int×Unit)⊕(Int×Unit))):=fun (l,i,k,_)=>
 bif decide (k<i) then match getI l i with|some x =>(match getI l k with|some x5 =>let k14 (v:Bool):Option (((List Hold)×Int×Int×Unit)⊕(((List Hold)×Int×Unit)⊕(Int×Unit))):=let k13 (v12:Bool):Option (((List Hold)×Int×Int×Unit)⊕(((List Hold)×Int×Unit)⊕(Int×Unit))):=bif v12 then some (.inr (.inr (7,()))) else some (.inl (l,i,wr .i64 (k+1),()));bif v then k13 true else match getI l i with|some x8 =>bif decide (0<x8.Got) then match getI l i with|some x9 =>(match getI l k with|some x10 =>k13 (x9.Got==x10.Got)|none =>none)|none =>none else k13 false|none =>none;bif x.Patron==x5.Patron then match getI l i with|some x6 =>(match getI l k with|some x7 =>k14 (x6.Record==x7.Record)|none =>none)|none =>none else k14 false|none =>none)|none =>none else some (.inr (.inl (l,i,())))
def zlr:((List Hold)×Int×Unit)→Option (((List Hold)×Int×Unit)⊕((Unit)⊕(Int×Unit))):=fun (l,i,_)=>
 bif decide (i<(l.length:Int)) then match zah zjk (l,i,0,()) with|some (.inl (l15,i16,_)) =>some (.inl (l15,wr .i64 (i16+1),()))|some (.inr (v,_)) =>some (.inr (.inr (v,())))|none =>none else some (.inr (.inl (())))
def qn (l:List Hold):Option Int:=
 bif decide (64<(l.length:Int)) then some 13 else match zah zr7 (l,0,()) with|some (.inl (l4,_)) =>(match zah zlr (l4,0,()) with|some (.inl (_)) =>some 0|some (.inr (v,_)) =>some v|none =>none)|some (.inr (v17,_)) =>some v17|none =>none
def qe2 (n:Int):Option Bool:=
 let k (v:Bool):Option Bool:=some v;bif decide (0≤n) then k (decide (n≤109572)) else k false
def zjf:((List Charge)×Int×Unit)→Option (((List Charge)×Int×Unit)⊕((Unit)⊕(Int×Unit))):=fun (l,i,_)=>
 bif decide (i<(l.length:Int)) then match getI l i with|some x =>let k22 (v:Bool):Option (((List Charge)×Int×Unit)⊕((Unit)⊕(Int×Unit))):=bif v then some (.inr (.inr (7,()))) else let k21 (v2:Bool):Option (((List Charge)×Int×Unit)⊕((Unit)⊕(Int×Unit))):=let k20 (v3:Bool):Option (((List Charge)×Int×Unit)⊕((Unit)⊕(Int×Unit))):=let k19 (v4:Bool):Option (((List Charge)×Int×Unit)⊕((Unit)⊕(Int×Unit))):=let k18 (v5:Bool):Option (((List Charge)×Int×Unit)⊕((Unit)⊕(Int×Unit))):=let k17 (v6:Bool):Option (((List Charge)×Int×Unit)⊕((Unit)⊕(Int×Unit))):=let k16 (v8:Bool):Option (((List Charge)×Int×Unit)⊕((Unit)⊕(Int×Unit))):=bif v8 then some (.inr (.inr (2,()))) else let k15 (v9:Bool):Option (((List Charge)×Int×Unit)⊕((Unit)⊕(Int×Unit))):=bif v9 then some (.inr (.inr (1,()))) else let k14 (v10:Bool):Option (((List Charge)×Int×Unit)⊕((Unit)⊕(Int×Unit))):=let k13 (v11:Bool):Option (((List Charge)×Int×Unit)⊕((Unit)⊕(Int×Unit))):=let k (v12:Bool):Option (((List Charge)×Int×Unit)⊕((Unit)⊕(Int×Unit))):=bif v12 then some (.inr (.inr (2,()))) else some (.inl (l,wr .i64 (i+1),()));bif v11 then k true else k (decide (x.Amount≤x.Paid));bif v10 then k13 true else k13 (decide (x.Paid<0));bif decide (x.Amount<1) then k14 true else k14 (decide (100000000<x.Amount));bif decide (x.Kind<1) then k15 true else k15 (decide (3<x.Kind));bif v6 then k16 true else match qe2 x.Day with|some r7 =>k16 (!r7)|none =>none;bif v5 then k17 true else k17 (decide (9999<x.Item));bif v4 then k18 true else k18 (decide (x.Item<1));bif v3 then k19 true else k19 (decide (9999<x.Patron));bif v2 then k20 true else k20 (decide (x.Patron<1));bif decide (x.ID<1) then k21 true else k21 (decide (99999<x.ID));bif decide (0<i) then match getI l (wr .i64 (i-1)) with|some x1 =>k22 (decide (x.ID≤x1.ID))|none =>none else k22 false|none =>none else some (.inr (.inl (())))
def qay (l:List Charge):Option Int:=
 bif decide (128<(l.length:Int)) then some 13 else match zah zjf (l,0,()) with|some (.inl (_)) =>some 0|some (.inr (v,_)) =>some v|none =>none
def qbg (n:Int) (low:Int) (high:Int):Option Bool:=
 let k (v:Bool):Option Bool:=some v;bif decide (low≤n) then k (decide (n≤high)) else k false
def qc0 (r:Rule):Option Bool:=
 match qbg r.Patron 0 9 with|some r2 =>let k48 (v:Bool):Option Bool:=let k47 (v7:Bool):Option Bool:=match qbg r.Days 0 365 with|some r9 =>let k46 (v12:Bool):Option Bool:=let k45 (v15:Bool):Option Bool:=match qbg r.Fine 0 1000 with|some r17 =>let k44 (v20:Bool):Option Bool:=let k43 (v23:Bool):Option Bool:=let k42 (v24:Bool):Option Bool:=let k41 (v25:Bool):Option Bool:=let k40 (v28:Bool):Option Bool:=let k39 (v31:Bool):Option Bool:=let k38 (v34:Bool):Option Bool:=let k (v37:Bool):Option Bool:=some v37;bif v34 then match qbg r.Rank 0 9 with|some r36 =>k r36|none =>none else k false;bif v31 then match qbg r.Fixed 0 109572 with|some r33 =>k38 r33|none =>none else k38 false;bif v28 then match qbg r.Recall 1 60 with|some r30 =>k39 r30|none =>none else k39 false;bif v25 then match qbg r.Shelf 1 60 with|some r27 =>k40 r27|none =>none else k40 false;bif v24 then k41 v23 else k41 false;bif v7 then k42 v15 else k42 false;bif v20 then match qbg r.MaxFine 0 100000000 with|some r22 =>k43 r22|none =>none else k43 false;bif r17 then match qbg r.Grace 0 30 with|some r19 =>k44 r19|none =>none else k44 false|none =>none;bif v12 then match qbg r.Loans 0 99 with|some r14 =>k45 r14|none =>none else k45 false;bif r9 then match qbg r.Renewals 0 10 with|some r11 =>k46 r11|none =>none else k46 false|none =>none;bif v then match qbg r.Branch 0 4 with|some r6 =>k47 r6|none =>none else k47 false;bif r2 then match qbg r.Item 0 9 with|some r4 =>k48 r4|none =>none else k48 false|none =>none
def zr6:((List Rule)×Int×Int×Unit)→Option (((List Rule)×Int×Int×Unit)⊕(((List Rule)×Int×Unit)⊕(Int×Unit))):=fun (l,i,k,_)=>
 bif decide (k<i) then match getI l k with|some x =>(match getI l i with|some x2 =>let k9 (v:Bool):Option (((List Rule)×Int×Int×Unit)⊕(((List Rule)×Int×Unit)⊕(Int×Unit))):=let k8 (v7:Bool):Option (((List Rule)×Int×Int×Unit)⊕(((List Rule)×Int×Unit)⊕(Int×Unit))):=bif v7 then some (.inr (.inr (7,()))) else some (.inl (l,i,wr .i64 (k+1),()));bif v then match getI l k with|some x5 =>(match getI l i with|some x6 =>k8 (x5.Branch==x6.Branch)|none =>none)|none =>none else k8 false;bif x.Patron==x2.Patron then match getI l k with|some x3 =>(match getI l i with|some x4 =>k9 (x3.Item==x4.Item)|none =>none)|none =>none else k9 false|none =>none)|none =>none else some (.inr (.inl (l,i,())))
def zx6:((List Rule)×Int×Unit)→Option (((List Rule)×Int×Unit)⊕((Unit)⊕(Int×Unit))):=fun (l,i,_)=>
 bif decide (i<(l.length:Int)) then match getI l i with|some x =>(match qc0 x with|some r1 =>(bif !r1 then some (.inr (.inr (2,()))) else match zah zr6 (l,i,0,()) with|some (.inl (l10,i11,_)) =>some (.inl (l10,wr .i64 (i11+1),()))|some (.inr (v,_)) =>some (.inr (.inr (v,())))|none =>none)|none =>none)|none =>none else some (.inr (.inl (())))
def qm (l:List Rule):Option Int:=
 bif decide (32<(l.length:Int)) then some 13 else match zah zx6 (l,0,()) with|some (.inl (_)) =>some 0|some (.inr (v,_)) =>some v|none =>none
def zr8:(Int×Calendar×Unit)→Option ((Int×Calendar×Unit)⊕((Calendar×Unit)⊕(Int×Unit))):=fun (i,c,_)=>
 bif decide (i<(c.Closed.length:Int)) then match getI c.Closed i with|some x =>(let k (v:Bool):Option ((Int×Calendar×Unit)⊕((Calendar×Unit)⊕(Int×Unit))):=bif v then some (.inr (.inr (2,()))) else some (.inl (wr .i64 (i+1),c,()));bif decide (x<0) then k true else match getI c.Closed i with|some x1 =>k (decide (109572<x1))|none =>none)|none =>none else some (.inr (.inl (c,())))
def zjl:(Int×Calendar×Unit)→Option ((Int×Calendar×Unit)⊕((Unit)⊕(Int×Unit))):=fun (i,c,_)=>
 bif decide (i<(c.Closed.length:Int)) then match getI c.Closed i with|some x =>(match getI c.Closed (wr .i64 (i-1)) with|some x3 =>bif decide (x≤x3) then some (.inr (.inr (7,()))) else some (.inl (wr .i64 (i+1),c,()))|none =>none)|none =>none else some (.inr (.inl (())))
def qx (c:Calendar):Option Int:=
 let k (v:Bool):Option Int:=bif v then some 1 else bif decide (64<(c.Closed.length:Int)) then some 13 else match zah zr8 (0,c,()) with|some (.inl (c2,_)) =>(match zah zjl (1,c2,()) with|some (.inl (_)) =>some 0|some (.inr (v4,_)) =>some v4|none =>none)|some (.inr (v5,_)) =>some v5|none =>none;bif decide (c.Week<0) then k true else k (decide (126<c.Week))
def zll:((List Patron)×Int×Int×Unit)→Option (((List Patron)×Int×Int×Unit)⊕((Unit)⊕(Int×Unit))):=fun (l,vid,i,_)=>
 bif decide (i<(l.length:Int)) then match getI l i with|some x =>bif x.ID==vid then some (.inr (.inr (i,()))) else some (.inl (l,vid,wr .i64 (i+1),()))|none =>none else some (.inr (.inl (())))
def qas (l:List Patron) (vid:Int):Option Int:=
 match zah zll (l,vid,0,()) with|some (.inl (_)) =>some (-1)|some (.inr (v,_)) =>some v|none =>none
def qb5 (l:List Patron) (vid:Int):Option (Patron×Bool):=
 match qas l vid with|some r1 =>(bif decide (r1<0) then some ((⟨0,0,0,0,false,[]⟩:Patron),false) else match getI l r1 with|some x =>some (x,true)|none =>none)|none =>none
def qdj (branch:Int):Option Custody:=
 some (⟨1,branch,0,0⟩:Custody)
def qe9 (state:Int):Option Bool:=
 let k6 (v:Bool):Option Bool:=let k5 (v1:Bool):Option Bool:=let k4 (v2:Bool):Option Bool:=let k (v3:Bool):Option Bool:=some v3;bif v2 then k true else k (state==10);bif v1 then k4 true else k4 (state==9);bif v then k5 true else k5 (state==8);bif state==4 then k6 true else k6 (state==5)
def qdk (c:Custody):Option Bool:=
 let k17 (v:Bool):Option Bool:=let k16 (v1:Bool):Option Bool:=let k15 (v2:Bool):Option Bool:=bif v2 then some false else let k10 (v9:Bool):Option Bool:=some v9;bif c.State==6 then let k8 (v3:Bool):Option Bool:=let k7 (v4:Bool):Option Bool:=let k (v5:Bool):Option Bool:=bif v5 then k10 (!(c.To==c.Branch)) else k10 false;bif v4 then k (decide (c.To≤4)) else k false;bif v3 then k7 (decide (1≤c.To)) else k7 false;bif decide (0≤c.Who) then k8 (decide (c.Who≤9999)) else k8 false else bif !(c.To==0) then some false else match qe9 c.State with|some r11 =>let k14 (v13:Bool):Option Bool:=some v13;bif r11 then bif decide (1≤c.Who) then k14 (decide (c.Who≤9999)) else k14 false else some (c.Who==0)|none =>none;bif v1 then k15 true else k15 (decide (4<c.Branch));bif v then k16 true else k16 (decide (c.Branch<1));bif decide (c.State<1) then k17 true else k17 (decide (12<c.State))
def qej (m:Move):Option Bool:=
 let k16 (v:Bool):Option Bool:=let k15 (v1:Bool):Option Bool:=let k14 (v2:Bool):Option Bool:=let k13 (v3:Bool):Option Bool:=let k12 (v4:Bool):Option Bool:=let k11 (v5:Bool):Option Bool:=let k10 (v6:Bool):Option Bool:=let k9 (v7:Bool):Option Bool:=let k (v8:Bool):Option Bool:=some v8;bif v7 then k (decide (m.Who≤9999)) else k false;bif v6 then k9 (decide (0≤m.Who)) else k9 false;bif v5 then k10 (decide (m.Branch≤4)) else k10 false;bif v4 then k11 (decide (1≤m.Branch)) else k11 false;bif v3 then k12 (decide (m.Kind≤15)) else k12 false;bif v2 then k13 (decide (1≤m.Kind)) else k13 false;bif v1 then k14 (decide (m.Item≤9999)) else k14 false;bif v then k15 (decide (1≤m.Item)) else k15 false;bif decide (0≤m.Day) then k16 (decide (m.Day≤109572)) else k16 false
def qcr (kind:Int):Option (List Int):=
 bif kind==1 then some ([1]) else bif kind==2 then some ([2,5]) else bif kind==3 then some ([3,5]) else bif kind==4 then some ([4,8,9,10]) else let k (v:Bool):Option (List Int):=bif v then some ([2,3]) else bif kind==6 then some ([2,3,5]) else bif kind==7 then some ([6]) else bif kind==9 then some ([7]) else bif kind==10 then some ([3]) else bif kind==11 then some ([4]) else bif kind==12 then some ([4,9]) else bif kind==13 then some ([2,3,5,6,7]) else bif kind==14 then some ([11]) else bif kind==15 then some ([1,2,3,11,10]) else some ([]);bif kind==5 then k (kind==5) else k (kind==8)
def zlh:(Int×(List Int)×Int×Unit)→Option ((Int×(List Int)×Int×Unit)⊕((Unit)⊕(Bool×Unit))):=fun (state,l,i,_)=>
 bif decide (i<(l.length:Int)) then match getI l i with|some x =>bif x==state then some (.inr (.inr (true,()))) else some (.inl (state,l,wr .i64 (i+1),()))|none =>none else some (.inr (.inl (())))
def qaj (state:Int) (kind:Int):Option Bool:=
 match qcr kind with|some r1 =>(match zah zlh (state,r1,0,()) with|some (.inl (_)) =>some false|some (.inr (v,_)) =>some v|none =>none)|none =>none
def qc8 (c:Custody) (m:Move):Option Bool:=
 let k14 (v2:Bool):Option Bool:=let k11 (v10:Bool):Option Bool:=some v10;bif v2 then k11 (m.Who==0) else bif m.Kind==7 then bif m.Who==0 then k11 (m.Branch==c.To) else k11 false else bif m.Kind==6 then k11 (!(m.Branch==c.Branch)) else let k (v5:Bool):Option Bool:=bif v5 then bif m.Branch==c.Branch then k11 (decide (1≤m.Who)) else k11 false else let k13 (v12:Bool):Option Bool:=some v12;bif m.Branch==c.Branch then k13 (m.Who==0) else k13 false;bif m.Kind==3 then k (m.Kind==3) else bif m.Kind==5 then k (m.Kind==5) else k (m.Kind==10);bif m.Kind==1 then k14 (m.Kind==1) else bif m.Kind==4 then k14 (m.Kind==4) else bif m.Kind==9 then k14 (m.Kind==9) else k14 (m.Kind==14)
def qfe (kind:Int):Option Int:=
 let k13 (v3:Bool):Option Int:=let k (v12:Int):Option Int:=some v12;bif v3 then k 2 else bif kind==2 then k 3 else bif kind==3 then k 4 else bif kind==5 then k 5 else bif kind==6 then k 6 else bif kind==8 then k 7 else bif kind==10 then k 8 else bif kind==11 then k 9 else bif kind==12 then k 10 else bif kind==13 then k 11 else some 12;bif kind==1 then k13 (kind==1) else bif kind==4 then k13 (kind==4) else bif kind==7 then k13 (kind==7) else bif kind==9 then k13 (kind==9) else k13 (kind==14)
def qcs (c:Custody) (m:Move):Option (Custody×Int):=
 match qdk c with|some r1 =>(let k26 (v:Bool):Option (Custody×Int):=bif v then some ((⟨0,0,0,0⟩:Custody),1) else match qaj c.State m.Kind with|some r5 =>bif !r5 then some ((⟨0,0,0,0⟩:Custody),12) else let k25 (v6:Bool):Option (Custody×Int):=let k24 (v7:Bool):Option (Custody×Int):=bif v7 then some ((⟨0,0,0,0⟩:Custody),16) else match qc8 c m with|some r9 =>(bif !r9 then some ((⟨0,0,0,0⟩:Custody),1) else match qfe m.Kind with|some r11 =>let k23 (vout20:Int) (vout21:Int) (vout22:Int):Option (Custody×Int):=some ((⟨r11,vout20,vout21,vout22⟩:Custody),0);bif r11==2 then k23 m.Branch 0 0 else let k19 (v13:Bool):Option (Custody×Int):=bif v13 then k23 c.Branch m.Who 0 else bif r11==6 then k23 c.Branch m.Who m.Branch else let k (v14:Bool):Option (Custody×Int):=bif v14 then k23 c.Branch c.Who 0 else k23 c.Branch 0 0;bif r11==9 then k (r11==9) else k (r11==10);bif r11==4 then k19 (r11==4) else bif r11==5 then k19 (r11==5) else k19 (r11==8)|none =>none)|none =>none;bif v6 then k24 (!(m.Who==c.Who)) else k24 false;bif m.Kind==3 then k25 (c.State==5) else k25 false|none =>none;bif !r1 then k26 true else match qej m with|some r3 =>k26 (!r3)|none =>none)|none =>none
def zli:((List Move)×Int×Int×Custody×Custody×Unit)→Option (((List Move)×Int×Int×Custody×Custody×Unit)⊕((Custody×Custody×Unit)⊕(Int×Int×Custody×Unit))):=fun (l,item,i,v,c,_)=>
 bif decide (i<(l.length:Int)) then match getI l i with|some x =>(bif !(x.Item==item) then some (.inl (l,item,wr .i64 (i+1),v,c,())) else match getI l i with|some x2 =>(match qcs c x2 with|some (r3,r4) =>bif !(r4==0) then some (.inr (.inr (i,r4,(⟨0,0,0,0⟩:Custody),()))) else some (.inl (l,item,wr .i64 (i+1),v,r3,()))|none =>none)|none =>none)|none =>none else some (.inr (.inl (v,c,())))
def qak (branch:Int) (l:List Move) (item:Int):Option (Custody×Int×Int):=
 let k (v:Bool):Option (Custody×Int×Int):=bif v then some ((⟨0,0,0,0⟩:Custody),(-1),1) else match qdj branch with|some r1 =>(match zah zli (l,item,0,(⟨0,0,0,0⟩:Custody),r1,()) with|some (.inl (v5,c,_)) =>some (c,(-1),0)|some (.inr (v6,v7,v8,_)) =>some (v8,v6,v7)|none =>none)|none =>none;bif decide (branch<1) then k true else k (decide (4<branch))
def zx9:(Int×Int×Circ×Unit)→Option ((Int×Int×Circ×Unit)⊕((Unit)⊕(Int×Unit))):=fun (item,i,c,_)=>
 bif decide (i<(c.Items.length:Int)) then match getI c.Items i with|some x =>bif x.ID==item then some (.inr (.inr (i,()))) else some (.inl (item,wr .i64 (i+1),c,()))|none =>none else some (.inr (.inl (())))
def qu (c:Circ) (item:Int):Option Int:=
 match zah zx9 (item,0,c,()) with|some (.inl (_)) =>some (-1)|some (.inr (v,_)) =>some v|none =>none
def zsa:(Int×Circ×Unit)→Option ((Int×Circ×Unit)⊕((Circ×Unit)⊕(Bool×Unit))):=fun (i,c,_)=>
 bif decide (i<(c.Items.length:Int)) then match getI c.Items i with|some x =>let k29 (v:Bool):Option ((Int×Circ×Unit)⊕((Circ×Unit)⊕(Bool×Unit))):=let k28 (v3:Bool):Option ((Int×Circ×Unit)⊕((Circ×Unit)⊕(Bool×Unit))):=let k27 (v4:Bool):Option ((Int×Circ×Unit)⊕((Circ×Unit)⊕(Bool×Unit))):=let k26 (v5:Bool):Option ((Int×Circ×Unit)⊕((Circ×Unit)⊕(Bool×Unit))):=let k25 (v6:Bool):Option ((Int×Circ×Unit)⊕((Circ×Unit)⊕(Bool×Unit))):=let k24 (v7:Bool):Option ((Int×Circ×Unit)⊕((Circ×Unit)⊕(Bool×Unit))):=bif v7 then some (.inr (.inr (false,()))) else let k23 (v8:Bool):Option ((Int×Circ×Unit)⊕((Circ×Unit)⊕(Bool×Unit))):=let k22 (v9:Bool):Option ((Int×Circ×Unit)⊕((Circ×Unit)⊕(Bool×Unit))):=let k21 (v10:Bool):Option ((Int×Circ×Unit)⊕((Circ×Unit)⊕(Bool×Unit))):=let k20 (v11:Bool):Option ((Int×Circ×Unit)⊕((Circ×Unit)⊕(Bool×Unit))):=let k19 (v13:Bool):Option ((Int×Circ×Unit)⊕((Circ×Unit)⊕(Bool×Unit))):=bif v13 then some (.inr (.inr (false,()))) else match qak x.Branch c.Moves x.ID with|some (r15,r16,r17) =>let k (v18:Bool):Option ((Int×Circ×Unit)⊕((Circ×Unit)⊕(Bool×Unit))):=bif v18 then some (.inr (.inr (false,()))) else some (.inl (wr .i64 (i+1),c,()));bif !(r17==0) then k true else k (!(zbr r15 x.Custody))|none =>none;bif v11 then k19 true else match qae x.Call with|some r12 =>k19 (!r12)|none =>none;bif v10 then k20 true else k20 (decide (200<(x.Call.length:Int)));bif v9 then k21 true else k21 (decide (100000000<x.Price));bif v8 then k22 true else k22 (decide (x.Price<0));bif decide (x.Kind<1) then k23 true else k23 (decide (9<x.Kind));bif v6 then k24 true else k24 (decide (4<x.Branch));bif v5 then k25 true else k25 (decide (x.Branch<1));bif v4 then k26 true else k26 (decide (9999<x.Record));bif v3 then k27 true else k27 (decide (x.Record<1));bif v then k28 true else bif decide (0<i) then match getI c.Items (wr .i64 (i-1)) with|some x1 =>k28 (decide (x.ID≤x1.ID))|none =>none else k28 false;bif decide (x.ID<1) then k29 true else k29 (decide (9999<x.ID))|none =>none else some (.inr (.inl (c,())))
def zjm:(Int×Circ×Unit)→Option ((Int×Circ×Unit)⊕((Unit)⊕(Bool×Unit))):=fun (i,c,_)=>
 bif decide (i<(c.Moves.length:Int)) then match getI c.Moves i with|some x =>(match qu c x.Item with|some r31 =>bif decide (r31<0) then some (.inr (.inr (false,()))) else some (.inl (wr .i64 (i+1),c,()))|none =>none)|none =>none else some (.inr (.inl (())))
def qz (c:Circ):Option Bool:=
 let k (v:Bool):Option Bool:=bif v then some false else match zah zsa (0,c,()) with|some (.inl (c30,_)) =>(match zah zjm (0,c30,()) with|some (.inl (_)) =>some true|some (.inr (v32,_)) =>some v32|none =>none)|some (.inr (v33,_)) =>some v33|none =>none;bif decide (64<(c.Items.length:Int)) then k true else k (decide (2000<(c.Moves.length:Int)))
def qed (u:Custody):Option Bool:=
 let k2 (v:Bool):Option Bool:=let k (v1:Bool):Option Bool:=some v1;bif v then k true else k (u.State==10);bif u.State==4 then k2 true else k2 (u.State==9)
def zlj:((List Loan)×Int×Int×Unit)→Option (((List Loan)×Int×Int×Unit)⊕((Unit)⊕(Int×Unit))):=fun (l,item,i,_)=>
 bif decide (i<(l.length:Int)) then match getI l i with|some x =>bif x.Item==item then some (.inr (.inr (i,()))) else some (.inl (l,item,wr .i64 (i+1),()))|none =>none else some (.inr (.inl (())))
def qal (l:List Loan) (item:Int):Option Int:=
 match zah zlj (l,item,0,()) with|some (.inl (_)) =>some (-1)|some (.inr (v,_)) =>some v|none =>none
def qdm (l:List Loan) (item:Int):Option (Loan×Bool):=
 match qal l item with|some r1 =>(bif decide (r1<0) then some ((⟨0,0,0,0,0,false⟩:Loan),false) else match getI l r1 with|some x =>some (x,true)|none =>none)|none =>none
def zr9:(Int×Circ×Unit)→Option ((Int×Circ×Unit)⊕((Circ×Unit)⊕(Bool×Unit))):=fun (i,c,_)=>
 bif decide (i<(c.Loans.length:Int)) then match getI c.Loans i with|some x =>(match qu c x.Item with|some r1 =>(match qb5 c.Patrons x.Patron with|some (r3,r4) =>let k12 (v:Bool):Option ((Int×Circ×Unit)⊕((Circ×Unit)⊕(Bool×Unit))):=let k11 (v8:Bool):Option ((Int×Circ×Unit)⊕((Circ×Unit)⊕(Bool×Unit))):=let k (v10:Bool):Option ((Int×Circ×Unit)⊕((Circ×Unit)⊕(Bool×Unit))):=bif v10 then some (.inr (.inr (false,()))) else some (.inl (wr .i64 (i+1),c,()));bif v8 then k true else match getI c.Items r1 with|some x9 =>k (!(x9.Custody.Who==x.Patron))|none =>none;bif v then k11 true else match getI c.Items r1 with|some x5 =>(match qed x5.Custody with|some r7 =>k11 (!r7)|none =>none)|none =>none;bif decide (r1<0) then k12 true else k12 (!r4)|none =>none)|none =>none)|none =>none else some (.inr (.inl (c,())))
def zls:(Int×Circ×Unit)→Option ((Int×Circ×Unit)⊕((Unit)⊕(Bool×Unit))):=fun (i,c,_)=>
 bif decide (i<(c.Items.length:Int)) then match getI c.Items i with|some x =>(match qdm c.Loans x.ID with|some (r14,r15) =>(match getI c.Items i with|some x16 =>(match qed x16.Custody with|some r18 =>bif !(r15==r18) then some (.inr (.inr (false,()))) else some (.inl (wr .i64 (i+1),c,()))|none =>none)|none =>none)|none =>none)|none =>none else some (.inr (.inl (())))
def qy (c:Circ):Option Bool:=
 match zah zr9 (0,c,()) with|some (.inl (c13,_)) =>(match zah zls (0,c13,()) with|some (.inl (_)) =>some true|some (.inr (v,_)) =>some v|none =>none)|some (.inr (v19,_)) =>some v19|none =>none
def zlk:(Int×Int×Circ×Hold×Unit)→Option ((Int×Int×Circ×Hold×Unit)⊕((Hold×Unit)⊕(Bool×Hold×Unit))):=fun (item,i,c,v,_)=>
 bif decide (i<(c.Holds.length:Int)) then match getI c.Holds i with|some x =>bif x.Got==item then match getI c.Holds i with|some x1 =>some (.inr (.inr (true,x1,())))|none =>none else some (.inl (item,wr .i64 (i+1),c,v,()))|none =>none else some (.inr (.inl (v,())))
def qar (c:Circ) (item:Int):Option (Hold×Bool):=
 match zah zlk (item,0,c,(⟨0,0,0,0,0,0,0,0,0,0,0⟩:Hold),()) with|some (.inl (v,_)) =>some ((⟨0,0,0,0,0,0,0,0,0,0,0⟩:Hold),false)|some (.inr (v2,v3,_)) =>some (v3,v2)|none =>none
def zr2:(Int×Circ×Unit)→Option ((Int×Circ×Unit)⊕((Circ×Unit)⊕(Bool×Unit))):=fun (i,c,_)=>
 bif decide (i<(c.Holds.length:Int)) then match getI c.Holds i with|some x =>(match qb5 c.Patrons x.Patron with|some (r1,r2) =>let k18 (v:Bool):Option ((Int×Circ×Unit)⊕((Circ×Unit)⊕(Bool×Unit))):=bif v then some (.inr (.inr (false,()))) else bif x.State==1 then some (.inl (wr .i64 (i+1),c,())) else match qu c x.Got with|some r4 =>(let k17 (v6:Bool):Option ((Int×Circ×Unit)⊕((Circ×Unit)⊕(Bool×Unit))):=bif v6 then some (.inr (.inr (false,()))) else match getI c.Items r4 with|some x7 =>let k16 (v10:Bool):Option ((Int×Circ×Unit)⊕((Circ×Unit)⊕(Bool×Unit))):=bif v10 then some (.inr (.inr (false,()))) else let k15 (v14:Bool):Option ((Int×Circ×Unit)⊕((Circ×Unit)⊕(Bool×Unit))):=bif v14 then some (.inr (.inr (false,()))) else some (.inl (wr .i64 (i+1),c,()));bif x.State==2 then let k13 (v11:Bool):Option ((Int×Circ×Unit)⊕((Circ×Unit)⊕(Bool×Unit))):=bif v11 then k15 true else k15 (!(x7.Custody.Who==x.Patron));bif !(x7.Custody.State==6) then k13 true else k13 (!(x7.Custody.To==x.Pickup)) else k15 false;bif x.State==3 then let k (v8:Bool):Option ((Int×Circ×Unit)⊕((Circ×Unit)⊕(Bool×Unit))):=bif v8 then k16 true else k16 (!(x7.Custody.Who==x.Patron));bif !(x7.Custody.State==5) then k true else k (!(x7.Custody.Branch==x.Pickup)) else k16 false|none =>none;bif decide (r4<0) then k17 true else match getI c.Items r4 with|some x5 =>k17 (!(x5.Record==x.Record))|none =>none)|none =>none;bif !r2 then k18 true else k18 (decide (c.NextHold≤x.ID))|none =>none)|none =>none else some (.inr (.inl (c,())))
def zld:(Int×Circ×Unit)→Option ((Int×Circ×Unit)⊕((Unit)⊕(Bool×Unit))):=fun (i,c,_)=>
 bif decide (i<(c.Items.length:Int)) then match getI c.Items i with|some x =>(bif !(x.Custody.State==5) then some (.inl (wr .i64 (i+1),c,())) else match getI c.Items i with|some x20 =>(match qar c x20.ID with|some (r21,r22) =>let k (v:Bool):Option ((Int×Circ×Unit)⊕((Unit)⊕(Bool×Unit))):=bif v then some (.inr (.inr (false,()))) else some (.inl (wr .i64 (i+1),c,()));bif !r22 then k true else k (!(r21.State==3))|none =>none)|none =>none)|none =>none else some (.inr (.inl (())))
def q8 (c:Circ):Option Bool:=
 match zah zr2 (0,c,()) with|some (.inl (c19,_)) =>(match zah zld (0,c19,()) with|some (.inl (_)) =>some true|some (.inr (v,_)) =>some v|none =>none)|some (.inr (v23,_)) =>some v23|none =>none
def zhe:(Int×Circ×Unit)→Option ((Int×Circ×Unit)⊕((Circ×Unit)⊕(Bool×Unit))):=fun (i,c,_)=>
 bif decide (i<4) then let k (v:Int) (v18:List Int):Option ((Int×Circ×Unit)⊕((Circ×Unit)⊕(Bool×Unit))):=match qx (⟨v,v18⟩:Calendar) with|some r19 =>bif !(r19==0) then some (.inr (.inr (false,()))) else some (.inl (wr .i64 (i+1),c,()))|none =>none;bif i==0 then k c.Cals.x0.Week c.Cals.x0.Closed else bif i==1 then k c.Cals.x1.Week c.Cals.x1.Closed else bif i==2 then k c.Cals.x2.Week c.Cals.x2.Closed else bif i==3 then k c.Cals.x3.Week c.Cals.x3.Closed else none else some (.inr (.inl (c,())))
def zfw:(Int×Circ×Unit)→Option ((Int×Circ×Unit)⊕((Circ×Unit)⊕(Bool×Unit))):=fun (i,c,_)=>
 bif decide (i<(c.Charges.length:Int)) then match getI c.Charges i with|some x =>(match qb5 c.Patrons x.Patron with|some (r21,r22) =>(let k (v:Bool):Option ((Int×Circ×Unit)⊕((Circ×Unit)⊕(Bool×Unit))):=bif v then some (.inr (.inr (false,()))) else some (.inl (wr .i64 (i+1),c,()));bif !r22 then k true else match getI c.Charges i with|some x23 =>k (decide (c.NextCharge≤x23.ID))|none =>none)|none =>none)|none =>none else some (.inr (.inl (c,())))
def qad (c:Circ):Option Bool:=
 let k44 (v:Bool):Option Bool:=let k43 (v1:Bool):Option Bool:=let k42 (v2:Bool):Option Bool:=let k41 (v3:Bool):Option Bool:=let k40 (v4:Bool):Option Bool:=bif v4 then some false else match qao c.Patrons with|some r5 =>(let k39 (v8:Bool):Option Bool:=let k38 (v11:Bool):Option Bool:=let k37 (v14:Bool):Option Bool:=let k36 (v17:Bool):Option Bool:=bif v17 then some false else match zah zhe (0,c,()) with|some (.inl (c20,_)) =>(match zah zfw (0,c20,()) with|some (.inl (c24,_)) =>(match qz c24 with|some r26 =>let k33 (v29:Bool):Option Bool:=let k (v32:Bool):Option Bool:=some v32;bif v29 then match q8 c24 with|some r31 =>k r31|none =>none else k false;bif r26 then match qy c24 with|some r28 =>k33 r28|none =>none else k33 false|none =>none)|some (.inr (v34,_)) =>some v34|none =>none)|some (.inr (v35,_)) =>some v35|none =>none;bif v14 then k36 true else match qm c.Rules with|some r16 =>k36 (!(r16==0))|none =>none;bif v11 then k37 true else match qay c.Charges with|some r13 =>k37 (!(r13==0))|none =>none;bif v8 then k38 true else match qn c.Holds with|some r10 =>k38 (!(r10==0))|none =>none;bif !(r5==0) then k39 true else match qan c.Loans with|some r7 =>k39 (!(r7==0))|none =>none)|none =>none;bif v3 then k40 true else k40 (decide (100000<c.NextCharge));bif v2 then k41 true else k41 (decide (c.NextCharge<1));bif v1 then k42 true else k42 (decide (100000<c.NextHold));bif v then k43 true else k43 (decide (c.NextHold<1));bif decide (c.Today<0) then k44 true else k44 (decide (109572<c.Today))
def qe0 (c:Circ):Option Bool:=
 match qa c with|some r1 =>let k (v:Bool):Option Bool:=some v;bif r1 then match qad c with|some r3 =>k r3|none =>none else k false|none =>none
def qd5 (today:Int):Option Circ:=
 some (⟨(if 109572<(if today<0 then 0 else today) then 109572 else (if today<0 then 0 else today)),[],[],[],[],[],[],⟨⟨0,[]⟩,⟨0,[]⟩,⟨0,[]⟩,⟨0,[]⟩⟩,[],1,1,false⟩:Circ)
def qcq (x:Item) (v:Int):Option Bool:=
 some (x.ID==v)
def z4j {γ0:Type} (p:γ0→Item→Option Bool):((List Item)×γ0×Int×Int×Unit)→Option (((List Item)×γ0×Int×Int×Unit)⊕((Unit)⊕(Int×Unit))):=fun (s,g,v,v1,_)=>
 bif decide (v1<v) then match getI s v1 with|some x =>(match p g x with|some r =>bif r then some (.inr (.inr (v1,()))) else some (.inl (s,g,v,wr .i64 (v1+1),()))|none =>none)|none =>none else some (.inr (.inl (())))
def qc {γ0:Type} (p:γ0→Item→Option Bool) (s:List Item) (g:γ0):Option Int:=
 match zah (z4j p) (s,g,(s.length:Int),0,()) with|some (.inl (_)) =>some (-1)|some (.inr (v,_)) =>some v|none =>none
def qah (c:Circ) (item:Int):Option Int:=
 match qc (fun g x0=>qcq x0 g.2.1) c.Items ((),(item,())) with|some r1 =>some r1|none =>none
def qdw (branch:Int):Option Custody:=
 some (⟨1,branch,0,0⟩:Custody)
def qcn (z:Item) (v:Item):Option Bool:=
 some (decide (v.ID<z.ID))
def qcd (s:List Item):Option (List Item):=
 bif decide (([]:List Item).length+s.length≤LIM) then some (([])++s) else none
def qb2 (n:Int) (low:Int) (high:Int):Option Bool:=
 let k (v:Bool):Option Bool:=some v;bif decide (low≤n) then k (decide (n≤high)) else k false
def qdv (x:Item):Option Bool:=
 match qb2 x.ID 1 9999 with|some r1 =>let k21 (v:Bool):Option Bool:=let k20 (v6:Bool):Option Bool:=let k19 (v9:Bool):Option Bool:=let k18 (v12:Bool):Option Bool:=let k17 (v13:Bool):Option Bool:=let k (v16:Bool):Option Bool:=some v16;bif v13 then match qc7 x.Call with|some r15 =>k r15|none =>none else k false;bif v12 then k17 (decide ((x.Call.length:Int)≤200)) else k17 false;bif v9 then match qb2 x.Price 0 100000000 with|some r11 =>k18 r11|none =>none else k18 false;bif v6 then match qb2 x.Kind 1 9 with|some r8 =>k19 r8|none =>none else k19 false;bif v then match qb2 x.Branch 1 4 with|some r5 =>k20 r5|none =>none else k20 false;bif r1 then match qb2 x.Record 1 9999 with|some r3 =>k21 r3|none =>none else k21 false|none =>none
def qbp (n:Int) (least:Int) (most:Int):Option Bool:=
 let k (v:Bool):Option Bool:=some v;bif decide (least≤n) then k (decide (n≤most)) else k false
def qe8 (c:Custody):Option Bool:=
 match qbp c.State 1 12 with|some r1 =>(let k23 (v:Bool):Option Bool:=bif v then some false else let k22 (v7:Bool):Option Bool:=let k19 (v18:Bool):Option Bool:=some v18;bif v7 then match qbp c.Who 1 9999 with|some r9 =>bif r9 then k19 (c.To==0) else k19 false|none =>none else bif c.State==6 then match qbp c.Who 0 9999 with|some r12 =>let k (v15:Bool):Option Bool:=bif v15 then k19 (!(c.To==c.Branch)) else k19 false;bif r12 then match qbp c.To 1 4 with|some r14 =>k r14|none =>none else k false|none =>none else let k21 (v20:Bool):Option Bool:=some v20;bif c.Who==0 then k21 (c.To==0) else k21 false;bif c.State==4 then k22 (c.State==4) else bif c.State==5 then k22 (c.State==5) else bif c.State==8 then k22 (c.State==8) else bif c.State==9 then k22 (c.State==9) else k22 (c.State==10);bif !r1 then k23 true else match qbp c.Branch 1 4 with|some r3 =>k23 (!r3)|none =>none)|none =>none
def qe6 (state:Int) (kind:Int):Option Bool:=
 match qbp state 1 12 with|some r1 =>let k5 (v:Bool):Option Bool:=let k (v4:Bool):Option Bool:=some v4;bif v then match getI zbx state with|some x =>bif decide (kind<0) then none else k ((wr .u16 (BitVec.ofInt 16 (x.fdiv (2 ^ (min kind.toNat 16))) &&& BitVec.ofInt 16 1).toNat)==1)|none =>none else k false;bif r1 then match qbp kind 1 15 with|some r3 =>k5 r3|none =>none else k5 false|none =>none
def qci (c:Custody) (ok:Bool):Option (Custody×Int):=
 bif !ok then some ((⟨0,0,0,0⟩:Custody),1) else some (c,0)
def qfa (c:Custody) (m:Move):Option (Custody×Int):=
 match qci (⟨6,c.Branch,m.Who,m.Branch⟩:Custody) (!(m.Branch==c.Branch)) with|some (r1,r2) =>some (r1,r2)|none =>none
def qdx (c:Custody) (m:Move):Option (Custody×Int):=
 match qe8 c with|some r1 =>(let k95 (v:Bool):Option (Custody×Int):=let k94 (v6:Bool):Option (Custody×Int):=let k93 (v9:Bool):Option (Custody×Int):=let k92 (v12:Bool):Option (Custody×Int):=let k91 (v15:Bool):Option (Custody×Int):=bif v15 then some ((⟨0,0,0,0⟩:Custody),1) else match qe6 c.State m.Kind with|some r17 =>bif !r17 then some ((⟨0,0,0,0⟩:Custody),12) else let k90 (v18:Bool):Option (Custody×Int):=let k89 (v19:Bool):Option (Custody×Int):=bif v19 then some ((⟨0,0,0,0⟩:Custody),16) else let k88 (v22:Bool):Option (Custody×Int):=let k84 (state79:Int) (ok80:Bool):Option (Custody×Int):=match qci (⟨state79,m.Branch,m.Who,0⟩:Custody) ok80 with|some (r82,r83) =>some (r82,r83)|none =>none;let k87 (v85:Int) (v86:Custody):Option (Custody×Int):=some (v86,v85);bif v22 then k84 2 (m.Who==0) else bif m.Kind==7 then bif m.Who==0 then k84 2 (m.Branch==c.To) else k84 2 false else bif m.Kind==6 then match qfa c m with|some (r25,r26) =>k87 r26 r25|none =>none else bif m.Kind==3 then bif m.Branch==c.Branch then k84 4 (!(m.Who==0)) else k84 4 false else bif m.Kind==5 then bif m.Branch==c.Branch then k84 5 (!(m.Who==0)) else k84 5 false else bif m.Kind==10 then bif m.Branch==c.Branch then k84 8 (!(m.Who==0)) else k84 8 false else bif m.Kind==2 then bif m.Branch==c.Branch then k84 3 (m.Who==0) else k84 3 false else bif m.Kind==8 then bif m.Branch==c.Branch then k84 7 (m.Who==0) else k84 7 false else bif m.Kind==11 then let k (v32:Bool):Option (Custody×Int):=match qci (⟨9,c.Branch,c.Who,0⟩:Custody) v32 with|some (r34,r35) =>k87 r35 r34|none =>none;bif m.Branch==c.Branch then k (m.Who==0) else k false else bif m.Kind==12 then let k40 (v36:Bool):Option (Custody×Int):=match qci (⟨10,c.Branch,c.Who,0⟩:Custody) v36 with|some (r38,r39) =>k87 r39 r38|none =>none;bif m.Branch==c.Branch then k40 (m.Who==0) else k40 false else bif m.Kind==13 then bif m.Branch==c.Branch then k84 11 (m.Who==0) else k84 11 false else bif m.Kind==15 then bif m.Branch==c.Branch then k84 12 (m.Who==0) else k84 12 false else k84 0 false;bif m.Kind==1 then k88 (m.Kind==1) else bif m.Kind==4 then k88 (m.Kind==4) else bif m.Kind==9 then k88 (m.Kind==9) else k88 (m.Kind==14);bif v18 then k89 (!(m.Who==c.Who)) else k89 false;bif m.Kind==3 then k90 (c.State==5) else k90 false|none =>none;bif v12 then k91 true else match qbp m.Who 0 9999 with|some r14 =>k91 (!r14)|none =>none;bif v9 then k92 true else match qbp m.Branch 1 4 with|some r11 =>k92 (!r11)|none =>none;bif v6 then k93 true else match qbp m.Kind 1 15 with|some r8 =>k93 (!r8)|none =>none;bif v then k94 true else match qbp m.Item 1 9999 with|some r5 =>k94 (!r5)|none =>none;bif !r1 then k95 true else match qbp m.Day 0 109572 with|some r3 =>k95 (!r3)|none =>none)|none =>none
def zaf3:(Int×(List Move)×Int×Int×Custody×Custody×Unit)→Option ((Int×(List Move)×Int×Int×Custody×Custody×Unit)⊕((Custody×Custody×Unit)⊕(Int×Int×Custody×Unit))):=fun (item,v,v4,v5,v6,c,_)=>
 bif decide (v5<v4) then match getI v v5 with|some x =>(bif !(x.Item==item) then some (.inl (item,v,v4,wr .i64 (v5+1),v6,c,())) else match qdx c x with|some (r7,r8) =>bif !(r8==0) then some (.inr (.inr (v5,r8,(⟨0,0,0,0⟩:Custody),()))) else some (.inl (item,v,v4,wr .i64 (v5+1),v6,r7,()))|none =>none)|none =>none else some (.inr (.inl (v6,c,())))
def qbl (branch:Int) (l:List Move) (item:Int):Option (Custody×Int×Int):=
 match qbp branch 1 4 with|some r1 =>(bif !r1 then some ((⟨0,0,0,0⟩:Custody),(-1),1) else match qdw branch with|some r3 =>(match zah zaf3 (item,l,(l.length:Int),0,(⟨0,0,0,0⟩:Custody),r3,()) with|some (.inl (v,c,_)) =>some (c,(-1),0)|some (.inr (v9,v10,v11,_)) =>some (v11,v9,v10)|none =>none)|none =>none)|none =>none
def zav6:((List Item)×Int×Int×Circ×Unit)→Option (((List Item)×Int×Int×Circ×Unit)⊕((Circ×Unit)⊕(Bool×Unit))):=fun (v,v1,v2,c,_)=>
 bif decide (v2<v1) then match getI v v2 with|some x =>(match qdv x with|some r3 =>let k (v6:Bool):Option (((List Item)×Int×Int×Circ×Unit)⊕((Circ×Unit)⊕(Bool×Unit))):=bif v6 then some (.inr (.inr (false,()))) else some (.inl (v,v1,wr .i64 (v2+1),c,()));bif !r3 then k true else bif decide (0<v2) then match getI c.Items (wr .i64 (v2-1)) with|some x4 =>k (decide (x.ID≤x4.ID))|none =>none else k false|none =>none)|none =>none else some (.inr (.inl (c,())))
def zagd:((List Move)×Int×Int×Circ×Unit)→Option (((List Move)×Int×Int×Circ×Unit)⊕((Circ×Unit)⊕(Bool×Unit))):=fun (v,v8,v9,c,_)=>
 bif decide (v9<v8) then match getI v v9 with|some x =>(match qah c x.Item with|some r10 =>bif decide (r10<0) then some (.inr (.inr (false,()))) else some (.inl (v,v8,wr .i64 (v9+1),c,()))|none =>none)|none =>none else some (.inr (.inl (c,())))
def zage:((List Item)×Int×Int×Circ×Unit)→Option (((List Item)×Int×Int×Circ×Unit)⊕((Unit)⊕(Bool×Unit))):=fun (v,v12,v13,c,_)=>
 bif decide (v13<v12) then match getI v v13 with|some x =>(match qbl x.Branch c.Moves x.ID with|some (r14,r15,r16) =>let k (v17:Bool):Option (((List Item)×Int×Int×Circ×Unit)⊕((Unit)⊕(Bool×Unit))):=bif v17 then some (.inr (.inr (false,()))) else some (.inl (v,v12,wr .i64 (v13+1),c,()));bif !(r16==0) then k true else k (!(zbr r14 x.Custody))|none =>none)|none =>none else some (.inr (.inl (())))
def qs (c:Circ):Option Bool:=
 let k (v:Bool):Option Bool:=bif v then some false else match zah zav6 (c.Items,(c.Items.length:Int),0,c,()) with|some (.inl (c7,_)) =>(match zah zagd (c7.Moves,(c7.Moves.length:Int),0,c7,()) with|some (.inl (c11,_)) =>(match zah zage (c11.Items,(c11.Items.length:Int),0,c11,()) with|some (.inl (_)) =>some true|some (.inr (v18,_)) =>some v18|none =>none)|some (.inr (v19,_)) =>some v19|none =>none)|some (.inr (v20,_)) =>some v20|none =>none;bif decide (64<(c.Items.length:Int)) then k true else k (decide (2000<(c.Moves.length:Int)))
def qby (p:Patron):Option Int:=
 let k17 (v:Bool):Option Int:=let k16 (v1:Bool):Option Int:=let k15 (v2:Bool):Option Int:=let k14 (v13:Int):Option Int:=some v13;bif v2 then k14 1 else let k12 (v3:Bool):Option Int:=bif v3 then k14 2 else let k10 (v5:Bool):Option Int:=let k (v8:Bool):Option Int:=bif v8 then k14 3 else bif decide (200<(p.Name.length:Int)) then k14 4 else some 0;bif v5 then k true else match qd1 p.Name with|some r7 =>k (!(r7==p.Name))|none =>none;bif p.Name==([]) then k10 true else match qc7 p.Name with|some r4 =>k10 (!r4)|none =>none;bif decide (p.Until<0) then k12 true else k12 (decide (109572<p.Until));bif v1 then k15 true else k15 (decide (4<p.Branch));bif v then k16 true else k16 (decide (p.Branch<1));bif decide (p.Kind<1) then k17 true else k17 (decide (9<p.Kind))
def zafj:(Int×(List Patron)×Int×Int×Unit)→Option ((Int×(List Patron)×Int×Int×Unit)⊕((Unit)⊕(Int×Unit))):=fun (last,v,v1,v2,_)=>
 bif decide (v2<v1) then match getI v v2 with|some x =>let k6 (v3:Bool):Option ((Int×(List Patron)×Int×Int×Unit)⊕((Unit)⊕(Int×Unit))):=let k (v4:Int):Option ((Int×(List Patron)×Int×Int×Unit)⊕((Unit)⊕(Int×Unit))):=some (.inr (.inr (v4,())));bif v3 then k 2 else bif decide (x.ID≤last) then k 7 else match qby x with|some r5 =>bif !(r5==0) then some (.inr (.inr (r5,()))) else some (.inl (x.ID,v,v1,wr .i64 (v2+1),()))|none =>none;bif decide (x.ID<1) then k6 true else k6 (decide (9999<x.ID))|none =>none else some (.inr (.inl (())))
def qa4 (l:List Patron):Option Int:=
 bif decide (32<(l.length:Int)) then some 13 else match zah zafj (0,l,(l.length:Int),0,()) with|some (.inl (_)) =>some 0|some (.inr (v,_)) =>some v|none =>none
def qer (n:Int):Option Bool:=
 let k (v:Bool):Option Bool:=some v;bif decide (1≤n) then k (decide (n≤9999)) else k false
def qen (n:Int):Option Bool:=
 let k (v:Bool):Option Bool:=some v;bif decide (0≤n) then k (decide (n≤109572)) else k false
def zafl:((List Loan)×(List Loan)×Int×Int×Unit)→Option (((List Loan)×(List Loan)×Int×Int×Unit)⊕((Unit)⊕(Int×Unit))):=fun (l,v,v1,v2,_)=>
 bif decide (v2<v1) then match getI v v2 with|some x =>let k25 (v4:Bool):Option (((List Loan)×(List Loan)×Int×Int×Unit)⊕((Unit)⊕(Int×Unit))):=let k24 (v23:Int):Option (((List Loan)×(List Loan)×Int×Int×Unit)⊕((Unit)⊕(Int×Unit))):=some (.inr (.inr (v23,())));bif v4 then k24 7 else match qer x.Item with|some r5 =>(let k22 (v8:Bool):Option (((List Loan)×(List Loan)×Int×Int×Unit)⊕((Unit)⊕(Int×Unit))):=let k21 (v11:Bool):Option (((List Loan)×(List Loan)×Int×Int×Unit)⊕((Unit)⊕(Int×Unit))):=let k20 (v14:Bool):Option (((List Loan)×(List Loan)×Int×Int×Unit)⊕((Unit)⊕(Int×Unit))):=let k19 (v15:Bool):Option (((List Loan)×(List Loan)×Int×Int×Unit)⊕((Unit)⊕(Int×Unit))):=let k18 (v16:Bool):Option (((List Loan)×(List Loan)×Int×Int×Unit)⊕((Unit)⊕(Int×Unit))):=let k (v17:Bool):Option (((List Loan)×(List Loan)×Int×Int×Unit)⊕((Unit)⊕(Int×Unit))):=bif v17 then k24 2 else some (.inl (l,v,v1,wr .i64 (v2+1),()));bif v16 then k true else k (decide (10<x.Renewals));bif v15 then k18 true else k18 (decide (x.Renewals<0));bif v14 then k19 true else k19 (decide (x.Due<x.Out));bif v11 then k20 true else match qen x.Due with|some r13 =>k20 (!r13)|none =>none;bif v8 then k21 true else match qen x.Out with|some r10 =>k21 (!r10)|none =>none;bif !r5 then k22 true else match qer x.Patron with|some r7 =>k22 (!r7)|none =>none)|none =>none;bif decide (0<v2) then match getI l (wr .i64 (v2-1)) with|some x3 =>k25 (decide (x.Item≤x3.Item))|none =>none else k25 false|none =>none else some (.inr (.inl (())))
def qa7 (l:List Loan):Option Int:=
 bif decide (64<(l.length:Int)) then some 13 else match zah zafl (l,l,(l.length:Int),0,()) with|some (.inl (_)) =>some 0|some (.inr (v,_)) =>some v|none =>none
def qb1 (n:Int) (low:Int) (high:Int):Option Bool:=
 let k (v:Bool):Option Bool:=some v;bif decide (low≤n) then k (decide (n≤high)) else k false
def qek (n:Int):Option Bool:=
 match qb1 n 0 109572 with|some r1 =>some r1|none =>none
def qez (h:Hold):Option Int:=
 match qb1 h.ID 1 99999 with|some r1 =>(let k41 (v:Bool):Option Int:=let k40 (v6:Bool):Option Int:=let k39 (v9:Bool):Option Int:=let k38 (v37:Int):Option Int:=some v37;bif v9 then k38 2 else match qb1 h.Pickup 1 4 with|some r11 =>(let k36 (v14:Bool):Option Int:=let k35 (v17:Bool):Option Int:=let k34 (v20:Bool):Option Int:=let k33 (v23:Bool):Option Int:=let k32 (v26:Bool):Option Int:=bif v26 then k38 2 else match qb1 h.State 1 3 with|some r28 =>bif !r28 then k38 1 else let k (v29:Bool):Option Int:=bif v29 then k38 12 else some 0;bif !((decide (0<h.Got))==(!(h.State==1))) then k true else k (!((decide (0<h.Until))==(h.State==3)))|none =>none;bif v23 then k32 true else match qb1 h.Rank 0 9 with|some r25 =>k32 (!r25)|none =>none;bif v20 then k33 true else match qek h.Asleep with|some r22 =>k33 (!r22)|none =>none;bif v17 then k34 true else match qek h.Until with|some r19 =>k34 (!r19)|none =>none;bif v14 then k35 true else match qb1 h.Got 0 9999 with|some r16 =>k35 (!r16)|none =>none;bif !r11 then k36 true else match qek h.Placed with|some r13 =>k36 (!r13)|none =>none)|none =>none;bif v6 then k39 true else match qb1 h.Item 0 9999 with|some r8 =>k39 (!r8)|none =>none;bif v then k40 true else match qb1 h.Record 1 9999 with|some r5 =>k40 (!r5)|none =>none;bif !r1 then k41 true else match qb1 h.Patron 1 9999 with|some r3 =>k41 (!r3)|none =>none)|none =>none
def qb9 (a:Hold) (b:Hold):Option Bool:=
 let k (v:Bool):Option Bool:=some v;bif a.Patron==b.Patron then k (a.Record==b.Record) else k false
def zaoe {γ0:Type} (p:γ0→Hold→Hold→Option Bool):((List Hold)×γ0×Int×Int×Int×Int×Int×Unit)→Option (((List Hold)×γ0×Int×Int×Int×Int×Int×Unit)⊕(((List Hold)×γ0×Int×Int×Unit)⊕(Bool×Unit))):=fun (l,g,i,v,v2,v3,v4,_)=>
 bif decide (v4<v3) then match getI l v4 with|some x =>(match getI l i with|some x5 =>(match p g x x5 with|some r =>bif r then some (.inr (.inr (true,()))) else some (.inl (l,g,i,v,v2,v3,wr .i64 (v4+1),()))|none =>none)|none =>none)|none =>none else some (.inr (.inl (l,g,v,v2,())))
def zaod {γ0:Type} (p:γ0→Hold→Hold→Option Bool):((List Hold)×γ0×Int×Int×Unit)→Option (((List Hold)×γ0×Int×Int×Unit)⊕((Unit)⊕(Bool×Unit))):=fun (l,g,v,v1,_)=>
 bif decide (v1<v) then match zah (zaoe p) (l,g,v1,v,v1,v1,0,()) with|some (.inl (l6,g7,v8,v9,_)) =>some (.inl (l6,g7,v8,wr .i64 (v9+1),()))|some (.inr (v10,_)) =>some (.inr (.inr (v10,())))|none =>none else some (.inr (.inl (())))
def qd {γ0:Type} (p:γ0→Hold→Hold→Option Bool) (l:List Hold) (g:γ0):Option Bool:=
 match zah (zaod p) (l,g,(l.length:Int),0,()) with|some (.inl (_)) =>some false|some (.inr (v,_)) =>some v|none =>none
def qdf (a:Hold) (b:Hold):Option Bool:=
 let k (v:Bool):Option Bool:=some v;bif a.Got==b.Got then k (decide (0<a.Got)) else k false
def zavz:((List Hold)×(List Hold)×Int×Int×Unit)→Option (((List Hold)×(List Hold)×Int×Int×Unit)⊕(((List Hold)×Unit)⊕(Int×Unit))):=fun (l,v,v1,v2,_)=>
 bif decide (v2<v1) then match getI v v2 with|some x =>let k (v4:Bool):Option (((List Hold)×(List Hold)×Int×Int×Unit)⊕(((List Hold)×Unit)⊕(Int×Unit))):=bif v4 then some (.inr (.inr (7,()))) else match qez x with|some r5 =>bif !(r5==0) then some (.inr (.inr (r5,()))) else some (.inl (l,v,v1,wr .i64 (v2+1),()))|none =>none;bif decide (0<v2) then match getI l (wr .i64 (v2-1)) with|some x3 =>k (decide (x.ID≤x3.ID))|none =>none else k false|none =>none else some (.inr (.inl (l,())))
def ql (l:List Hold):Option Int:=
 bif decide (64<(l.length:Int)) then some 13 else match zah zavz (l,l,(l.length:Int),0,()) with|some (.inl (l6,_)) =>(match qd (fun g x0 x1=>qb9 x0 x1) l6 ((),()) with|some r7 =>(bif r7 then some 7 else match qd (fun g x0 x1=>qdf x0 x1) l6 ((),()) with|some r9 =>bif r9 then some 7 else some 0|none =>none)|none =>none)|some (.inr (v,_)) =>some v|none =>none
def qex (n:Int):Option Bool:=
 let k (v:Bool):Option Bool:=some v;bif decide (1≤n) then k (decide (n≤9999)) else k false
def qd3 (n:Int):Option Bool:=
 let k (v:Bool):Option Bool:=some v;bif decide (0≤n) then k (decide (n≤109572)) else k false
def qb3 (x:Charge):Option Int:=
 let k22 (v:Bool):Option Int:=let k21 (v2:Bool):Option Int:=let k20 (v5:Bool):Option Int:=let k19 (v8:Bool):Option Int:=let k18 (v17:Int):Option Int:=some v17;bif v8 then k18 2 else let k16 (v9:Bool):Option Int:=bif v9 then k18 1 else let k14 (v10:Bool):Option Int:=let k13 (v11:Bool):Option Int:=let k (v12:Bool):Option Int:=bif v12 then k18 2 else some 0;bif v11 then k true else k (decide (x.Amount≤x.Paid));bif v10 then k13 true else k13 (decide (x.Paid<0));bif decide (x.Amount<1) then k14 true else k14 (decide (100000000<x.Amount));bif decide (x.Kind<1) then k16 true else k16 (decide (3<x.Kind));bif v5 then k19 true else match qd3 x.Day with|some r7 =>k19 (!r7)|none =>none;bif v2 then k20 true else match qex x.Item with|some r4 =>k20 (!r4)|none =>none;bif v then k21 true else match qex x.Patron with|some r1 =>k21 (!r1)|none =>none;bif decide (x.ID<1) then k22 true else k22 (decide (99999<x.ID))
def zafm:((List Charge)×(List Charge)×Int×Int×Unit)→Option (((List Charge)×(List Charge)×Int×Int×Unit)⊕((Unit)⊕(Int×Unit))):=fun (l,v,v1,v2,_)=>
 bif decide (v2<v1) then match getI v v2 with|some x =>let k (v4:Bool):Option (((List Charge)×(List Charge)×Int×Int×Unit)⊕((Unit)⊕(Int×Unit))):=bif v4 then some (.inr (.inr (7,()))) else match qb3 x with|some r5 =>bif !(r5==0) then some (.inr (.inr (r5,()))) else some (.inl (l,v,v1,wr .i64 (v2+1),()))|none =>none;bif decide (0<v2) then match getI l (wr .i64 (v2-1)) with|some x3 =>k (decide (x.ID≤x3.ID))|none =>none else k false|none =>none else some (.inr (.inl (())))
def qa8 (l:List Charge):Option Int:=
 bif decide (128<(l.length:Int)) then some 13 else match zah zafm (l,l,(l.length:Int),0,()) with|some (.inl (_)) =>some 0|some (.inr (v,_)) =>some v|none =>none
def qbs (n:Int) (least:Int) (most:Int):Option Bool:=
 let k (v:Bool):Option Bool:=some v;bif decide (least≤n) then k (decide (n≤most)) else k false
def qev (r:Rule):Option Bool:=
 match qbs r.Patron 0 9 with|some r2 =>let k48 (v:Bool):Option Bool:=let k47 (v7:Bool):Option Bool:=let k46 (v10:Bool):Option Bool:=let k45 (v13:Bool):Option Bool:=let k44 (v16:Bool):Option Bool:=let k43 (v19:Bool):Option Bool:=let k42 (v22:Bool):Option Bool:=let k41 (v25:Bool):Option Bool:=let k40 (v28:Bool):Option Bool:=let k39 (v31:Bool):Option Bool:=let k38 (v34:Bool):Option Bool:=let k (v37:Bool):Option Bool:=some v37;bif v34 then match qbs r.Rank 0 9 with|some r36 =>k r36|none =>none else k false;bif v31 then match qbs r.Fixed 0 109572 with|some r33 =>k38 r33|none =>none else k38 false;bif v28 then match qbs r.Recall 1 60 with|some r30 =>k39 r30|none =>none else k39 false;bif v25 then match qbs r.Shelf 1 60 with|some r27 =>k40 r27|none =>none else k40 false;bif v22 then match qbs r.Loans 0 99 with|some r24 =>k41 r24|none =>none else k41 false;bif v19 then match qbs r.MaxFine 0 100000000 with|some r21 =>k42 r21|none =>none else k42 false;bif v16 then match qbs r.Grace 0 30 with|some r18 =>k43 r18|none =>none else k43 false;bif v13 then match qbs r.Fine 0 1000 with|some r15 =>k44 r15|none =>none else k44 false;bif v10 then match qbs r.Renewals 0 10 with|some r12 =>k45 r12|none =>none else k45 false;bif v7 then match qbs r.Days 0 365 with|some r9 =>k46 r9|none =>none else k46 false;bif v then match qbs r.Branch 0 4 with|some r6 =>k47 r6|none =>none else k47 false;bif r2 then match qbs r.Item 0 9 with|some r4 =>k48 r4|none =>none else k48 false|none =>none
def qce (o:Rule) (v:Rule):Option Bool:=
 let k3 (v1:Bool):Option Bool:=let k (v2:Bool):Option Bool:=some v2;bif v1 then k (o.Branch==v.Branch) else k false;bif o.Patron==v.Patron then k3 (o.Item==v.Item) else k3 false
def zafg {γ0:Type} (p:γ0→Rule→Option Bool):((List Rule)×γ0×Int×Int×Unit)→Option (((List Rule)×γ0×Int×Int×Unit)⊕((Unit)⊕(Int×Unit))):=fun (s,g,v,v1,_)=>
 bif decide (v1<v) then match getI s v1 with|some x =>(match p g x with|some r =>bif r then some (.inr (.inr (v1,()))) else some (.inl (s,g,v,wr .i64 (v1+1),()))|none =>none)|none =>none else some (.inr (.inl (())))
def qa0 {γ0:Type} (p:γ0→Rule→Option Bool) (s:List Rule) (g:γ0):Option Int:=
 match zah (zafg p) (s,g,(s.length:Int),0,()) with|some (.inl (_)) =>some (-1)|some (.inr (v,_)) =>some v|none =>none
def qes {γ0:Type} (p:γ0→Rule→Option Bool) (s:List Rule) (g:γ0):Option Bool:=
 match qa0 p s g with|some r1 =>some (decide (0≤r1))|none =>none
def zav8:((List Rule)×(List Rule)×Int×Int×Unit)→Option (((List Rule)×(List Rule)×Int×Int×Unit)⊕((Unit)⊕(Int×Unit))):=fun (l,v,v1,v2,_)=>
 bif decide (v2<v1) then match getI v v2 with|some x =>(match qev x with|some r3 =>bif !r3 then some (.inr (.inr (2,()))) else bif decide (0≤(0:Int))&&(decide ((0:Int)≤v2)&&decide (v2≤(l.length:Int))) then match qes (fun g x0=>qce x0 g.2.1) ((l.take v2.toNat).drop (0:Int).toNat) ((),(x,())) with|some r5 =>bif r5 then some (.inr (.inr (7,()))) else some (.inl (l,v,v1,wr .i64 (v2+1),()))|none =>none else none|none =>none)|none =>none else some (.inr (.inl (())))
def qw (l:List Rule):Option Int:=
 bif decide (32<(l.length:Int)) then some 13 else match zah zav8 (l,l,(l.length:Int),0,()) with|some (.inl (_)) =>some 0|some (.inr (v,_)) =>some v|none =>none
def qcz (d:Int):Option Bool:=
 let k (v:Bool):Option Bool:=some v;bif decide (0≤d) then k (decide (d≤109572)) else k false
def qcw (d:Int):Option Bool:=
 match qcz d with|some r1 =>some (!r1)|none =>none
def zafh {γ0:Type} (p:γ0→Int→Option Bool):((List Int)×γ0×Int×Int×Unit)→Option (((List Int)×γ0×Int×Int×Unit)⊕((Unit)⊕(Int×Unit))):=fun (s,g,v,v1,_)=>
 bif decide (v1<v) then match getI s v1 with|some x =>(match p g x with|some r =>bif r then some (.inr (.inr (v1,()))) else some (.inl (s,g,v,wr .i64 (v1+1),()))|none =>none)|none =>none else some (.inr (.inl (())))
def qa1 {γ0:Type} (p:γ0→Int→Option Bool) (s:List Int) (g:γ0):Option Int:=
 match zah (zafh p) (s,g,(s.length:Int),0,()) with|some (.inl (_)) =>some (-1)|some (.inr (v,_)) =>some v|none =>none
def qet {γ0:Type} (p:γ0→Int→Option Bool) (s:List Int) (g:γ0):Option Bool:=
 match qa1 p s g with|some r1 =>some (decide (0≤r1))|none =>none
def zav7:((List Int)×Int×Int×Calendar×Unit)→Option (((List Int)×Int×Int×Calendar×Unit)⊕((Unit)⊕(Int×Unit))):=fun (v,v4,v5,c,_)=>
 bif decide (v5<v4) then match getI v v5 with|some x =>let k (v7:Bool):Option (((List Int)×Int×Int×Calendar×Unit)⊕((Unit)⊕(Int×Unit))):=bif v7 then some (.inr (.inr (7,()))) else some (.inl (v,v4,wr .i64 (v5+1),c,()));bif decide (0<v5) then match getI c.Closed (wr .i64 (v5-1)) with|some x6 =>k (decide (x≤x6))|none =>none else k false|none =>none else some (.inr (.inl (())))
def qv (c:Calendar):Option Int:=
 let k9 (v:Bool):Option Int:=let k (v3:Int):Option Int:=some v3;bif v then k 1 else bif decide (64<(c.Closed.length:Int)) then k 13 else match qet (fun g x0=>qcw x0) c.Closed ((),()) with|some r1 =>(bif r1 then k 2 else match zah zav7 (c.Closed,(c.Closed.length:Int),0,c,()) with|some (.inl (_)) =>some 0|some (.inr (v8,_)) =>some v8|none =>none)|none =>none;bif decide (c.Week<0) then k9 true else k9 (decide (127≤c.Week))
def zav5:((V4 Calendar)×Int×Circ×Unit)→Option (((V4 Calendar)×Int×Circ×Unit)⊕((Circ×Unit)⊕(Bool×Unit))):=fun (v,v13,c,_)=>
 bif decide (v13<4) then let k (v14:Int) (v15:List Int):Option (((V4 Calendar)×Int×Circ×Unit)⊕((Circ×Unit)⊕(Bool×Unit))):=match qv (⟨v14,v15⟩:Calendar) with|some r16 =>bif !(r16==0) then some (.inr (.inr (false,()))) else some (.inl (v,wr .i64 (v13+1),c,()))|none =>none;bif v13==0 then k v.x0.Week v.x0.Closed else bif v13==1 then k v.x1.Week v.x1.Closed else bif v13==2 then k v.x2.Week v.x2.Closed else bif v13==3 then k v.x3.Week v.x3.Closed else none else some (.inr (.inl (c,())))
def zagb:((List Hold)×Int×Int×Circ×Unit)→Option (((List Hold)×Int×Int×Circ×Unit)⊕((Circ×Unit)⊕(Bool×Unit))):=fun (v,v23,v24,c,_)=>
 bif decide (v24<v23) then match getI v v24 with|some x =>bif decide (c.NextHold≤x.ID) then some (.inr (.inr (false,()))) else some (.inl (v,v23,wr .i64 (v24+1),c,()))|none =>none else some (.inr (.inl (c,())))
def zagc:((List Charge)×Int×Int×Circ×Unit)→Option (((List Charge)×Int×Int×Circ×Unit)⊕((Unit)⊕(Bool×Unit))):=fun (v,v26,v27,c,_)=>
 bif decide (v27<v26) then match getI v v27 with|some x =>bif decide (c.NextCharge≤x.ID) then some (.inr (.inr (false,()))) else some (.inl (v,v26,wr .i64 (v27+1),c,()))|none =>none else some (.inr (.inl (())))
def qr (c:Circ):Option Bool:=
 match qa4 c.Patrons with|some r1 =>(let k34 (v:Bool):Option Bool:=let k33 (v6:Bool):Option Bool:=let k32 (v9:Bool):Option Bool:=let k31 (v12:Bool):Option Bool:=bif v12 then some false else match zah zav5 (c.Cals,0,c,()) with|some (.inl (c17,_)) =>(match qb2 c17.NextHold 1 100000 with|some r19 =>(let k (v22:Bool):Option Bool:=bif v22 then some false else match zah zagb (c17.Holds,(c17.Holds.length:Int),0,c17,()) with|some (.inl (c25,_)) =>(match zah zagc (c25.Charges,(c25.Charges.length:Int),0,c25,()) with|some (.inl (_)) =>some true|some (.inr (v28,_)) =>some v28|none =>none)|some (.inr (v29,_)) =>some v29|none =>none;bif !r19 then k true else match qb2 c17.NextCharge 1 100000 with|some r21 =>k (!r21)|none =>none)|none =>none)|some (.inr (v30,_)) =>some v30|none =>none;bif v9 then k31 true else match qw c.Rules with|some r11 =>k31 (!(r11==0))|none =>none;bif v6 then k32 true else match qa8 c.Charges with|some r8 =>k32 (!(r8==0))|none =>none;bif v then k33 true else match ql c.Holds with|some r5 =>k33 (!(r5==0))|none =>none;bif !(r1==0) then k34 true else match qa7 c.Loans with|some r3 =>k34 (!(r3==0))|none =>none)|none =>none
def qcy (p:Patron) (v:Int):Option Bool:=
 some (p.ID==v)
def zaog {γ0:Type} (p:γ0→Patron→Option Bool):((List Patron)×γ0×Int×Int×Unit)→Option (((List Patron)×γ0×Int×Int×Unit)⊕((Unit)⊕(Int×Unit))):=fun (s,g,v,v1,_)=>
 bif decide (v1<v) then match getI s v1 with|some x =>(match p g x with|some r =>bif r then some (.inr (.inr (v1,()))) else some (.inl (s,g,v,wr .i64 (v1+1),()))|none =>none)|none =>none else some (.inr (.inl (())))
def qo {γ0:Type} (p:γ0→Patron→Option Bool) (s:List Patron) (g:γ0):Option Int:=
 match zah (zaog p) (s,g,(s.length:Int),0,()) with|some (.inl (_)) =>some (-1)|some (.inr (v,_)) =>some v|none =>none
def qbt (l:List Patron) (vid:Int):Option Int:=
 match qo (fun g x0=>qcy x0 g.2.1) l ((),(vid,())) with|some r1 =>some r1|none =>none
def qdh (l:List Patron) (vid:Int):Option (Patron×Bool):=
 match qbt l vid with|some r1 =>(bif decide (r1<0) then some ((⟨0,0,0,0,false,[]⟩:Patron),false) else match getI l r1 with|some x =>some (x,true)|none =>none)|none =>none
def qb4 (vid:Int) (v:Circ):Option Bool:=
 match qdh v.Patrons vid with|some (r1,r2) =>some r2|none =>none
def zavt:((List Loan)×Int×Int×Circ×Unit)→Option (((List Loan)×Int×Int×Circ×Unit)⊕((Circ×Unit)⊕(Bool×Unit))):=fun (v,v1,v2,c,_)=>
 bif decide (v2<v1) then match getI v v2 with|some x =>(match qb4 x.Patron c with|some r3 =>(let k (v6:Bool):Option (((List Loan)×Int×Int×Circ×Unit)⊕((Circ×Unit)⊕(Bool×Unit))):=bif v6 then some (.inr (.inr (false,()))) else some (.inl (v,v1,wr .i64 (v2+1),c,()));bif !r3 then k true else match qah c x.Item with|some r5 =>k (decide (r5<0))|none =>none)|none =>none)|none =>none else some (.inr (.inl (c,())))
def zavu:((List Hold)×Int×Int×Circ×Unit)→Option (((List Hold)×Int×Int×Circ×Unit)⊕((Circ×Unit)⊕(Bool×Unit))):=fun (v,v8,v9,c,_)=>
 bif decide (v9<v8) then match getI v v9 with|some x =>(match qb4 x.Patron c with|some r10 =>bif !r10 then some (.inr (.inr (false,()))) else some (.inl (v,v8,wr .i64 (v9+1),c,()))|none =>none)|none =>none else some (.inr (.inl (c,())))
def zaga:((List Charge)×Int×Int×Circ×Unit)→Option (((List Charge)×Int×Int×Circ×Unit)⊕((Unit)⊕(Bool×Unit))):=fun (v,v12,v13,c,_)=>
 bif decide (v13<v12) then match getI v v13 with|some x =>(match qb4 x.Patron c with|some r14 =>bif !r14 then some (.inr (.inr (false,()))) else some (.inl (v,v12,wr .i64 (v13+1),c,()))|none =>none)|none =>none else some (.inr (.inl (())))
def qg (c:Circ):Option Bool:=
 match zah zavt (c.Loans,(c.Loans.length:Int),0,c,()) with|some (.inl (c7,_)) =>(match zah zavu (c7.Holds,(c7.Holds.length:Int),0,c7,()) with|some (.inl (c11,_)) =>(match zah zaga (c11.Charges,(c11.Charges.length:Int),0,c11,()) with|some (.inl (_)) =>some true|some (.inr (v,_)) =>some v|none =>none)|some (.inr (v15,_)) =>some v15|none =>none)|some (.inr (v16,_)) =>some v16|none =>none
def qap (item:Int):Option (Int×Unit):=
 some (item,())
def qb6 (n:Loan) (v:Int):Option Bool:=
 some (n.Item==v)
def zaof {γ0:Type} (p:γ0→Loan→Option Bool):((List Loan)×γ0×Int×Int×Unit)→Option (((List Loan)×γ0×Int×Int×Unit)⊕((Unit)⊕(Int×Unit))):=fun (s,g,v,v1,_)=>
 bif decide (v1<v) then match getI s v1 with|some x =>(match p g x with|some r =>bif r then some (.inr (.inr (v1,()))) else some (.inl (s,g,v,wr .i64 (v1+1),()))|none =>none)|none =>none else some (.inr (.inl (())))
def qj {γ0:Type} (p:γ0→Loan→Option Bool) (s:List Loan) (g:γ0):Option Int:=
 match zah (zaof p) (s,g,(s.length:Int),0,()) with|some (.inl (_)) =>some (-1)|some (.inr (v,_)) =>some v|none =>none
def qbx {γ0:Type} (p:γ0→Loan→Option Bool) (l:List Loan) (g:γ0):Option (Loan×Int):=
 match qj p l g with|some r1 =>(bif decide (r1<0) then some ((⟨0,0,0,0,0,false⟩:Loan),(-1)) else match getI l r1 with|some x =>some (x,r1)|none =>none)|none =>none
def qd4 (l:List Loan) (item:Int):Option (Loan×Bool):=
 match qap item with|some r1 =>(match qbx (fun g x0=>qb6 x0 g.2.1) l ((),(r1.1,())) with|some (r3,r4) =>some (r3,decide (0≤r4))|none =>none)|none =>none
def zaf4:((List Item)×Int×Int×Circ×Unit)→Option (((List Item)×Int×Int×Circ×Unit)⊕((Unit)⊕(Bool×Unit))):=fun (v,v1,v2,c,_)=>
 bif decide (v2<v1) then match getI v v2 with|some x =>(match qd4 c.Loans x.ID with|some (r3,r4) =>let k10 (v5:Bool):Option (((List Item)×Int×Int×Circ×Unit)⊕((Unit)⊕(Bool×Unit))):=let k9 (v6:Bool):Option (((List Item)×Int×Int×Circ×Unit)⊕((Unit)⊕(Bool×Unit))):=let k (v8:Bool):Option (((List Item)×Int×Int×Circ×Unit)⊕((Unit)⊕(Bool×Unit))):=bif v8 then some (.inr (.inr (false,()))) else some (.inl (v,v1,wr .i64 (v2+1),c,()));bif !(r4==v6) then k true else bif r4 then k (!(r3.Patron==x.Custody.Who)) else k false;bif v5 then k9 true else k9 (x.Custody.State==10);bif x.Custody.State==4 then k10 true else k10 (x.Custody.State==9)|none =>none)|none =>none else some (.inr (.inl (())))
def qbn (c:Circ):Option Bool:=
 match zah zaf4 (c.Items,(c.Items.length:Int),0,c,()) with|some (.inl (_)) =>some true|some (.inr (v,_)) =>some v|none =>none
def qco (h:Hold) (v:Int):Option Bool:=
 some (h.Got==v)
def zjg {γ0:Type} (p:γ0→Hold→Option Bool):((List Hold)×γ0×Int×Int×Unit)→Option (((List Hold)×γ0×Int×Int×Unit)⊕((Unit)⊕(Int×Unit))):=fun (s,g,v,v1,_)=>
 bif decide (v1<v) then match getI s v1 with|some x =>(match p g x with|some r =>bif r then some (.inr (.inr (v1,()))) else some (.inl (s,g,v,wr .i64 (v1+1),()))|none =>none)|none =>none else some (.inr (.inl (())))
def qb {γ0:Type} (p:γ0→Hold→Option Bool) (s:List Hold) (g:γ0):Option Int:=
 match zah (zjg p) (s,g,(s.length:Int),0,()) with|some (.inl (_)) =>some (-1)|some (.inr (v,_)) =>some v|none =>none
def qa6 (c:Circ) (item:Int):Option (Hold×Bool):=
 match qb (fun g x0=>qco x0 g.2.1) c.Holds ((),(item,())) with|some r1 =>(bif decide (r1<0) then some ((⟨0,0,0,0,0,0,0,0,0,0,0⟩:Hold),false) else match getI c.Holds r1 with|some x =>some (x,true)|none =>none)|none =>none
def zafn:((List Hold)×Int×Int×Circ×Unit)→Option (((List Hold)×Int×Int×Circ×Unit)⊕((Circ×Unit)⊕(Bool×Unit))):=fun (v,v1,v2,c,_)=>
 bif decide (v2<v1) then match getI v v2 with|some x =>(bif x.State==1 then some (.inl (v,v1,wr .i64 (v2+1),c,())) else match qah c x.Got with|some r3 =>(let k9 (v5:Bool):Option (((List Hold)×Int×Int×Circ×Unit)⊕((Circ×Unit)⊕(Bool×Unit))):=bif v5 then some (.inr (.inr (false,()))) else match getI c.Items r3 with|some x6 =>let k (want:Int) (want7:Int) (want8:Int):Option (((List Hold)×Int×Int×Circ×Unit)⊕((Circ×Unit)⊕(Bool×Unit))):=bif !(zbr x6.Custody (⟨want,want7,x.Patron,want8⟩:Custody)) then some (.inr (.inr (false,()))) else some (.inl (v,v1,wr .i64 (v2+1),c,()));bif x.State==2 then k 6 x6.Custody.Branch x.Pickup else k 5 x.Pickup 0|none =>none;bif decide (r3<0) then k9 true else match getI c.Items r3 with|some x4 =>k9 (!(x4.Record==x.Record))|none =>none)|none =>none)|none =>none else some (.inr (.inl (c,())))
def z4f:((List Item)×Int×Int×Circ×Unit)→Option (((List Item)×Int×Int×Circ×Unit)⊕((Unit)⊕(Bool×Unit))):=fun (v,v11,v12,c,_)=>
 bif decide (v12<v11) then match getI v v12 with|some x =>(match qa6 c x.ID with|some (r13,r14) =>let k (v16:Bool):Option (((List Item)×Int×Int×Circ×Unit)⊕((Unit)⊕(Bool×Unit))):=bif v16 then some (.inr (.inr (false,()))) else some (.inl (v,v11,wr .i64 (v12+1),c,()));bif x.Custody.State==5 then bif !r14 then k true else k (!(r13.State==3)) else k false|none =>none)|none =>none else some (.inr (.inl (())))
def qaa (c:Circ):Option Bool:=
 match zah zafn (c.Holds,(c.Holds.length:Int),0,c,()) with|some (.inl (c10,_)) =>(match zah z4f (c10.Items,(c10.Items.length:Int),0,c10,()) with|some (.inl (_)) =>some true|some (.inr (v,_)) =>some v|none =>none)|some (.inr (v17,_)) =>some v17|none =>none
def qfd (c:Circ):Option Bool:=
 match qb2 c.Today 0 109572 with|some r1 =>let k19 (v:Bool):Option Bool:=let k18 (v6:Bool):Option Bool:=let k17 (v9:Bool):Option Bool:=let k16 (v12:Bool):Option Bool:=let k (v15:Bool):Option Bool:=some v15;bif v12 then match qaa c with|some r14 =>k r14|none =>none else k false;bif v9 then match qbn c with|some r11 =>k16 r11|none =>none else k16 false;bif v6 then match qg c with|some r8 =>k17 r8|none =>none else k17 false;bif v then match qr c with|some r5 =>k18 r5|none =>none else k18 false;bif r1 then match qs c with|some r3 =>k19 r3|none =>none else k19 false|none =>none
def q9 (c:Circ) (x:Item):Option (Circ×Int):=
 match qah c x.ID with|some r1 =>(bif decide (0≤r1) then some ((⟨0,[],[],[],[],[],[],⟨⟨0,[]⟩,⟨0,[]⟩,⟨0,[]⟩,⟨0,[]⟩⟩,[],0,0,false⟩:Circ),7) else bif decide (64≤(c.Items.length:Int)) then some ((⟨0,[],[],[],[],[],[],⟨⟨0,[]⟩,⟨0,[]⟩,⟨0,[]⟩,⟨0,[]⟩⟩,[],0,0,false⟩:Circ),13) else match qdw x.Branch with|some r3 =>(match qc (fun g x0=>qcn x0 g.2.1) c.Items ((),(x,())) with|some r5 =>let k (i:Int):Option (Circ×Int):=match qcd c.Items with|some l =>(match qdr l i ([(⟨x.ID,x.Record,x.Branch,x.Kind,x.Price,x.Call,r3⟩:Item)]) with|some l8 =>(match qfd (⟨c.Today,l8,c.Patrons,c.Loans,c.Holds,c.Charges,c.Rules,c.Cals,c.Moves,c.NextHold,c.NextCharge,c.Local⟩:Circ) with|some r10 =>bif !r10 then some ((⟨0,[],[],[],[],[],[],⟨⟨0,[]⟩,⟨0,[]⟩,⟨0,[]⟩,⟨0,[]⟩⟩,[],0,0,false⟩:Circ),1) else some ((⟨c.Today,l8,c.Patrons,c.Loans,c.Holds,c.Charges,c.Rules,c.Cals,c.Moves,c.NextHold,c.NextCharge,c.Local⟩:Circ),0)|none =>none)|none =>none)|none =>none;bif decide (r5<0) then k (c.Items.length:Int) else k r5|none =>none)|none =>none)|none =>none
def qc2 (x:Patron) (v:Patron):Option Bool:=
 some (decide (v.ID<x.ID))
def qdp (s:List Patron):Option (List Patron):=
 bif decide (([]:List Patron).length+s.length≤LIM) then some (([])++s) else none
def qdu (l:List Patron):Option ((List Patron)×Int):=
 match qa4 l with|some r1 =>bif !(r1==0) then some ([],r1) else some (l,0)|none =>none
def qbv (l:List Patron) (p:Patron):Option ((List Patron)×Int):=
 match qbt l p.ID with|some r1 =>(bif decide (0≤r1) then some ([],7) else match qo (fun g x0=>qc2 x0 g.2.1) l ((),(p,())) with|some r3 =>let k (i:Int):Option ((List Patron)×Int):=match qdp l with|some l5 =>(match qdo l5 i ([p]) with|some l7 =>(match qdu l7 with|some (r9,r10) =>some (r9,r10)|none =>none)|none =>none)|none =>none;bif decide (r3<0) then k (l.length:Int) else k r3|none =>none)|none =>none
def qdd (c:Circ) (p:Patron):Option (Circ×Int):=
 match qbv c.Patrons p with|some (r1,r2) =>bif !(r2==0) then some ((⟨0,[],[],[],[],[],[],⟨⟨0,[]⟩,⟨0,[]⟩,⟨0,[]⟩,⟨0,[]⟩⟩,[],0,0,false⟩:Circ),r2) else some ((⟨c.Today,c.Items,r1,c.Loans,c.Holds,c.Charges,c.Rules,c.Cals,c.Moves,c.NextHold,c.NextCharge,c.Local⟩:Circ),0)|none =>none
def qc3:Option Circ:=
 match qd5 100 with|some r1 =>(match q9 (⟨r1.Today,r1.Items,r1.Patrons,r1.Loans,r1.Holds,r1.Charges,[(⟨0,0,0,14,1,10,0,500,2,5,7,0,0⟩:Rule)],r1.Cals,r1.Moves,r1.NextHold,r1.NextCharge,r1.Local⟩:Circ) (⟨1,5,1,1,2000,[],⟨0,0,0,0⟩⟩:Item) with|some (r3,r4) =>(match qdd r3 (⟨7,1,1,5000,false,[65,110,110]⟩:Patron) with|some (r6,r7) =>(match qdd r6 (⟨8,1,1,5000,false,[66,111,98]⟩:Patron) with|some (r9,r10) =>some r9|none =>none)|none =>none)|none =>none)|none =>none
def qca (c:Circ):Option Circ_desk:=
 some (⟨c,0⟩:Circ_desk)
def qt (e:Int) (d:Circ_desk):Option (Unit×Circ_desk):=
 let k (v:Int):Option (Unit×Circ_desk):=some ((),(⟨d.c,v⟩:Circ_desk));bif d.err==0 then k e else k d.err
def qcl (vid:Int) (d:Circ_desk):Option (Int×Circ_desk):=
 match qah d.c vid with|some r1 =>let k (v3:Circ_desk):Option (Int×Circ_desk):=some (r1,v3);bif decide (r1<0) then match qt 9 d with|some (_,v) =>k v|none =>none else k d|none =>none
def qdb (s:List Move):Option (List Move):=
 bif decide (([]:List Move).length+s.length≤LIM) then some (([])++s) else none
def qbd (i:Int) (kind:Int) (branch:Int) (who:Int) (d:Circ_desk):Option (Unit×Circ_desk):=
 bif !(d.err==0) then some ((),d) else match getI d.c.Items i with|some x =>(match getI d.c.Items i with|some x1 =>(match qdx x1.Custody (⟨d.c.Today,x.ID,kind,branch,who⟩:Move) with|some (r2,r3) =>let k10 (v:Bool):Option (Unit×Circ_desk):=let k (e:Int):Option (Unit×Circ_desk):=bif !(e==0) then match qt e d with|some (_,v5) =>some ((),v5)|none =>none else match qcd d.c.Items with|some l =>(match getI l i with|some _ =>(match l[i.toNat]? with|some x7 =>(match qdb d.c.Moves with|some l9 =>bif decide (l9.length+([(⟨d.c.Today,x.ID,kind,branch,who⟩:Move)]:List Move).length≤LIM) then some ((),(⟨⟨d.c.Today,l.set i.toNat (⟨x7.ID,x7.Record,x7.Branch,x7.Kind,x7.Price,x7.Call,r2⟩:Item),d.c.Patrons,d.c.Loans,d.c.Holds,d.c.Charges,d.c.Rules,d.c.Cals,l9++([(⟨d.c.Today,x.ID,kind,branch,who⟩:Move)]:List Move),d.c.NextHold,d.c.NextCharge,d.c.Local⟩,d.err⟩:Circ_desk)) else none|none =>none)|none =>none)|none =>none)|none =>none;bif v then k 13 else k r3;bif r3==0 then k10 (decide (2000≤(d.c.Moves.length:Int))) else k10 false|none =>none)|none =>none)|none =>none
def qbz (a:Hold) (b:Hold):Option Int:=
 some (wr .i64 (b.Rank-a.Rank))
def zav4 {γ0:Type} (p:γ0→Hold→Hold→Option Int):(Int×Int×γ0×Int×Int×(List Hold)×Unit)→Option ((Int×Int×γ0×Int×Int×(List Hold)×Unit)⊕((Int×Int×γ0×Int×(List Hold)×Unit))):=fun (a,b,g,i,j,l,_)=>
 let k (v:Bool):Option ((Int×Int×γ0×Int×Int×(List Hold)×Unit)⊕((Int×Int×γ0×Int×(List Hold)×Unit))):=bif v then match getI l (wr .i64 (j-1)) with|some _ =>(match l[(wr .i64 (j-1)).toNat]? with|some x2 =>(match getI l j with|some _ =>(match l[j.toNat]? with|some x3 =>(match getI l j with|some _ =>(match l[j.toNat]? with|some x4 =>(match getI (l.set j.toNat x2) (wr .i64 (j-1)) with|some _ =>(match (l.set j.toNat x2)[(wr .i64 (j-1)).toNat]? with|some x5 =>some (.inl (a,b,g,i,wr .i64 (j-1),(l.set j.toNat x2).set (wr .i64 (j-1)).toNat x3,()))|none =>none)|none =>none)|none =>none)|none =>none)|none =>none)|none =>none)|none =>none)|none =>none else some (.inr ((a,b,g,i,l,())));bif decide (a<j) then match getI l j with|some _ =>(match l[j.toNat]? with|some x =>(match getI l (wr .i64 (j-1)) with|some _ =>(match l[(wr .i64 (j-1)).toNat]? with|some x1 =>(match p g x x1 with|some r =>k (decide (r<0))|none =>none)|none =>none)|none =>none)|none =>none)|none =>none else k false
def zav3 {γ0:Type} (p:γ0→Hold→Hold→Option Int):(Int×Int×γ0×Int×(List Hold)×Unit)→Option ((Int×Int×γ0×Int×(List Hold)×Unit)⊕(((List Hold)×Unit))):=fun (a,b,g,i,l,_)=>
 bif decide (i<b) then match zah (zav4 p) (a,b,g,i,i,l,()) with|some ((a6,b7,g8,i9,l10,_)) =>some (.inl (a6,b7,g8,wr .i64 (i9+1),l10,()))|none =>none else some (.inr ((l,())))
def qq {γ0:Type} (p:γ0→Hold→Hold→Option Int) (data:List Hold) (a:Int) (b:Int) (g:γ0):Option (List Hold):=
 match zah (zav3 p) (a,b,g,wr .i64 (a+1),data,()) with|some ((l,_)) =>some l|none =>none
def zav0 {γ0:Type} (p:γ0→Hold→Hold→Option Int):(Int×γ0×Int×Int×Int×(List Hold)×Unit)→Option ((Int×γ0×Int×Int×Int×(List Hold)×Unit)⊕((Int×γ0×Int×Int×(List Hold)×Unit))):=fun (n,g,blockSize,a,b,l,_)=>
 bif decide (b≤n) then match qq p l a b g with|some l1 =>some (.inl (n,g,blockSize,b,wr .i64 (b+blockSize),l1,()))|none =>none else some (.inr ((n,g,blockSize,a,l,())))
def zav2 {γ0:Type} (p:γ0→Hold→Hold→Option Int):(Int×γ0×Int×Int×Int×(List Hold)×Unit)→Option ((Int×γ0×Int×Int×Int×(List Hold)×Unit)⊕((Int×γ0×Int×Int×(List Hold)×Unit))):=fun (n,g,blockSize,a,b,l,_)=>
 bif decide (b≤n) then match qcv p l a (wr .i64 (a+blockSize)) b g with|some l5 =>some (.inl (n,g,blockSize,b,wr .i64 (b+(wr .i64 (2*blockSize))),l5,()))|none =>none else some (.inr ((n,g,blockSize,a,l,())))
def zav1 {γ0:Type} (p:γ0→Hold→Hold→Option Int):(Int×γ0×Int×(List Hold)×Unit)→Option ((Int×γ0×Int×(List Hold)×Unit)⊕(((List Hold)×Unit))):=fun (n,g,blockSize,l,_)=>
 bif decide (blockSize<n) then match zah (zav2 p) (n,g,blockSize,0,wr .i64 (2*blockSize),l,()) with|some ((n6,g7,blockSize8,a,l9,_)) =>let k (l11:List Hold):Option ((Int×γ0×Int×(List Hold)×Unit)⊕(((List Hold)×Unit))):=some (.inl (n6,g7,wr .i64 (blockSize8*2),l11,()));bif decide (wr .i64 (a+blockSize8)<n6) then match qcv p l9 a (wr .i64 (a+blockSize8)) n6 g7 with|some l10 =>k l10|none =>none else k l9|none =>none else some (.inr ((l,())))
def qp {γ0:Type} (p:γ0→Hold→Hold→Option Int) (data:List Hold) (n:Int) (g:γ0):Option (List Hold):=
 match zah (zav0 p) (n,g,20,0,20,data,()) with|some ((n2,g3,blockSize,a,l,_)) =>(match qq p l a n2 g3 with|some l4 =>(match zah (zav1 p) (n2,g3,blockSize,l4,()) with|some ((l12,_)) =>some l12|none =>none)|none =>none)|none =>none
def qdn {γ0:Type} (p:γ0→Hold→Hold→Option Int) (x:List Hold) (g:γ0):Option (List Hold):=
 match qp p x (x.length:Int) g with|some l =>some l|none =>none
def zavw:(Int×Int×(List Hold)×Int×Int×(List Hold)×Unit)→Option ((Int×Int×(List Hold)×Int×Int×(List Hold)×Unit)⊕(((List Hold)×Unit))):=fun (record,day,v,v1,v2,l,_)=>
 bif decide (v2<v1) then match getI v v2 with|some x =>let k5 (v3:Bool):Option ((Int×Int×(List Hold)×Int×Int×(List Hold)×Unit)⊕(((List Hold)×Unit))):=let k (v4:Bool):Option ((Int×Int×(List Hold)×Int×Int×(List Hold)×Unit)⊕(((List Hold)×Unit))):=bif v4 then bif decide (l.length+([x]:List Hold).length≤LIM) then some (.inl (record,day,v,v1,wr .i64 (v2+1),l++([x]:List Hold),())) else none else some (.inl (record,day,v,v1,wr .i64 (v2+1),l,()));bif v3 then k (decide (x.Asleep≤day)) else k false;bif x.Record==record then k5 (x.State==1) else k5 false|none =>none else some (.inr ((l,())))
def qi (l:List Hold) (record:Int) (day:Int):Option (List Hold):=
 match zah zavw (record,day,l,(l.length:Int),0,([]:List Hold),()) with|some ((l6,_)) =>(match qdn (fun g x0 x1=>qbz x0 x1) l6 ((),()) with|some l7 =>some l7|none =>none)|none =>none
def zaf1:(Int×Bool×Int×(List Hold)×Int×Int×Item×Unit)→Option ((Int×Bool×Int×(List Hold)×Int×Int×Item×Unit)⊕((Int×Unit)⊕(Int×Unit))):=fun (branch,vlocal,first,v,v2,v3,x,_)=>
 bif decide (v3<v2) then match getI v v3 with|some x4 =>let k9 (v5:Bool):Option ((Int×Bool×Int×(List Hold)×Int×Int×Item×Unit)⊕((Int×Unit)⊕(Int×Unit))):=bif v5 then some (.inl (branch,vlocal,first,v,v2,wr .i64 (v3+1),x,())) else let k8 (v6:Bool):Option ((Int×Bool×Int×(List Hold)×Int×Int×Item×Unit)⊕((Int×Unit)⊕(Int×Unit))):=bif v6 then some (.inr (.inr (x4.ID,()))) else let k (first7:Int):Option ((Int×Bool×Int×(List Hold)×Int×Int×Item×Unit)⊕((Int×Unit)⊕(Int×Unit))):=some (.inl (branch,vlocal,first7,v,v2,wr .i64 (v3+1),x,()));bif first==0 then k x4.ID else k first;bif !vlocal then k8 true else k8 (x4.Pickup==branch);bif !(x4.Item==0) then k9 (!(x4.Item==x.ID)) else k9 false|none =>none else some (.inr (.inl (first,())))
def qbj (l:List Hold) (x:Item) (branch:Int) (day:Int) (vlocal:Bool):Option Int:=
 match qi l x.Record day with|some r1 =>(match zah zaf1 (branch,vlocal,0,r1,(r1.length:Int),0,x,()) with|some (.inl (first,_)) =>some first|some (.inr (v,_)) =>some v|none =>none)|none =>none
def qel (c:Circ) (x:Item):Option Int:=
 match qbj c.Holds x x.Custody.Branch c.Today c.Local with|some r1 =>some r1|none =>none
def qd0 (h:Hold) (v:Int):Option Bool:=
 some (h.ID==v)
def qbi (l:List Hold) (vid:Int):Option Int:=
 match qb (fun g x0=>qd0 x0 g.2.1) l ((),(vid,())) with|some r1 =>some r1|none =>none
def qep (l:List Hold) (vid:Int):Option (Hold×Bool):=
 match qbi l vid with|some r1 =>bif decide (0≤r1) then match getI l r1 with|some x =>some (x,true)|none =>none else some ((⟨0,0,0,0,0,0,0,0,0,0,0⟩:Hold),false)|none =>none
def qcm (i:Int) (kind:Int) (d:Circ_desk):Option (Unit×Circ_desk):=
 let k (v1:Circ_desk):Option (Unit×Circ_desk):=some ((),v1);bif d.err==0 then match getI d.c.Items i with|some x =>(match qbd i kind x.Custody.Branch 0 d with|some (_,v) =>k v|none =>none)|none =>none else k d
def qee (key:Int) (n:Int):Option Bool:=
 let k (v:Bool):Option Bool:=some v;bif key==0 then k true else k (key==n)
def qb0 (r:Rule) (patron:Int) (item:Int) (branch:Int):Option Bool:=
 match qee r.Patron patron with|some r2 =>let k8 (v:Bool):Option Bool:=let k (v7:Bool):Option Bool:=some v7;bif v then match qee r.Branch branch with|some r6 =>k r6|none =>none else k false;bif r2 then match qee r.Item item with|some r4 =>k8 r4|none =>none else k8 false|none =>none
def zafy:(Int×Int×Int×(List Int)×Unit)→Option ((Int×Int×Int×(List Int)×Unit)⊕((Int×Unit))):=fun (n,v,v1,l,_)=>
 bif decide (v1<v) then match getI l v1 with|some _ =>(match l[v1.toNat]? with|some x =>let k (n2:Int):Option ((Int×Int×Int×(List Int)×Unit)⊕((Int×Unit))):=some (.inl (n2,v,wr .i64 (v1+1),l,()));bif !(x==0) then k (wr .i64 ((wr .i64 (n*2))+1)) else k (wr .i64 (n*2))|none =>none)|none =>none else some (.inr ((n,())))
def qbe (r:Rule):Option Int:=
 match zah zafy (0,(([r.Patron,r.Item,r.Branch]).length:Int),0,[r.Patron,r.Item,r.Branch],()) with|some ((n,_)) =>some n|none =>none
def zafk:((List Rule)×Int×Int×Int×Int×(List Rule)×Int×Int×Unit)→Option (((List Rule)×Int×Int×Int×Int×(List Rule)×Int×Int×Unit)⊕((Int×Unit))):=fun (l,patron,item,branch,vat,v,v1,v2,_)=>
 bif decide (v2<v1) then match getI v v2 with|some x =>(match qb0 x patron item branch with|some r3 =>let k12 (v10:Bool):Option (((List Rule)×Int×Int×Int×Int×(List Rule)×Int×Int×Unit)⊕((Int×Unit))):=let k (vat11:Int):Option (((List Rule)×Int×Int×Int×Int×(List Rule)×Int×Int×Unit)⊕((Int×Unit))):=some (.inl (l,patron,item,branch,vat11,v,v1,wr .i64 (v2+1),()));bif v10 then k v2 else k vat;bif r3 then bif decide (vat<0) then k12 true else match qbe x with|some r5 =>(match getI l vat with|some x6 =>(match qbe x6 with|some r8 =>k12 (decide (r8<r5))|none =>none)|none =>none)|none =>none else k12 false|none =>none)|none =>none else some (.inr ((vat,())))
def qa5 (l:List Rule) (patron:Int) (item:Int) (branch:Int):Option Int:=
 match zah zafk (l,patron,item,branch,(-1),l,(l.length:Int),0,()) with|some ((vat,_)) =>some vat|none =>none
def qdz (l:List Rule) (patron:Int) (item:Int) (branch:Int):Option (Rule×Bool):=
 match qa5 l patron item branch with|some r1 =>(bif decide (r1<0) then some ((⟨0,0,0,0,0,0,0,0,0,0,0,0,0⟩:Rule),false) else match getI l r1 with|some x =>some (x,true)|none =>none)|none =>none
def qct (c:Circ) (vid:Int) (x:Item):Option (Rule×Bool):=
 match qdh c.Patrons vid with|some (r1,r2) =>(bif !r2 then some ((⟨0,0,0,0,0,0,0,0,0,0,0,0,0⟩:Rule),false) else match qdz c.Rules r1.Kind x.Kind x.Branch with|some (r4,r5) =>some (r4,r5)|none =>none)|none =>none
def qcu (c:Circ) (branch:Int):Option Calendar:=
 match qb2 branch 1 4 with|some r1 =>bif !r1 then some (⟨0,[]⟩:Calendar) else let k (v:Int) (v2:List Int):Option Calendar:=some (⟨v,v2⟩:Calendar);bif (wr .i64 (branch-1))==0 then k c.Cals.x0.Week c.Cals.x0.Closed else bif (wr .i64 (branch-1))==1 then k c.Cals.x1.Week c.Cals.x1.Closed else bif (wr .i64 (branch-1))==2 then k c.Cals.x2.Week c.Cals.x2.Closed else bif (wr .i64 (branch-1))==3 then k c.Cals.x3.Week c.Cals.x3.Closed else none|none =>none
def qde (x:Int):Option Bool:=
 some (!(x==x))
def qey (x:Int) (y:Int):Option Bool:=
 match qde x with|some r1 =>let k5 (v:Bool):Option Bool:=let k (v4:Bool):Option Bool:=some v4;bif v then k true else k (decide (x<y));bif r1 then match qde y with|some r3 =>k5 (!r3)|none =>none else k5 false|none =>none
def qeb (x:Int):Option Bool:=
 some (!(x==x))
def zaft:((List Int)×Int×Int×Int×Int×Unit)→Option (((List Int)×Int×Int×Int×Int×Unit)⊕(((List Int)×Int×Int×Int×Unit))):=fun (x,target,n,i,j,_)=>
 bif decide (i<j) then match getI x (wr .i64 ((wr .u64 (wr .i64 (i+j))).fdiv (2 ^ 1))) with|some x1 =>(match qey x1 target with|some r2 =>let k (i3:Int) (j4:Int):Option (((List Int)×Int×Int×Int×Int×Unit)⊕(((List Int)×Int×Int×Int×Unit))):=some (.inl (x,target,n,i3,j4,()));bif r2 then k (wr .i64 ((wr .i64 ((wr .u64 (wr .i64 (i+j))).fdiv (2 ^ 1)))+1)) j else k i (wr .i64 ((wr .u64 (wr .i64 (i+j))).fdiv (2 ^ 1)))|none =>none)|none =>none else some (.inr ((x,target,n,i,())))
def qat (x:List Int) (target:Int):Option (Int×Bool):=
 match zah zaft (x,target,(x.length:Int),0,(x.length:Int),()) with|some ((x5,target6,n,i,_)) =>let k (v13:Bool):Option (Int×Bool):=some (i,v13);bif decide (i<n) then match getI x5 i with|some x7 =>(bif x7==target6 then k true else match getI x5 i with|some x8 =>(match qeb x8 with|some r9 =>bif r9 then match qeb target6 with|some r11 =>k r11|none =>none else k false|none =>none)|none =>none)|none =>none else k false|none =>none
def zafs:(Int×Calendar×(V7 Bool)×(V7 Bool)×Unit)→Option ((Int×Calendar×(V7 Bool)×(V7 Bool)×Unit)⊕(((V7 Bool)×(V7 Bool)×Unit))):=fun (v,c,v1,vopen,_)=>
 bif decide (v<7) then bif decide (v<0) then none else bif v==0 then some (.inl (wr .i64 (v+1),c,v1,(⟨(wr .i64 (BitVec.ofInt 64 (c.Week.fdiv (2 ^ (min v.toNat 64))) &&& BitVec.ofInt 64 1).toNat)==0,vopen.x1,vopen.x2,vopen.x3,vopen.x4,vopen.x5,vopen.x6⟩:V7 Bool),())) else bif v==1 then some (.inl (wr .i64 (v+1),c,v1,(⟨vopen.x0,(wr .i64 (BitVec.ofInt 64 (c.Week.fdiv (2 ^ (min v.toNat 64))) &&& BitVec.ofInt 64 1).toNat)==0,vopen.x2,vopen.x3,vopen.x4,vopen.x5,vopen.x6⟩:V7 Bool),())) else bif v==2 then some (.inl (wr .i64 (v+1),c,v1,(⟨vopen.x0,vopen.x1,(wr .i64 (BitVec.ofInt 64 (c.Week.fdiv (2 ^ (min v.toNat 64))) &&& BitVec.ofInt 64 1).toNat)==0,vopen.x3,vopen.x4,vopen.x5,vopen.x6⟩:V7 Bool),())) else bif v==3 then some (.inl (wr .i64 (v+1),c,v1,(⟨vopen.x0,vopen.x1,vopen.x2,(wr .i64 (BitVec.ofInt 64 (c.Week.fdiv (2 ^ (min v.toNat 64))) &&& BitVec.ofInt 64 1).toNat)==0,vopen.x4,vopen.x5,vopen.x6⟩:V7 Bool),())) else bif v==4 then some (.inl (wr .i64 (v+1),c,v1,(⟨vopen.x0,vopen.x1,vopen.x2,vopen.x3,(wr .i64 (BitVec.ofInt 64 (c.Week.fdiv (2 ^ (min v.toNat 64))) &&& BitVec.ofInt 64 1).toNat)==0,vopen.x5,vopen.x6⟩:V7 Bool),())) else bif v==5 then some (.inl (wr .i64 (v+1),c,v1,(⟨vopen.x0,vopen.x1,vopen.x2,vopen.x3,vopen.x4,(wr .i64 (BitVec.ofInt 64 (c.Week.fdiv (2 ^ (min v.toNat 64))) &&& BitVec.ofInt 64 1).toNat)==0,vopen.x6⟩:V7 Bool),())) else bif v==6 then some (.inl (wr .i64 (v+1),c,v1,(⟨vopen.x0,vopen.x1,vopen.x2,vopen.x3,vopen.x4,vopen.x5,(wr .i64 (BitVec.ofInt 64 (c.Week.fdiv (2 ^ (min v.toNat 64))) &&& BitVec.ofInt 64 1).toNat)==0⟩:V7 Bool),())) else none else some (.inr ((v1,vopen,())))
def qaq (c:Calendar):Option (V7 Bool):=
 match zah zafs (0,c,(⟨false,false,false,false,false,false,false⟩:V7 Bool),(⟨false,false,false,false,false,false,false⟩:V7 Bool),()) with|some ((v,vopen,_)) =>some vopen|none =>none
def qfc (day:Int):Option Bool:=
 let k (v:Bool):Option Bool:=some v;bif decide (0≤day) then k (decide (day≤109572)) else k false
def qc4 (day:Int):Option Int:=
 match qfc day with|some r1 =>bif !r1 then some (-1) else some (day.tmod 7)|none =>none
def qb8 (c:Calendar) (day:Int):Option Bool:=
 match qcz day with|some r1 =>(bif !r1 then some false else match qat c.Closed day with|some (r3,r4) =>let k (v9:Bool):Option Bool:=some v9;bif !r4 then match qaq c with|some r6 =>(match qc4 day with|some r8 =>bif r8==0 then k r6.x0 else bif r8==1 then k r6.x1 else bif r8==2 then k r6.x2 else bif r8==3 then k r6.x3 else bif r8==4 then k r6.x4 else bif r8==5 then k r6.x5 else bif r8==6 then k r6.x6 else none|none =>none)|none =>none else k false|none =>none)|none =>none
def zafu:(Int×Calendar×Unit)→Option ((Int×Calendar×Unit)⊕((Unit)⊕(Int×Int×Unit))):=fun (d,c,_)=>
 bif decide (d≤109572) then match qb8 c d with|some r1 =>bif r1 then some (.inr (.inr (d,0,()))) else some (.inl (wr .i64 (d+1),c,()))|none =>none else some (.inr (.inl (())))
def qau (c:Calendar) (day:Int):Option (Int×Int):=
 match zah zafu ((if day<0 then 0 else day),c,()) with|some (.inl (_)) =>some (0,2)|some (.inr (v,v2,_)) =>some (v,v2)|none =>none
def zafi:(Int×Int×Int×Calendar×Unit)→Option ((Int×Int×Int×Calendar×Unit)⊕((Int×Unit)⊕(Int×Int×Unit))):=fun (d,v,v5,c,_)=>
 bif decide (v5<v) then match qau c (wr .i64 (d+1)) with|some (r6,r7) =>bif !(r7==0) then some (.inr (.inr (0,r7,()))) else some (.inl (r6,v,wr .i64 (v5+1),c,()))|none =>none else some (.inr (.inl (d,())))
def qa3 (c:Calendar) (day:Int) (n:Int):Option (Int×Int):=
 let k (v:Bool):Option (Int×Int):=bif v then some (0,1) else match qcz day with|some r1 =>(bif !r1 then some (0,2) else bif n==0 then match qau c day with|some (r3,r4) =>some (r3,r4)|none =>none else match zah zafi (day,n,0,c,()) with|some (.inl (d,_)) =>some (d,0)|some (.inr (v8,v9,_)) =>some (v8,v9)|none =>none)|none =>none;bif decide (n<0) then k true else k (decide (1000<n))
def qe7 (branch:Int) (n:Int) (d:Circ_desk):Option (Int×Circ_desk):=
 match qcu d.c branch with|some r1 =>(match qa3 r1 d.c.Today n with|some (r3,r4) =>let k (v6:Circ_desk):Option (Int×Circ_desk):=some (r3,v6);bif !(r4==0) then match qt r4 d with|some (_,v) =>k v|none =>none else k d|none =>none)|none =>none
def qcf (o:Hold) (v:Int) (v1:Int):Option Bool:=
 let k (v2:Bool):Option Bool:=some v2;bif o.Got==v then k (!(o.ID==v1)) else k false
def qbw {γ0:Type} (p:γ0→Hold→Option Bool) (s:List Hold) (g:γ0):Option Bool:=
 match qb p s g with|some r1 =>some (decide (0≤r1))|none =>none
def qd9 (s:List Hold):Option (List Hold):=
 bif decide (([]:List Hold).length+s.length≤LIM) then some (([])++s) else none
def qeo (l:List Hold) (i:Int) (h:Hold):Option (List Hold):=
 match qd9 l with|some l1 =>(match getI l1 i with|some _ =>(match l1[i.toNat]? with|some x =>some (l1.set i.toNat h)|none =>none)|none =>none)|none =>none
def qax (l:List Hold) (vid:Int) (item:Int) (state:Int) (vuntil:Int):Option ((List Hold)×Int):=
 match qbi l vid with|some r1 =>bif decide (r1<0) then some ([],9) else let k18 (v:Bool):Option ((List Hold)×Int):=match qb1 item 1 9999 with|some r5 =>let k17 (v8:Bool):Option ((List Hold)×Int):=bif v8 then some ([],1) else match getI l r1 with|some x =>let k16 (v11:Bool):Option ((List Hold)×Int):=bif v11 then some ([],12) else match qbw (fun g x0=>qcf x0 g.2.1 g.2.2.1) l ((),(item,vid,())) with|some r13 =>(bif r13 then some ([],7) else match qeo l r1 (⟨x.ID,x.Patron,x.Record,x.Item,x.Pickup,x.Placed,state,item,vuntil,x.Asleep,x.Rank⟩:Hold) with|some r15 =>some (r15,0)|none =>none)|none =>none;bif !(x.State==1) then let k (v9:Bool):Option ((List Hold)×Int):=bif v9 then k16 true else k16 (!(state==3));bif !(x.State==2) then k true else k (!(x.Got==item)) else k16 false|none =>none;bif !r5 then k17 true else bif !v then bif !(state==2) then k17 true else k17 (!(vuntil==0)) else k17 false|none =>none;bif state==3 then match qb1 vuntil 1 109572 with|some r3 =>k18 r3|none =>none else k18 false|none =>none
def qck (l:List Hold) (e:Int) (d:Circ_desk):Option (Unit×Circ_desk):=
 let k3 (v1:Circ_desk):Option (Unit×Circ_desk):=let k (v2:List Hold):Option (Unit×Circ_desk):=some ((),(⟨⟨v1.c.Today,v1.c.Items,v1.c.Patrons,v1.c.Loans,v2,v1.c.Charges,v1.c.Rules,v1.c.Cals,v1.c.Moves,v1.c.NextHold,v1.c.NextCharge,v1.c.Local⟩,v1.err⟩:Circ_desk));bif v1.err==0 then k l else k v1.c.Holds;bif !(e==0) then match qt e d with|some (_,v) =>k3 v|none =>none else k3 d
def qdc (i:Int) (h:Hold) (d:Circ_desk):Option (Unit×Circ_desk):=
 bif !(d.err==0) then some ((),d) else match getI d.c.Items i with|some x =>(match qct d.c h.Patron x with|some (r1,r2) =>let k13 (days:Int):Option (Unit×Circ_desk):=match qbd i 5 x.Custody.Branch h.Patron d with|some (_,v) =>(match qe7 x.Custody.Branch days v with|some (r5,v6) =>let k (v12:Circ_desk):Option (Unit×Circ_desk):=some ((),v12);bif v6.err==0 then match qax v6.c.Holds h.ID x.ID 3 r5 with|some (r8,r9) =>(match qck r8 r9 v6 with|some (_,v11) =>k v11|none =>none)|none =>none else k v6|none =>none)|none =>none;bif r2 then k13 r1.Shelf else k13 7|none =>none)|none =>none
def qea (i:Int) (d:Circ_desk):Option (Unit×Circ_desk):=
 bif !(d.err==0) then some ((),d) else match getI d.c.Items i with|some x =>(match qel d.c x with|some r1 =>(match qep d.c.Holds r1 with|some (r3,r4) =>let k25 (v:Bool):Option (Unit×Circ_desk):=let k24 (v23:Circ_desk):Option (Unit×Circ_desk):=some ((),v23);bif v then match qbd i 6 x.Branch 0 d with|some (_,v6) =>k24 v6|none =>none else let k (v7:Bool):Option (Unit×Circ_desk):=bif v7 then match qcm i 2 d with|some (_,v9) =>k24 v9|none =>none else bif !r4 then k24 d else bif r3.Pickup==x.Custody.Branch then match qdc i r3 d with|some (_,v11) =>k24 v11|none =>none else match qbd i 6 r3.Pickup r3.Patron d with|some (_,v13) =>bif v13.err==0 then match qax v13.c.Holds r1 x.ID 2 0 with|some (r15,r16) =>(match qck r15 r16 v13 with|some (_,v18) =>k24 v18|none =>none)|none =>none else k24 v13|none =>none;bif !r4 then k (!(x.Custody.State==3)) else k false;bif !r4 then k25 (!(x.Branch==x.Custody.Branch)) else k25 false|none =>none)|none =>none)|none =>none
def qa2 (d:Circ_desk):Option ((Circ×Int)×Circ_desk):=
 bif !(d.err==0) then some (((⟨0,[],[],[],[],[],[],⟨⟨0,[]⟩,⟨0,[]⟩,⟨0,[]⟩,⟨0,[]⟩⟩,[],0,0,false⟩:Circ),d.err),d) else some ((d.c,0),d)
def qcp (c:Circ) (item:Int) (branch:Int):Option (Circ×Int):=
 match qca c with|some d =>(match qcl item d with|some (r2,v) =>let k (v7:Circ_desk):Option (Circ×Int):=match qa2 v7 with|some ((r9,r10),v11) =>some (r9,r10)|none =>none;bif decide (0≤r2) then match qbd r2 1 branch 0 v with|some (_,v4) =>(match qea r2 v4 with|some (_,v6) =>k v6|none =>none)|none =>none else k v|none =>none)|none =>none
def zaf2:(Int×Int×(List Charge)×Int×Int×Unit)→Option ((Int×Int×(List Charge)×Int×Int×Unit)⊕((Int×Unit))):=fun (patron,vsum,v,v1,v2,_)=>
 bif decide (v2<v1) then match getI v v2 with|some x =>let k (vsum3:Int):Option ((Int×Int×(List Charge)×Int×Int×Unit)⊕((Int×Unit))):=some (.inl (patron,vsum3,v,v1,wr .i64 (v2+1),()));bif x.Patron==patron then k (wr .i64 (vsum+(wr .i64 (x.Amount-x.Paid)))) else k vsum|none =>none else some (.inr ((vsum,())))
def qbk (l:List Charge) (patron:Int):Option Int:=
 match zah zaf2 (patron,0,l,(l.length:Int),0,()) with|some ((vsum,_)) =>some vsum|none =>none
def zafq:(Int×(List Loan)×Int×Int×(List Loan)×Unit)→Option ((Int×(List Loan)×Int×Int×(List Loan)×Unit)⊕(((List Loan)×Unit))):=fun (patron,v,v1,v2,l,_)=>
 bif decide (v2<v1) then match getI v v2 with|some x =>bif x.Patron==patron then bif decide (l.length+([x]:List Loan).length≤LIM) then some (.inl (patron,v,v1,wr .i64 (v2+1),l++([x]:List Loan),())) else none else some (.inl (patron,v,v1,wr .i64 (v2+1),l,()))|none =>none else some (.inr ((l,())))
def qaf (l:List Loan) (patron:Int):Option (List Loan):=
 match zah zafq (patron,l,(l.length:Int),0,([]:List Loan),()) with|some ((l3,_)) =>some l3|none =>none
def zafw:(Int×Int×(List Loan)×Int×Int×Unit)→Option ((Int×Int×(List Loan)×Int×Int×Unit)⊕((Int×Unit))):=fun (day,n,v,v2,v3,_)=>
 bif decide (v3<v2) then match getI v v3 with|some x =>let k (n4:Int):Option ((Int×Int×(List Loan)×Int×Int×Unit)⊕((Int×Unit))):=some (.inl (day,n4,v,v2,wr .i64 (v3+1),()));bif decide (x.Due<day) then k (wr .i64 (n+1)) else k n|none =>none else some (.inr ((n,())))
def qbb (l:List Loan) (patron:Int) (day:Int):Option Int:=
 match qaf l patron with|some r1 =>(match zah zafw (day,0,r1,(r1.length:Int),0,()) with|some ((n,_)) =>some n|none =>none)|none =>none
def zafx:(Int×Int×(List Int)×(List Bool)×Unit)→Option ((Int×Int×(List Int)×(List Bool)×Unit)⊕(((List Int)×Unit))):=fun (v,v1,l,l2,_)=>
 bif decide (v1<v) then match getI l2 v1 with|some _ =>(match l2[v1.toNat]? with|some x =>bif x then bif decide (l.length+([wr .i64 (v1+1)]:List Int).length≤LIM) then some (.inl (v,wr .i64 (v1+1),l++([wr .i64 (v1+1)]:List Int),l2,())) else none else some (.inl (v,wr .i64 (v1+1),l,l2,()))|none =>none)|none =>none else some (.inr ((l,())))
def qbc (p:Patron) (day:Int) (owed:Int) (late:Int):Option (List Int):=
 match zah zafx ((([p.Stopped,decide (p.Until<day),decide (1000<owed),decide (2<late)]).length:Int),0,([]:List Int),[p.Stopped,decide (p.Until<day),decide (1000<owed),decide (2<late)],()) with|some ((l,_)) =>some l|none =>none
def qfb (c:Circ) (p:Patron):Option Bool:=
 match qbk c.Charges p.ID with|some r1 =>(match qbb c.Loans p.ID c.Today with|some r3 =>(match qbc p c.Today r1 r3 with|some r5 =>some (decide (0<(r5.length:Int)))|none =>none)|none =>none)|none =>none
def zaf5:(Int×Calendar×Unit)→Option ((Int×Calendar×Unit)⊕((Unit)⊕(Int×Int×Unit))):=fun (d,c,_)=>
 bif decide (0≤d) then match qb8 c d with|some r1 =>bif r1 then some (.inr (.inr (d,0,()))) else some (.inl (wr .i64 (d-1),c,()))|none =>none else some (.inr (.inl (())))
def qbo (c:Calendar) (day:Int):Option (Int×Int):=
 match zah zaf5 ((if 109572<day then 109572 else day),c,()) with|some (.inl (_)) =>some (0,2)|some (.inr (v,v2,_)) =>some (v,v2)|none =>none
def qd2 (r:Rule) (c:Calendar) (day:Int) (vuntil:Int):Option (Int×Int):=
 match qbs day 0 109572 with|some r2 =>(let k17 (v:Bool):Option (Int×Int):=bif v then some (0,2) else let k16 (last:Int):Option (Int×Int):=let k15 (v5:Bool):Option (Int×Int):=bif v5 then some (0,15) else match qau c (if last<wr .i64 (day+r.Days) then last else wr .i64 (day+r.Days)) with|some (r7,r8) =>let k14 (v9:Bool):Option (Int×Int):=bif v9 then some (r7,0) else match qbo c last with|some (r11,r12) =>let k (v13:Bool):Option (Int×Int):=bif v13 then some (0,15) else some (r11,0);bif !(r12==0) then k true else k (decide (r11≤day))|none =>none;bif r8==0 then k14 (decide (r7≤last)) else k14 false|none =>none;bif r.Days==0 then k15 true else k15 (decide (last≤day));bif decide (0<r.Fixed) then k16 (if r.Fixed<vuntil then r.Fixed else vuntil) else k16 vuntil;bif !r2 then k17 true else match qbs vuntil 0 109572 with|some r4 =>k17 (!r4)|none =>none)|none =>none
def qeg (c:Circ) (x:Item) (p:Patron) (branch:Int):Option (Int×Int):=
 let k26 (v:Bool):Option (Int×Int):=let k4 (v3:Int):Option (Int×Int):=some (0,v3);bif v then k4 12 else bif !(x.Custody.Branch==branch) then k4 1 else let k (v1:Bool):Option (Int×Int):=bif v1 then k4 16 else let k25 (_:Unit):Option (Int×Int):=match qfb c p with|some r12 =>(bif r12 then some (0,14) else match qct c p.ID x with|some (r14,r15) =>(let k24 (v18:Bool):Option (Int×Int):=bif v18 then some (0,15) else match qcu c branch with|some r20 =>(match qd2 r14 r20 c.Today p.Until with|some (r22,r23) =>some (r22,r23)|none =>none)|none =>none;bif !r15 then k24 true else match qaf c.Loans p.ID with|some r17 =>k24 (decide (r14.Loans≤(r17.length:Int)))|none =>none)|none =>none)|none =>none;bif x.Custody.State==3 then match qel c x with|some r5 =>(match qep c.Holds r5 with|some (r7,r8) =>let k10 (v9:Bool):Option (Int×Int):=bif v9 then some (0,16) else k25 ();bif r8 then k10 (!(r7.Patron==p.ID)) else k10 false|none =>none)|none =>none else k25 ();bif x.Custody.State==5 then k (!(x.Custody.Who==p.ID)) else k false;bif !(x.Custody.State==3) then k26 (!(x.Custody.State==5)) else k26 false
def qch (x:Loan) (v:Loan):Option Bool:=
 some (decide (v.Item<x.Item))
def qd8 (s:List Loan):Option (List Loan):=
 bif decide (([]:List Loan).length+s.length≤LIM) then some (([])++s) else none
def qdy (l:List Loan):Option ((List Loan)×Int):=
 match qa7 l with|some r1 =>bif !(r1==0) then some ([],r1) else some (l,0)|none =>none
def qbr (l:List Loan) (n:Loan):Option ((List Loan)×Int):=
 match qap n.Item with|some r1 =>(match qbx (fun g x0=>qb6 x0 g.2.1) l ((),(r1.1,())) with|some (r3,r4) =>(bif decide (0≤r4) then some ([],7) else match qbx (fun g x0=>qch x0 g.2.1) l ((),(n,())) with|some (r6,r7) =>let k (i:Int):Option ((List Loan)×Int):=match qd8 l with|some l9 =>(match qdq l9 i ([n]) with|some l11 =>(match qdy l11 with|some (r13,r14) =>some (r13,r14)|none =>none)|none =>none)|none =>none;bif decide (r7<0) then k (l.length:Int) else k r7|none =>none)|none =>none)|none =>none
def qcj (l:List Loan) (e:Int) (d:Circ_desk):Option (Unit×Circ_desk):=
 let k3 (v1:Circ_desk):Option (Unit×Circ_desk):=let k (v2:List Loan):Option (Unit×Circ_desk):=some ((),(⟨⟨v1.c.Today,v1.c.Items,v1.c.Patrons,v2,v1.c.Holds,v1.c.Charges,v1.c.Rules,v1.c.Cals,v1.c.Moves,v1.c.NextHold,v1.c.NextCharge,v1.c.Local⟩,v1.err⟩:Circ_desk));bif v1.err==0 then k l else k v1.c.Loans;bif !(e==0) then match qt e d with|some (_,v) =>k3 v|none =>none else k3 d
def qei (l:List Hold) (vid:Int):Option ((List Hold)×Hold×Int):=
 match qbi l vid with|some r1 =>(bif decide (r1<0) then some ([],(⟨0,0,0,0,0,0,0,0,0,0,0⟩:Hold),9) else match qd9 l with|some l3 =>(match qdt l3 r1 (wr .i64 (r1+1)) with|some l5 =>(match getI l r1 with|some x =>some (l5,x,0)|none =>none)|none =>none)|none =>none)|none =>none
def qeu (vid:Int) (d:Circ_desk):Option (Unit×Circ_desk):=
 let k (v5:Circ_desk):Option (Unit×Circ_desk):=some ((),v5);bif d.err==0 then match qei d.c.Holds vid with|some (r1,r2,r3) =>(match qck r1 r3 d with|some (_,v) =>k v|none =>none)|none =>none else k d
def qb7 (n:Int) (d:Circ_desk):Option ((Circ×Int×Int)×Circ_desk):=
 bif !(d.err==0) then some (((⟨0,[],[],[],[],[],[],⟨⟨0,[]⟩,⟨0,[]⟩,⟨0,[]⟩,⟨0,[]⟩⟩,[],0,0,false⟩:Circ),0,d.err),d) else some ((d.c,n,0),d)
def qem (h:Hold) (x:Item):Option Bool:=
 let k (v1:Bool):Option Bool:=some v1;bif h.Record==x.Record then bif h.Item==0 then k true else k (h.Item==x.ID) else k false
def qc6 (h:Hold) (v:Int) (v1:Item):Option Bool:=
 let k5 (v2:Bool):Option Bool:=let k (v4:Bool):Option Bool:=some v4;bif v2 then match qem h v1 with|some r3 =>k r3|none =>none else k false;bif h.Patron==v then k5 (h.State==1) else k5 false
def qbq (c:Circ) (item:Int) (vid:Int) (branch:Int):Option (Circ×Int×Int):=
 match qca c with|some d =>(match qcl item d with|some (r2,v) =>(match qdh c.Patrons vid with|some (r4,r5) =>let k40 (v8:Circ_desk):Option (Circ×Int×Int):=bif !(v8.err==0) then some ((⟨0,[],[],[],[],[],[],⟨⟨0,[]⟩,⟨0,[]⟩,⟨0,[]⟩,⟨0,[]⟩⟩,[],0,0,false⟩:Circ),0,v8.err) else match getI c.Items r2 with|some x =>(match qeg c x r4 branch with|some (r10,r11) =>(bif !(r11==0) then some ((⟨0,[],[],[],[],[],[],⟨⟨0,[]⟩,⟨0,[]⟩,⟨0,[]⟩,⟨0,[]⟩⟩,[],0,0,false⟩:Circ),0,r11) else match qbd r2 3 branch vid v8 with|some (_,v13) =>(match qbr c.Loans (⟨item,vid,c.Today,r10,0,false⟩:Loan) with|some (r15,r16) =>(match qcj r15 r16 v13 with|some (_,v18) =>(match qa6 c item with|some (r20,r21) =>(bif r21 then match qeu r20.ID v18 with|some (_,v23) =>(match qb7 r10 v23 with|some ((r25,r26,r27),v28) =>some (r25,r26,r27)|none =>none)|none =>none else match qb (fun g x0=>qc6 x0 g.2.1 g.2.2.1) c.Holds ((),(vid,x,())) with|some r30 =>let k (v34:Circ_desk):Option (Circ×Int×Int):=match qb7 r10 v34 with|some ((r36,r37,r38),v39) =>some (r36,r37,r38)|none =>none;bif decide (0≤r30) then match getI c.Holds r30 with|some x31 =>(match qeu x31.ID v18 with|some (_,v33) =>k v33|none =>none)|none =>none else k v18|none =>none)|none =>none)|none =>none)|none =>none)|none =>none)|none =>none)|none =>none;bif !r5 then match qt 9 v with|some (_,v7) =>k40 v7|none =>none else k40 v|none =>none)|none =>none)|none =>none
def qe4 (l:List Loan) (i:Int):Option (List Loan):=
 match qd8 l with|some l1 =>(match qds l1 i (wr .i64 (i+1)) with|some l3 =>some l3|none =>none)|none =>none
def qdl (l:List Loan) (item:Int):Option ((List Loan)×Loan×Int):=
 match qap item with|some r1 =>(match qbx (fun g x0=>qb6 x0 g.2.1) l ((),(r1.1,())) with|some (r3,r4) =>(bif decide (r4<0) then some ([],(⟨0,0,0,0,0,false⟩:Loan),9) else match qe4 l r4 with|some r6 =>some (r6,r3,0)|none =>none)|none =>none)|none =>none
def qef (day:Int) (weekday:Int):Option Int:=
 match qc4 0 with|some r1 =>bif decide (day<(wr .i64 ((wr .i64 (weekday-r1))+7)).tmod 7) then some 0 else some (wr .i64 ((wr .i64 ((wr .i64 (day-((wr .i64 ((wr .i64 (weekday-r1))+7)).tmod 7))).tdiv 7))+1))|none =>none
def zafo:(Int×Int×Int×(V7 Bool)×Int×Calendar×(V7 Bool)×Unit)→Option ((Int×Int×Int×(V7 Bool)×Int×Calendar×(V7 Bool)×Unit)⊕((Int×Int×Int×Calendar×(V7 Bool)×Unit))):=fun (vfrom,vto,n,v,v2,c,vopen,_)=>
 bif decide (v2<7) then let k8 (v3:Bool):Option ((Int×Int×Int×(V7 Bool)×Int×Calendar×(V7 Bool)×Unit)⊕((Int×Int×Int×Calendar×(V7 Bool)×Unit))):=let k (n7:Int):Option ((Int×Int×Int×(V7 Bool)×Int×Calendar×(V7 Bool)×Unit)⊕((Int×Int×Int×Calendar×(V7 Bool)×Unit))):=some (.inl (vfrom,vto,n7,v,wr .i64 (v2+1),c,vopen,()));bif v3 then match qef vto v2 with|some r4 =>(match qef (wr .i64 (vfrom-1)) v2 with|some r6 =>k (wr .i64 (n+(wr .i64 (r4-r6))))|none =>none)|none =>none else k n;bif v2==0 then k8 v.x0 else bif v2==1 then k8 v.x1 else bif v2==2 then k8 v.x2 else bif v2==3 then k8 v.x3 else bif v2==4 then k8 v.x4 else bif v2==5 then k8 v.x5 else bif v2==6 then k8 v.x6 else none else some (.inr ((vfrom,vto,n,c,vopen,())))
def z4g:(Int×Int×Int×(List Int)×Int×Int×(V7 Bool)×Unit)→Option ((Int×Int×Int×(List Int)×Int×Int×(V7 Bool)×Unit)⊕((Int×Unit))):=fun (vfrom,vto,n,v,v12,v13,vopen,_)=>
 bif decide (v13<v12) then match getI v v13 with|some x =>let k20 (v14:Bool):Option ((Int×Int×Int×(List Int)×Int×Int×(V7 Bool)×Unit)⊕((Int×Unit))):=let k19 (v17:Bool):Option ((Int×Int×Int×(List Int)×Int×Int×(V7 Bool)×Unit)⊕((Int×Unit))):=let k (n18:Int):Option ((Int×Int×Int×(List Int)×Int×Int×(V7 Bool)×Unit)⊕((Int×Unit))):=some (.inl (vfrom,vto,n18,v,v12,wr .i64 (v13+1),vopen,()));bif v17 then k (wr .i64 (n-1)) else k n;bif v14 then match qc4 x with|some r15 =>bif r15==0 then k19 vopen.x0 else bif r15==1 then k19 vopen.x1 else bif r15==2 then k19 vopen.x2 else bif r15==3 then k19 vopen.x3 else bif r15==4 then k19 vopen.x4 else bif r15==5 then k19 vopen.x5 else bif r15==6 then k19 vopen.x6 else none|none =>none else k19 false;bif decide (vfrom≤x) then k20 (decide (x≤vto)) else k20 false|none =>none else some (.inr ((n,())))
def qab (c:Calendar) (vfrom:Int) (vto:Int):Option Int:=
 bif decide ((if 109572<vto then 109572 else vto)<(if vfrom<0 then 0 else vfrom)) then some 0 else match qaq c with|some r1 =>(match zah zafo ((if vfrom<0 then 0 else vfrom),(if 109572<vto then 109572 else vto),0,r1,0,c,r1,()) with|some ((vfrom9,vto10,n,c11,vopen,_)) =>(match zah z4g (vfrom9,vto10,n,c11.Closed,(c11.Closed.length:Int),0,vopen,()) with|some ((n21,_)) =>some n21|none =>none)|none =>none)|none =>none
def qff (r:Rule) (c:Calendar) (due:Int) (back:Int):Option Int:=
 match qv c with|some r2 =>(let k10 (v:Bool):Option Int:=let k (v7:Bool):Option Int:=bif v7 then some 0 else match qab c (wr .i64 (due+1)) back with|some r9 =>bif decide (r9≤r.Grace) then some 0 else some (if r.MaxFine<wr .i64 (r9*r.Fine) then r.MaxFine else wr .i64 (r9*r.Fine))|none =>none;bif v then k true else match qd3 back with|some r6 =>k (!r6)|none =>none;bif !(r2==0) then k10 true else match qd3 due with|some r4 =>k10 (!r4)|none =>none)|none =>none
def qc9 (l:List Charge) (c:Charge):Option ((List Charge)×Int):=
 bif decide (l.length≤LIM) then bif decide (l.length+([c]:List Charge).length≤LIM) then match qa8 (l++([c]:List Charge)) with|some r1 =>bif !(r1==0) then some ([],r1) else some (l++([c]:List Charge),0)|none =>none else none else none
def qe5 (vid:Int) (item:Int) (kind:Int) (amount:Int) (d:Circ_desk):Option (Unit×Circ_desk):=
 bif !(d.err==0) then some ((),d) else bif decide (99999<d.c.NextCharge) then match qt 13 d with|some (_,v) =>some ((),v)|none =>none else match qc9 d.c.Charges (⟨d.c.NextCharge,vid,item,d.c.Today,kind,amount,0⟩:Charge) with|some (r2,r3) =>bif !(r3==0) then match qt r3 d with|some (_,v5) =>some ((),v5)|none =>none else some ((),(⟨⟨d.c.Today,d.c.Items,d.c.Patrons,d.c.Loans,d.c.Holds,r2,d.c.Rules,d.c.Cals,d.c.Moves,d.c.NextHold,wr .i64 (d.c.NextCharge+1),d.c.Local⟩,d.err⟩:Circ_desk))|none =>none
def qc1 (x:Charge) (v:Int) (v1:Int) (v2:Int):Option Bool:=
 let k6 (v3:Bool):Option Bool:=let k (v5:Bool):Option Bool:=some v5;bif v3 then bif v2==0 then k true else k (x.Kind==v2) else k false;bif x.Patron==v then k6 (x.Item==v1) else k6 false
def zafv {γ0:Type} (p:γ0→Charge→Option Bool):(γ0×Int×Int×(List Charge)×Int×Int×(List Charge)×Unit)→Option ((γ0×Int×Int×(List Charge)×Int×Int×(List Charge)×Unit)⊕((Int×Int×(List Charge)×Unit))):=fun (g,paid,n,v,v1,v2,l,_)=>
 bif decide (v2<v1) then match getI v v2 with|some x =>(match p g x with|some r =>bif r then some (.inl (g,wr .i64 (paid+x.Paid),wr .i64 (n+1),v,v1,wr .i64 (v2+1),l,())) else bif decide (l.length+([x]:List Charge).length≤LIM) then some (.inl (g,paid,n,v,v1,wr .i64 (v2+1),l++([x]:List Charge),())) else none|none =>none)|none =>none else some (.inr ((paid,n,l,())))
def qaw {γ0:Type} (p:γ0→Charge→Option Bool) (l:List Charge) (g:γ0):Option ((List Charge)×Int×Int):=
 match zah (zafv p) (g,0,0,l,(l.length:Int),0,([]:List Charge),()) with|some ((paid,n,l3,_)) =>some (l3,paid,n)|none =>none
def qbu (l:List Charge) (patron:Int) (item:Int) (kind:Int):Option ((List Charge)×Int):=
 match qaw (fun g x0=>qc1 x0 g.2.1 g.2.2.1 g.2.2.2.1) l ((),(patron,item,kind,())) with|some (r1,r2,r3) =>some (r1,r2)|none =>none
def qe3 (i:Int) (branch:Int) (d:Circ_desk):Option (Unit×Circ_desk):=
 match getI d.c.Items i with|some x =>(match qbd i 4 branch 0 d with|some (_,v) =>(bif !(v.err==0) then some ((),v) else match qdl v.c.Loans x.ID with|some (r2,r3,r4) =>(match qcj r2 r4 v with|some (_,v6) =>(match qct v6.c r3.Patron x with|some (r8,r9) =>let k (v17:Circ_desk):Option (Unit×Circ_desk):=match qbu v17.c.Charges r3.Patron x.ID 2 with|some (r19,r20) =>some ((),(⟨⟨v17.c.Today,v17.c.Items,v17.c.Patrons,v17.c.Loans,v17.c.Holds,r19,v17.c.Rules,v17.c.Cals,v17.c.Moves,v17.c.NextHold,v17.c.NextCharge,v17.c.Local⟩,v17.err⟩:Circ_desk))|none =>none;bif r9 then match qcu v6.c branch with|some r11 =>(match qff r8 r11 r3.Due v6.c.Today with|some r13 =>bif !(r13==0) then match qe5 r3.Patron x.ID 1 r13 v6 with|some (_,v15) =>k v15|none =>none else k v6|none =>none)|none =>none else k v6|none =>none)|none =>none)|none =>none)|none =>none)|none =>none
def qe1 (c:Circ) (item:Int) (branch:Int):Option (Circ×Int×Int):=
 match qca c with|some d =>(match qcl item d with|some (r2,v) =>(bif decide (r2<0) then match qb7 0 v with|some ((r4,r5,r6),v7) =>some (r4,r5,r6)|none =>none else match getI c.Items r2 with|some x =>let k43 (v9:Bool):Option (Circ×Int×Int):=let k42 (v23:Circ_desk):Option (Circ×Int×Int):=match qa6 v23.c item with|some (r25,r26) =>let k41 (v27:Bool):Option (Circ×Int×Int):=let k (v32:Circ_desk):Option (Circ×Int×Int):=match qa6 v32.c item with|some (r34,r35) =>(match qb7 r34.ID v32 with|some ((r37,r38,r39),v40) =>some (r37,r38,r39)|none =>none)|none =>none;bif v27 then match qdc r2 r25 v23 with|some (_,v29) =>k v29|none =>none else match qea r2 v23 with|some (_,v31) =>k v31|none =>none;bif r26 then k41 (r25.State==2) else k41 false|none =>none;bif v9 then match qe3 r2 branch v with|some (_,v11) =>k42 v11|none =>none else bif x.Custody.State==8 then match qbd r2 4 branch 0 v with|some (_,v13) =>k42 v13|none =>none else bif x.Custody.State==11 then match qbd r2 14 branch 0 v with|some (_,v15) =>k42 v15|none =>none else bif x.Custody.State==6 then match qbd r2 7 branch 0 v with|some (_,v17) =>k42 v17|none =>none else match qt 12 v with|some (_,v19) =>k42 v19|none =>none;bif x.Custody.State==4 then k43 (x.Custody.State==4) else bif x.Custody.State==9 then k43 (x.Custody.State==9) else k43 (x.Custody.State==10)|none =>none)|none =>none)|none =>none
def zafz:(Bool×Int×Circ×Circ×Unit)→Option ((Bool×Int×Circ×Circ×Unit)⊕((Bool×Circ×Circ×Unit))):=fun (ok,i,v,c,_)=>
 bif decide (i≤3) then match qcp c i 1 with|some (r8,r9) =>let k (v10:Bool):Option ((Bool×Int×Circ×Circ×Unit)⊕((Bool×Circ×Circ×Unit))):=some (.inl (v10,wr .i64 (i+1),v,r8,()));bif ok then k (r9==0) else k false|none =>none else some (.inr ((ok,v,c,())))
def qbf:Option (Circ×Bool):=
 match qc3 with|some r1 =>(match q9 r1 (⟨2,5,1,1,0,[],⟨0,0,0,0⟩⟩:Item) with|some (r3,r4) =>(match q9 r3 (⟨3,6,1,1,0,[],⟨0,0,0,0⟩⟩:Item) with|some (r6,r7) =>let k23 (v:Bool):Option (Circ×Bool):=match zah zafz (v,1,(⟨0,[],[],[],[],[],[],⟨⟨0,[]⟩,⟨0,[]⟩,⟨0,[]⟩,⟨0,[]⟩⟩,[],0,0,false⟩:Circ),r6,()) with|some ((ok,v11,c,_)) =>(match qbq (⟨110,c.Items,c.Patrons,c.Loans,c.Holds,c.Charges,c.Rules,c.Cals,c.Moves,c.NextHold,c.NextCharge,c.Local⟩:Circ) 2 7 1 with|some (r13,r14,r15) =>let k22 (v16:Bool):Option (Circ×Bool):=match qe1 (⟨120,r13.Items,r13.Patrons,r13.Loans,r13.Holds,r13.Charges,r13.Rules,r13.Cals,r13.Moves,r13.NextHold,r13.NextCharge,r13.Local⟩:Circ) 2 1 with|some (r18,r19,r20) =>let k (v21:Bool):Option (Circ×Bool):=some ((⟨300,r18.Items,r18.Patrons,r18.Loans,r18.Holds,r18.Charges,r18.Rules,r18.Cals,r18.Moves,r18.NextHold,r18.NextCharge,r18.Local⟩:Circ),v21);bif v16 then k (r20==0) else k false|none =>none;bif ok then k22 (r15==0) else k22 false|none =>none)|none =>none;bif r4==0 then k23 (r7==0) else k23 false|none =>none)|none =>none)|none =>none
def zle:(Int×Int×Int×(List Move)×Int×Int×Unit)→Option ((Int×Int×Int×(List Move)×Int×Int×Unit)⊕((Int×Int×Unit))):=fun (item,loans,last,v,v1,v2,_)=>
 bif decide (v2<v1) then match getI v v2 with|some x =>bif !(x.Item==item) then some (.inl (item,loans,last,v,v1,wr .i64 (v2+1),())) else let k7 (loans5:Int) (last6:Int):Option ((Int×Int×Int×(List Move)×Int×Int×Unit)⊕((Int×Int×Unit))):=some (.inl (item,loans5,last6,v,v1,wr .i64 (v2+1),()));bif x.Kind==3 then k7 (wr .i64 (loans+1)) (if last<x.Day then x.Day else last) else let k (v3:Bool):Option ((Int×Int×Int×(List Move)×Int×Int×Unit)⊕((Int×Int×Unit))):=bif v3 then k7 loans (if last<x.Day then x.Day else last) else k7 loans last;bif x.Kind==1 then k (x.Kind==1) else k (x.Kind==4)|none =>none else some (.inr ((loans,last,())))
def qa9 (c:Circ) (item:Int):Option (Int×Int):=
 match zah zle (item,0,(-1),c.Moves,(c.Moves.length:Int),0,()) with|some ((loans,last,_)) =>some (loans,last)|none =>none
def zlm:(Int×Int×(List Item)×Int×Int×Unit)→Option ((Int×Int×(List Item)×Int×Int×Unit)⊕((Int×Unit))):=fun (record,n,v,v1,v2,_)=>
 bif decide (v2<v1) then match getI v v2 with|some x =>let k5 (v3:Bool):Option ((Int×Int×(List Item)×Int×Int×Unit)⊕((Int×Unit))):=let k (n4:Int):Option ((Int×Int×(List Item)×Int×Int×Unit)⊕((Int×Unit))):=some (.inl (record,n4,v,v1,wr .i64 (v2+1),()));bif v3 then k (wr .i64 (n+1)) else k n;bif x.Record==record then k5 (!(x.Custody.State==12)) else k5 false|none =>none else some (.inr ((n,())))
def qav (c:Circ) (record:Int):Option Int:=
 match zah zlm (record,0,c.Items,(c.Items.length:Int),0,()) with|some ((n,_)) =>some n|none =>none
def qcc (h:Hold) (v:Item):Option Bool:=
 let k (v1:Bool):Option Bool:=some v1;bif h.Record==v.Record then k true else k (h.Item==v.ID)
def qec (x:Int) (y:Int):Option Int:=
 match qde x with|some r1 =>(match qde y with|some r3 =>let k (v:Int):Option Int:=some v;bif r1 then bif r3 then k 0 else k (-1) else bif r3 then some 1 else bif decide (x<y) then some (-1) else bif decide (y<x) then some 1 else some 0|none =>none)|none =>none
def zaf0:(Int×(List Int)×Int×Int×Unit)→Option ((Int×(List Int)×Int×Int×Unit)⊕((Int×Unit)⊕(Int×Unit))):=fun (zero,v,v1,v2,_)=>
 bif decide (v2<v1) then match getI v v2 with|some x =>bif !(x==zero) then some (.inr (.inr (x,()))) else some (.inl (zero,v,v1,wr .i64 (v2+1),()))|none =>none else some (.inr (.inl (zero,())))
def qbh (vals:List Int):Option Int:=
 match zah zaf0 (0,vals,(vals.length:Int),0,()) with|some (.inl (zero,_)) =>some zero|some (.inr (v,_)) =>some v|none =>none
def qd7 (a:Weed_candidate) (b:Weed_candidate):Option Int:=
 match qec a.loans b.loans with|some r1 =>(match qec a.last b.last with|some r3 =>(match qec a.id_ b.id_ with|some r5 =>(match qbh ([r1,r3,r5]) with|some r7 =>some r7|none =>none)|none =>none)|none =>none)|none =>none
def zx5:(Int×Int×(List Item)×Int×Int×Circ×(List Weed_candidate)×Unit)→Option ((Int×Int×(List Item)×Int×Int×Circ×(List Weed_candidate)×Unit)⊕(((List Weed_candidate)×Unit))):=fun (days,loans,v,v1,v2,c,l,_)=>
 bif decide (v2<v1) then match getI v v2 with|some x =>(match qbw (fun g x0=>qcc x0 g.2.1) c.Holds ((),(x,())) with|some r3 =>(match qa9 c x.ID with|some (r5,r6) =>let k11 (v7:Bool):Option ((Int×Int×(List Item)×Int×Int×Circ×(List Weed_candidate)×Unit)⊕(((List Weed_candidate)×Unit))):=let k10 (v8:Bool):Option ((Int×Int×(List Item)×Int×Int×Circ×(List Weed_candidate)×Unit)⊕(((List Weed_candidate)×Unit))):=let k (v9:Bool):Option ((Int×Int×(List Item)×Int×Int×Circ×(List Weed_candidate)×Unit)⊕(((List Weed_candidate)×Unit))):=bif v9 then bif decide (l.length+([(⟨x.ID,x.Record,r5,r6⟩:Weed_candidate)]:List Weed_candidate).length≤LIM) then some (.inl (days,loans,v,v1,wr .i64 (v2+1),c,l++([(⟨x.ID,x.Record,r5,r6⟩:Weed_candidate)]:List Weed_candidate),())) else none else some (.inl (days,loans,v,v1,wr .i64 (v2+1),c,l,()));bif v8 then k (!r3) else k false;bif v7 then k10 (decide (days<wr .i64 (c.Today-r6))) else k10 false;bif x.Custody.State==3 then k11 (decide (r5≤loans)) else k11 false|none =>none)|none =>none)|none =>none else some (.inr ((l,())))
def qh (c:Circ) (days:Int) (loans:Int):Option (List Weed_candidate):=
 match zah zx5 (days,loans,c.Items,(c.Items.length:Int),0,c,([]:List Weed_candidate),()) with|some ((l,_)) =>(match qda (fun g x0 x1=>qd7 x0 x1) l ((),()) with|some l12 =>some l12|none =>none)|none =>none
def zlg:((List Weed_candidate)×Int×Int×(List Int)×Unit)→Option (((List Weed_candidate)×Int×Int×(List Int)×Unit)⊕(((List Int)×Unit))):=fun (v,v2,v3,l,_)=>
 bif decide (v3<v2) then match getI v v3 with|some x =>bif decide (l.length+([x.id_]:List Int).length≤LIM) then some (.inl (v,v2,wr .i64 (v3+1),l++([x.id_]:List Int),())) else none|none =>none else some (.inr ((l,())))
def qai (c:Circ) (days:Int) (loans:Int):Option (List Int):=
 match qh c days loans with|some r1 =>(match zah zlg (r1,(r1.length:Int),0,([]:List Int),()) with|some ((l,_)) =>some l|none =>none)|none =>none
def zafr:((List Int)×(List Int)×Int×Unit)→Option (((List Int)×(List Int)×Int×Unit)⊕((Unit)⊕(Bool×Unit))):=fun (a,b,i,_)=>
 bif decide (i<(a.length:Int)) then match getI a i with|some x =>(match getI b i with|some x1 =>bif !(x==x1) then some (.inr (.inr (false,()))) else some (.inl (a,b,wr .i64 (i+1),()))|none =>none)|none =>none else some (.inr (.inl (())))
def qam (a:List Int) (b:List Int):Option Bool:=
 bif !((a.length:Int)==(b.length:Int)) then some false else match zah zafr (a,b,0,()) with|some (.inl (_)) =>some true|some (.inr (v,_)) =>some v|none =>none
def qcx (x:Item) (v:Int):Option Bool:=
 some (x.ID==v)
def qcb {γ0:Type} (p:γ0→Item→Option Bool) (s:List Item) (g:γ0):Option Bool:=
 match qc p s g with|some r1 =>some (decide (0≤r1))|none =>none
def qdg (x:Item) (record:Int):Option Bool:=
 let k (v:Bool):Option Bool:=some v;bif x.Record==record then k (!(x.Custody.State==12)) else k false
def qc5 (y:Item) (v:Item):Option Bool:=
 let k (v2:Bool):Option Bool:=some v2;bif !(y.ID==v.ID) then match qdg y v.Record with|some r1 =>k r1|none =>none else k false
def qcg (h:Hold) (v:Item) (v1:Bool):Option Bool:=
 let k (v3:Bool):Option Bool:=some v3;bif h.Item==v.ID then k true else bif v1 then k (h.Record==v.Record) else k false
def qac (c:Circ) (x:Item):Option Bool:=
 match qcb (fun g x0=>qc5 x0 g.2.1) c.Items ((),(x,())) with|some r1 =>(match qdg x x.Record with|some r3 =>let k (v:Bool):Option Bool:=match qbw (fun g x0=>qcg x0 g.2.1 g.2.2.1) c.Holds ((),(x,v,())) with|some r5 =>some r5|none =>none;bif r3 then k (!r1) else k false|none =>none)|none =>none
def qew (c:Circ) (item:Int):Option (Circ×Int):=
 match qca c with|some d =>(match qcl item d with|some (r2,v) =>let k26 (v5:Bool):Option (Circ×Int):=let k25 (v8:Circ_desk):Option (Circ×Int):=match qcm r2 15 v8 with|some (_,v10) =>(match qd4 c.Loans item with|some (r12,r13) =>let k (v20:Circ_desk):Option (Circ×Int):=match qa2 v20 with|some ((r22,r23),v24) =>some (r22,r23)|none =>none;bif r13 then match qdl c.Loans item with|some (r15,r16,r17) =>(match qcj r15 r17 v10 with|some (_,v19) =>k v19|none =>none)|none =>none else k v10|none =>none)|none =>none;bif v5 then match qt 10 v with|some (_,v7) =>k25 v7|none =>none else k25 v;bif decide (0≤r2) then match getI c.Items r2 with|some x =>(match qac c x with|some r4 =>k26 r4|none =>none)|none =>none else k26 false|none =>none)|none =>none
def zavx:((List Int)×(List Int)×Int×Int×Circ×Circ×Unit)→Option (((List Int)×(List Int)×Int×Int×Circ×Circ×Unit)⊕(((List Int)×Circ×Circ×Unit)⊕((List Int)×Int×Circ×Unit))):=fun (l,v,v1,v2,c,v3,_)=>
 bif decide (v2<v1) then match getI v v2 with|some x =>(match qcb (fun g x0=>qcx x0 g.2.1) c.Items ((),(x,())) with|some r4 =>bif !r4 then some (.inr (.inr ([],9,(⟨0,[],[],[],[],[],[],⟨⟨0,[]⟩,⟨0,[]⟩,⟨0,[]⟩,⟨0,[]⟩⟩,[],0,0,false⟩:Circ),()))) else some (.inl (l,v,v1,wr .i64 (v2+1),c,v3,()))|none =>none)|none =>none else some (.inr (.inl (l,c,v3,())))
def zavy:((List Int)×Int×Int×Circ×Circ×(List Int)×Unit)→Option (((List Int)×Int×Int×Circ×Circ×(List Int)×Unit)⊕((Circ×Circ×(List Int)×Unit))):=fun (v,v7,v8,c,v9,l,_)=>
 bif decide (v8<v7) then match getI v v8 with|some x =>(match qew c x with|some (r10,r11) =>bif r11==0 then bif decide (l.length+([x]:List Int).length≤LIM) then some (.inl (v,v7,wr .i64 (v8+1),r10,v9,l++([x]:List Int),())) else none else some (.inl (v,v7,wr .i64 (v8+1),c,v9,l,()))|none =>none)|none =>none else some (.inr ((c,v9,l,())))
def qk (c:Circ) (l:List Int):Option (Circ×(List Int)×Int):=
 match zah zavx (l,l,(l.length:Int),0,c,(⟨0,[],[],[],[],[],[],⟨⟨0,[]⟩,⟨0,[]⟩,⟨0,[]⟩,⟨0,[]⟩⟩,[],0,0,false⟩:Circ),()) with|some (.inl (l5,c6,v,_)) =>(match zah zavy (l5,(l5.length:Int),0,c6,v,([]:List Int),()) with|some ((c12,v13,l14,_)) =>some (c12,l14,0)|none =>none)|some (.inr (v15,v16,v17,_)) =>some (v17,v15,v16)|none =>none
def zlo:(Int×(List Weed_candidate)×Int×Int×Circ×(List Int)×(List MapI)×Unit)→Option ((Int×(List Weed_candidate)×Int×Int×Circ×(List Int)×(List MapI)×Unit)⊕(((List Int)×Unit))):=fun (most,v,v2,v3,c,l,l4,_)=>
 bif decide (v3<v2) then match getI v v3 with|some x =>let k (v6:Bool):Option ((Int×(List Weed_candidate)×Int×Int×Circ×(List Int)×(List MapI)×Unit)⊕(((List Int)×Unit))):=bif v6 then bif decide (l.length+([x.id_]:List Int).length≤LIM) then some (.inl (most,v,v2,wr .i64 (v3+1),c,l++([x.id_]:List Int),setM MapI.key x.record (⟨x.record,wr .i64 ((zrx MapI.key MapI.val l4 x.record)+1)⟩:MapI) l4,())) else none else some (.inl (most,v,v2,wr .i64 (v3+1),c,l,l4,()));bif decide ((l.length:Int)<most) then match qav c x.record with|some r5 =>k (decide (1<wr .i64 (r5-(zrx MapI.key MapI.val l4 x.record))))|none =>none else k false|none =>none else some (.inr ((l,())))
def qba (c:Circ) (days:Int) (loans:Int) (most:Int):Option (List Int):=
 match qh c days loans with|some r1 =>(match zah zlo (most,r1,(r1.length:Int),0,c,([]:List Int),([]:List MapI),()) with|some ((l,_)) =>some l|none =>none)|none =>none
def qeh:Option Bool:=
 match qbf with|some (r1,r2) =>(match qa9 r1 2 with|some (r4,r5) =>let k53 (v:Bool):Option Bool:=let k52 (v6:Bool):Option Bool:=let k51 (v9:Bool):Option Bool:=let k50 (v14:Bool):Option Bool:=let k49 (v19:Bool):Option Bool:=let k48 (v24:Bool):Option Bool:=bif v24 then some false else match qk r1 ([1,3]) with|some (r26,r27,r28) =>(match qk r1 ([1,9]) with|some (r30,r31,r32) =>(match qba r1 50 1 5 with|some r34 =>(match qam r34 ([1]) with|some r36 =>let k47 (v37:Bool):Option Bool:=let k46 (v40:Bool):Option Bool:=let k45 (v43:Bool):Option Bool:=let k (v44:Bool):Option Bool:=some v44;bif v43 then k (r32==9) else k false;bif v40 then match qav r26 5 with|some r42 =>k45 (r42==1)|none =>none else k45 false;bif v37 then match qam r27 ([1,3]) with|some r39 =>k46 r39|none =>none else k46 false;bif r36 then k47 (r28==0) else k47 false|none =>none)|none =>none)|none =>none)|none =>none;bif v19 then k48 true else match qai r1 50 0 with|some r21 =>(match qam r21 ([1,3]) with|some r23 =>k48 (!r23)|none =>none)|none =>none;bif v14 then k49 true else match qai r1 190 1 with|some r16 =>(match qam r16 ([1,3]) with|some r18 =>k49 (!r18)|none =>none)|none =>none;bif v9 then k50 true else match qai r1 50 1 with|some r11 =>(match qam r11 ([1,3,2]) with|some r13 =>k50 (!r13)|none =>none)|none =>none;bif v6 then k51 true else match qav r1 5 with|some r8 =>k51 (!(r8==2))|none =>none;bif v then k52 true else k52 (!(r5==120));bif !r2 then k53 true else k53 (!(r4==1))|none =>none)|none =>none
def zr5:(Int×Int×Int×Int×(List Int)×(List Int)×Int×Int×Circ×Unit)→Option ((Int×Int×Int×Int×(List Int)×(List Int)×Int×Int×Circ×Unit)⊕((Int×Int×Int×Int×(List Int)×(List Int)×Int×Circ×Unit))):=fun (days,loans,most,more,vall,plan,vat,i,c,_)=>
 let k13 (v:Bool):Option ((Int×Int×Int×Int×(List Int)×(List Int)×Int×Int×Circ×Unit)⊕((Int×Int×Int×Int×(List Int)×(List Int)×Int×Circ×Unit))):=bif v then match getI vall i with|some x =>(match getI plan vat with|some x11 =>let k (vat12:Int):Option ((Int×Int×Int×Int×(List Int)×(List Int)×Int×Int×Circ×Unit)⊕((Int×Int×Int×Int×(List Int)×(List Int)×Int×Circ×Unit))):=some (.inl (days,loans,most,more,vall,plan,vat12,wr .i64 (i+1),c,()));bif x==x11 then k (wr .i64 (vat+1)) else k vat|none =>none)|none =>none else some (.inr ((days,loans,most,more,vall,plan,vat,c,())));bif decide (i<(vall.length:Int)) then k13 (decide (vat<(plan.length:Int))) else k13 false
def zjj:((List Int)×(List Int)×Int×Bool×Int×Int×Int×(List (List Int))×Unit)→Option (((List Int)×(List Int)×Int×Bool×Int×Int×Int×(List (List Int))×Unit)⊕(((List Int)×(List Int)×Int×Bool×Int×Int×(List (List Int))×Unit))):=fun (vall,l,i,vin,k,v,v27,l28,_)=>
 bif decide (k<(vall.length:Int)) then let k31 (v30:Bool):Option (((List Int)×(List Int)×Int×Bool×Int×Int×Int×(List (List Int))×Unit)⊕(((List Int)×(List Int)×Int×Bool×Int×Int×(List (List Int))×Unit))):=some (.inl (vall,l,i,v30,wr .i64 (k+1),v,v27,l28,()));bif vin then k31 true else match getI vall k with|some x =>(match getI l i with|some x29 =>k31 (x==x29)|none =>none)|none =>none else some (.inr ((vall,l,i,vin,v,v27,l28,())))
def zgo:((List Int)×(List Int)×Int×Int×Int×(List (List Int))×Unit)→Option (((List Int)×(List Int)×Int×Int×Int×(List (List Int))×Unit)⊕(((List Int)×Int×Int×(List (List Int))×Unit)⊕(Bool×Unit))):=fun (vall,l,i,v,v25,l26,_)=>
 bif decide (i<(l.length:Int)) then match zah zjj (vall,l,i,false,0,v,v25,l26,()) with|some ((vall32,l33,i34,vin,v35,v36,l37,_)) =>bif !vin then some (.inr (.inr (false,()))) else some (.inl (vall32,l33,wr .i64 (i34+1),v35,v36,l37,()))|none =>none else some (.inr (.inl (vall,v,v25,l26,())))
def zlq:((List Int)×Int×Int×(List (List Int))×Unit)→Option (((List Int)×Int×Int×(List (List Int))×Unit)⊕((Unit)⊕(Bool×Unit))):=fun (vall,v,v24,l,_)=>
 bif decide (v24<v) then match getI l v24 with|some _ =>(match l[v24.toNat]? with|some x =>(match zah zgo (vall,x,0,v,v24,l,()) with|some (.inl (vall38,v39,v40,l41,_)) =>some (.inl (vall38,v39,wr .i64 (v40+1),l41,()))|some (.inr (v42,_)) =>some (.inr (.inr (v42,())))|none =>none)|none =>none)|none =>none else some (.inr (.inl (())))
def qf (c:Circ) (days:Int) (loans:Int) (most:Int) (more:Int):Option Bool:=
 match qe0 c with|some r1 =>let k49 (v:Bool):Option Bool:=let k48 (v2:Bool):Option Bool:=let k47 (v3:Bool):Option Bool:=let k46 (v4:Bool):Option Bool:=bif v4 then match qeh with|some r6 =>some r6|none =>none else match qai c days loans with|some r8 =>(match qba c days loans most with|some r10 =>(match zah zr5 (days,loans,most,more,r8,r10,0,0,c,()) with|some ((days14,loans15,most16,more17,vall,plan,vat,c18,_)) =>let k (v19:Bool):Option Bool:=bif v19 then some false else match qai c18 (wr .i64 (days14+(wr .i64 more17))) loans15 with|some r21 =>(match qai c18 days14 (wr .i64 (loans15-(wr .i64 more17))) with|some r23 =>(match zah zlq (vall,(([r21,r23]).length:Int),0,[r21,r23],()) with|some (.inl (_)) =>(match qeh with|some r44 =>some r44|none =>none)|some (.inr (v45,_)) =>some v45|none =>none)|none =>none)|none =>none;bif !(vat==(plan.length:Int)) then k true else k (decide ((if most16<0 then 0 else most16)<(plan.length:Int)))|none =>none)|none =>none)|none =>none;bif v3 then k46 true else k46 (decide (1000000<loans));bif v2 then k47 true else k47 (decide (loans<(-1000000)));bif v then k48 true else k48 (decide (1000000<days));bif !r1 then k49 true else k49 (decide (days<(-1000000)))|none =>none
end Go.Proofs.YtpaidiaknfhclaaGreatDoor
namespace Go.Proofs.YtpaidiaknfhclaaGreatDoor
set_option maxRecDepth 100000
open Ev
open Go (IntKind)
open Go
theorem zn1:CCOk zax:=CCOk.iso (CCOk.cons (zai.int _) (CCOk.cons (zai.int _) (CCOk.cons (zai.int _) (CCOk.cons (zai.int _) CCOk.nil)))) (fun _=>rfl)
theorem zn3:CCOk za0:=CCOk.iso (CCOk.cons (zai.int _) (CCOk.cons (zai.int _) (CCOk.cons (zai.int _) (CCOk.cons (zai.int _) (CCOk.cons (zai.int _) (CCOk.cons zai.str (CCOk.cons (zai.int _) (CCOk.cons (zai.int _) (CCOk.cons (zai.int _) (CCOk.cons (zai.int _) CCOk.nil)))))))))) (fun _=>rfl)
theorem zh8:CCOk zba:=CCOk.iso (CCOk.cons (zai.int _) (CCOk.cons (zai.int _) (CCOk.cons (zai.int _) (CCOk.cons (zai.int _) (CCOk.cons zai.bool (CCOk.cons zai.str CCOk.nil)))))) (fun _=>rfl)
theorem zn4:CCOk zcp:=CCOk.iso (CCOk.cons (zai.int _) (CCOk.cons (zai.int _) (CCOk.cons (zai.int _) (CCOk.cons (zai.int _) (CCOk.cons (zai.int _) (CCOk.cons zai.bool CCOk.nil)))))) (fun _=>rfl)
theorem zn2:CCOk zbj:=CCOk.iso (CCOk.cons (zai.int _) (CCOk.cons (zai.int _) (CCOk.cons (zai.int _) (CCOk.cons (zai.int _) (CCOk.cons (zai.int _) (CCOk.cons (zai.int _) (CCOk.cons (zai.int _) (CCOk.cons (zai.int _) (CCOk.cons (zai.int _) (CCOk.cons (zai.int _) (CCOk.cons (zai.int _) CCOk.nil))))))))))) (fun _=>rfl)
theorem zh7:CCOk zdi:=CCOk.iso (CCOk.cons (zai.int _) (CCOk.cons (zai.int _) (CCOk.cons (zai.int _) (CCOk.cons (zai.int _) (CCOk.cons (zai.int _) (CCOk.cons (zai.int _) (CCOk.cons (zai.int _) CCOk.nil))))))) (fun _=>rfl)
theorem zn7:CCOk zc8:=CCOk.iso (CCOk.cons (zai.int _) (CCOk.cons (zai.int _) (CCOk.cons (zai.int _) (CCOk.cons (zai.int _) (CCOk.cons (zai.int _) (CCOk.cons (zai.int _) (CCOk.cons (zai.int _) (CCOk.cons (zai.int _) (CCOk.cons (zai.int _) (CCOk.cons (zai.int _) (CCOk.cons (zai.int _) (CCOk.cons (zai.int _) (CCOk.cons (zai.int _) CCOk.nil))))))))))))) (fun _=>rfl)
theorem zmd:CCOk zaw:=CCOk.iso (CCOk.cons (zai.int _) (CCOk.cons (zai.lst _) CCOk.nil)) (fun _=>rfl)
theorem zn6:CCOk zgw:=CCOk.iso (CCOk.cons (zai.int _) (CCOk.cons (zai.int _) (CCOk.cons (zai.int _) (CCOk.cons (zai.int _) (CCOk.cons (zai.int _) CCOk.nil))))) (fun _=>rfl)
theorem zzw:CCOk zal:=CCOk.iso (CCOk.cons (zai.int _) (CCOk.cons (zai.lst _) (CCOk.cons (zai.lst _) (CCOk.cons (zai.lst _) (CCOk.cons (zai.lst _) (CCOk.cons (zai.lst _) (CCOk.cons (zai.lst _) (CCOk.cons (zai.int _) (CCOk.cons (zai.lst _) (CCOk.cons (zai.int _) (CCOk.cons (zai.lst _) (CCOk.cons (zai.int _) (CCOk.cons (zai.lst _) (CCOk.cons (zai.int _) (CCOk.cons (zai.lst _) (CCOk.cons (zai.lst _) (CCOk.cons (zai.int _) (CCOk.cons (zai.int _) (CCOk.cons zai.bool CCOk.nil))))))))))))))))))) (fun _=>rfl)
theorem zj7:CCOk zav:=CCOk.iso (CCOk.cons (zai.int _) (CCOk.cons (zai.lst _) (CCOk.cons (zai.lst _) (CCOk.cons (zai.lst _) (CCOk.cons (zai.lst _) (CCOk.cons (zai.lst _) (CCOk.cons (zai.lst _) (CCOk.cons (zai.int _) (CCOk.cons (zai.lst _) (CCOk.cons (zai.int _) (CCOk.cons (zai.lst _) (CCOk.cons (zai.int _) (CCOk.cons (zai.lst _) (CCOk.cons (zai.int _) (CCOk.cons (zai.lst _) (CCOk.cons (zai.lst _) (CCOk.cons (zai.int _) (CCOk.cons (zai.int _) (CCOk.cons zai.bool (CCOk.cons (zai.int _) CCOk.nil)))))))))))))))))))) (fun _=>rfl)
theorem zdj:CCOk zbl:=CCOk.iso (CCOk.cons (zai.int _) (CCOk.cons (zai.int _) (CCOk.cons (zai.int _) (CCOk.cons (zai.int _) CCOk.nil)))) (fun _=>rfl)
theorem zn5:CCOk zqv:=CCOk.iso (CCOk.cons (zai.int _) (CCOk.cons (zai.int _) CCOk.nil)) (fun _=>rfl)
theorem zc0:CCOk zb9:=CCOk.iso (CCOk.cons (zai.int _) (CCOk.cons (zai.int _) CCOk.nil)) (fun _=>rfl)
theorem zhj:CCOk zdz:=CCOk.iso (CCOk.cons (zai.int _) (CCOk.cons (zai.lst _) (CCOk.cons (zai.int _) (CCOk.cons (zai.lst _) (CCOk.cons (zai.int _) (CCOk.cons (zai.lst _) (CCOk.cons (zai.int _) (CCOk.cons (zai.lst _) CCOk.nil)))))))) (fun _=>rfl)
theorem zn8:CCOk zbk:=CCOk.iso (CCOk.cons zai.bool (CCOk.cons zai.bool (CCOk.cons zai.bool (CCOk.cons zai.bool (CCOk.cons zai.bool (CCOk.cons zai.bool (CCOk.cons zai.bool CCOk.nil))))))) (fun _=>rfl)
instance:CCC zax:=⟨zn1⟩
instance:CCC za0:=⟨zn3⟩
instance:CCC zba:=⟨zh8⟩
instance:CCC zcp:=⟨zn4⟩
instance:CCC zbj:=⟨zn2⟩
instance:CCC zdi:=⟨zh7⟩
instance:CCC zc8:=⟨zn7⟩
instance:CCC zaw:=⟨zmd⟩
instance:CCC zgw:=⟨zn6⟩
instance:CCC zal:=⟨zzw⟩
instance:CCC zav:=⟨zj7⟩
instance:CCC zbl:=⟨zdj⟩
instance:CCC zqv:=⟨zn5⟩
instance:CCC zb9:=⟨zc0⟩
instance:CCC zdz:=⟨zhj⟩
instance:CCC zbk:=⟨zn8⟩
end Go.Proofs.YtpaidiaknfhclaaGreatDoor
namespace Go.Proofs.YtpaidiaknfhclaaGreatDoor
set_option maxRecDepth 100000
open Ev
open Go (IntKind)
abbrev zgt:ZC (Circ×Unit):=Zc (Cod.agg zal) Zn
abbrev zau:ZD (Bool):=Zb
abbrev zawm {R:Type}:Sm R:=semP zgt zau (fun a=>qa a.1)
def zahv {R:Type}:Nat→Sm R:=c0
abbrev z2g:=mkld [] [] [1,3] [1] [] (Zp 1 1 (Zs 3 Zi (Zx 1 zal Zz))) zxz (.xs 0 [1] [1] [] (Zp 1 1 (Zx 1 zal Zz)) (.r [2] [] [] (Zs 2 Zb Zz)))
abbrev z2h:=mkld [] [] [1,4] [1] [] (Zp 1 1 (Zs 4 Zi (Zx 1 zal Zz))) zx0 (.xs 2 [1] [1] [] (Zp 1 1 (Zx 1 zal Zz)) (.r [2] [] [] (Zs 2 Zb Zz)))
abbrev zt2:=mkld [] [] [1,5] [1] [] (Zp 1 1 (Zs 5 Zi (Zx 1 zal Zz))) zhd (.xs 4 [] [] [] Zz (.r [2] [] [] (Zs 2 Zb Zz)))
def zhq {R:Type}:Lp Kd El R:=lp 14 zt2.sem (lp 9 z2h.sem (lp 4 z2g.sem l0))
abbrev zac6:ZC ((List UInt8)×Int×Unit):=Zc Cod.str (Zc Zi Zn)
abbrev zjn:ZD (Int×Int):=(Cod.tup2 (Zc Zi (Zc Zi Zn)))
abbrev zsk {R:Type}:Sm R:=semP zac6 zjn (fun a=>qbm a.1 a.2.1)
abbrev zst:ZC ((List UInt8)×Unit):=Zc Cod.str Zn
abbrev zsi {R:Type}:Sm R:=semP zst zau (fun a=>qae a.1)
def z8t {R:Type}:Nat→Sm R:=cl 146 zsk c0
abbrev zt6:=mkld [] [] [0,3] [] [] (Zs 0 Cod.str (Zs 3 Zi Zz)) zlf (.xs 0 [] [] [] Zz (.r [2] [] [] (Zs 2 Zb Zz)))
def zpb {R:Type}:Lp Kd El R:=lp 2 zt6.sem l0
abbrev za1:ZD (Int):=Zi
abbrev zag4 {R:Type}:Sm R:=semP zac6 za1 (fun a=>qe a.1 a.2.1)
abbrev zb1:ZC (Int×Unit):=Zc Zi Zn
abbrev z5b {R:Type}:Sm R:=semP zb1 zau (fun a=>qag a.1)
abbrev zagg:ZD ((List UInt8)):=Cod.str
abbrev z5l {R:Type}:Sm R:=semP zst zagg (fun a=>qaz a.1)
def z9a {R:Type}:Nat→Sm R:=cl 146 zsk (cl 147 zag4 (cl 148 z5b c0))
abbrev zun:=mkld [] [] [0,3,4,5] [] [] (Zs 0 Cod.str (Zs 3 Cod.str (Zs 4 Zb (Zs 5 Zi Zz)))) zln (.x 0 [3] [] [] (Zs 3 Cod.str Zz))
def zps {R:Type}:Lp Kd El R:=lp 4 zun.sem l0
abbrev zsv:ZC ((List Patron)×Unit):=Zc (Zl .kPatron) Zn
abbrev z5f {R:Type}:Sm R:=semP zsv za1 (fun a=>qao a.1)
def z81 {R:Type}:Nat→Sm R:=cl 88 zsi (cl 89 z5l c0)
abbrev zue:=mkld [] [] [0,3] [] [] (Zs 0 (Zl .kPatron) (Zs 3 Zi Zz)) zje (.xs 0 [] [] [] Zz (.r [2] [] [] (Zs 2 Zi Zz)))
def zpj {R:Type}:Lp Kd El R:=lp 4 zue.sem l0
abbrev zsu:ZC ((List Loan)×Unit):=Zc (Zl .kLoan) Zn
abbrev z5e {R:Type}:Sm R:=semP zsu za1 (fun a=>qan a.1)
def z80 {R:Type}:Nat→Sm R:=c0
abbrev zud:=mkld [] [] [0,3] [] [] (Zs 0 (Zl .kLoan) (Zs 3 Zi Zz)) zjd (.xs 0 [] [] [] Zz (.r [2] [] [] (Zs 2 Zi Zz)))
def zpi {R:Type}:Lp Kd El R:=lp 4 zud.sem l0
abbrev zap4 {R:Type}:Sm R:=semP zb1 zau (fun a=>qd6 a.1)
abbrev zaq3 {R:Type}:Sm R:=semP zb1 zau (fun a=>qeq a.1)
abbrev zade:ZC (Hold×Unit):=Zc (Cod.agg zbj) Zn
abbrev z60 {R:Type}:Sm R:=semP zade za1 (fun a=>qdi a.1)
abbrev zahk:ZC ((List Hold)×Unit):=Zc (Zl .kHold) Zn
abbrev zag8 {R:Type}:Sm R:=semP zahk za1 (fun a=>qn a.1)
def zah7 {R:Type}:Nat→Sm R:=cl 90 z60 c0
abbrev z2x:=mkld [] [] [0,3] [] [] (Zs 0 (Zl .kHold) (Zs 3 Zi Zz)) zr7 (.xs 0 [0] [] [] (Zs 0 (Zl .kHold) Zz) (.r [2] [] [] (Zs 2 Zi Zz)))
abbrev zu4:=mkld [] [] [0,5,6] [] [] (Zs 0 (Zl .kHold) (Zs 5 Zi (Zs 6 Zi Zz))) zjk (.xs 4 [0,5] [] [] (Zs 0 (Zl .kHold) (Zs 5 Zi Zz)) (.r [2] [] [] (Zs 2 Zi Zz)))
abbrev zu3:=mkld [] [] [0,5] [] [] (Zs 0 (Zl .kHold) (Zs 5 Zi Zz)) zlr (.xs 2 [] [] [] Zz (.r [2] [] [] (Zs 2 Zi Zz)))
def zhs {R:Type}:Lp Kd El R:=lp 12 zu3.sem (lp 15 zu4.sem (lp 4 z2x.sem l0))
abbrev z7a {R:Type}:Sm R:=semP zb1 zau (fun a=>qe2 a.1)
abbrev zac3:ZC ((List Charge)×Unit):=Zc (Zl .kCharge) Zn
abbrev z5k {R:Type}:Sm R:=semP zac3 za1 (fun a=>qay a.1)
def z89 {R:Type}:Nat→Sm R:=cl 91 z7a c0
abbrev zum:=mkld [] [] [0,3] [] [] (Zs 0 (Zl .kCharge) (Zs 3 Zi Zz)) zjf (.xs 0 [] [] [] Zz (.r [2] [] [] (Zs 2 Zi Zz)))
def zpr {R:Type}:Lp Kd El R:=lp 4 zum.sem l0
abbrev znp:ZC (Int×Int×Int×Unit):=Zc Zi (Zc Zi (Zc Zi Zn))
abbrev zapb {R:Type}:Sm R:=semP znp zau (fun a=>qbg a.1 a.2.1 a.2.2.1)
abbrev zyu:ZC (Rule×Unit):=Zc (Cod.agg zc8) Zn
abbrev z57 {R:Type}:Sm R:=semP zyu zau (fun a=>qc0 a.1)
abbrev zast:ZC ((List Rule)×Unit):=Zc (Zl .kRule) Zn
abbrev zag7 {R:Type}:Sm R:=semP zast za1 (fun a=>qm a.1)
def zah6 {R:Type}:Nat→Sm R:=cl 92 z57 c0
abbrev z2w:=mkld [] [] [0,3,4] [] [] (Zs 0 (Zl .kRule) (Zs 3 Zi (Zs 4 Zi Zz))) zr6 (.xs 2 [0,3] [] [] (Zs 0 (Zl .kRule) (Zs 3 Zi Zz)) (.r [2] [] [] (Zs 2 Zi Zz)))
abbrev z2v:=mkld [] [] [0,3] [] [] (Zs 0 (Zl .kRule) (Zs 3 Zi Zz)) zx6 (.xs 0 [] [] [] Zz (.r [2] [] [] (Zs 2 Zi Zz)))
def zm6 {R:Type}:Lp Kd El R:=lp 4 z2v.sem (lp 9 z2w.sem l0)
abbrev zahl:ZC (Calendar×Unit):=Zc (Cod.agg zaw) Zn
abbrev zahc {R:Type}:Sm R:=semP zahl za1 (fun a=>qx a.1)
def zaig {R:Type}:Nat→Sm R:=c0
abbrev z3d:=mkld [] [] [1,3] [1] [] (Zp 1 1 (Zs 3 Zi (Zx 1 zaw Zz))) zr8 (.xs 0 [1] [1] [] (Zp 1 1 (Zx 1 zaw Zz)) (.r [2] [] [] (Zs 2 Zi Zz)))
abbrev zu9:=mkld [] [] [1,4] [1] [] (Zp 1 1 (Zs 4 Zi (Zx 1 zaw Zz))) zjl (.xs 2 [] [] [] Zz (.r [2] [] [] (Zs 2 Zi Zz)))
def zm8 {R:Type}:Lp Kd El R:=lp 11 zu9.sem (lp 6 z3d.sem l0)
abbrev zsw:ZC ((List Patron)×Int×Unit):=Zc (Zl .kPatron) (Zc Zi Zn)
abbrev zao1 {R:Type}:Sm R:=semP zsw za1 (fun a=>qas a.1 a.2.1)
def z84 {R:Type}:Nat→Sm R:=c0
abbrev zuh:=mkld [] [] [0,1,5] [] [] (Zs 0 (Zl .kPatron) (Zs 1 Zi (Zs 5 Zi Zz))) zll (.xs 0 [] [] [] Zz (.r [4] [] [] (Zs 4 Zi Zz)))
def zpm {R:Type}:Lp Kd El R:=lp 2 zuh.sem l0
abbrev zagh:ZD (Patron×Bool):=(Cod.tup2 (Zc (Cod.agg zba) (Zc Zb Zn)))
abbrev znk {R:Type}:Sm R:=semP zsw zagh (fun a=>qb5 a.1 a.2.1)
abbrev zagq:ZD (Custody):=(Cod.agg zax)
abbrev z61 {R:Type}:Sm R:=semP zb1 zagq (fun a=>qdj a.1)
abbrev zaqr {R:Type}:Sm R:=semP zb1 zau (fun a=>qe9 a.1)
abbrev zy0:ZC (Custody×Unit):=Zc (Cod.agg zax) Zn
abbrev zaqf {R:Type}:Sm R:=semP zy0 zau (fun a=>qdk a.1)
abbrev zaso:ZC (Move×Unit):=Zc (Cod.agg zgw) Zn
abbrev zaqx {R:Type}:Sm R:=semP zaso zau (fun a=>qej a.1)
abbrev zvs:ZD ((List Int)):=(Zl .ki64)
abbrev z6r {R:Type}:Sm R:=semP zb1 zvs (fun a=>qcr a.1)
abbrev zkm:ZC (Int×Int×Unit):=Zc Zi (Zc Zi Zn)
abbrev zaox {R:Type}:Sm R:=semP zkm zau (fun a=>qaj a.1 a.2.1)
def z8w {R:Type}:Nat→Sm R:=cl 238 z6r c0
abbrev zt9:=mkld [] [] [0,5,6] [] [] (Zs 0 Zi (Zs 5 (Zl .ki64) (Zs 6 Zi Zz))) zlh (.xs 0 [] [] [] Zz (.r [4] [] [] (Zs 4 Zb Zz)))
def zpe {R:Type}:Lp Kd El R:=lp 3 zt9.sem l0
abbrev zs0:ZC (Custody×Move×Unit):=Zc (Cod.agg zax) (Zc (Cod.agg zgw) Zn)
abbrev zapp {R:Type}:Sm R:=semP zs0 zau (fun a=>qc8 a.1 a.2.1)
abbrev zara {R:Type}:Sm R:=semP zb1 za1 (fun a=>qfe a.1)
abbrev zvt:ZD (Custody×Int):=(Cod.tup2 (Zc (Cod.agg zax) (Zc Zi Zn)))
abbrev z6s {R:Type}:Sm R:=semP zs0 zvt (fun a=>qcs a.1 a.2.1)
abbrev zac2:ZC (Int×(List Move)×Int×Unit):=Zc Zi (Zc (Zl .kMove) (Zc Zi Zn))
abbrev zagf:ZD (Custody×Int×Int):=(Cod.tup3 (Zc (Cod.agg zax) (Zc Zi (Zc Zi Zn))))
abbrev z5d {R:Type}:Sm R:=semP zac2 zagf (fun a=>qak a.1 a.2.1 a.2.2.1)
def z8x {R:Type}:Nat→Sm R:=cl 124 z6s (cl 152 z61 c0)
abbrev zua:=mkld [] [] [1,2,6,9,10] [6,9] [] (Zs 1 (Zl .kMove) (Zs 2 Zi (Zp 6 6 (Zp 9 9 (Zs 10 Zi (Zx 6 zax (Zx 9 zax Zz))))))) zli (.xs 0 [6,9] [6,9] [] (Zp 6 6 (Zp 9 9 (Zx 6 zax (Zx 9 zax Zz)))) (.r [7,8] [6] [6] (Zp 6 6 (Zs 7 Zi (Zs 8 Zi (Zx 6 zax Zz))))))
def zpf {R:Type}:Lp Kd El R:=lp 5 zua.sem l0
abbrev znq:ZC (Circ×Int×Unit):=Zc (Cod.agg zal) (Zc Zi Zn)
abbrev zvx {R:Type}:Sm R:=semP znq za1 (fun a=>qu a.1 a.2.1)
def zaid {R:Type}:Nat→Sm R:=c0
abbrev z3a:=mkld [] [] [1,2,5] [2] [] (Zs 1 Zi (Zp 2 2 (Zs 5 Zi (Zx 2 zal Zz)))) zx9 (.xs 0 [] [] [] Zz (.r [4] [] [] (Zs 4 Zi Zz)))
def zvn {R:Type}:Lp Kd El R:=lp 2 z3a.sem l0
abbrev zahe {R:Type}:Sm R:=semP zgt zau (fun a=>qz a.1)
def zaii {R:Type}:Nat→Sm R:=cl 73 zvx (cl 88 zsi (cl 94 z5d c0))
abbrev z3f:=mkld [] [] [1,3] [1] [] (Zp 1 1 (Zs 3 Zi (Zx 1 zal Zz))) zsa (.xs 0 [1] [1] [] (Zp 1 1 (Zx 1 zal Zz)) (.r [2] [] [] (Zs 2 Zb Zz)))
abbrev zvb:=mkld [] [] [1,8] [1] [] (Zp 1 1 (Zs 8 Zi (Zx 1 zal Zz))) zjm (.xs 2 [] [] [] Zz (.r [2] [] [] (Zs 2 Zb Zz)))
def zna {R:Type}:Lp Kd El R:=lp 15 zvb.sem (lp 4 z3f.sem l0)
abbrev z7c {R:Type}:Sm R:=semP zy0 zau (fun a=>qed a.1)
abbrev zkn:ZC ((List Loan)×Int×Unit):=Zc (Zl .kLoan) (Zc Zi Zn)
abbrev zaoy {R:Type}:Sm R:=semP zkn za1 (fun a=>qal a.1 a.2.1)
def z8y {R:Type}:Nat→Sm R:=c0
abbrev zub:=mkld [] [] [0,1,5] [] [] (Zs 0 (Zl .kLoan) (Zs 1 Zi (Zs 5 Zi Zz))) zlj (.xs 0 [] [] [] Zz (.r [4] [] [] (Zs 4 Zi Zz)))
def zpg {R:Type}:Lp Kd El R:=lp 2 zub.sem l0
abbrev zagr:ZD (Loan×Bool):=(Cod.tup2 (Zc (Cod.agg zcp) (Zc Zb Zn)))
abbrev z62 {R:Type}:Sm R:=semP zkn zagr (fun a=>qdm a.1 a.2.1)
abbrev zahd {R:Type}:Sm R:=semP zgt zau (fun a=>qy a.1)
def zaih {R:Type}:Nat→Sm R:=cl 48 znk (cl 73 zvx (cl 95 z7c (cl 96 z62 c0)))
abbrev z3e:=mkld [] [] [1,3] [1] [] (Zp 1 1 (Zs 3 Zi (Zx 1 zal Zz))) zr9 (.xs 0 [1] [1] [] (Zp 1 1 (Zx 1 zal Zz)) (.r [2] [] [] (Zs 2 Zb Zz)))
abbrev zva:=mkld [] [] [1,8] [1] [] (Zp 1 1 (Zs 8 Zi (Zx 1 zal Zz))) zls (.xs 2 [] [] [] Zz (.r [2] [] [] (Zs 2 Zb Zz)))
def zm9 {R:Type}:Lp Kd El R:=lp 10 zva.sem (lp 2 z3e.sem l0)
abbrev z4t:ZD (Hold×Bool):=(Cod.tup2 (Zc (Cod.agg zbj) (Zc Zb Zn)))
abbrev z5h {R:Type}:Sm R:=semP znq z4t (fun a=>qar a.1 a.2.1)
def z83 {R:Type}:Nat→Sm R:=c0
abbrev zug:=mkld [] [] [1,2,4,6] [2,4] [] (Zs 1 Zi (Zp 2 2 (Zp 4 4 (Zs 6 Zi (Zx 2 zal (Zx 4 zbj Zz)))))) zlk (.xs 0 [4] [4] [] (Zp 4 4 (Zx 4 zbj Zz)) (.r [5] [4] [4] (Zp 4 4 (Zs 5 Zb (Zx 4 zbj Zz)))))
def zpl {R:Type}:Lp Kd El R:=lp 2 zug.sem l0
abbrev zag1 {R:Type}:Sm R:=semP zgt zau (fun a=>q8 a.1)
def zahu {R:Type}:Nat→Sm R:=cl 48 znk (cl 73 zvx (cl 97 z5h c0))
abbrev z2f:=mkld [] [] [1,3] [1] [] (Zp 1 1 (Zs 3 Zi (Zx 1 zal Zz))) zr2 (.xs 0 [1] [1] [] (Zp 1 1 (Zx 1 zal Zz)) (.r [2] [] [] (Zs 2 Zb Zz)))
abbrev ztt:=mkld [] [] [1,9] [1] [] (Zp 1 1 (Zs 9 Zi (Zx 1 zal Zz))) zld (.xs 2 [] [] [] Zz (.r [2] [] [] (Zs 2 Zb Zz)))
def zm3 {R:Type}:Lp Kd El R:=lp 18 ztt.sem (lp 2 z2f.sem l0)
abbrev zaow {R:Type}:Sm R:=semP zgt zau (fun a=>qad a.1)
def z8s {R:Type}:Nat→Sm R:=cl 42 z5f (cl 43 z5e (cl 44 zag8 (cl 45 z5k (cl 46 zag7 (cl 47 zahc (cl 48 znk (cl 49 zahe (cl 50 zahd (cl 51 zag1 c0)))))))))
abbrev zt5:=mkld [] [] [1,3] [1] [] (Zp 1 1 (Zs 3 Zi (Zx 1 zal Zz))) zhe (.xs 0 [1] [1] [] (Zp 1 1 (Zx 1 zal Zz)) (.r [2] [] [] (Zs 2 Zb Zz)))
abbrev zoy:=mkld [] [] [1,4] [1] [] (Zp 1 1 (Zs 4 Zi (Zx 1 zal Zz))) zfw (.xs 2 [1] [1] [] (Zp 1 1 (Zx 1 zal Zz)) (.r [2] [] [] (Zs 2 Zb Zz)))
def zix {R:Type}:Lp Kd El R:=lp 11 zoy.sem (lp 6 zt5.sem l0)
abbrev z68 {R:Type}:Sm R:=semP zgt zau (fun a=>qe0 a.1)
abbrev zago:ZD (Circ):=(Cod.agg zal)
abbrev zap3 {R:Type}:Sm R:=semP zb1 zago (fun a=>qd5 a.1)
abbrev zada:ZC (Item×Int×Unit):=Zc (Cod.agg za0) (Zc (Cod.cptr (CC.one Zi)) Zn)
abbrev z6q {R:Type}:Sm R:=semP zada zau (fun a=>qcq a.1 a.2.1)
abbrev zaw4:ZC ((List Item)×((Unit)×(Int×Unit))×Unit):=Zc (Zl .kItem) (Zc (Cod.fnc 127 (Zn) (Zc (Cod.cptr (CC.one Zi)) Zn)) Zn)
abbrev zawo {R:Type}:Sm R:=semP zaw4 za1 (fun a=>qc (fun g x0=>qcq x0 g.2.1) a.1 a.2.1)
def zahx {R:Type}:Nat→Sm R:=cl 127 z6q c0
abbrev z2j:=mkld [] [] [0,1,7,8] [] [] (Zs 0 (Zl .kItem) (Zs 1 (Cod.fnc 127 (Zn) (Zc (Cod.cptr (CC.one Zi)) Zn)) (Zs 7 Zi (Zs 8 Zi Zz)))) (z4j (fun g x0=>qcq x0 g.2.1)) (.xs 0 [] [] [] Zz (.r [4] [] [] (Zs 4 Zi Zz)))
def zvh {R:Type}:Lp Kd El R:=lp 2 z2j.sem l0
abbrev znj {R:Type}:Sm R:=semP znq za1 (fun a=>qah a.1 a.2.1)
abbrev z65 {R:Type}:Sm R:=semP zb1 zagq (fun a=>qdw a.1)
abbrev zac8:ZC (Item×Item×Unit):=Zc (Cod.agg za0) (Zc (Cod.cptr za0) Zn)
abbrev z6n {R:Type}:Sm R:=semP zac8 zau (fun a=>qcn a.1 a.2.1)
abbrev z73:ZC ((List Item)×((Unit)×(Item×Unit))×Unit):=Zc (Zl .kItem) (Zc (Cod.fnc 101 (Zn) (Zc (Cod.cptr za0) Zn)) Zn)
abbrev z6e {R:Type}:Sm R:=semP z73 za1 (fun a=>qc (fun g x0=>qcn x0 g.2.1) a.1 a.2.1)
def zwi {R:Type}:Nat→Sm R:=cl 101 z6n c0
abbrev zk3:=mkld [] [] [0,1,7,8] [] [] (Zs 0 (Zl .kItem) (Zs 1 (Cod.fnc 101 (Zn) (Zc (Cod.cptr za0) Zn)) (Zs 7 Zi (Zs 8 Zi Zz)))) (z4j (fun g x0=>qcn x0 g.2.1)) (.xs 0 [] [] [] Zz (.r [4] [] [] (Zs 4 Zi Zz)))
def zi3 {R:Type}:Lp Kd El R:=lp 2 zk3.sem l0
abbrev zar6:ZC ((List Item)×Unit):=Zc (Zl .kItem) Zn
abbrev zagl:ZD ((List Item)):=(Zl .kItem)
abbrev zaps {R:Type}:Sm R:=semP zar6 zagl (fun a=>qcd a.1)
abbrev zy3:ZC ((List Item)×Int×(List Item)×Unit):=Zc (Zl .kItem) (Zc Zi (Zc (Zl .kItem) Zn))
abbrev zagv:ZD ((List Item)):=zagl
def zafd (a:(List Item)×Int×(List Item)×Unit):Option ((List Item)):=qdr a.1 a.2.1 a.2.2.1
abbrev zaxq {R:Type}:Sm R:=semP zy3 zagv zafd
abbrev z5n {R:Type}:Sm R:=semP znp zau (fun a=>qb2 a.1 a.2.1 a.2.2.1)
abbrev zyw:ZC ((List UInt8)×Unit):=zst
abbrev zagj:ZD (Bool):=zau
def zae7 (a:(List UInt8)×Unit):Option (Bool):=qc7 a.1
abbrev zaxm {R:Type}:Sm R:=semP zyw zagj zae7
abbrev zasm:ZC (Item×Unit):=Zc (Cod.agg za0) Zn
abbrev z64 {R:Type}:Sm R:=semP zasm zau (fun a=>qdv a.1)
abbrev z52 {R:Type}:Sm R:=semP znp zau (fun a=>qbp a.1 a.2.1 a.2.2.1)
abbrev zaqq {R:Type}:Sm R:=semP zy0 zau (fun a=>qe8 a.1)
abbrev zaqo {R:Type}:Sm R:=semP zkm zau (fun a=>qe6 a.1 a.2.1)
abbrev zasb:ZC (Custody×Bool×Unit):=Zc (Cod.agg zax) (Zc Zb Zn)
abbrev zapt {R:Type}:Sm R:=semP zasb zvt (fun a=>qci a.1 a.2.1)
abbrev zaq6 {R:Type}:Sm R:=semP zs0 zvt (fun a=>qfa a.1 a.2.1)
abbrev z67 {R:Type}:Sm R:=semP zs0 zvt (fun a=>qdx a.1 a.2.1)
abbrev z5z {R:Type}:Sm R:=semP zac2 zagf (fun a=>qbl a.1 a.2.1 a.2.2.1)
def z9j {R:Type}:Nat→Sm R:=cl 100 z65 (cl 128 z52 (cl 129 z67 c0))
abbrev zuw:=mkld [] [] [2,6,9,20,21,22] [6,9] [] (Zs 2 Zi (Zp 6 6 (Zp 9 9 (Zs 20 (Zl .kMove) (Zs 21 Zi (Zs 22 Zi (Zx 6 zax (Zx 9 zax Zz)))))))) zaf3 (.xs 0 [6,9] [6,9] [] (Zp 6 6 (Zp 9 9 (Zx 6 zax (Zx 9 zax Zz)))) (.r [7,8] [6] [6] (Zp 6 6 (Zs 7 Zi (Zs 8 Zi (Zx 6 zax Zz))))))
def zp1 {R:Type}:Lp Kd El R:=lp 5 zuw.sem l0
abbrev zaww {R:Type}:Sm R:=semP zgt zau (fun a=>qs a.1)
def zaic {R:Type}:Nat→Sm R:=cl 76 z64 (cl 77 znj (cl 78 z5z c0))
abbrev z29:=mkld [] [] [1,23,24,25] [1] [] (Zp 1 1 (Zs 23 (Zl .kItem) (Zs 24 Zi (Zs 25 Zi (Zx 1 zal Zz))))) zav6 (.xs 0 [1] [1] [] (Zp 1 1 (Zx 1 zal Zz)) (.r [2] [] [] (Zs 2 Zb Zz)))
abbrev zu7:=mkld [] [] [1,51,52,53] [1] [] (Zp 1 1 (Zs 51 (Zl .kMove) (Zs 52 Zi (Zs 53 Zi (Zx 1 zal Zz))))) zagd (.xs 2 [1] [1] [] (Zp 1 1 (Zx 1 zal Zz)) (.r [2] [] [] (Zs 2 Zb Zz)))
abbrev zu8:=mkld [] [] [1,64,65,66] [1] [] (Zp 1 1 (Zs 64 (Zl .kItem) (Zs 65 Zi (Zs 66 Zi (Zx 1 zal Zz))))) zage (.xs 4 [] [] [] Zz (.r [2] [] [] (Zs 2 Zb Zz)))
def zhv {R:Type}:Lp Kd El R:=lp 16 zu8.sem (lp 10 zu7.sem (lp 4 z29.sem l0))
abbrev zyy:ZC ((List UInt8)×Unit):=zst
abbrev zagn:ZD ((List UInt8)):=zagg
def zae9 (a:(List UInt8)×Unit):Option ((List UInt8)):=qd1 a.1
abbrev zaxn {R:Type}:Sm R:=semP zyy zagn zae9
abbrev zar0:ZC (Patron×Unit):=Zc (Cod.agg zba) Zn
abbrev z56 {R:Type}:Sm R:=semP zar0 za1 (fun a=>qby a.1)
abbrev z43 {R:Type}:Sm R:=semP zsv za1 (fun a=>qa4 a.1)
def z8l {R:Type}:Nat→Sm R:=cl 130 z56 c0
abbrev ztx:=mkld [] [] [3,10,11,12] [] [] (Zs 3 Zi (Zs 10 (Zl .kPatron) (Zs 11 Zi (Zs 12 Zi Zz)))) zafj (.xs 0 [] [] [] Zz (.r [2] [] [] (Zs 2 Zi Zz)))
def zo6 {R:Type}:Lp Kd El R:=lp 5 ztx.sem l0
abbrev z7g {R:Type}:Sm R:=semP zb1 zau (fun a=>qer a.1)
abbrev z7f {R:Type}:Sm R:=semP zb1 zau (fun a=>qen a.1)
abbrev z47 {R:Type}:Sm R:=semP zsu za1 (fun a=>qa7 a.1)
def z8n {R:Type}:Nat→Sm R:=cl 131 z7g (cl 132 z7f c0)
abbrev ztz:=mkld [] [] [0,8,9,10] [] [] (Zs 0 (Zl .kLoan) (Zs 8 (Zl .kLoan) (Zs 9 Zi (Zs 10 Zi Zz)))) zafl (.xs 0 [] [] [] Zz (.r [2] [] [] (Zs 2 Zi Zz)))
def zo8 {R:Type}:Lp Kd El R:=lp 4 ztz.sem l0
abbrev zao5 {R:Type}:Sm R:=semP znp zau (fun a=>qb1 a.1 a.2.1 a.2.2.1)
abbrev zaqy {R:Type}:Sm R:=semP zb1 zau (fun a=>qek a.1)
abbrev z7m {R:Type}:Sm R:=semP zade za1 (fun a=>qez a.1)
abbrev zys:ZC (Hold×Hold×Unit):=Zc (Cod.agg zbj) (Zc (Cod.agg zbj) Zn)
abbrev z5r {R:Type}:Sm R:=semP zys zau (fun a=>qb9 a.1 a.2.1)
abbrev zasg:ZC ((List Hold)×((Unit)×(Unit))×Unit):=Zc (Zl .kHold) (Zc (Cod.fnc 135 (Zn) (Zn)) Zn)
abbrev zag3 {R:Type}:Sm R:=semP zasg zau (fun a=>qd (fun g x0 x1=>qb9 x0 x1) a.1 a.2.1)
def zahy {R:Type}:Nat→Sm R:=cl 135 z5r c0
abbrev z2l:=mkld [] [] [0,1,5,8,9,12,13] [] [] (Zs 0 (Zl .kHold) (Zs 1 (Cod.fnc 135 (Zn) (Zn)) (Zs 5 Zi (Zs 8 Zi (Zs 9 Zi (Zs 12 Zi (Zs 13 Zi Zz))))))) (zaoe (fun g x0 x1=>qb9 x0 x1)) (.xs 2 [0,1,8,9] [] [] (Zs 0 (Zl .kHold) (Zs 1 (Cod.fnc 135 (Zn) (Zn)) (Zs 8 Zi (Zs 9 Zi Zz)))) (.r [4] [] [] (Zs 4 Zb Zz)))
abbrev z2k:=mkld [] [] [0,1,8,9] [] [] (Zs 0 (Zl .kHold) (Zs 1 (Cod.fnc 135 (Zn) (Zn)) (Zs 8 Zi (Zs 9 Zi Zz)))) (zaod (fun g x0 x1=>qb9 x0 x1)) (.xs 0 [] [] [] Zz (.r [4] [] [] (Zs 4 Zb Zz)))
def zm4 {R:Type}:Lp Kd El R:=lp 2 z2k.sem (lp 5 z2l.sem l0)
abbrev z6z {R:Type}:Sm R:=semP zys zau (fun a=>qdf a.1 a.2.1)
abbrev zs5:ZC ((List Hold)×((Unit)×(Unit))×Unit):=Zc (Zl .kHold) (Zc (Cod.fnc 136 (Zn) (Zn)) Zn)
abbrev zqf {R:Type}:Sm R:=semP zs5 zau (fun a=>qd (fun g x0 x1=>qdf x0 x1) a.1 a.2.1)
def zwl {R:Type}:Nat→Sm R:=cl 136 z6z c0
abbrev zk7:=mkld [] [] [0,1,5,8,9,12,13] [] [] (Zs 0 (Zl .kHold) (Zs 1 (Cod.fnc 136 (Zn) (Zn)) (Zs 5 Zi (Zs 8 Zi (Zs 9 Zi (Zs 12 Zi (Zs 13 Zi Zz))))))) (zaoe (fun g x0 x1=>qdf x0 x1)) (.xs 2 [0,1,8,9] [] [] (Zs 0 (Zl .kHold) (Zs 1 (Cod.fnc 136 (Zn) (Zn)) (Zs 8 Zi (Zs 9 Zi Zz)))) (.r [4] [] [] (Zs 4 Zb Zz)))
abbrev zk6:=mkld [] [] [0,1,8,9] [] [] (Zs 0 (Zl .kHold) (Zs 1 (Cod.fnc 136 (Zn) (Zn)) (Zs 8 Zi (Zs 9 Zi Zz)))) (zaod (fun g x0 x1=>qdf x0 x1)) (.xs 0 [] [] [] Zz (.r [4] [] [] (Zs 4 Zb Zz)))
def zft {R:Type}:Lp Kd El R:=lp 2 zk6.sem (lp 5 zk7.sem l0)
abbrev zag6 {R:Type}:Sm R:=semP zahk za1 (fun a=>ql a.1)
def zah5 {R:Type}:Nat→Sm R:=cl 133 z7m (cl 134 (si zasg zag3 (si zs5 zqf s0)) c0)
abbrev z2u:=mkld [] [] [0,9,10,11] [] [] (Zs 0 (Zl .kHold) (Zs 9 (Zl .kHold) (Zs 10 Zi (Zs 11 Zi Zz)))) zavz (.xs 0 [0] [] [] (Zs 0 (Zl .kHold) Zz) (.r [2] [] [] (Zs 2 Zi Zz)))
def zvl {R:Type}:Lp Kd El R:=lp 4 z2u.sem l0
abbrev zaq5 {R:Type}:Sm R:=semP zb1 zau (fun a=>qex a.1)
abbrev zap2 {R:Type}:Sm R:=semP zb1 zau (fun a=>qd3 a.1)
abbrev zarq:ZC (Charge×Unit):=Zc (Cod.agg zdi) Zn
abbrev z5o {R:Type}:Sm R:=semP zarq za1 (fun a=>qb3 a.1)
abbrev z48 {R:Type}:Sm R:=semP zac3 za1 (fun a=>qa8 a.1)
def z8o {R:Type}:Nat→Sm R:=cl 137 z5o c0
abbrev zt0:=mkld [] [] [0,9,10,11] [] [] (Zs 0 (Zl .kCharge) (Zs 9 (Zl .kCharge) (Zs 10 Zi (Zs 11 Zi Zz)))) zafm (.xs 0 [] [] [] Zz (.r [2] [] [] (Zs 2 Zi Zz)))
def zo9 {R:Type}:Lp Kd El R:=lp 4 zt0.sem l0
abbrev zapj {R:Type}:Sm R:=semP znp zau (fun a=>qbs a.1 a.2.1 a.2.2.1)
abbrev z7j {R:Type}:Sm R:=semP zyu zau (fun a=>qev a.1)
abbrev zar7:ZC (Rule×Rule×Unit):=Zc (Cod.agg zc8) (Zc (Cod.cptr zc8) Zn)
abbrev z6j {R:Type}:Sm R:=semP zar7 zau (fun a=>qce a.1 a.2.1)
abbrev zacy:ZC ((List Rule)×((Unit)×(Rule×Unit))×Unit):=Zc (Zl .kRule) (Zc (Cod.fnc 139 (Zn) (Zc (Cod.cptr zc8) Zn)) Zn)
abbrev zaoo {R:Type}:Sm R:=semP zacy za1 (fun a=>qa0 (fun g x0=>qce x0 g.2.1) a.1 a.2.1)
def z8i {R:Type}:Nat→Sm R:=cl 139 z6j c0
abbrev ztu:=mkld [] [] [0,1,7,8] [] [] (Zs 0 (Zl .kRule) (Zs 1 (Cod.fnc 139 (Zn) (Zc (Cod.cptr zc8) Zn)) (Zs 7 Zi (Zs 8 Zi Zz)))) (zafg (fun g x0=>qce x0 g.2.1)) (.xs 0 [] [] [] Zz (.r [4] [] [] (Zs 4 Zi Zz)))
def zo3 {R:Type}:Lp Kd El R:=lp 2 ztu.sem l0
abbrev z7h {R:Type}:Sm R:=semP zacy zau (fun a=>qes (fun g x0=>qce x0 g.2.1) a.1 a.2.1)
abbrev zahb {R:Type}:Sm R:=semP zast za1 (fun a=>qw a.1)
def zaif {R:Type}:Nat→Sm R:=cl 138 z7j (cl 140 z7h c0)
abbrev z3c:=mkld [] [] [0,9,10,11] [] [] (Zs 0 (Zl .kRule) (Zs 9 (Zl .kRule) (Zs 10 Zi (Zs 11 Zi Zz)))) zav8 (.xs 0 [] [] [] Zz (.r [2] [] [] (Zs 2 Zi Zz)))
def zvp {R:Type}:Lp Kd El R:=lp 4 z3c.sem l0
abbrev z6w {R:Type}:Sm R:=semP zb1 zau (fun a=>qcz a.1)
abbrev z6t {R:Type}:Sm R:=semP zb1 zau (fun a=>qcw a.1)
abbrev zacz:ZC ((List Int)×((Unit)×(Unit))×Unit):=Zc (Zl .ki64) (Zc (Cod.fnc 142 (Zn) (Zn)) Zn)
abbrev zaop {R:Type}:Sm R:=semP zacz za1 (fun a=>qa1 (fun g x0=>qcw x0) a.1 a.2.1)
def z8j {R:Type}:Nat→Sm R:=cl 142 z6t c0
abbrev ztv:=mkld [] [] [0,1,7,8] [] [] (Zs 0 (Zl .ki64) (Zs 1 (Cod.fnc 142 (Zn) (Zn)) (Zs 7 Zi (Zs 8 Zi Zz)))) (zafh (fun g x0=>qcw x0)) (.xs 0 [] [] [] Zz (.r [4] [] [] (Zs 4 Zi Zz)))
def zo4 {R:Type}:Lp Kd El R:=lp 2 ztv.sem l0
abbrev z7i {R:Type}:Sm R:=semP zacz zau (fun a=>qet (fun g x0=>qcw x0) a.1 a.2.1)
abbrev zaha {R:Type}:Sm R:=semP zahl za1 (fun a=>qv a.1)
def zaie {R:Type}:Nat→Sm R:=cl 141 z7i c0
abbrev z3b:=mkld [] [] [1,24,25,26] [1] [] (Zp 1 1 (Zs 24 (Zl .ki64) (Zs 25 Zi (Zs 26 Zi (Zx 1 zaw Zz))))) zav7 (.xs 1 [] [] [] Zz (.r [2] [] [] (Zs 2 Zi Zz)))
def zvo {R:Type}:Lp Kd El R:=lp 8 z3b.sem l0
abbrev zawv {R:Type}:Sm R:=semP zgt zau (fun a=>qr a.1)
def zaib {R:Type}:Nat→Sm R:=cl 36 z5n (cl 79 z43 (cl 80 z47 (cl 81 zag6 (cl 82 z48 (cl 83 zahb (cl 84 zaha c0))))))
abbrev z28:=mkld [] [] [1,38,39] [1] [] (Zp 1 1 (Zs 38 (Cod.agg zdz) (Zs 39 Zi (Zx 1 zal Zz)))) zav5 (.xs 0 [1] [1] [] (Zp 1 1 (Zx 1 zal Zz)) (.r [2] [] [] (Zs 2 Zb Zz)))
abbrev zu5:=mkld [] [] [1,57,58,59] [1] [] (Zp 1 1 (Zs 57 (Zl .kHold) (Zs 58 Zi (Zs 59 Zi (Zx 1 zal Zz))))) zagb (.xs 2 [1] [1] [] (Zp 1 1 (Zx 1 zal Zz)) (.r [2] [] [] (Zs 2 Zb Zz)))
abbrev zu6:=mkld [] [] [1,70,71,72] [1] [] (Zp 1 1 (Zs 70 (Zl .kCharge) (Zs 71 Zi (Zs 72 Zi (Zx 1 zal Zz))))) zagc (.xs 4 [] [] [] Zz (.r [2] [] [] (Zs 2 Zb Zz)))
def zhu {R:Type}:Lp Kd El R:=lp 18 zu6.sem (lp 12 zu5.sem (lp 4 z28.sem l0))
abbrev zasf:ZC (Patron×Int×Unit):=Zc (Cod.agg zba) (Zc (Cod.cptr (CC.one Zi)) Zn)
abbrev z6v {R:Type}:Sm R:=semP zasf zau (fun a=>qcy a.1 a.2.1)
abbrev zaw6:ZC ((List Patron)×((Unit)×(Int×Unit))×Unit):=Zc (Zl .kPatron) (Zc (Cod.fnc 207 (Zn) (Zc (Cod.cptr (CC.one Zi)) Zn)) Zn)
abbrev zawt {R:Type}:Sm R:=semP zaw6 za1 (fun a=>qo (fun g x0=>qcy x0 g.2.1) a.1 a.2.1)
def zah8 {R:Type}:Nat→Sm R:=cl 207 z6v c0
abbrev z2y:=mkld [] [] [0,1,7,8] [] [] (Zs 0 (Zl .kPatron) (Zs 1 (Cod.fnc 207 (Zn) (Zc (Cod.cptr (CC.one Zi)) Zn)) (Zs 7 Zi (Zs 8 Zi Zz)))) (zaog (fun g x0=>qcy x0 g.2.1)) (.xs 0 [] [] [] Zz (.r [4] [] [] (Zs 4 Zi Zz)))
def zvm {R:Type}:Lp Kd El R:=lp 2 z2y.sem l0
abbrev zapk {R:Type}:Sm R:=semP zsw za1 (fun a=>qbt a.1 a.2.1)
abbrev zaqe {R:Type}:Sm R:=semP zsw zagh (fun a=>qdh a.1 a.2.1)
abbrev zarr:ZC (Int×Circ×Unit):=Zc Zi (Zc (Cod.cptr zal) Zn)
abbrev z5p {R:Type}:Sm R:=semP zarr zau (fun a=>qb4 a.1 a.2.1)
abbrev zawq {R:Type}:Sm R:=semP zgt zau (fun a=>qg a.1)
def zah0 {R:Type}:Nat→Sm R:=cl 77 znj (cl 85 z5p c0)
abbrev z2n:=mkld [] [] [1,3,12,13,14] [1] [] (Zp 1 1 (FC.clo 3 85 [] [1] (Zs 12 (Zl .kLoan) (Zs 13 Zi (Zs 14 Zi (Zx 1 zal Zz)))))) zavt (.xs 0 [1,3] [1] [] (Zp 1 1 (FC.clo 3 85 [] [1] (Zx 1 zal Zz))) (.r [2] [] [] (Zs 2 Zb Zz)))
abbrev z2o:=mkld [] [] [1,3,32,33,34] [1] [] (Zp 1 1 (FC.clo 3 85 [] [1] (Zs 32 (Zl .kHold) (Zs 33 Zi (Zs 34 Zi (Zx 1 zal Zz)))))) zavu (.xs 2 [1,3] [1] [] (Zp 1 1 (FC.clo 3 85 [] [1] (Zx 1 zal Zz))) (.r [2] [] [] (Zs 2 Zb Zz)))
abbrev zu2:=mkld [] [] [3,45,46,47] [1] [] (FC.clo 3 85 [] [1] (Zs 45 (Zl .kCharge) (Zs 46 Zi (Zs 47 Zi (Zx 1 zal Zz))))) zaga (.xs 4 [] [] [] Zz (.r [2] [] [] (Zs 2 Zb Zz)))
def zhr {R:Type}:Lp Kd El R:=lp 15 zu2.sem (lp 9 z2o.sem (lp 3 z2n.sem l0))
abbrev zav9:ZD ((Int×Unit)):=(Cod.clo 186 (Zc (Cod.cptr (CC.one Zi)) Zn))
abbrev zao0 {R:Type}:Sm R:=semP zb1 zav9 (fun a=>qap a.1)
abbrev zars:ZC (Loan×Int×Unit):=Zc (Cod.agg zcp) (Zc (Cod.cptr (CC.one Zi)) Zn)
abbrev z5q {R:Type}:Sm R:=semP zars zau (fun a=>qb6 a.1 a.2.1)
abbrev zahj:ZC ((List Loan)×((Unit)×(Int×Unit))×Unit):=Zc (Zl .kLoan) (Zc (Cod.fnc 186 (Zn) (Zc (Cod.cptr (CC.one Zi)) Zn)) Zn)
abbrev zawr {R:Type}:Sm R:=semP zahj za1 (fun a=>qj (fun g x0=>qb6 x0 g.2.1) a.1 a.2.1)
def zah3 {R:Type}:Nat→Sm R:=cl 186 z5q c0
abbrev z2r:=mkld [] [] [0,1,7,8] [] [] (Zs 0 (Zl .kLoan) (Zs 1 (Cod.fnc 186 (Zn) (Zc (Cod.cptr (CC.one Zi)) Zn)) (Zs 7 Zi (Zs 8 Zi Zz)))) (zaof (fun g x0=>qb6 x0 g.2.1)) (.xs 0 [] [] [] Zz (.r [4] [] [] (Zs 4 Zi Zz)))
def zvk {R:Type}:Lp Kd El R:=lp 2 z2r.sem l0
abbrev zagi:ZD (Loan×Int):=(Cod.tup2 (Zc (Cod.agg zcp) (Zc Zi Zn)))
abbrev zapo {R:Type}:Sm R:=semP zahj zagi (fun a=>qbx (fun g x0=>qb6 x0 g.2.1) a.1 a.2.1)
abbrev z6y {R:Type}:Sm R:=semP zkn zagr (fun a=>qd4 a.1 a.2.1)
abbrev zapg {R:Type}:Sm R:=semP zgt zau (fun a=>qbn a.1)
def z9k {R:Type}:Nat→Sm R:=cl 69 z6y c0
abbrev zux:=mkld [] [] [1,9,10,11] [1] [] (Zp 1 1 (Zs 9 (Zl .kItem) (Zs 10 Zi (Zs 11 Zi (Zx 1 zal Zz))))) zaf4 (.xs 0 [] [] [] Zz (.r [2] [] [] (Zs 2 Zb Zz)))
def zp2 {R:Type}:Lp Kd El R:=lp 2 zux.sem l0
abbrev zac9:ZC (Hold×Int×Unit):=Zc (Cod.agg zbj) (Zc (Cod.cptr (CC.one Zi)) Zn)
abbrev z6o {R:Type}:Sm R:=semP zac9 zau (fun a=>qco a.1 a.2.1)
abbrev zaw3:ZC ((List Hold)×((Unit)×(Int×Unit))×Unit):=Zc (Zl .kHold) (Zc (Cod.fnc 145 (Zn) (Zc (Cod.cptr (CC.one Zi)) Zn)) Zn)
abbrev zawn {R:Type}:Sm R:=semP zaw3 za1 (fun a=>qb (fun g x0=>qco x0 g.2.1) a.1 a.2.1)
def zahw {R:Type}:Nat→Sm R:=cl 145 z6o c0
abbrev z2i:=mkld [] [] [0,1,7,8] [] [] (Zs 0 (Zl .kHold) (Zs 1 (Cod.fnc 145 (Zn) (Zc (Cod.cptr (CC.one Zi)) Zn)) (Zs 7 Zi (Zs 8 Zi Zz)))) (zjg (fun g x0=>qco x0 g.2.1)) (.xs 0 [] [] [] Zz (.r [4] [] [] (Zs 4 Zi Zz)))
def zvg {R:Type}:Lp Kd El R:=lp 2 z2i.sem l0
abbrev z44 {R:Type}:Sm R:=semP znq z4t (fun a=>qa6 a.1 a.2.1)
abbrev zaot {R:Type}:Sm R:=semP zgt zau (fun a=>qaa a.1)
def z8q {R:Type}:Nat→Sm R:=cl 77 znj (cl 87 z44 c0)
abbrev zt3:=mkld [] [] [1,13,14,15] [1] [] (Zp 1 1 (Zs 13 (Zl .kHold) (Zs 14 Zi (Zs 15 Zi (Zx 1 zal Zz))))) zafn (.xs 0 [1] [1] [] (Zp 1 1 (Zx 1 zal Zz)) (.r [2] [] [] (Zs 2 Zb Zz)))
abbrev zow:=mkld [] [] [1,65,66,67] [1] [] (Zp 1 1 (Zs 65 (Zl .kItem) (Zs 66 Zi (Zs 67 Zi (Zx 1 zal Zz))))) z4f (.xs 2 [] [] [] Zz (.r [2] [] [] (Zs 2 Zb Zz)))
def ziv {R:Type}:Lp Kd El R:=lp 16 zow.sem (lp 2 zt3.sem l0)
abbrev zaq9 {R:Type}:Sm R:=semP zgt zau (fun a=>qfd a.1)
abbrev zahi:ZC (Circ×Item×Unit):=Zc (Cod.agg zal) (Zc (Cod.agg za0) Zn)
abbrev z4s:ZD (Circ×Int):=(Cod.tup2 (Zc (Cod.agg zal) (Zc Zi Zn)))
abbrev zag2 {R:Type}:Sm R:=semP zahi z4s (fun a=>q9 a.1 a.2.1)
abbrev zar2:ZC (Patron×Patron×Unit):=Zc (Cod.agg zba) (Zc (Cod.cptr zba) Zn)
abbrev z59 {R:Type}:Sm R:=semP zar2 zau (fun a=>qc2 a.1 a.2.1)
abbrev z74:ZC ((List Patron)×((Unit)×(Patron×Unit))×Unit):=Zc (Zl .kPatron) (Zc (Cod.fnc 208 (Zn) (Zc (Cod.cptr zba) Zn)) Zn)
abbrev z7p {R:Type}:Sm R:=semP z74 za1 (fun a=>qo (fun g x0=>qc2 x0 g.2.1) a.1 a.2.1)
def zwn {R:Type}:Nat→Sm R:=cl 208 z59 c0
abbrev zk9:=mkld [] [] [0,1,7,8] [] [] (Zs 0 (Zl .kPatron) (Zs 1 (Cod.fnc 208 (Zn) (Zc (Cod.cptr zba) Zn)) (Zs 7 Zi (Zs 8 Zi Zz)))) (zaog (fun g x0=>qc2 x0 g.2.1)) (.xs 0 [] [] [] Zz (.r [4] [] [] (Zs 4 Zi Zz)))
def zi7 {R:Type}:Lp Kd El R:=lp 2 zk9.sem l0
abbrev zagt:ZD ((List Patron)):=(Zl .kPatron)
abbrev zaqh {R:Type}:Sm R:=semP zsv zagt (fun a=>qdp a.1)
abbrev zy1:ZC ((List Patron)×Int×(List Patron)×Unit):=Zc (Zl .kPatron) (Zc Zi (Zc (Zl .kPatron) Zn))
abbrev zags:ZD ((List Patron)):=zagt
def zafb (a:(List Patron)×Int×(List Patron)×Unit):Option ((List Patron)):=qdo a.1 a.2.1 a.2.2.1
abbrev zaxo {R:Type}:Sm R:=semP zy1 zags zafb
abbrev zagy:ZD ((List Patron)×Int):=(Cod.tup2 (Zc (Zl .kPatron) (Zc Zi Zn)))
abbrev zaqi {R:Type}:Sm R:=semP zsv zagy (fun a=>qdu a.1)
abbrev zarz:ZC ((List Patron)×Patron×Unit):=Zc (Zl .kPatron) (Zc (Cod.agg zba) Zn)
abbrev zapm {R:Type}:Sm R:=semP zarz zagy (fun a=>qbv a.1 a.2.1)
abbrev zadd:ZC (Circ×Patron×Unit):=Zc (Cod.agg zal) (Zc (Cod.agg zba) Zn)
abbrev zaqb {R:Type}:Sm R:=semP zadd z4s (fun a=>qdd a.1 a.2.1)
abbrev zyv:ZC (Unit):=Zn
abbrev z6a {R:Type}:Sm R:=semP zyv zago (fun a=>qc3)
abbrev zawf:ZC (Circ_desk):=zav
abbrev zapr {R:Type}:Sm R:=semN zgt zawf (fun a=>qca a.1)
abbrev zy6:ZC (Unit×Int×Unit):=Zc (Cod.ptrc 100000) (Zc Zi Zn)
abbrev zke:ZD (Unit):=Cod.unit
abbrev zawx {R:Type}:Sm R:=semM zy6 (BC.one zav) zke (fun a b=>qt a.2.1 b)
abbrev zapw {R:Type}:Sm R:=semM zy6 (BC.one zav) za1 (fun a b=>qcl a.2.1 b)
abbrev zasi:ZC ((List Move)×Unit):=Zc (Zl .kMove) Zn
abbrev zawh:ZD ((List Move)):=(Zl .kMove)
abbrev zap9 {R:Type}:Sm R:=semP zasi zawh (fun a=>qdb a.1)
abbrev zac5:ZC (Unit×Int×Int×Int×Int×Unit):=Zc (Cod.ptrc 100000) (Zc Zi (Zc Zi (Zc Zi (Zc Zi Zn))))
abbrev zao9 {R:Type}:Sm R:=semM zac5 (BC.one zav) zke (fun a b=>qbd a.2.1 a.2.2.1 a.2.2.2.1 a.2.2.2.2.1 b)
abbrev zsl {R:Type}:Sm R:=semP zys za1 (fun a=>qbz a.1 a.2.1)
abbrev zaw8:ZC ((List Hold)×Int×Int×((Unit)×(Unit))×Unit):=Zc (Zl .kHold) (Zc Zi (Zc Zi (Zc (Cod.fnc 260 (Zn) (Zn)) Zn)))
abbrev zack:ZD (List Hold):=(Zl .kHold)
abbrev zag9 {R:Type}:Sm R:=semP zaw8 zack (fun a=>qq (fun g x0 x1=>qbz x0 x1) a.1 a.2.1 a.2.2.1 a.2.2.2.1)
def zaia {R:Type}:Nat→Sm R:=cl 260 zsl c0
abbrev z27:=mkld [] [] [0,1,2,3,8,9] [] [99999] (FC.arr 0 99999 (Zs 1 Zi (Zs 2 Zi (Zs 3 (Cod.fnc 260 (Zn) (Zn)) (Zs 8 Zi (Zs 9 Zi (FC.own 99999 Kd.kHold false Zz))))))) (zav4 (fun g x0 x1=>qbz x0 x1)) (.x 2 [0,1,2,3,8] [] [99999] (FC.arr 0 99999 (Zs 1 Zi (Zs 2 Zi (Zs 3 (Cod.fnc 260 (Zn) (Zn)) (Zs 8 Zi (FC.own 99999 Kd.kHold false Zz)))))))
abbrev z26:=mkld [] [] [0,1,2,3,8] [] [99999] (FC.arr 0 99999 (Zs 1 Zi (Zs 2 Zi (Zs 3 (Cod.fnc 260 (Zn) (Zn)) (Zs 8 Zi (FC.own 99999 Kd.kHold false Zz)))))) (zav3 (fun g x0 x1=>qbz x0 x1)) (.x 0 [] [] [99999] (FC.own 99999 Kd.kHold false Zz))
def zm7 {R:Type}:Lp Kd El R:=lp 1 z26.sem (lp 4 z27.sem l0)
abbrev zadb:ZC ((List Hold)×Int×Int×Int×((Unit)×(Unit))×Unit):=Zc (Zl .kHold) (Zc Zi (Zc Zi (Zc Zi (Zc (Cod.fnc 260 (Zn) (Zn)) Zn))))
abbrev zagm:ZD (List Hold):=zack
def zae8 (a:(List Hold)×Int×Int×Int×((Unit)×(Unit))×Unit):Option (List Hold):=qcv (fun g x0 x1=>qbz x0 x1) a.1 a.2.1 a.2.2.1 a.2.2.2.1 a.2.2.2.2.1
abbrev zap0 {R:Type}:Sm R:=semP zadb zagm zae8
abbrev zaw7:ZC ((List Hold)×Int×((Unit)×(Unit))×Unit):=Zc (Zl .kHold) (Zc Zi (Zc (Cod.fnc 260 (Zn) (Zn)) Zn))
abbrev zawu {R:Type}:Sm R:=semP zaw7 zack (fun a=>qp (fun g x0 x1=>qbz x0 x1) a.1 a.2.1 a.2.2.1)
def zah9 {R:Type}:Nat→Sm R:=cl 260 zsl (cl 275 zag9 (cl 276 zap0 c0))
abbrev z2z:=mkld [] [] [0,1,2,6,7,8] [] [99999] (FC.arr 0 99999 (Zs 1 Zi (Zs 2 (Cod.fnc 260 (Zn) (Zn)) (Zs 6 Zi (Zs 7 Zi (Zs 8 Zi (FC.own 99999 Kd.kHold false Zz))))))) (zav0 (fun g x0 x1=>qbz x0 x1)) (.x 0 [0,1,2,6,7] [] [99999] (FC.arr 0 99999 (Zs 1 Zi (Zs 2 (Cod.fnc 260 (Zn) (Zn)) (Zs 6 Zi (Zs 7 Zi (FC.own 99999 Kd.kHold false Zz)))))))
abbrev z24:=mkld [] [] [0,1,2,6,7,8] [] [99999] (FC.arr 0 99999 (Zs 1 Zi (Zs 2 (Cod.fnc 260 (Zn) (Zn)) (Zs 6 Zi (Zs 7 Zi (Zs 8 Zi (FC.own 99999 Kd.kHold false Zz))))))) (zav2 (fun g x0 x1=>qbz x0 x1)) (.x 4 [0,1,2,6,7] [] [99999] (FC.arr 0 99999 (Zs 1 Zi (Zs 2 (Cod.fnc 260 (Zn) (Zn)) (Zs 6 Zi (Zs 7 Zi (FC.own 99999 Kd.kHold false Zz)))))))
abbrev z23:=mkld [] [] [0,1,2,6] [] [99999] (FC.arr 0 99999 (Zs 1 Zi (Zs 2 (Cod.fnc 260 (Zn) (Zn)) (Zs 6 Zi (FC.own 99999 Kd.kHold false Zz))))) (zav1 (fun g x0 x1=>qbz x0 x1)) (.x 2 [] [] [99999] (FC.own 99999 Kd.kHold false Zz))
def zht {R:Type}:Lp Kd El R:=lp 7 z23.sem (lp 9 z24.sem (lp 2 z2z.sem l0))
abbrev zasl:ZC ((List Hold)×((Unit)×(Unit))×Unit):=Zc (Zl .kHold) (Zc (Cod.fnc 260 (Zn) (Zn)) Zn)
abbrev z63 {R:Type}:Sm R:=semP zasl zack (fun a=>qdn (fun g x0 x1=>qbz x0 x1) a.1 a.2.1)
abbrev zass:ZC ((List Hold)×Int×Int×Unit):=Zc (Zl .kHold) (Zc Zi (Zc Zi Zn))
abbrev zacj:ZD ((List Hold)):=(Zl .kHold)
abbrev zag5 {R:Type}:Sm R:=semP zass zacj (fun a=>qi a.1 a.2.1 a.2.2.1)
def zah2 {R:Type}:Nat→Sm R:=cl 259 z63 c0
abbrev z2q:=mkld [(7,7,Kd.kHold)] [] [1,2,7,10,11,12] [] [7] (Zs 1 Zi (Zs 2 Zi (FC.arr 7 7 (Zs 10 (Zl .kHold) (Zs 11 Zi (Zs 12 Zi (FC.own 7 Kd.kHold false Zz))))))) zavw (.x 0 [7] [] [7] (FC.arr 7 7 (FC.own 7 Kd.kHold false Zz)))
def zvj {R:Type}:Lp Kd El R:=lp 3 z2q.sem l0
abbrev zarv:ZC ((List Hold)×Item×Int×Int×Bool×Unit):=Zc (Zl .kHold) (Zc (Cod.agg za0) (Zc Zi (Zc Zi (Zc Zb Zn))))
abbrev zape {R:Type}:Sm R:=semP zarv za1 (fun a=>qbj a.1 a.2.1 a.2.2.1 a.2.2.2.1 a.2.2.2.2.1)
def z9h {R:Type}:Nat→Sm R:=cl 246 zag5 c0
abbrev zuu:=mkld [] [] [2,4,6,11,18,19,20] [6] [] (Zs 2 Zi (Zs 4 Zb (Zp 6 6 (Zs 11 Zi (Zs 18 (Zl .kHold) (Zs 19 Zi (Zs 20 Zi (Zx 6 za0 Zz)))))))) zaf1 (.xs 0 [11] [] [] (Zs 11 Zi Zz) (.r [10] [] [] (Zs 10 Zi Zz)))
def zpz {R:Type}:Lp Kd El R:=lp 3 zuu.sem l0
abbrev zaqz {R:Type}:Sm R:=semP zahi za1 (fun a=>qel a.1 a.2.1)
abbrev z6x {R:Type}:Sm R:=semP zac9 zau (fun a=>qd0 a.1 a.2.1)
abbrev z7z:ZC ((List Hold)×((Unit)×(Int×Unit))×Unit):=Zc (Zl .kHold) (Zc (Cod.fnc 247 (Zn) (Zc (Cod.cptr (CC.one Zi)) Zn)) Zn)
abbrev z5s {R:Type}:Sm R:=semP z7z za1 (fun a=>qb (fun g x0=>qd0 x0 g.2.1) a.1 a.2.1)
def zwd {R:Type}:Nat→Sm R:=cl 247 z6x c0
abbrev zky:=mkld [] [] [0,1,7,8] [] [] (Zs 0 (Zl .kHold) (Zs 1 (Cod.fnc 247 (Zn) (Zc (Cod.cptr (CC.one Zi)) Zn)) (Zs 7 Zi (Zs 8 Zi Zz)))) (zjg (fun g x0=>qd0 x0 g.2.1)) (.xs 0 [] [] [] Zz (.r [4] [] [] (Zs 4 Zi Zz)))
def ziy {R:Type}:Lp Kd El R:=lp 2 zky.sem l0
abbrev zyt:ZC ((List Hold)×Int×Unit):=Zc (Zl .kHold) (Zc Zi Zn)
abbrev zapd {R:Type}:Sm R:=semP zyt za1 (fun a=>qbi a.1 a.2.1)
abbrev zaq2 {R:Type}:Sm R:=semP zyt z4t (fun a=>qep a.1 a.2.1)
abbrev zyx:ZC (Unit×Int×Int×Unit):=Zc (Cod.ptrc 100000) (Zc Zi (Zc Zi Zn))
abbrev zapx {R:Type}:Sm R:=semM zyx (BC.one zav) zke (fun a b=>qcm a.2.1 a.2.2.1 b)
abbrev zaqu {R:Type}:Sm R:=semP zkm zau (fun a=>qee a.1 a.2.1)
abbrev zarp:ZC (Rule×Int×Int×Int×Unit):=Zc (Cod.agg zc8) (Zc Zi (Zc Zi (Zc Zi Zn)))
abbrev z5m {R:Type}:Sm R:=semP zarp zau (fun a=>qb0 a.1 a.2.1 a.2.2.1 a.2.2.2.1)
abbrev z5y {R:Type}:Sm R:=semP zyu za1 (fun a=>qbe a.1)
def z9e {R:Type}:Nat→Sm R:=c0
abbrev zur:=mkld [] [] [3,12,13,14] [] [12] (Zs 3 Zi (FC.arr 12 12 (Zs 13 Zi (Zs 14 Zi (FC.own 12 Kd.ki64 false Zz))))) zafy (.x 0 [3] [] [] (Zs 3 Zi Zz))
def zpw {R:Type}:Lp Kd El R:=lp 3 zur.sem l0
abbrev zac1:ZC ((List Rule)×Int×Int×Int×Unit):=Zc (Zl .kRule) (Zc Zi (Zc Zi (Zc Zi Zn)))
abbrev zaos {R:Type}:Sm R:=semP zac1 za1 (fun a=>qa5 a.1 a.2.1 a.2.2.1 a.2.2.2.1)
def z8m {R:Type}:Nat→Sm R:=cl 261 z5m (cl 262 z5y c0)
abbrev zty:=mkld [] [] [0,1,2,3,9,12,13,14] [] [] (Zs 0 (Zl .kRule) (Zs 1 Zi (Zs 2 Zi (Zs 3 Zi (Zs 9 Zi (Zs 12 (Zl .kRule) (Zs 13 Zi (Zs 14 Zi Zz)))))))) zafk (.x 0 [9] [] [] (Zs 9 Zi Zz))
def zo7 {R:Type}:Lp Kd El R:=lp 3 zty.sem l0
abbrev zag0:ZD (Rule×Bool):=(Cod.tup2 (Zc (Cod.agg zc8) (Zc Zb Zn)))
abbrev zaqk {R:Type}:Sm R:=semP zac1 zag0 (fun a=>qdz a.1 a.2.1 a.2.2.1 a.2.2.2.1)
abbrev zase:ZC (Circ×Int×Item×Unit):=Zc (Cod.agg zal) (Zc Zi (Zc (Cod.agg za0) Zn))
abbrev zapy {R:Type}:Sm R:=semP zase zag0 (fun a=>qct a.1 a.2.1 a.2.2.1)
abbrev zawg:ZD (Calendar):=(Cod.agg zaw)
abbrev zapz {R:Type}:Sm R:=semP znq zawg (fun a=>qcu a.1 a.2.1)
abbrev zaqc {R:Type}:Sm R:=semP zb1 zau (fun a=>qde a.1)
abbrev z7l {R:Type}:Sm R:=semP zkm zau (fun a=>qey a.1 a.2.1)
abbrev z7b {R:Type}:Sm R:=semP zb1 zau (fun a=>qeb a.1)
abbrev zarm:ZC ((List Int)×Int×Unit):=Zc (Zl .ki64) (Zc Zi Zn)
abbrev zawb:ZD (Int×Bool):=(Cod.tup2 (Zc Zi (Zc Zb Zn)))
abbrev zao2 {R:Type}:Sm R:=semP zarm zawb (fun a=>qat a.1 a.2.1)
def z85 {R:Type}:Nat→Sm R:=cl 271 z7l (cl 272 z7b c0)
abbrev zui:=mkld [] [] [0,1,6,7,8] [] [] (Zs 0 (Zl .ki64) (Zs 1 Zi (Zs 6 Zi (Zs 7 Zi (Zs 8 Zi Zz))))) zaft (.x 0 [0,1,6,7] [] [] (Zs 0 (Zl .ki64) (Zs 1 Zi (Zs 6 Zi (Zs 7 Zi Zz)))))
def zpn {R:Type}:Lp Kd El R:=lp 3 zui.sem l0
abbrev zawa:ZD ((V7 Bool)):=(Cod.agg zbk)
abbrev z5g {R:Type}:Sm R:=semP zahl zawa (fun a=>qaq a.1)
def z82 {R:Type}:Nat→Sm R:=c0
abbrev zuf:=mkld [] [] [1,2,3,5] [1,2,3] [] (Zp 1 1 (Zp 2 2 (Zp 3 3 (Zs 5 Zi (Zx 1 zaw (Zx 2 zbk (Zx 3 zbk Zz))))))) zafs (.x 0 [2,3] [2,3] [] (Zp 2 2 (Zp 3 3 (Zx 2 zbk (Zx 3 zbk Zz)))))
def zpk {R:Type}:Lp Kd El R:=lp 3 zuf.sem l0
abbrev zaq8 {R:Type}:Sm R:=semP zb1 zau (fun a=>qfc a.1)
abbrev z6b {R:Type}:Sm R:=semP zb1 za1 (fun a=>qc4 a.1)
abbrev zyr:ZC (Calendar×Int×Unit):=Zc (Cod.agg zaw) (Zc Zi Zn)
abbrev zsj {R:Type}:Sm R:=semP zyr zau (fun a=>qb8 a.1 a.2.1)
abbrev z5i {R:Type}:Sm R:=semP zyr zjn (fun a=>qau a.1 a.2.1)
def z86 {R:Type}:Nat→Sm R:=cl 249 zsj c0
abbrev zuj:=mkld [] [] [2,6] [2] [] (Zp 2 2 (Zs 6 Zi (Zx 2 zaw Zz))) zafu (.xs 0 [] [] [] Zz (.r [4,5] [] [] (Zs 4 Zi (Zs 5 Zi Zz))))
def zpo {R:Type}:Lp Kd El R:=lp 2 zuj.sem l0
abbrev zac0:ZC (Calendar×Int×Int×Unit):=Zc (Cod.agg zaw) (Zc Zi (Zc Zi Zn))
abbrev zaor {R:Type}:Sm R:=semP zac0 zjn (fun a=>qa3 a.1 a.2.1 a.2.2.1)
def z8k {R:Type}:Nat→Sm R:=cl 143 z6w (cl 221 z5i c0)
abbrev ztw:=mkld [] [] [3,8,28,29] [3] [] (Zp 3 3 (Zs 8 Zi (Zs 28 Zi (Zs 29 Zi (Zx 3 zaw Zz))))) zafi (.xs 0 [8] [] [] (Zs 8 Zi Zz) (.r [6,7] [] [] (Zs 6 Zi (Zs 7 Zi Zz))))
def zo5 {R:Type}:Lp Kd El R:=lp 9 ztw.sem l0
abbrev zaqp {R:Type}:Sm R:=semM zyx (BC.one zav) za1 (fun a b=>qe7 a.2.1 a.2.2.1 b)
abbrev zar8:ZC (Hold×Int×Int×Unit):=Zc (Cod.agg zbj) (Zc (Cod.cptr (CC.one Zi)) (Zc (Cod.cptr (CC.one Zi)) Zn))
abbrev z6k {R:Type}:Sm R:=semP zar8 zau (fun a=>qcf a.1 a.2.1 a.2.2.1)
abbrev zsx:ZC ((List Hold)×((Unit)×(Int×Int×Unit))×Unit):=Zc (Zl .kHold) (Zc (Cod.fnc 215 (Zn) (Zc (Cod.cptr (CC.one Zi)) (Zc (Cod.cptr (CC.one Zi)) Zn))) Zn)
abbrev z5t {R:Type}:Sm R:=semP zsx za1 (fun a=>qb (fun g x0=>qcf x0 g.2.1 g.2.2.1) a.1 a.2.1)
def zwe {R:Type}:Nat→Sm R:=cl 215 z6k c0
abbrev zkz:=mkld [] [] [0,1,7,8] [] [] (Zs 0 (Zl .kHold) (Zs 1 (Cod.fnc 215 (Zn) (Zc (Cod.cptr (CC.one Zi)) (Zc (Cod.cptr (CC.one Zi)) Zn))) (Zs 7 Zi (Zs 8 Zi Zz)))) (zjg (fun g x0=>qcf x0 g.2.1 g.2.2.1)) (.xs 0 [] [] [] Zz (.r [4] [] [] (Zs 4 Zi Zz)))
def ziz {R:Type}:Lp Kd El R:=lp 2 zkz.sem l0
abbrev zapn {R:Type}:Sm R:=semP zsx zau (fun a=>qbw (fun g x0=>qcf x0 g.2.1 g.2.2.1) a.1 a.2.1)
abbrev zap7 {R:Type}:Sm R:=semP zahk zacj (fun a=>qd9 a.1)
abbrev zasq:ZC ((List Hold)×Int×Hold×Unit):=Zc (Zl .kHold) (Zc Zi (Zc (Cod.agg zbj) Zn))
abbrev zaq1 {R:Type}:Sm R:=semP zasq zacj (fun a=>qeo a.1 a.2.1 a.2.2.1)
abbrev zaro:ZC ((List Hold)×Int×Int×Int×Int×Unit):=Zc (Zl .kHold) (Zc Zi (Zc Zi (Zc Zi (Zc Zi Zn))))
abbrev zawd:ZD ((List Hold)×Int):=(Cod.tup2 (Zc (Zl .kHold) (Zc Zi Zn)))
abbrev zao4 {R:Type}:Sm R:=semP zaro zawd (fun a=>qax a.1 a.2.1 a.2.2.1 a.2.2.2.1 a.2.2.2.2.1)
abbrev zasd:ZC (Unit×(List Hold)×Int×Unit):=Zc (Cod.ptrc 100000) (Zc (Zl .kHold) (Zc Zi Zn))
abbrev zapv {R:Type}:Sm R:=semM zasd (BC.one zav) zke (fun a b=>qck a.2.1 a.2.2.1 b)
abbrev zasj:ZC (Unit×Int×Hold×Unit):=Zc (Cod.ptrc 100000) (Zc Zi (Zc (Cod.agg zbj) Zn))
abbrev zaqa {R:Type}:Sm R:=semM zasj (BC.one zav) zke (fun a b=>qdc a.2.1 a.2.2.1 b)
abbrev zaqs {R:Type}:Sm R:=semM zy6 (BC.one zav) zke (fun a b=>qea a.2.1 b)
abbrev zark:ZC (Unit×Unit):=Zc (Cod.ptrc 100000) Zn
abbrev zaoq {R:Type}:Sm R:=semM zark (BC.one zav) z4s (fun a b=>qa2 b)
abbrev zs4:ZC (Circ×Int×Int×Unit):=Zc (Cod.agg zal) (Zc Zi (Zc Zi Zn))
abbrev z6p {R:Type}:Sm R:=semP zs4 z4s (fun a=>qcp a.1 a.2.1 a.2.2.1)
abbrev zarw:ZC ((List Charge)×Int×Unit):=Zc (Zl .kCharge) (Zc Zi Zn)
abbrev zapf {R:Type}:Sm R:=semP zarw za1 (fun a=>qbk a.1 a.2.1)
def z9i {R:Type}:Nat→Sm R:=c0
abbrev zuv:=mkld [] [] [1,5,8,9,10] [] [] (Zs 1 Zi (Zs 5 Zi (Zs 8 (Zl .kCharge) (Zs 9 Zi (Zs 10 Zi Zz))))) zaf2 (.x 0 [5] [] [] (Zs 5 Zi Zz))
def zp0 {R:Type}:Lp Kd El R:=lp 3 zuv.sem l0
abbrev zqb:ZD ((List Loan)):=(Zl .kLoan)
abbrev z5a {R:Type}:Sm R:=semP zkn zqb (fun a=>qaf a.1 a.2.1)
def z8u {R:Type}:Nat→Sm R:=c0
abbrev zt7:=mkld [(5,5,Kd.kLoan)] [] [1,5,8,9,10] [] [5] (Zs 1 Zi (FC.arr 5 5 (Zs 8 (Zl .kLoan) (Zs 9 Zi (Zs 10 Zi (FC.own 5 Kd.kLoan false Zz)))))) zafq (.x 0 [5] [] [5] (FC.arr 5 5 (FC.own 5 Kd.kLoan false Zz)))
def zpc {R:Type}:Lp Kd El R:=lp 3 zt7.sem l0
abbrev zac4:ZC ((List Loan)×Int×Int×Unit):=Zc (Zl .kLoan) (Zc Zi (Zc Zi Zn))
abbrev zao7 {R:Type}:Sm R:=semP zac4 za1 (fun a=>qbb a.1 a.2.1 a.2.2.1)
def z9c {R:Type}:Nat→Sm R:=cl 163 z5a c0
abbrev zup:=mkld [] [] [2,7,12,13,14] [] [] (Zs 2 Zi (Zs 7 Zi (Zs 12 (Zl .kLoan) (Zs 13 Zi (Zs 14 Zi Zz))))) zafw (.x 0 [7] [] [] (Zs 7 Zi Zz))
def zpu {R:Type}:Lp Kd El R:=lp 3 zup.sem l0
abbrev zart:ZC (Patron×Int×Int×Int×Unit):=Zc (Cod.agg zba) (Zc Zi (Zc Zi (Zc Zi Zn)))
abbrev zao8 {R:Type}:Sm R:=semP zart zvs (fun a=>qbc a.1 a.2.1 a.2.2.1 a.2.2.2.1)
def z9d {R:Type}:Nat→Sm R:=c0
abbrev zuq:=mkld [(9,9,Kd.ki64)] [] [9,22,23,24] [] [9,22] (FC.arr 9 9 (FC.arr 22 22 (Zs 23 Zi (Zs 24 Zi (FC.own 9 Kd.ki64 false (FC.own 22 Kd.kbool false Zz)))))) zafx (.x 0 [9] [] [9] (FC.arr 9 9 (FC.own 9 Kd.ki64 false Zz)))
def zpv {R:Type}:Lp Kd El R:=lp 3 zuq.sem l0
abbrev zaq7 {R:Type}:Sm R:=semP zadd zau (fun a=>qfb a.1 a.2.1)
abbrev zaph {R:Type}:Sm R:=semP zyr zjn (fun a=>qbo a.1 a.2.1)
def z9l {R:Type}:Nat→Sm R:=cl 249 zsj c0
abbrev zuy:=mkld [] [] [2,6] [2] [] (Zp 2 2 (Zs 6 Zi (Zx 2 zaw Zz))) zaf5 (.xs 0 [] [] [] Zz (.r [4,5] [] [] (Zs 4 Zi (Zs 5 Zi Zz))))
def zp3 {R:Type}:Lp Kd El R:=lp 2 zuy.sem l0
abbrev zadc:ZC (Rule×Calendar×Int×Int×Unit):=Zc (Cod.agg zc8) (Zc (Cod.agg zaw) (Zc Zi (Zc Zi Zn)))
abbrev zap1 {R:Type}:Sm R:=semP zadc zjn (fun a=>qd2 a.1 a.2.1 a.2.2.1 a.2.2.2.1)
abbrev zasn:ZC (Circ×Item×Patron×Int×Unit):=Zc (Cod.agg zal) (Zc (Cod.agg za0) (Zc (Cod.agg zba) (Zc Zi Zn)))
abbrev zaqv {R:Type}:Sm R:=semP zasn zjn (fun a=>qeg a.1 a.2.1 a.2.2.1 a.2.2.2.1)
abbrev zasa:ZC (Loan×Loan×Unit):=Zc (Cod.agg zcp) (Zc (Cod.cptr zcp) Zn)
abbrev z6m {R:Type}:Sm R:=semP zasa zau (fun a=>qch a.1 a.2.1)
abbrev zl3:ZC ((List Loan)×((Unit)×(Loan×Unit))×Unit):=Zc (Zl .kLoan) (Zc (Cod.fnc 166 (Zn) (Zc (Cod.cptr zcp) Zn)) Zn)
abbrev z7o {R:Type}:Sm R:=semP zl3 za1 (fun a=>qj (fun g x0=>qch x0 g.2.1) a.1 a.2.1)
def zwm {R:Type}:Nat→Sm R:=cl 166 z6m c0
abbrev zk8:=mkld [] [] [0,1,7,8] [] [] (Zs 0 (Zl .kLoan) (Zs 1 (Cod.fnc 166 (Zn) (Zc (Cod.cptr zcp) Zn)) (Zs 7 Zi (Zs 8 Zi Zz)))) (zaof (fun g x0=>qch x0 g.2.1)) (.xs 0 [] [] [] Zz (.r [4] [] [] (Zs 4 Zi Zz)))
def zi6 {R:Type}:Lp Kd El R:=lp 2 zk8.sem l0
abbrev zyh {R:Type}:Sm R:=semP zl3 zagi (fun a=>qbx (fun g x0=>qch x0 g.2.1) a.1 a.2.1)
abbrev zap6 {R:Type}:Sm R:=semP zsu zqb (fun a=>qd8 a.1)
abbrev zy2:ZC ((List Loan)×Int×(List Loan)×Unit):=Zc (Zl .kLoan) (Zc Zi (Zc (Zl .kLoan) Zn))
abbrev zagu:ZD ((List Loan)):=zqb
def zafc (a:(List Loan)×Int×(List Loan)×Unit):Option ((List Loan)):=qdq a.1 a.2.1 a.2.2.1
abbrev zaxp {R:Type}:Sm R:=semP zy2 zagu zafc
abbrev zagz:ZD ((List Loan)×Int):=(Cod.tup2 (Zc (Zl .kLoan) (Zc Zi Zn)))
abbrev zaqj {R:Type}:Sm R:=semP zsu zagz (fun a=>qdy a.1)
abbrev zarx:ZC ((List Loan)×Loan×Unit):=Zc (Zl .kLoan) (Zc (Cod.agg zcp) Zn)
abbrev zapi {R:Type}:Sm R:=semP zarx zagz (fun a=>qbr a.1 a.2.1)
abbrev zasc:ZC (Unit×(List Loan)×Int×Unit):=Zc (Cod.ptrc 100000) (Zc (Zl .kLoan) (Zc Zi Zn))
abbrev zapu {R:Type}:Sm R:=semM zasc (BC.one zav) zke (fun a b=>qcj a.2.1 a.2.2.1 b)
abbrev zy5:ZC ((List Hold)×Int×Int×Unit):=zass
abbrev zagx:ZD ((List Hold)):=zacj
def zaff (a:(List Hold)×Int×Int×Unit):Option ((List Hold)):=qdt a.1 a.2.1 a.2.2.1
abbrev zaxs {R:Type}:Sm R:=semP zy5 zagx zaff
abbrev zawj:ZD ((List Hold)×Hold×Int):=(Cod.tup3 (Zc (Zl .kHold) (Zc (Cod.agg zbj) (Zc Zi Zn))))
abbrev zaqw {R:Type}:Sm R:=semP zyt zawj (fun a=>qei a.1 a.2.1)
abbrev zaq4 {R:Type}:Sm R:=semM zy6 (BC.one zav) zke (fun a b=>qeu a.2.1 b)
abbrev z4u:ZD (Circ×Int×Int):=(Cod.tup3 (Zc (Cod.agg zal) (Zc Zi (Zc Zi Zn))))
abbrev zao6 {R:Type}:Sm R:=semM zy6 (BC.one zav) z4u (fun a b=>qb7 a.2.1 b)
abbrev zasp:ZC (Hold×Item×Unit):=Zc (Cod.agg zbj) (Zc (Cod.agg za0) Zn)
abbrev zaq0 {R:Type}:Sm R:=semP zasp zau (fun a=>qem a.1 a.2.1)
abbrev zar3:ZC (Hold×Int×Item×Unit):=Zc (Cod.agg zbj) (Zc (Cod.cptr (CC.one Zi)) (Zc (Cod.cptr za0) Zn))
abbrev z6d {R:Type}:Sm R:=semP zar3 zau (fun a=>qc6 a.1 a.2.1 a.2.2.1)
abbrev z71:ZC ((List Hold)×((Unit)×(Int×Item×Unit))×Unit):=Zc (Zl .kHold) (Zc (Cod.fnc 111 (Zn) (Zc (Cod.cptr (CC.one Zi)) (Zc (Cod.cptr za0) Zn))) Zn)
abbrev z5u {R:Type}:Sm R:=semP z71 za1 (fun a=>qb (fun g x0=>qc6 x0 g.2.1 g.2.2.1) a.1 a.2.1)
def zwf {R:Type}:Nat→Sm R:=cl 111 z6d c0
abbrev zk0:=mkld [] [] [0,1,7,8] [] [] (Zs 0 (Zl .kHold) (Zs 1 (Cod.fnc 111 (Zn) (Zc (Cod.cptr (CC.one Zi)) (Zc (Cod.cptr za0) Zn))) (Zs 7 Zi (Zs 8 Zi Zz)))) (zjg (fun g x0=>qc6 x0 g.2.1 g.2.2.1)) (.xs 0 [] [] [] Zz (.r [4] [] [] (Zs 4 Zi Zz)))
def zi0 {R:Type}:Lp Kd El R:=lp 2 zk0.sem l0
abbrev zac7:ZC (Circ×Int×Int×Int×Unit):=Zc (Cod.agg zal) (Zc Zi (Zc Zi (Zc Zi Zn)))
abbrev z54 {R:Type}:Sm R:=semP zac7 z4u (fun a=>qbq a.1 a.2.1 a.2.2.1 a.2.2.2.1)
abbrev zy4:ZC ((List Loan)×Int×Int×Unit):=zac4
abbrev zagw:ZD ((List Loan)):=zqb
def zafe (a:(List Loan)×Int×Int×Unit):Option ((List Loan)):=qds a.1 a.2.1 a.2.2.1
abbrev zaxr {R:Type}:Sm R:=semP zy4 zagw zafe
abbrev zaqm {R:Type}:Sm R:=semP zkn zqb (fun a=>qe4 a.1 a.2.1)
abbrev zawi:ZD ((List Loan)×Loan×Int):=(Cod.tup3 (Zc (Zl .kLoan) (Zc (Cod.agg zcp) (Zc Zi Zn))))
abbrev zaqg {R:Type}:Sm R:=semP zkn zawi (fun a=>qdl a.1 a.2.1)
abbrev z7d {R:Type}:Sm R:=semP zkm za1 (fun a=>qef a.1 a.2.1)
abbrev zaou {R:Type}:Sm R:=semP zac0 za1 (fun a=>qab a.1 a.2.1 a.2.2.1)
def z8r {R:Type}:Nat→Sm R:=cl 251 z5g (cl 252 z7d (cl 253 z6b c0))
abbrev zt4:=mkld [] [] [1,2,3,7,8,22,23] [3,7] [] (Zs 1 Zi (Zs 2 Zi (Zp 3 3 (Zp 7 7 (Zs 8 Zi (Zs 22 (Cod.agg zbk) (Zs 23 Zi (Zx 3 zaw (Zx 7 zbk Zz))))))))) zafo (.x 0 [1,2,3,7,8] [3,7] [] (Zs 1 Zi (Zs 2 Zi (Zp 3 3 (Zp 7 7 (Zs 8 Zi (Zx 3 zaw (Zx 7 zbk Zz))))))))
abbrev zox:=mkld [] [] [1,2,7,8,40,41,42] [7] [] (Zs 1 Zi (Zs 2 Zi (Zp 7 7 (Zs 8 Zi (Zs 40 (Zl .ki64) (Zs 41 Zi (Zs 42 Zi (Zx 7 zbk Zz)))))))) z4g (.x 2 [8] [] [] (Zs 8 Zi Zz))
def ziw {R:Type}:Lp Kd El R:=lp 13 zox.sem (lp 7 zt4.sem l0)
abbrev zarb {R:Type}:Sm R:=semP zadc za1 (fun a=>qff a.1 a.2.1 a.2.2.1 a.2.2.2.1)
abbrev zar4:ZC ((List Charge)×Charge×Unit):=Zc (Zl .kCharge) (Zc (Cod.agg zdi) Zn)
abbrev zagk:ZD ((List Charge)×Int):=(Cod.tup2 (Zc (Zl .kCharge) (Zc Zi Zn)))
abbrev zapq {R:Type}:Sm R:=semP zar4 zagk (fun a=>qc9 a.1 a.2.1)
abbrev zaqn {R:Type}:Sm R:=semM zac5 (BC.one zav) zke (fun a b=>qe5 a.2.1 a.2.2.1 a.2.2.2.1 a.2.2.2.2.1 b)
abbrev zar1:ZC (Charge×Int×Int×Int×Unit):=Zc (Cod.agg zdi) (Zc (Cod.cptr (CC.one Zi)) (Zc (Cod.cptr (CC.one Zi)) (Zc (Cod.cptr (CC.one Zi)) Zn)))
abbrev z58 {R:Type}:Sm R:=semP zar1 zau (fun a=>qc1 a.1 a.2.1 a.2.2.1 a.2.2.2.1)
abbrev zarn:ZC ((List Charge)×((Unit)×(Int×Int×Int×Unit))×Unit):=Zc (Zl .kCharge) (Zc (Cod.fnc 230 (Zn) (Zc (Cod.cptr (CC.one Zi)) (Zc (Cod.cptr (CC.one Zi)) (Zc (Cod.cptr (CC.one Zi)) Zn)))) Zn)
abbrev zawc:ZD ((List Charge)×Int×Int):=(Cod.tup3 (Zc (Zl .kCharge) (Zc Zi (Zc Zi Zn))))
abbrev zao3 {R:Type}:Sm R:=semP zarn zawc (fun a=>qaw (fun g x0=>qc1 x0 g.2.1 g.2.2.1 g.2.2.2.1) a.1 a.2.1)
def z88 {R:Type}:Nat→Sm R:=cl 230 z58 c0
abbrev zul:=mkld [(4,4,Kd.kCharge)] [] [1,4,5,6,9,10,11] [] [4] (Zs 1 (Cod.fnc 230 (Zn) (Zc (Cod.cptr (CC.one Zi)) (Zc (Cod.cptr (CC.one Zi)) (Zc (Cod.cptr (CC.one Zi)) Zn)))) (FC.arr 4 4 (Zs 5 Zi (Zs 6 Zi (Zs 9 (Zl .kCharge) (Zs 10 Zi (Zs 11 Zi (FC.own 4 Kd.kCharge false Zz)))))))) (zafv (fun g x0=>qc1 x0 g.2.1 g.2.2.1 g.2.2.2.1)) (.x 0 [4,5,6] [] [4] (FC.arr 4 4 (Zs 5 Zi (Zs 6 Zi (FC.own 4 Kd.kCharge false Zz)))))
def zpq {R:Type}:Lp Kd El R:=lp 2 zul.sem l0
abbrev zary:ZC ((List Charge)×Int×Int×Int×Unit):=Zc (Zl .kCharge) (Zc Zi (Zc Zi (Zc Zi Zn)))
abbrev zapl {R:Type}:Sm R:=semP zary zagk (fun a=>qbu a.1 a.2.1 a.2.2.1 a.2.2.2.1)
abbrev zaql {R:Type}:Sm R:=semM zyx (BC.one zav) zke (fun a b=>qe3 a.2.1 a.2.2.1 b)
abbrev z69 {R:Type}:Sm R:=semP zs4 z4u (fun a=>qe1 a.1 a.2.1 a.2.2.1)
abbrev zawe:ZD (Circ×Bool):=(Cod.tup2 (Zc (Cod.agg zal) (Zc Zb Zn)))
abbrev zapa {R:Type}:Sm R:=semP zyv zawe (fun a=>qbf)
def z9f {R:Type}:Nat→Sm R:=cl 52 z6a (cl 53 zag2 (cl 54 z6p (cl 55 z54 (cl 56 z69 c0))))
abbrev zus:=mkld [] [] [0,2,5,6] [0,2] [] (Zp 0 0 (Zp 2 2 (Zs 5 Zb (Zs 6 Zi (Zx 0 zal (Zx 2 zal Zz)))))) zafz (.x 0 [0,2,5] [0,2] [] (Zp 0 0 (Zp 2 2 (Zs 5 Zb (Zx 0 zal (Zx 2 zal Zz))))))
def zpx {R:Type}:Lp Kd El R:=lp 6 zus.sem l0
abbrev z49 {R:Type}:Sm R:=semP znq zjn (fun a=>qa9 a.1 a.2.1)
def z8p {R:Type}:Nat→Sm R:=c0
abbrev zt1:=mkld [] [] [1,6,7,11,12,13] [] [] (Zs 1 Zi (Zs 6 Zi (Zs 7 Zi (Zs 11 (Zl .kMove) (Zs 12 Zi (Zs 13 Zi Zz)))))) zle (.x 0 [6,7] [] [] (Zs 6 Zi (Zs 7 Zi Zz)))
def zpa {R:Type}:Lp Kd El R:=lp 3 zt1.sem l0
abbrev z5j {R:Type}:Sm R:=semP znq za1 (fun a=>qav a.1 a.2.1)
def z87 {R:Type}:Nat→Sm R:=c0
abbrev zuk:=mkld [] [] [1,5,9,10,11] [] [] (Zs 1 Zi (Zs 5 Zi (Zs 9 (Zl .kItem) (Zs 10 Zi (Zs 11 Zi Zz))))) zlm (.x 0 [5] [] [] (Zs 5 Zi Zz))
def zpp {R:Type}:Lp Kd El R:=lp 3 zuk.sem l0
abbrev zar5:ZC (Hold×Item×Unit):=Zc (Cod.agg zbj) (Zc (Cod.cptr za0) Zn)
abbrev z6i {R:Type}:Sm R:=semP zar5 zau (fun a=>qcc a.1 a.2.1)
abbrev zsy:ZC ((List Hold)×((Unit)×(Item×Unit))×Unit):=Zc (Zl .kHold) (Zc (Cod.fnc 58 (Zn) (Zc (Cod.cptr za0) Zn)) Zn)
abbrev z5v {R:Type}:Sm R:=semP zsy za1 (fun a=>qb (fun g x0=>qcc x0 g.2.1) a.1 a.2.1)
def zwg {R:Type}:Nat→Sm R:=cl 58 z6i c0
abbrev zk1:=mkld [] [] [0,1,7,8] [] [] (Zs 0 (Zl .kHold) (Zs 1 (Cod.fnc 58 (Zn) (Zc (Cod.cptr za0) Zn)) (Zs 7 Zi (Zs 8 Zi Zz)))) (zjg (fun g x0=>qcc x0 g.2.1)) (.xs 0 [] [] [] Zz (.r [4] [] [] (Zs 4 Zi Zz)))
def zi1 {R:Type}:Lp Kd El R:=lp 2 zk1.sem l0
abbrev zlx {R:Type}:Sm R:=semP zsy zau (fun a=>qbw (fun g x0=>qcc x0 g.2.1) a.1 a.2.1)
abbrev zaqt {R:Type}:Sm R:=semP zkm za1 (fun a=>qec a.1 a.2.1)
abbrev zaru:ZC ((List Int)×Unit):=Zc (Zl .ki64) Zn
abbrev zapc {R:Type}:Sm R:=semP zaru za1 (fun a=>qbh a.1)
def z9g {R:Type}:Nat→Sm R:=c0
abbrev zut:=mkld [] [] [3,6,7,8] [] [] (Zs 3 Zi (Zs 6 (Zl .ki64) (Zs 7 Zi (Zs 8 Zi Zz)))) zaf0 (.xs 0 [3] [] [] (Zs 3 Zi Zz) (.r [2] [] [] (Zs 2 Zi Zz)))
def zpy {R:Type}:Lp Kd El R:=lp 3 zut.sem l0
abbrev zash:ZC (Weed_candidate×Weed_candidate×Unit):=Zc (Cod.agg zbl) (Zc (Cod.agg zbl) Zn)
abbrev zap5 {R:Type}:Sm R:=semP zash za1 (fun a=>qd7 a.1 a.2.1)
abbrev zyz:ZC ((List Weed_candidate)×((Unit)×(Unit))×Unit):=Zc (Zl .kWeed_candidate) (Zc (Cod.fnc 60 (Zn) (Zn)) Zn)
abbrev zagp:ZD (List Weed_candidate):=(Zl .kWeed_candidate)
def zafa (a:(List Weed_candidate)×((Unit)×(Unit))×Unit):Option (List Weed_candidate):=qda (fun g x0 x1=>qd7 x0 x1) a.1 a.2.1
abbrev zap8 {R:Type}:Sm R:=semP zyz zagp zafa
abbrev zaxk:ZD ((List Weed_candidate)):=(Zl .kWeed_candidate)
abbrev z7n {R:Type}:Sm R:=semP zs4 zaxk (fun a=>qh a.1 a.2.1 a.2.2.1)
def zah1 {R:Type}:Nat→Sm R:=cl 11 z49 (cl 57 zlx (cl 59 zap8 c0))
abbrev z2p:=mkld [(7,7,Kd.kWeed_candidate)] [] [1,2,3,7,14,15,16] [3] [7] (Zs 1 Zi (Zs 2 Zi (Zp 3 3 (FC.arr 7 7 (Zs 14 (Zl .kItem) (Zs 15 Zi (Zs 16 Zi (Zx 3 zal (FC.own 7 Kd.kWeed_candidate false Zz))))))))) zx5 (.x 0 [7] [] [7] (FC.arr 7 7 (FC.own 7 Kd.kWeed_candidate false Zz)))
def zvi {R:Type}:Lp Kd El R:=lp 3 z2p.sem l0
abbrev z5c {R:Type}:Sm R:=semP zs4 zvs (fun a=>qai a.1 a.2.1 a.2.2.1)
def z8v {R:Type}:Nat→Sm R:=cl 27 z7n c0
abbrev zt8:=mkld [(7,7,Kd.ki64)] [] [7,13,14,15] [] [7] (FC.arr 7 7 (Zs 13 (Zl .kWeed_candidate) (Zs 14 Zi (Zs 15 Zi (FC.own 7 Kd.ki64 false Zz))))) zlg (.x 0 [7] [] [7] (FC.arr 7 7 (FC.own 7 Kd.ki64 false Zz)))
def zpd {R:Type}:Lp Kd El R:=lp 3 zt8.sem l0
abbrev zarl:ZC ((List Int)×(List Int)×Unit):=Zc (Zl .ki64) (Zc (Zl .ki64) Zn)
abbrev zaoz {R:Type}:Sm R:=semP zarl zau (fun a=>qam a.1 a.2.1)
def z8z {R:Type}:Nat→Sm R:=c0
abbrev zuc:=mkld [] [] [0,1,5] [] [] (Zs 0 (Zl .ki64) (Zs 1 (Zl .ki64) (Zs 5 Zi Zz))) zafr (.xs 0 [] [] [] Zz (.r [4] [] [] (Zs 4 Zb Zz)))
def zph {R:Type}:Lp Kd El R:=lp 4 zuc.sem l0
abbrev z6u {R:Type}:Sm R:=semP zada zau (fun a=>qcx a.1 a.2.1)
abbrev zs1:ZC ((List Item)×((Unit)×(Int×Unit))×Unit):=Zc (Zl .kItem) (Zc (Cod.fnc 32 (Zn) (Zc (Cod.cptr (CC.one Zi)) Zn)) Zn)
abbrev z6f {R:Type}:Sm R:=semP zs1 za1 (fun a=>qc (fun g x0=>qcx x0 g.2.1) a.1 a.2.1)
def zwj {R:Type}:Nat→Sm R:=cl 32 z6u c0
abbrev zk4:=mkld [] [] [0,1,7,8] [] [] (Zs 0 (Zl .kItem) (Zs 1 (Cod.fnc 32 (Zn) (Zc (Cod.cptr (CC.one Zi)) Zn)) (Zs 7 Zi (Zs 8 Zi Zz)))) (z4j (fun g x0=>qcx x0 g.2.1)) (.xs 0 [] [] [] Zz (.r [4] [] [] (Zs 4 Zi Zz)))
def zi4 {R:Type}:Lp Kd El R:=lp 2 zk4.sem l0
abbrev z6h {R:Type}:Sm R:=semP zs1 zau (fun a=>qcb (fun g x0=>qcx x0 g.2.1) a.1 a.2.1)
abbrev zask:ZC (Item×Int×Unit):=Zc (Cod.agg za0) (Zc Zi Zn)
abbrev zaqd {R:Type}:Sm R:=semP zask zau (fun a=>qdg a.1 a.2.1)
abbrev z6c {R:Type}:Sm R:=semP zac8 zau (fun a=>qc5 a.1 a.2.1)
abbrev zs3:ZC ((List Item)×((Unit)×(Item×Unit))×Unit):=Zc (Zl .kItem) (Zc (Cod.fnc 118 (Zn) (Zc (Cod.cptr za0) Zn)) Zn)
abbrev z6g {R:Type}:Sm R:=semP zs3 za1 (fun a=>qc (fun g x0=>qc5 x0 g.2.1) a.1 a.2.1)
def zwk {R:Type}:Nat→Sm R:=cl 118 z6c c0
abbrev zk5:=mkld [] [] [0,1,7,8] [] [] (Zs 0 (Zl .kItem) (Zs 1 (Cod.fnc 118 (Zn) (Zc (Cod.cptr za0) Zn)) (Zs 7 Zi (Zs 8 Zi Zz)))) (z4j (fun g x0=>qc5 x0 g.2.1)) (.xs 0 [] [] [] Zz (.r [4] [] [] (Zs 4 Zi Zz)))
def zi5 {R:Type}:Lp Kd El R:=lp 2 zk5.sem l0
abbrev zyi {R:Type}:Sm R:=semP zs3 zau (fun a=>qcb (fun g x0=>qc5 x0 g.2.1) a.1 a.2.1)
abbrev zar9:ZC (Hold×Item×Bool×Unit):=Zc (Cod.agg zbj) (Zc (Cod.cptr za0) (Zc (Cod.cptr (CC.one Zb)) Zn))
abbrev z6l {R:Type}:Sm R:=semP zar9 zau (fun a=>qcg a.1 a.2.1 a.2.2.1)
abbrev zsz:ZC ((List Hold)×((Unit)×(Item×Bool×Unit))×Unit):=Zc (Zl .kHold) (Zc (Cod.fnc 120 (Zn) (Zc (Cod.cptr za0) (Zc (Cod.cptr (CC.one Zb)) Zn))) Zn)
abbrev z5w {R:Type}:Sm R:=semP zsz za1 (fun a=>qb (fun g x0=>qcg x0 g.2.1 g.2.2.1) a.1 a.2.1)
def zwh {R:Type}:Nat→Sm R:=cl 120 z6l c0
abbrev zk2:=mkld [] [] [0,1,7,8] [] [] (Zs 0 (Zl .kHold) (Zs 1 (Cod.fnc 120 (Zn) (Zc (Cod.cptr za0) (Zc (Cod.cptr (CC.one Zb)) Zn))) (Zs 7 Zi (Zs 8 Zi Zz)))) (zjg (fun g x0=>qcg x0 g.2.1 g.2.2.1)) (.xs 0 [] [] [] Zz (.r [4] [] [] (Zs 4 Zi Zz)))
def zi2 {R:Type}:Lp Kd El R:=lp 2 zk2.sem l0
abbrev zyg {R:Type}:Sm R:=semP zsz zau (fun a=>qbw (fun g x0=>qcg x0 g.2.1 g.2.2.1) a.1 a.2.1)
abbrev zaov {R:Type}:Sm R:=semP zahi zau (fun a=>qac a.1 a.2.1)
abbrev z7k {R:Type}:Sm R:=semP znq z4s (fun a=>qew a.1 a.2.1)
abbrev zaw5:ZC (Circ×(List Int)×Unit):=Zc (Cod.agg zal) (Zc (Zl .ki64) Zn)
abbrev zaxl:ZD (Circ×(List Int)×Int):=(Cod.tup3 (Zc (Cod.agg zal) (Zc (Zl .ki64) (Zc Zi Zn))))
abbrev zaws {R:Type}:Sm R:=semP zaw5 zaxl (fun a=>qk a.1 a.2.1)
def zah4 {R:Type}:Nat→Sm R:=cl 31 z6h (cl 33 z7k c0)
abbrev z2s:=mkld [] [] [1,2,4,14,15,16] [2,4] [] (Zs 1 (Zl .ki64) (Zp 2 2 (Zp 4 4 (Zs 14 (Zl .ki64) (Zs 15 Zi (Zs 16 Zi (Zx 2 zal (Zx 4 zal Zz)))))))) zavx (.xs 0 [1,2,4] [2,4] [] (Zs 1 (Zl .ki64) (Zp 2 2 (Zp 4 4 (Zx 2 zal (Zx 4 zal Zz))))) (.r [5,6] [4] [4] (Zp 4 4 (Zs 5 (Zl .ki64) (Zs 6 Zi (Zx 4 zal Zz))))))
abbrev z2t:=mkld [(9,9,Kd.ki64)] [] [2,4,9,27,28,29] [2,4] [9] (Zp 2 2 (Zp 4 4 (FC.arr 9 9 (Zs 27 (Zl .ki64) (Zs 28 Zi (Zs 29 Zi (Zx 2 zal (Zx 4 zal (FC.own 9 Kd.ki64 false Zz))))))))) zavy (.x 2 [2,4,9] [2,4] [9] (Zp 2 2 (Zp 4 4 (FC.arr 9 9 (Zx 2 zal (Zx 4 zal (FC.own 9 Kd.ki64 false Zz)))))))
def zm5 {R:Type}:Lp Kd El R:=lp 9 z2t.sem (lp 2 z2s.sem l0)
abbrev z5x {R:Type}:Sm R:=semP zac7 zvs (fun a=>qba a.1 a.2.1 a.2.2.1 a.2.2.2.1)
def z9b {R:Type}:Nat→Sm R:=cl 13 z5j (cl 27 z7n c0)
abbrev zuo:=mkld [(9,9,Kd.ki64)] [] [3,4,9,10,17,18,19] [4] [9,13] (Zs 3 Zi (Zp 4 4 (FC.arr 9 9 (FC.arr 10 13 (Zs 17 (Zl .kWeed_candidate) (Zs 18 Zi (Zs 19 Zi (Zx 4 zal (FC.own 9 Kd.ki64 false (FC.map 13 Kd.kMapI Zz)))))))))) zlo (.x 0 [9] [] [9] (FC.arr 9 9 (FC.own 9 Kd.ki64 false Zz)))
def zpt {R:Type}:Lp Kd El R:=lp 4 zuo.sem l0
abbrev z7e {R:Type}:Sm R:=semP zyv zau (fun a=>qeh)
abbrev zasr:ZC (Circ×Int×Int×Int×Int×Unit):=Zc (Cod.agg zal) (Zc Zi (Zc Zi (Zc Zi (Zc (Cod.int .u8) Zn))))
abbrev zaxj:ZD (Bool):=zau
def zauw (a:Circ×Int×Int×Int×Int×Unit):Option (Bool):=qf a.1 a.2.1 a.2.2.1 a.2.2.2.1 a.2.2.2.2.1
abbrev zawp {R:Type}:Sm R:=semP zasr zaxj zauw
def zahz {R:Type}:Nat→Sm R:=cl 9 z68 (cl 10 z7e (cl 16 z5c (cl 18 z5x c0)))
abbrev z2m:=mkld [] [] [1,2,3,4,5,11,12,13,14] [5] [] (Zs 1 Zi (Zs 2 Zi (Zs 3 Zi (Zs 4 (Cod.int .u8) (Zp 5 5 (Zs 11 (Zl .ki64) (Zs 12 (Zl .ki64) (Zs 13 Zi (Zs 14 Zi (Zx 5 zal Zz)))))))))) zr5 (.x 0 [1,2,3,4,5,11,12,13] [5] [] (Zs 1 Zi (Zs 2 Zi (Zs 3 Zi (Zs 4 (Cod.int .u8) (Zp 5 5 (Zs 11 (Zl .ki64) (Zs 12 (Zl .ki64) (Zs 13 Zi (Zx 5 zal Zz))))))))))
abbrev zu1:=mkld [] [] [11,16,17,18,19,97,98,99] [] [97] (Zs 11 (Zl .ki64) (Zs 16 (Zl .ki64) (Zs 17 Zi (Zs 18 Zb (Zs 19 Zi (FC.arr 97 97 (Zs 98 Zi (Zs 99 Zi (FC.own 97 Kd.kSi64 false Zz))))))))) zjj (.x 6 [11,16,17,18,97,98,99] [] [97] (Zs 11 (Zl .ki64) (Zs 16 (Zl .ki64) (Zs 17 Zi (Zs 18 Zb (FC.arr 97 97 (Zs 98 Zi (Zs 99 Zi (FC.own 97 Kd.kSi64 false Zz)))))))))
abbrev zu0:=mkld [] [] [11,16,17,97,98,99] [] [97] (Zs 11 (Zl .ki64) (Zs 16 (Zl .ki64) (Zs 17 Zi (FC.arr 97 97 (Zs 98 Zi (Zs 99 Zi (FC.own 97 Kd.kSi64 false Zz))))))) zgo (.xs 4 [11,97,98,99] [] [97] (Zs 11 (Zl .ki64) (FC.arr 97 97 (Zs 98 Zi (Zs 99 Zi (FC.own 97 Kd.kSi64 false Zz))))) (.r [10] [] [] (Zs 10 Zb Zz)))
abbrev zuz:=mkld [] [] [11,97,98,99] [] [97] (Zs 11 (Zl .ki64) (FC.arr 97 97 (Zs 98 Zi (Zs 99 Zi (FC.own 97 Kd.kSi64 false Zz))))) zlq (.xs 2 [] [] [] Zz (.r [10] [] [] (Zs 10 Zb Zz)))
def zgl {R:Type}:Lp Kd El R:=lp 13 zuz.sem (lp 16 zu0.sem (lp 20 zu1.sem (lp 6 z2m.sem l0)))
end Go.Proofs.YtpaidiaknfhclaaGreatDoor
namespace Go.Proofs.YtpaidiaknfhclaaGreatDoor
set_option maxRecDepth 100000
open Ev
open Go (IntKind)
open Go
theorem zas6:∀k,CCOk (ccK k)
 |.kItem=>zn3
 |.kPatron=>zh8
 |.kLoan=>zn4
 |.kHold=>zn2
 |.kCharge=>zh7
 |.kRule=>zn7
 |.ki64=>CCOk.one (zai.int _)
 |.kMove=>zn6
 |.kbool=>CCOk.one zai.bool
 |.kWeed_candidate=>zdj
 |.kMapI=>zn5
 |.kSi64=>CCOk.one (zai.lst _)
 |.ku8=>CCOk.one (zai.int _)
 |.kUtf8_acceptRange=>zc0
 |.ku16=>CCOk.one (zai.int _)
theorem sgok:SgOk sg:=zarc (cc:=ccK) (fun _=>rfl) (fun _=>rfl) zas6 (by intro k x;cases k<;>rfl) (by intro k x;cases k<;>rfl) (by intro k;cases k<;>decide)
theorem eok:∀t,zatz t=true→EqOk Tryz.prog t:=z97 (by kernel_rfl) (zamb)
theorem mok:∀t M,zau4 t=some M→MpOk Tryz.prog sg t M:=zacb (zacc (kt:=3) (et:=3) (by kernel_rfl) (by kernel_rfl) (by kernel_rfl) (fun _ _=>rfl) (fun _ _=>rfl) (fun _=>rfl)) (zan1)
theorem good:GoodP Tryz.prog sg:=⟨prOk (by kernel_rfl) (by kernel_rfl),sgok,eok,mok⟩
end Go.Proofs.YtpaidiaknfhclaaGreatDoor
namespace Go.Proofs.YtpaidiaknfhclaaGreatDoor.Ev
open Go
section
variable {P:Program} {w:World}
theorem zbc {dT sT ty elem:TypeId} {i0:TypeInfo} {g o dLen dCap sLen sCap z:Nat} {a:Addr} {L cs:List Value} {t:TypeId} (hu:P.underlying dT=some (.slice elem)) (hi:P.info? elem=some i0) (hz:i0.size=z)
 (hg:w.heap[g]?=some (.cells L.toArray t (0,0))) (hn:cs.length=Nat.min sLen dLen*z) (hsrc:∀j v,cs[j]?=some v→w.cell? (a.add j)=some v) (hfit:o+cs.length≤L.length) (h1:∀v∈cs,v.oneCell'=true) :
 (Builtin.copy_ #[dT,sT] ty #[.slice (some ⟨g,o,none⟩) dLen dCap,.slice (some a) sLen sCap]).run P w=.ok (goInt (Nat.min sLen dLen)) (w.setRow g (Go.splice L o cs).toArray):=by
 have hl:=run_firstCells_some (P:=P) w z (Nat.min sLen dLen) a sLen sCap cs hn hsrc
 have hst:=run_storeCells_at P g o t cs 0 L.toArray w hg (by simpa using hfit) h1
 simp only[Nat.add_zero]at hst
 subst hz
 simp[Builtin.copy_,run_underlying hu,Builtin.lenOf,sizeOf,typeInfo,hi,hl,hst,Go.splice]
theorem zj4 {ops:Array Oper} {rest:List Oper} {o:Oper} {a:Act} {Q:Exit→Act→World→Prop} (hgd:o.guard=none) (d s:Operand) (t t':TypeId)
 (ho:o.op=.call {callee:=.builtin .copy,args:=#[d,s],argTypes:=#[t,t']}) (v u:Value) (hd:a.eval d=v) (hs:a.eval s=u) {v':Value} {w':World}
 (hr:(Builtin.copy_ #[t,t'] o.type #[v,u]).run P w=.ok v' w') (h:wpList P ops Q rest (a.put o.dst v') w'):wpList P ops Q (o::rest) a w:=
 wpList_plain hgd fun _ hK=>by
  unfold Oper.wp execOp
  simp only[ho,resolve,invoke,builtin,Sem.run_bind,Sem.run_pure,Result.andThen_ok,List.map_toArray,List.map_cons,List.map_nil,hd,hs,hr]
  exact hK _ _ h
theorem zcu {ops:Array Oper} {o:Oper} {a:Act} {K:Act→World→Prop} {Q:Exit→Act→World→Prop} {E:Prop}
 (hg:o.guard=none) (d x:Operand) (dT sT:TypeId) (hop:o.op=Op.call {callee:=Callee.builtin Builtin.copy,args:=#[d,x],argTypes:=#[dT,sT]})
 (v u:Value) (hd:a.eval d=v) (hx:a.eval x=u) {v':Value} {w':World} (hr:(Builtin.copy_ #[dT,sT] o.type #[v,u]).run P w=.ok v' w') (hK:K (a.put o.dst v') w') :
 if Region.wanted o (yielded ops a.tmps)=true then Oper.wp P o a w K Q else E:=by
 have hw:Region.wanted o (yielded ops a.tmps)=true:=by simp[Region.wanted,hg]
 rw[if_pos hw]
 unfold Oper.wp
 simp[execOp,hop,resolve,invoke,builtin,hd,hx,hr,Result.andThen]
 exact hK
theorem zly {ops:Array Oper} {o:Oper} {a:Act} {K:Act→World→Prop} {Q:Exit→Act→World→Prop} {E:Prop}
 (hg:o.guard=none) (d x:Operand) (dT sT:TypeId) (hop:o.op=Op.call {callee:=Callee.builtin Builtin.append,args:=#[d,x],argTypes:=#[dT,sT]})
 (v u:Value) (hd:a.eval d=v) (hx:a.eval x=u) {v':Value} {w':World} (hr:(Builtin.append_ #[dT,sT] o.type #[v,u]).run P w=.ok v' w') (hK:K (a.put o.dst v') w') :
 if Region.wanted o (yielded ops a.tmps)=true then Oper.wp P o a w K Q else E:=by
 have hw:Region.wanted o (yielded ops a.tmps)=true:=by simp[Region.wanted,hg]
 rw[if_pos hw]
 unfold Oper.wp
 simp[execOp,hop,resolve,invoke,builtin,hd,hx,hr,Result.andThen]
 exact hK
theorem zbd {ops:Array Oper} {rest:List Oper} {o:Oper} {a:Act} {Q:Exit→Act→World→Prop} (hgd:o.guard=none) (s x:Operand) (t tn:TypeId)
 (ho:o.op=.call {callee:=.builtin .append,args:=#[s,x],argTypes:=#[t,tn]}) (vs vx:Value) (hs:a.eval s=vs) (hx:a.eval x=vx)
 {v':Value} {w':World} (hr:(Builtin.append_ #[t,tn] o.type #[vs,vx]).run P w=.ok v' w') (h:wpList P ops Q rest (a.put o.dst v') w'):wpList P ops Q (o::rest) a w:=
 Lib.wpList_append_run w hgd s x t tn ho vs vx hs hx v' w' hr h
theorem zjr {t e ty:TypeId} {i0:TypeInfo} {z0:Value} {b o n c:Nat} {L:List Value} {tt:TypeId} (ht:P.underlying t=some (.slice e)) (hi:P.info? e=some i0) (hz:i0.zero=some z0)
 (hn:0<n) (hb:w.heap[b]?=some (.cells L.toArray tt (0,0))) (hfit:o+n*z0.cells.size≤L.length) (h1:∀v∈z0.cells,v.oneCell'=true) :
 (Builtin.clear_ #[t] ty #[.slice (some ⟨b,o,none⟩) n c]).run P w=.ok (.tuple #[]) (w.setRow b (Go.splice L o (Builtin.zeroCells z0.cells n).toList).toArray):=by
 have hl:(Builtin.zeroCells z0.cells n).toList.length=n*z0.cells.size:=by rw[Array.length_toList,Go.size_zeroCells]
 have hst:=run_storeCells_at P b o tt (Builtin.zeroCells z0.cells n).toList 0 L.toArray w hb (by rw[hl];simpa using hfit) (fun v hv=>by
  simp only[Builtin.zeroCells,Array.toList_map,List.mem_map,Array.toList_range,List.mem_range]at hv
  obtain ⟨q,hq,rfl⟩:=hv
  have hp:0<z0.cells.size:=Nat.pos_of_ne_zero (fun h=>by rw[h]at hq;omega)
  rw[getElem!_pos z0.cells _ (Nat.mod_lt _ hp)]
  exact h1 _ (Array.getElem_mem _))
 simp only[Nat.add_zero]at hst
 obtain ⟨m,rfl⟩:∃m,n=m+1:=⟨n-1,by omega⟩
 simp only[List.append_assoc]at hst
 simp[Builtin.clear_,run_underlying ht,sizeOf,typeInfo,zeroValue,hi,hz,hst,Go.splice]
theorem zc9 {tS tR e:TypeId} {i0:TypeInfo} (ht:P.underlying tS=some (.slice e)) (hi:P.info? e=some i0) {a b:Addr} {la ca lb cb:Nat} (hne:a.block≠b.block)
 {va vb:Array Value} {ta tb:TypeId} {fa:Nat×Nat} (ha:w.heap[a.block]?=some (.cells va ta fa)) (ha0:0<va.size) (hb:w.heap[b.block]?=some (.cells vb tb (0,0))) (hb0:0<vb.size) :
 (Extern.SlicesOverlaps.overlaps #[tS,tS] #[tR] #[.slice (some a) la ca,.slice (some b) lb cb]).run P w=.ok (.bool false) w:=by
 have hnb:(a.block != b.block)=true:=by simpa using hne
 have hnb':(a.block==b.block)=false:=by simpa using hne
 have hsa:w.shape? a.block=some (ta,va.size):=by simp[World.shape?,ha]
 have hsb:w.shape? b.block=some (tb,vb.size):=by simp[World.shape?,hb]
 have hfb:w.frozen? b=false:=by simp[World.frozen?,hb]
 have hfb':w.frozen? {block:=b.block,off:=vb.size}=false:=by simp[World.frozen?,hb]
 change Sem.run P (α:=Value) (do
  let some t:=(#[tS,tS]:Array TypeId)[0]?|stuck "slices.overlaps: no parameter types"
  let .slice elem ←underlying t|stuck "slices.overlaps: slice type expected"
  let size ←sizeOf elem
  match (some a:Option Addr),(some b:Option Addr) with
  |some a,some b=>
   if la=0∨lb=0∨size=0 then pure (Value.bool false)
   else if a.block != b.block&&(←frozen a)&&(←frozen b) then unsupported .addressObserved
   else do
    if a.block != b.block then do
     noView a;noView b
     if ←mayBeOne a b then return Value.bool ((←choose (.extern "sameAddr.stringBytes" 2))==1)
    pure (Value.bool (a.block==b.block&&a.off<b.off+lb*size&&b.off<a.off+la*size))
  |_,_=>pure (Value.bool false)) w=_
 have hz:(Go.sizeOf e).run P w=.ok i0.size w:=by simp[sizeOf,typeInfo,hi]
 by_cases h0:la=0∨lb=0∨i0.size=0
 ·simp[run_underlying ht,hz,h0]
 ·obtain ⟨ka,hka⟩:∃k,va.size=k+1:=⟨va.size-1,by omega⟩
  obtain ⟨kb,hkb⟩:∃k,vb.size=k+1:=⟨vb.size-1,by omega⟩
  rw[hka]at hsa
  rw[hkb]at hsb hfb'
  by_cases hfa:w.frozen? a=true
  ·simp[run_underlying ht,hz,h0,hnb,hnb',frozen,noView,viewAt,mayBeOne,stringish,shape,Sem.run,hsa,hsb,hfa,hfb,hfb']
  ·have hfa:w.frozen? a=false:=by simpa using hfa
   by_cases hfe:w.frozen? {block:=a.block,off:=ka+1}=true
   ·simp[run_underlying ht,hz,h0,hnb,hnb',frozen,noView,viewAt,mayBeOne,stringish,shape,Sem.run,hsa,hsb,hfa,hfb,hfb',hfe]
   ·have hfe:w.frozen? {block:=a.block,off:=ka+1}=false:=by simpa using hfe
    simp[run_underlying ht,hz,h0,hnb,hnb',frozen,noView,viewAt,mayBeOne,stringish,shape,Sem.run,hsa,hsb,hfa,hfb,hfb',hfe]
end
end Go.Proofs.YtpaidiaknfhclaaGreatDoor.Ev
namespace Go.Proofs.YtpaidiaknfhclaaGreatDoor.Ev
open Go
section
variable {κ:Type} {El:κ→Type} {S:Sg κ El} {P:Program}
theorem za6 {α:Type} {L new:List α} {off j:Nat} (h:off+new.length≤L.length):(Go.splice L off new)[j]?=if off≤j∧j<off+new.length then new[j-off]? else L[j]?:=by
 unfold Go.splice
 rw[←List.append_assoc]
 exact zni L new off j h
theorem ze4 (sgk:SgOk S) {w w':World} {I J I':Nat→Nat→Prop} {v:Value} {d:D κ El} (h:DR S w I J v d) (hp:zfb d=true) (H:∀b o,I b o→w'.cell? ⟨b,o,none⟩=w.cell? ⟨b,o,none⟩∧I' b o):DR S w' I' I' v d:=
 (h.relendL sgk (J':=I) (zcr hp)).mono H H
theorem zc4 (sgk:SgOk S) {k:κ} {x:El k} {j:Nat} {d:D κ El} (h:(S.enc k x)[j]?=some d):zfb d=true:=sgk.plain k x d (List.mem_of_getElem? h)
theorem z35 {w:World} {I J:Nat→Nat→Prop} {v:Value} {d:D κ El} (h:DR S w I J v d) (hp:zfb d=true):v.oneCell'=true:=
 (h.lone (by cases d<;>simp_all[zfb,solid])).one
structure InsOk (P:Program) (f z E:Nat):Prop where
 shift:∀{w:World} {b n c i vb vo vc:Nat} {L vs:List Value} {t:TypeId},i<n→n+1≤c→n+1≤1073741824→vb≠b→w.heap[b]?=some (.cells L.toArray t (0,0))→L.length=c*z→vs.length=z→
  (∀j v,vs[j]?=some v→w.cell? ⟨vb,vo+j,none⟩=some v)→(∀v∈(L.drop (i*z)).take ((n-i)*z),v.oneCell'=true)→(∀v∈vs,v.oneCell'=true)→
  Calls P f #[.slice (some ⟨b,0,none⟩) n c,.int .i64 i,.slice (some ⟨vb,vo,none⟩) 1 vc] w fun e w'=>
   e=.returned (.slice (some ⟨b,0,none⟩) (n+1) c)∧w'=(w.drew.setRow b (Go.splice L ((i+1)*z) ((L.drop (i*z)).take ((n-i)*z))).toArray).setRow b (Go.splice (Go.splice L ((i+1)*z) ((L.drop (i*z)).take ((n-i)*z))) (i*z) vs).toArray
 room:∀{w:World} {b n c vb vo vc:Nat} {L vs:List Value} {t:TypeId},n+1≤c→n+1≤1073741824→w.heap[b]?=some (.cells L.toArray t (0,0))→L.length=c*z→vs.length=z→
  (∀j v,vs[j]?=some v→w.cell? ⟨vb,vo+j,none⟩=some v)→(∀v∈vs,v.oneCell'=true)→
  Calls P f #[.slice (some ⟨b,0,none⟩) n c,.int .i64 n,.slice (some ⟨vb,vo,none⟩) 1 vc] w fun e w'=>
   e=.returned (.slice (some ⟨b,0,none⟩) (n+1) c)∧w'=w.setRow b (Go.splice L (n*z) vs).toArray
 new:∀{w:World} {base:Option Addr} {n c vb vo vc:Nat} {olds vs:List Value},n≤c→c<n+1→n+1≤1073741824→vs.length=z→(base=none→n=0)→olds.length=n*z→
  (∀a,base=some a→∀j v,olds[j]?=some v→w.cell? (a.add j)=some v)→(∀j v,vs[j]?=some v→w.cell? ⟨vb,vo+j,none⟩=some v)→
  Calls P f #[.slice base n c,.int .i64 n,.slice (some ⟨vb,vo,none⟩) 1 vc] w fun e w'=>
   ∃cap zs,e=.returned (.slice (some ⟨w.heap.size,0,none⟩) (n+1) cap)∧w'=w.drew.alloc (.cells (olds++(vs++zs)).toArray E)∧n+1≤cap∧zs.length=(cap-(n+1))*z
 grow:∀{w:World} {b n c i vb vo vc:Nat} {L vs:List Value} {t:TypeId},i<n→n≤c→c<n+1→n+1≤1073741824→vb≠b→w.heap[b]?=some (.cells L.toArray t (0,0))→L.length=c*z→vs.length=z→
  (∀j v,vs[j]?=some v→w.cell? ⟨vb,vo+j,none⟩=some v)→(∀v∈(L.drop (i*z)).take ((n-i)*z),v.oneCell'=true)→(∀v∈vs,v.oneCell'=true)→
  Calls P f #[.slice (some ⟨b,0,none⟩) n c,.int .i64 i,.slice (some ⟨vb,vo,none⟩) 1 vc] w fun e w'=>
   ∃cap row,e=.returned (.slice (some ⟨w.heap.size,0,none⟩) (n+1) cap)∧n+1≤cap∧row.length=cap*z∧row.take (i*z)=L.take (i*z)∧
    w'.heap=(w.heap.push (.cells (Go.splice (Go.splice row (i*z) vs) ((i+1)*z) ((L.drop (i*z)).take ((n-i)*z))).toArray E))∧w'.os=w.os∧w'.output=w.output∧w'.tape=w.tape
theorem zio {k:κ} {xs:List (El k)} {y:El k} {i:Nat} {L vs M:List Value} {Q:Value→D κ El→Prop} (sgk:SgOk S) (hi:i≤xs.length)
 (h1:∀(i:Nat) (hi:i<xs.length) (j:Nat) (d:D κ El),(S.enc k xs[i])[j]?=some d→∃v,L[i*S.sz k+j]?=some v∧Q v d)
 (h2:∀(j:Nat) (d:D κ El),(S.enc k y)[j]?=some d→∃v,vs[j]?=some v∧Q v d)
 (m1:∀p:Nat,p<i*S.sz k→M[p]?=L[p]?) (m2:∀j:Nat,j<S.sz k→M[i*S.sz k+j]?=vs[j]?) (m3:∀p:Nat,i*S.sz k≤p→p<xs.length*S.sz k→M[p+S.sz k]?=L[p]?) :
 ∀(i':Nat) (hi':i'<(xs.take i++y::xs.drop i).length) (j:Nat) (d:D κ El),(S.enc k (xs.take i++y::xs.drop i)[i'])[j]?=some d→∃v,M[i'*S.sz k+j]?=some v∧Q v d:=by
 intro i' hi' j d hj
 have hj':j<S.sz k:=by have:=(List.getElem?_eq_some_iff.1 hj).1;rwa [sgk.sz]at this
 have hl:(xs.take i).length=i:=by simp;omega
 by_cases hlt:i'<i
 ·have e:(xs.take i++y::xs.drop i)[i']=xs[i']'(by omega):=by rw[List.getElem_append_left (by omega)];simp
  rw[e]at hj
  obtain ⟨v,a,b⟩:=h1 i' (by omega) j d hj
  exact ⟨v,by rw[m1 _ (zcw hj' hlt)];exact a,b⟩
 ·by_cases heq:i'=i
  ·subst heq
   have e:(xs.take i'++y::xs.drop i')[i']=y:=by rw[List.getElem_append_right (by omega)];simp[hl]
   rw[e]at hj
   obtain ⟨v,a,b⟩:=h2 j d hj
   exact ⟨v,by rw[m2 j hj'];exact a,b⟩
  ·obtain ⟨p,rfl⟩:∃p,i'=p+1:=⟨i'-1,by omega⟩
   have hp:p<xs.length:=by simp at hi';omega
   have e:(xs.take i++y::xs.drop i)[p+1]=xs[p]:=by
    rw[List.getElem_append_right (by omega)]
    have e2:p+1-(xs.take i).length=(p-i)+1:=by omega
    simp only[e2,List.getElem_cons_succ,List.getElem_drop]
    congr 1;omega
   rw[e]at hj
   obtain ⟨v,a,b⟩:=h1 p hp j d hj
   refine ⟨v,?_,b⟩
   have:=m3 (p*S.sz k+j) (by have:=Nat.mul_le_mul_right (S.sz k) (show i≤p by omega);omega) (zcw hj' hp)
   rw[←a,←this]
   congr 1
   rw[Nat.add_mul];omega
theorem zaiu (sgk:SgOk S) {f E:Nat} {fn:Func} {code:Code} (fok:FnOk P f fn code) (hmd:S.md f=.cons) {k:κ} (W:InsOk P f (S.sz k) E)
 {xs:List (El k)} {y:El k} {i:Nat} {ds:List (D κ El)} (hi:i≤xs.length) (hlim:xs.length+1≤1073741824) (hwl:WL ds [.lst k xs,.int .i64 (i:Int),.lst k [y]]) :
 Con P S f ds [] (.lst k (xs.take i++y::xs.drop i)) []:=by
 unfold Con
 rw[hmd]
 intro _ k' xs' ds0 hds k2 xs2 hd w I J mb v0 vs hp ho ha
 subst hds
 cases hd
 have hw0:=hwl.2 0 _ _ rfl rfl
 cases hw0 with
 |leaf _ _ hw0=>
 cases hw0
 have ha:=WL.args (cs':=[.int .i64 (i:Int),.lst k [y]]) ⟨by simpa using hwl.1,fun q d d' h1 h2=>hwl.2 (q+1) d d' (by simpa using h1) (by simpa using h2)⟩ ha
 obtain ⟨base,c,rfl,hnc,hz⟩:=ho
 obtain ⟨hvs,hav⟩:=ha
 obtain ⟨u1,u2,rfl⟩:∃u1 u2,vs = #[u1,u2]:=by
  simp at hvs
  exact ⟨vs[0],vs[1],by
   apply Array.ext
   ·simp[hvs]
   ·intro j h1 h2;simp at h2;rcases (show j=0∨j=1 by omega) with rfl|rfl<;>rfl⟩
 have hu1:u1=.int .i64 i:=(hav 0 u1 _ rfl rfl).int_inv
 have hu2:=hav 1 u2 _ rfl rfl
 subst hu1
 obtain ⟨n,hn⟩:∃n,n=xs.length:=⟨_,rfl⟩
 have hpos:=sgk.pos k
 cases hu2 with
 |lst vb vo vc _ _ cv hvcap hvc hvv=>
 obtain ⟨us,hus⟩:∃us,us=(List.range (S.sz k)).map (cv 0):=⟨_,rfl⟩
 have husl:us.length=S.sz k:=by rw[hus];simp
 have hug:∀j,j<S.sz k→us[j]?=some (cv 0 j):=fun j hj=>by rw[hus];simp[hj]
 have huc:∀j v,us[j]?=some v→w.cell? ⟨vb,vo+j,none⟩=some v:=fun j v hj=>by
  have hlt:=(List.getElem?_eq_some_iff.1 hj).1
  rw[husl]at hlt
  rw[hug j hlt]at hj;cases hj
  have:=(hvc 0 j (by simp) hlt).1
  simpa using this
 have huI:∀j,j<S.sz k→I vb (vo+j):=fun j hlt=>by have:=(hvc 0 j (by simp) hlt).2;simpa using this
 have hud:∀j d,(S.enc k y)[j]?=some d→∃v,us[j]?=some v∧DR S w I J v d:=fun j d hj=>by
  have hlt:=(List.getElem?_eq_some_iff.1 hj).1
  rw[sgk.sz]at hlt
  exact ⟨_,hug j hlt,hvv 0 (by simp) j d hj⟩
 have hu1c:∀v∈us,v.oneCell'=true:=fun v hv=>by
  obtain ⟨j,hj⟩:=List.getElem?_of_mem hv
  have hlt:=(List.getElem?_eq_some_iff.1 hj).1
  have hlt':j<(S.enc k y).length:=by rw[sgk.sz,←husl];exact hlt
  obtain ⟨v',e1,e2⟩:=hud j _ (List.getElem?_eq_getElem hlt')
  rw[hj]at e1;cases e1
  exact z35 e2 (sgk.plain k y _ (List.getElem_mem hlt'))
 have hIw:∀b o,I b o→b<w.heap.size:=hp.ib
 have hres:(xs.take i++y::xs.drop i).length=n+1:=by simp;omega
 unfold zcg
 rw[MuLone.run_callFunc_enter fok.at_ fok.name fok.body _ w]
 simp only
 show Calls P f #[.slice base xs.length c,.int .i64 (i:Int),.slice (some ⟨vb,vo,none⟩) 1 vc] w _
 rcases hz with ⟨rfl,rfl⟩|⟨b,vals,t,rfl,rfl,hb,hvsz,hel⟩
 ·have hx0:xs=[]:=List.eq_nil_of_length_eq_zero (by omega)
  subst hx0
  have hi0:i=0:=by simpa using hi
  subst hi0
  have hnew:=W.new (w:=w) (base:=base) (n:=0) (c:=0) (vb:=vb) (vo:=vo) (vc:=vc) (olds:=[]) (vs:=us) (by omega) (by omega) (by omega) husl (fun _=>rfl) (by simp) (fun a _ j v hj=>by simp at hj) huc
  refine hnew.mono (fun e w' he=>?_)
  obtain ⟨cap,zs,rfl,rfl,hcap,hzl⟩:=he
  refine ⟨I,⟨by rw[World.size_alloc];show w.heap.size≤w.heap.size+1;omega,rfl,rfl,rfl,fun q hq _=>?_,fun _ _ h=>h,fun _ _ h=>.inl h,fun q o h=>by have:=hIw q o h;rw[World.size_alloc];show q<w.heap.size+1;omega⟩,
   some ⟨w.heap.size,0,none⟩,cap,by simp,by simp;omega,.inr ⟨w.heap.size,_,E,rfl,zcy w.drew _,?_,.inl (Nat.le_refl _),fun o h=>absurd (hIw _ _ h) (by omega),?_⟩⟩
  ·simp only[World.alloc];rw[Array.getElem?_push,if_neg (by show ¬q=w.heap.size;omega)];rfl
  ·simp[husl,hzl]
   obtain ⟨q,rfl⟩:∃q,cap=q+1:=⟨cap-1,by omega⟩
   rw[Nat.add_sub_cancel,Nat.add_mul];omega
  ·intro i' hi' j d hj
   have:=zio (L:=[]) (vs:=us) (M:=us++zs) (Q:=fun v d=>DR S (w.drew.alloc (.cells ([]++(us++zs)).toArray E)) I I v d) sgk (i:=0) (xs:=[]) (y:=y) (by simp) (fun i hi=>absurd hi (by simp))
    (fun j d hj=>by
     obtain ⟨v,a,b⟩:=hud j d hj
     exact ⟨v,a,ze4 sgk b (zc4 sgk hj) (fun q o h=>⟨by
      have:=hIw q o h
      simp only[World.cell?,World.alloc];rw[Array.getElem?_push,if_neg (by show ¬q=w.heap.size;omega)];rfl,h⟩)⟩)
    (fun p hp=>absurd hp (by omega)) (fun j hj=>by rw[Nat.zero_mul,Nat.zero_add,List.getElem?_append_left (by omega)]) (fun p _ hp=>by simp at hp) i' hi' j d hj
   simpa using this
 ·have hbw:b<w.heap.size:=(Array.getElem?_eq_some_iff.1 hb).1
  have hbI:∀o,¬I b o:=fun o h=>(hp.jb b o (hp.ij b o h)).2 (by simp)
  have hne:vb≠b:=fun e=>by subst e;exact hbI _ (huI 0 hpos)
  obtain ⟨L,hL⟩:∃L,L=vals.toList:=⟨_,rfl⟩
  have hLa:vals=L.toArray:=by rw[hL]
  have hLl:L.length=c*S.sz k:=by rw[hL];simpa using hvsz
  rw[hLa]at hb
  have hel':∀i (hi:i<xs.length) j d,(S.enc k xs[i])[j]?=some d→∃v,L[i*S.sz k+j]?=some v∧DR S w I J v d:=fun i hi j d hj=>by
   obtain ⟨v,a,e⟩:=hel i hi j d hj
   exact ⟨v,by rw[hL];simpa using a,e⟩
  have hnL:n*S.sz k≤L.length:=by rw[hLl];exact Nat.mul_le_mul_right _ (by omega)
  have hone:∀v∈L.take (n*S.sz k),v.oneCell'=true:=fun v hv=>by
   obtain ⟨p,hp'⟩:=List.getElem?_of_mem hv
   have hlt:=(List.getElem?_eq_some_iff.1 hp').1
   simp only[List.length_take]at hlt
   have h1:p / S.sz k<n:=(Nat.div_lt_iff_lt_mul hpos).2 (by omega)
   have h2:=Nat.mod_lt p hpos
   have h3:p % S.sz k<(S.enc k (xs[p / S.sz k]'(by omega))).length:=by rw[sgk.sz];exact h2
   obtain ⟨v',a,e⟩:=hel' (p / S.sz k) (by omega) _ _ (List.getElem?_eq_getElem h3)
   rw[Nat.div_add_mod']at a
   rw[List.getElem?_take,if_pos (by omega),a]at hp'
   cases hp'
   exact z35 e (sgk.plain k _ _ (List.getElem_mem h3))
  have hC1:(L.drop (i*S.sz k)).take ((n-i)*S.sz k)=(L.take (n*S.sz k)).drop (i*S.sz k):=by
   rw[List.drop_take];congr 1;rw[Nat.sub_mul]
  have hone1:∀v∈(L.drop (i*S.sz k)).take ((n-i)*S.sz k),v.oneCell'=true:=fun v hv=>hone v (by rw[hC1]at hv;exact List.mem_of_mem_drop hv)
  have hin:i*S.sz k≤n*S.sz k:=Nat.mul_le_mul_right _ (by omega)
  have hi1:(i+1)*S.sz k=i*S.sz k+S.sz k:=by rw[Nat.add_mul,Nat.one_mul]
  have hn1:(n+1)*S.sz k=n*S.sz k+S.sz k:=by rw[Nat.add_mul,Nat.one_mul]
  obtain ⟨C1,hC⟩:∃C1,C1=(L.drop (i*S.sz k)).take ((n-i)*S.sz k):=⟨_,rfl⟩
  have hC1l:C1.length=n*S.sz k-i*S.sz k:=by rw[hC,hC1];simp;omega
  have hC1g:∀q,q<n*S.sz k-i*S.sz k→C1[q]?=L[i*S.sz k+q]?:=fun q hq=>by rw[hC,hC1,List.getElem?_drop,List.getElem?_take,if_pos (by omega)]
  have inpl:∀(M:List Value) (w':World),M.length=L.length→(w'=w.setRow b M.toArray∨∃M0:Array Value,w'=(w.drew.setRow b M0).setRow b M.toArray)→n+1≤c→
   (∀p:Nat,p<i*S.sz k→M[p]?=L[p]?)→(∀j:Nat,j<S.sz k→M[i*S.sz k+j]?=us[j]?)→(∀p:Nat,i*S.sz k≤p→p<xs.length*S.sz k→M[p+S.sz k]?=L[p]?)→
   ∃I',GrowM [b] w w' I I'∧NewO S w' I' w.heap.size [b] k (xs.take i++y::xs.drop i) (.slice (some ⟨b,0,none⟩) (n+1) c):=by
   intro M w' hMl hw' hroom m1 m2 m3
   have hheap:w'.heap[b]?=some (.cells M.toArray t (0,0)):=by
    rcases hw' with rfl|⟨M0,rfl⟩
    ·exact setRow_heap _ _ _ _ _ _ hb
    ·exact setRow_heap _ _ _ _ _ _ (setRow_heap w.drew _ _ _ _ _ hb)
   have hoth:∀q,q≠b→w'.heap[q]?=w.heap[q]?:=fun q hq=>by
    rcases hw' with rfl|⟨M0,rfl⟩
    ·exact setRow_other _ _ _ _ hq
    ·rw[setRow_other _ _ _ _ hq,setRow_other _ _ _ _ hq];rfl
   have hsz:w'.heap.size=w.heap.size:=by
    rcases hw' with rfl|⟨M0,rfl⟩<;>simp only[setRow_size]<;>rfl
   refine ⟨I,⟨by omega,by rcases hw' with rfl|⟨M0,rfl⟩<;>rfl,by rcases hw' with rfl|⟨M0,rfl⟩<;>rfl,by rcases hw' with rfl|⟨M0,rfl⟩<;>rfl,fun q hq hm=>hoth q (by simpa using hm),fun _ _ h=>h,fun _ _ h=>.inl h,fun q o h=>by have:=hIw q o h;omega⟩,
    some ⟨b,0,none⟩,c,by rw[hres],by omega,.inr ⟨b,_,t,rfl,hheap,by simp[hMl,hLl],.inr (by simp),hbI,?_⟩⟩
   intro i' hi' j d hj
   have:=zio (L:=L) (vs:=us) (M:=M) (Q:=fun v d=>DR S w' I I v d) sgk (by omega)
    (fun i hi j d hj=>by
     obtain ⟨v,a,e⟩:=hel' i hi j d hj
     exact ⟨v,a,ze4 sgk e (zc4 sgk hj) (fun q o h=>⟨by simp only[World.cell?];rw[hoth q (fun e=>by subst e;exact hbI o h)],h⟩)⟩)
    (fun j d hj=>by
     obtain ⟨v,a,e⟩:=hud j d hj
     exact ⟨v,a,ze4 sgk e (zc4 sgk hj) (fun q o h=>⟨by simp only[World.cell?];rw[hoth q (fun e=>by subst e;exact hbI o h)],h⟩)⟩) m1 m2 m3 i' hi' j d hj
   simpa using this
  have newb:∀(M:List Value) (cap:Nat) (w':World),M.length=cap*S.sz k→w'.heap=w.heap.push (.cells M.toArray E)→w'.os=w.os→w'.output=w.output→w'.tape=w.tape→n+1≤cap→
   (∀p:Nat,p<i*S.sz k→M[p]?=L[p]?)→(∀j:Nat,j<S.sz k→M[i*S.sz k+j]?=us[j]?)→(∀p:Nat,i*S.sz k≤p→p<xs.length*S.sz k→M[p+S.sz k]?=L[p]?)→
   ∃I',GrowM [b] w w' I I'∧NewO S w' I' w.heap.size [b] k (xs.take i++y::xs.drop i) (.slice (some ⟨w.heap.size,0,none⟩) (n+1) cap):=by
   intro M cap w' hMl hheap h1 h2 h3 hcap m1 m2 m3
   have hoth:∀q,q<w.heap.size→w'.heap[q]?=w.heap[q]?:=fun q hq=>by rw[hheap,Array.getElem?_push,if_neg (by omega)]
   refine ⟨I,⟨by rw[hheap];simp,h1,h2,h3,fun q hq _=>hoth q hq,fun _ _ h=>h,fun _ _ h=>.inl h,fun q o h=>by have:=hIw q o h;rw[hheap];simp;omega⟩,
    some ⟨w.heap.size,0,none⟩,cap,by rw[hres],by omega,.inr ⟨w.heap.size,_,E,rfl,by rw[hheap];exact Array.getElem?_push_size,by simp[hMl],.inl (Nat.le_refl _),fun o h=>absurd (hIw _ _ h) (by omega),?_⟩⟩
   intro i' hi' j d hj
   have:=zio (L:=L) (vs:=us) (M:=M) (Q:=fun v d=>DR S w' I I v d) sgk (by omega)
    (fun i hi j d hj=>by
     obtain ⟨v,a,e⟩:=hel' i hi j d hj
     exact ⟨v,a,ze4 sgk e (zc4 sgk hj) (fun q o h=>⟨by simp only[World.cell?];rw[hoth q (hIw q o h)],h⟩)⟩)
    (fun j d hj=>by
     obtain ⟨v,a,e⟩:=hud j d hj
     exact ⟨v,a,ze4 sgk e (zc4 sgk hj) (fun q o h=>⟨by simp only[World.cell?];rw[hoth q (hIw q o h)],h⟩)⟩) m1 m2 m3 i' hi' j d hj
   simpa using this
  rw[←hn]at hi hlim hnc ⊢
  by_cases hroom:n+1≤c
  ·have hn1c:(n+1)*S.sz k≤L.length:=by rw[hLl];exact Nat.mul_le_mul_right _ hroom
   by_cases hlt:i<n
   ·refine (W.shift (vc:=vc) hlt hroom hlim hne hb hLl husl huc hone1 hu1c).mono (fun e w' he=>?_)
    obtain ⟨rfl,rfl⟩:=he
    rw[←hC]
    have l1:(Go.splice L ((i+1)*S.sz k) C1).length=L.length:=length_splice _ _ _ (by omega)
    refine inpl _ _ ?_ (.inr ⟨_,rfl⟩) hroom ?_ ?_ ?_
    ·rw[length_splice _ _ _ (by omega),l1]
    ·intro p hp'
     rw[za6 (by omega),if_neg (by omega),za6 (by omega),if_neg (by omega)]
    ·intro j hj
     rw[za6 (by omega),if_pos (by omega)]
     congr 1;omega
    ·intro p h1 h2
     rw[←hn]at h2
     rw[za6 (by omega),if_neg (by omega),za6 (by omega),if_pos (by omega),hC1g _ (by omega)]
     congr 1;omega
   ·have hie:i=n:=by omega
    subst hie
    refine (W.room (vc:=vc) hroom hlim hb hLl husl huc hu1c).mono (fun e w' he=>?_)
    obtain ⟨rfl,rfl⟩:=he
    refine inpl _ _ (length_splice _ _ _ (by omega)) (.inl rfl) hroom ?_ ?_ ?_
    ·intro p hp'
     rw[za6 (by omega),if_neg (by omega)]
    ·intro j hj
     rw[za6 (by omega),if_pos (by omega)]
     congr 1;omega
    ·intro p h1 h2
     rw[←hn]at h2
     omega
  ·by_cases hlt:i<n
   ·refine (W.grow (vc:=vc) hlt hnc (by omega) hlim hne hb hLl husl huc hone1 hu1c).mono (fun e w' he=>?_)
    obtain ⟨cap,row,rfl,hcap,hrl,hrt,hheap,q1,q2,q3⟩:=he
    rw[←hC]at hheap
    have hrl':(n+1)*S.sz k≤row.length:=by rw[hrl];exact Nat.mul_le_mul_right _ hcap
    have l1:(Go.splice row (i*S.sz k) us).length=row.length:=length_splice _ _ _ (by omega)
    refine newb _ cap w' ?_ hheap q1 q2 q3 hcap ?_ ?_ ?_
    ·rw[length_splice _ _ _ (by omega),l1,hrl]
    ·intro p hp'
     rw[za6 (by omega),if_neg (by omega),za6 (by omega),if_neg (by omega)]
     have e1:(row.take (i*S.sz k))[p]?=row[p]?:=by rw[List.getElem?_take,if_pos hp']
     have e2:(L.take (i*S.sz k))[p]?=L[p]?:=by rw[List.getElem?_take,if_pos hp']
     rw[←e1,hrt,e2]
    ·intro j hj
     rw[za6 (by omega),if_neg (by omega),za6 (by omega),if_pos (by omega)]
     congr 1;omega
    ·intro p h1 h2
     rw[←hn]at h2
     rw[za6 (by omega),if_pos (by omega),hC1g _ (by omega)]
     congr 1;omega
   ·have hie:i=n:=by omega
    subst hie
    refine (W.new (base:=some ⟨b,0,none⟩) (vc:=vc) (olds:=L.take (i*S.sz k)) hnc (by omega) hlim husl (fun h=>by cases h) (by simp;omega) (fun a ha j v hj=>?_) huc).mono (fun e w' he=>?_)
    ·cases ha
     rw[List.getElem?_take]at hj
     split at hj
     ·rw[zbg,Nat.zero_add]
      simp only[World.cell?,hb]
      simpa using hj
     ·cases hj
    ·obtain ⟨cap,zs,rfl,rfl,hcap,hzl⟩:=he
     obtain ⟨q,rfl⟩:∃q,cap=q+(i+1):=⟨cap-(i+1),by omega⟩
     rw[Nat.add_sub_cancel]at hzl
     have hTl:(L.take (i*S.sz k)).length=i*S.sz k:=by simp;omega
     refine newb _ (q+(i+1)) _ ?_ rfl rfl rfl rfl hcap ?_ ?_ ?_
     ·simp only[List.length_append,hTl,husl,hzl]
      rw[Nat.add_mul,hi1];omega
     ·intro p hp'
      rw[List.getElem?_append_left (by omega),List.getElem?_take,if_pos hp']
     ·intro j hj
      rw[List.getElem?_append_right (by omega),List.getElem?_append_left (by omega)]
      congr 1;omega
     ·intro p h1 h2
      rw[←hn]at h2
      omega
theorem zme (sgk:SgOk S) {f E:Nat} {fn:Func} {code:Code} (fok:FnOk P f fn code) (hmd:S.md f=.cons) {k:κ} (W:InsOk P f (S.sz k) E)
 {xs vs r:List (El k)} {i:Int} {ds:List (D κ El)} (hwl:WL ds [.lst k xs,.int .i64 i,.lst k vs]) (hr:zip xs i vs=some r):Con P S f ds [] (.lst k r) []:=by
 unfold zip at hr
 split at hr
 ·rename_i y
  rw[zad]at hr
  split at hr
  ·rename_i h
   simp only[Bool.and_eq_true,decide_eq_true_eq]at h
   cases hr
   obtain ⟨n,rfl⟩:=Int.eq_ofNat_of_zero_le h.1.1
   exact zaiu sgk fok hmd W (i:=n) (by omega) h.2 hwl
  ·cases hr
 ·cases hr
end
end Go.Proofs.YtpaidiaknfhclaaGreatDoor.Ev
