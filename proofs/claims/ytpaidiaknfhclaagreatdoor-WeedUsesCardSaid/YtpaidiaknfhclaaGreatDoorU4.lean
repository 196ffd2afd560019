/- WeedUses: a part of the proof of the given statement, which is proved without conditions. -/
import Derived.Test.YtpaidiaknfhclaaGreatDoorU3
import Derived.KernelRfl
import Derived.Test.YtpaidiaknfhclaaGreatDoorProg
import Derived.Shelf.RegionOpenPlain
import Derived.WalkKit
import Derived.Lib.Walk
import Derived.Lib.AppendZerosOnto
import Derived.Lib.AppendZeros
import Derived.Laws.Externs
import Derived.Laws.CopyOwn
import Derived.Deep.RegionLaw
set_option linter.all false
namespace Go.Proofs.YtpaidiaknfhclaaGreatDoor
set_option maxRecDepth 100000
open Ev
open Go (IntKind)
def zwh:(Int×Circ×Unit)→Option ((Int×Circ×Unit)⊕((Circ×Unit)⊕(Bool×Unit))):=fun (i,c,_)=>
 bif decide (i<(c.Items.length:Int)) then match getI c.Items i with|some x =>bif decide (300<(x.Call.length:Int)) then some (.inr (.inr (false,()))) else some (.inl (wr .i64 (i+1),c,()))|none =>none else some (.inr (.inl (c,())))
def zwi:(Int×Circ×Unit)→Option ((Int×Circ×Unit)⊕((Circ×Unit)⊕(Bool×Unit))):=fun (i,c,_)=>
 bif decide (i<(c.Patrons.length:Int)) then match getI c.Patrons i with|some x =>bif decide (300<(x.Name.length:Int)) then some (.inr (.inr (false,()))) else some (.inl (wr .i64 (i+1),c,()))|none =>none else some (.inr (.inl (c,())))
def zgs:(Int×Circ×Unit)→Option ((Int×Circ×Unit)⊕((Unit)⊕(Bool×Unit))):=fun (i,c,_)=>
 bif decide (i<4) then let k (v:Int) (v8:List Int):Option ((Int×Circ×Unit)⊕((Unit)⊕(Bool×Unit))):=bif decide (20<(v8.length:Int)) then some (.inr (.inr (false,()))) else some (.inl (wr .i64 (i+1),c,()));bif i==0 then k c.Cals.x0.Week c.Cals.x0.Closed else bif i==1 then k c.Cals.x1.Week c.Cals.x1.Closed else bif i==2 then k c.Cals.x2.Week c.Cals.x2.Closed else bif i==3 then k c.Cals.x3.Week c.Cals.x3.Closed else none else some (.inr (.inl (())))
def qa (c:Circ):Option Bool:=
 let k16 (v:Bool):Option Bool:=let k15 (v1:Bool):Option Bool:=let k14 (v2:Bool):Option Bool:=let k13 (v3:Bool):Option Bool:=let k12 (v4:Bool):Option Bool:=let k (v5:Bool):Option Bool:=bif v5 then some false else match zah zwh (0,c,()) with|some (.inl (c6,_)) =>(match zah zwi (0,c6,()) with|some (.inl (c7,_)) =>(match zah zgs (0,c7,()) with|some (.inl (_)) =>some true|some (.inr (v9,_)) =>some v9|none =>none)|some (.inr (v10,_)) =>some v10|none =>none)|some (.inr (v11,_)) =>some v11|none =>none;bif v4 then k true else k (decide (200<(c.Moves.length:Int)));bif v3 then k12 true else k12 (decide (10<(c.Rules.length:Int)));bif v2 then k13 true else k13 (decide (30<(c.Charges.length:Int)));bif v1 then k14 true else k14 (decide (12<(c.Loans.length:Int)));bif v then k15 true else k15 (decide (12<(c.Holds.length:Int)));bif decide (10<(c.Items.length:Int)) then k16 true else k16 (decide (8<(c.Patrons.length:Int)))
def qbf (s:List UInt8) (i:Int):Option (Int×Int):=
 match getI s i with|some b =>let k35 (v:Bool):Option (Int×Int):=bif v then some (wr .i64 (b.toNat:Int),1) else let k34 (v1:Bool):Option (Int×Int):=let k33 (v2:Bool):Option (Int×Int):=let k32 (v4:Bool):Option (Int×Int):=let k31 (v6:Bool):Option (Int×Int):=let k (v8:Int) (v9:Int):Option (Int×Int):=some (v8,v9);bif v6 then match getI s (wr .i64 (i+1)) with|some b7 =>bif decide (160≤wr .i64 ((wr .i64 ((wr .i64 ((wr .i64 ((wr .i64 (b.toNat:Int))-192))*64))+(wr .i64 (b7.toNat:Int))))-128)) then k (wr .i64 ((wr .i64 ((wr .i64 ((wr .i64 ((wr .i64 (b.toNat:Int))-192))*64))+(wr .i64 (b7.toNat:Int))))-128)) 2 else k 0 0|none =>none else let k30 (v10:Bool):Option (Int×Int):=let k29 (v11:Bool):Option (Int×Int):=let k28 (v13:Bool):Option (Int×Int):=let k27 (v15:Bool):Option (Int×Int):=let k26 (v17:Bool):Option (Int×Int):=let k25 (v19:Bool):Option (Int×Int):=bif v19 then match getI s (wr .i64 (i+1)) with|some b20 =>(match getI s (wr .i64 (i+2)) with|some b21 =>let k24 (v23:Bool):Option (Int×Int):=bif v23 then some (wr .i64 ((wr .i64 ((wr .i64 ((wr .i64 ((wr .i64 ((wr .i64 (b.toNat:Int))-224))*4096))+(wr .i64 ((wr .i64 ((wr .i64 (b20.toNat:Int))-128))*64))))+(wr .i64 (b21.toNat:Int))))-128),3) else some (0,0);bif decide (2048≤wr .i64 ((wr .i64 ((wr .i64 ((wr .i64 ((wr .i64 ((wr .i64 (b.toNat:Int))-224))*4096))+(wr .i64 ((wr .i64 ((wr .i64 (b20.toNat:Int))-128))*64))))+(wr .i64 (b21.toNat:Int))))-128)) then bif decide (wr .i64 ((wr .i64 ((wr .i64 ((wr .i64 ((wr .i64 ((wr .i64 (b.toNat:Int))-224))*4096))+(wr .i64 ((wr .i64 ((wr .i64 (b20.toNat:Int))-128))*64))))+(wr .i64 (b21.toNat:Int))))-128)<55296) then k24 true else k24 (decide (57343<wr .i64 ((wr .i64 ((wr .i64 ((wr .i64 ((wr .i64 ((wr .i64 (b.toNat:Int))-224))*4096))+(wr .i64 ((wr .i64 ((wr .i64 (b20.toNat:Int))-128))*64))))+(wr .i64 (b21.toNat:Int))))-128))) else k24 false|none =>none)|none =>none else some (0,0);bif v17 then match getI s (wr .i64 (i+2)) with|some b18 =>k25 (decide ((b18.toNat:Int)<192))|none =>none else k25 false;bif v15 then match getI s (wr .i64 (i+2)) with|some b16 =>k26 (decide (128≤(b16.toNat:Int)))|none =>none else k26 false;bif v13 then match getI s (wr .i64 (i+1)) with|some b14 =>k27 (decide ((b14.toNat:Int)<192))|none =>none else k27 false;bif v11 then match getI s (wr .i64 (i+1)) with|some b12 =>k28 (decide (128≤(b12.toNat:Int)))|none =>none else k28 false;bif v10 then k29 (decide (wr .i64 (i+2)<(s.length:Int))) else k29 false;bif decide (224≤wr .i64 (b.toNat:Int)) then k30 (decide (wr .i64 (b.toNat:Int)<240)) else k30 false;bif v4 then match getI s (wr .i64 (i+1)) with|some b5 =>k31 (decide ((b5.toNat:Int)<192))|none =>none else k31 false;bif v2 then match getI s (wr .i64 (i+1)) with|some b3 =>k32 (decide (128≤(b3.toNat:Int)))|none =>none else k32 false;bif v1 then k33 (decide (wr .i64 (i+1)<(s.length:Int))) else k33 false;bif decide (194≤wr .i64 (b.toNat:Int)) then k34 (decide (wr .i64 (b.toNat:Int)<224)) else k34 false;bif decide (32≤wr .i64 (b.toNat:Int)) then k35 (decide (wr .i64 (b.toNat:Int)<127)) else k35 false|none =>none
def zkj:((List UInt8)×Int×Unit)→Option (((List UInt8)×Int×Unit)⊕((Unit)⊕(Bool×Unit))):=fun (s,i,_)=>
 bif decide (i<(s.length:Int)) then match qbf s i with|some (r1,r2) =>bif r2==0 then some (.inr (.inr (false,()))) else some (.inl (s,wr .i64 (i+r2),()))|none =>none else some (.inr (.inl (())))
def qad (s:List UInt8):Option Bool:=
 match zah zkj (s,0,()) with|some (.inl (_)) =>some true|some (.inr (v,_)) =>some v|none =>none
def qe (s:List UInt8) (i:Int):Option Int:=
 match qbf s i with|some (r1,r2) =>some (if r2<1 then 1 else r2)|none =>none
def qaf (c:Int):Option Bool:=
 let k (v:Bool):Option Bool:=some v;bif c==32 then k true else k (c==160)
def zkr:((List UInt8)×(List UInt8)×Bool×Int×Unit)→Option (((List UInt8)×(List UInt8)×Bool×Int×Unit)⊕(((List UInt8)×Unit))):=fun (s,vout,gap,i,_)=>
 bif decide (i<(s.length:Int)) then match qbf s i with|some (r1,r2) =>(match qe s i with|some r4 =>(match qaf r1 with|some r6 =>let k11 (vout9:List UInt8) (gap10:Bool):Option (((List UInt8)×(List UInt8)×Bool×Int×Unit)⊕(((List UInt8)×Unit))):=some (.inl (s,vout9,gap10,wr .i64 (i+r4),()));bif r6 then k11 vout true else let k8 (v:Bool):Option (((List UInt8)×(List UInt8)×Bool×Int×Unit)⊕(((List UInt8)×Unit))):=let k (vout7:List UInt8):Option (((List UInt8)×(List UInt8)×Bool×Int×Unit)⊕(((List UInt8)×Unit))):=bif decide (0≤(i:Int))&&(decide ((i:Int)≤wr .i64 (i+r4))&&decide (wr .i64 (i+r4)≤(s.length:Int))) then bif decide (vout7.length+((s.take (wr .i64 (i+r4)).toNat).drop (i:Int).toNat).length≤LIM) then k11 (vout7++((s.take (wr .i64 (i+r4)).toNat).drop (i:Int).toNat)) false else none else none;bif v then bif decide (vout.length+([32]).length≤LIM) then k (vout++([32])) else none else k vout;bif gap then k8 (!(vout==([]))) else k8 false|none =>none)|none =>none)|none =>none else some (.inr ((vout,())))
def qay (s:List UInt8):Option (List UInt8):=
 match zah zkr (s,[],false,0,()) with|some ((vout,_)) =>some vout|none =>none
def zis:((List Patron)×Int×Unit)→Option (((List Patron)×Int×Unit)⊕((Unit)⊕(Int×Unit))):=fun (l,i,_)=>
 bif decide (i<(l.length:Int)) then match getI l i with|some x =>let k18 (v:Bool):Option (((List Patron)×Int×Unit)⊕((Unit)⊕(Int×Unit))):=bif v then some (.inr (.inr (2,()))) else let k17 (v2:Bool):Option (((List Patron)×Int×Unit)⊕((Unit)⊕(Int×Unit))):=bif v2 then some (.inr (.inr (7,()))) else let k16 (v3:Bool):Option (((List Patron)×Int×Unit)⊕((Unit)⊕(Int×Unit))):=let k15 (v4:Bool):Option (((List Patron)×Int×Unit)⊕((Unit)⊕(Int×Unit))):=let k14 (v5:Bool):Option (((List Patron)×Int×Unit)⊕((Unit)⊕(Int×Unit))):=bif v5 then some (.inr (.inr (1,()))) else let k13 (v6:Bool):Option (((List Patron)×Int×Unit)⊕((Unit)⊕(Int×Unit))):=bif v6 then some (.inr (.inr (2,()))) else let k12 (v8:Bool):Option (((List Patron)×Int×Unit)⊕((Unit)⊕(Int×Unit))):=let k (v11:Bool):Option (((List Patron)×Int×Unit)⊕((Unit)⊕(Int×Unit))):=bif v11 then some (.inr (.inr (3,()))) else bif decide (200<(x.Name.length:Int)) then some (.inr (.inr (4,()))) else some (.inl (l,wr .i64 (i+1),()));bif v8 then k true else match qay x.Name with|some r10 =>k (!(r10==x.Name))|none =>none;bif x.Name==([]) then k12 true else match qad x.Name with|some r7 =>k12 (!r7)|none =>none;bif decide (x.Until<0) then k13 true else k13 (decide (109572<x.Until));bif v4 then k14 true else k14 (decide (4<x.Branch));bif v3 then k15 true else k15 (decide (x.Branch<1));bif decide (x.Kind<1) then k16 true else k16 (decide (9<x.Kind));bif decide (0<i) then match getI l (wr .i64 (i-1)) with|some x1 =>k17 (decide (x.ID≤x1.ID))|none =>none else k17 false;bif decide (x.ID<1) then k18 true else k18 (decide (9999<x.ID))|none =>none else some (.inr (.inl (())))
def qan (l:List Patron):Option Int:=
 bif decide (32<(l.length:Int)) then some 13 else match zah zis (l,0,()) with|some (.inl (_)) =>some 0|some (.inr (v,_)) =>some v|none =>none
def zir:((List Loan)×Int×Unit)→Option (((List Loan)×Int×Unit)⊕((Unit)⊕(Int×Unit))):=fun (l,i,_)=>
 bif decide (i<(l.length:Int)) then match getI l i with|some x =>let k21 (v:Bool):Option (((List Loan)×Int×Unit)⊕((Unit)⊕(Int×Unit))):=bif v then some (.inr (.inr (7,()))) else let k20 (v2:Bool):Option (((List Loan)×Int×Unit)⊕((Unit)⊕(Int×Unit))):=let k19 (v3:Bool):Option (((List Loan)×Int×Unit)⊕((Unit)⊕(Int×Unit))):=let k18 (v4:Bool):Option (((List Loan)×Int×Unit)⊕((Unit)⊕(Int×Unit))):=let k17 (v5:Bool):Option (((List Loan)×Int×Unit)⊕((Unit)⊕(Int×Unit))):=let k16 (v6:Bool):Option (((List Loan)×Int×Unit)⊕((Unit)⊕(Int×Unit))):=let k15 (v7:Bool):Option (((List Loan)×Int×Unit)⊕((Unit)⊕(Int×Unit))):=let k14 (v8:Bool):Option (((List Loan)×Int×Unit)⊕((Unit)⊕(Int×Unit))):=let k13 (v9:Bool):Option (((List Loan)×Int×Unit)⊕((Unit)⊕(Int×Unit))):=let k12 (v10:Bool):Option (((List Loan)×Int×Unit)⊕((Unit)⊕(Int×Unit))):=let k (v11:Bool):Option (((List Loan)×Int×Unit)⊕((Unit)⊕(Int×Unit))):=bif v11 then some (.inr (.inr (2,()))) else some (.inl (l,wr .i64 (i+1),()));bif v10 then k true else k (decide (10<x.Renewals));bif v9 then k12 true else k12 (decide (x.Renewals<0));bif v8 then k13 true else k13 (decide (x.Due<x.Out));bif v7 then k14 true else k14 (decide (109572<x.Due));bif v6 then k15 true else k15 (decide (x.Due<0));bif v5 then k16 true else k16 (decide (109572<x.Out));bif v4 then k17 true else k17 (decide (x.Out<0));bif v3 then k18 true else k18 (decide (9999<x.Patron));bif v2 then k19 true else k19 (decide (x.Patron<1));bif decide (x.Item<1) then k20 true else k20 (decide (9999<x.Item));bif decide (0<i) then match getI l (wr .i64 (i-1)) with|some x1 =>k21 (decide (x.Item≤x1.Item))|none =>none else k21 false|none =>none else some (.inr (.inl (())))
def qam (l:List Loan):Option Int:=
 bif decide (64<(l.length:Int)) then some 13 else match zah zir (l,0,()) with|some (.inl (_)) =>some 0|some (.inr (v,_)) =>some v|none =>none
def qd8 (n:Int):Option Bool:=
 let k (v:Bool):Option Bool:=some v;bif decide (1≤n) then k (decide (n≤9999)) else k false
def qer (n:Int):Option Bool:=
 let k (v:Bool):Option Bool:=some v;bif decide (0≤n) then k (decide (n≤109572)) else k false
def qdk (h:Hold):Option Int:=
 let k41 (v:Bool):Option Int:=let k40 (v2:Bool):Option Int:=let k39 (v5:Bool):Option Int:=let k38 (v9:Bool):Option Int:=let k37 (v10:Bool):Option Int:=let k36 (v11:Bool):Option Int:=let k35 (v14:Bool):Option Int:=let k34 (v18:Bool):Option Int:=let k33 (v21:Bool):Option Int:=let k32 (v24:Bool):Option Int:=let k31 (v25:Bool):Option Int:=let k30 (v26:Bool):Option Int:=bif v26 then some 2 else let k29 (v27:Bool):Option Int:=bif v27 then some 1 else let k (v28:Bool):Option Int:=bif v28 then some 12 else some 0;bif !((decide (0<h.Got))==(!(h.State==1))) then k true else k (!((decide (0<h.Until))==(h.State==3)));bif decide (h.State<1) then k29 true else k29 (decide (3<h.State));bif v25 then k30 true else k30 (decide (9<h.Rank));bif v24 then k31 true else k31 (decide (h.Rank<0));bif v21 then k32 true else match qer h.Asleep with|some r23 =>k32 (!r23)|none =>none;bif v18 then k33 true else match qer h.Until with|some r20 =>k33 (!r20)|none =>none;bif v14 then k34 true else bif !(h.Got==0) then match qd8 h.Got with|some r16 =>k34 (!r16)|none =>none else k34 false;bif v11 then k35 true else match qer h.Placed with|some r13 =>k35 (!r13)|none =>none;bif v10 then k36 true else k36 (decide (4<h.Pickup));bif v9 then k37 true else k37 (decide (h.Pickup<1));bif v5 then k38 true else bif !(h.Item==0) then match qd8 h.Item with|some r7 =>k38 (!r7)|none =>none else k38 false;bif v2 then k39 true else match qd8 h.Record with|some r4 =>k39 (!r4)|none =>none;bif v then k40 true else match qd8 h.Patron with|some r1 =>k40 (!r1)|none =>none;bif decide (h.ID<1) then k41 true else k41 (decide (99999<h.ID))
def zqu:((List Hold)×Int×Unit)→Option (((List Hold)×Int×Unit)⊕(((List Hold)×Unit)⊕(Int×Unit))):=fun (l,i,_)=>
 bif decide (i<(l.length:Int)) then let k (v:Bool):Option (((List Hold)×Int×Unit)⊕(((List Hold)×Unit)⊕(Int×Unit))):=bif v then some (.inr (.inr (7,()))) else match getI l i with|some x2 =>(match qdk x2 with|some r3 =>bif !(r3==0) then some (.inr (.inr (r3,()))) else some (.inl (l,wr .i64 (i+1),()))|none =>none)|none =>none;bif decide (0<i) then match getI l i with|some x =>(match getI l (wr .i64 (i-1)) with|some x1 =>k (decide (x.ID≤x1.ID))|none =>none)|none =>none else k false else some (.inr (.inl (l,())))
def ziw:((List Hold)×Int×Int×Unit)→Option (((List Hold)×Int×Int×Unit)⊕(((List Hold)×Int×Unit)⊕(Int×Unit))):=fun (l,i,k,_)=>
 bif decide (k<i) then match getI l i with|some x =>(match getI l k with|some x5 =>let k14 (v:Bool):Option (((List Hold)×Int×Int×Unit)⊕(((List Hold)×Int×Unit)⊕(Int×Unit))):=let k13 (v12:Bool):Option (((List Hold)×Int×Int×Unit)⊕(((List Hold)×Int×Unit)⊕(Int×Unit))):=bif v12 then some (.inr (.inr (7,()))) else some (.inl (l,i,wr .i64 (k+1),()));bif v then k13 true else match getI l i with|some x8 =>bif decide (0<x8.Got) then match getI l i with|some x9 =>(match getI l k with|some x10 =>k13 (x9.Got==x10.Got)|none =>none)|none =>none else k13 false|none =>none;bif x.Patron==x5.Patron then match getI l i with|some x6 =>(match getI l k with|some x7 =>k14 (x6.Record==x7.Record)|none =>none)|none =>none else k14 false|none =>none)|none =>none else some (.inr (.inl (l,i,())))
def zkv:((List Hold)×Int×Unit)→Option (((List Hold)×Int×Unit)⊕((Unit)⊕(Int×Unit))):=fun (l,i,_)=>
 bif decide (i<(l.length:Int)) then match zah ziw (l,i,0,()) with|some (.inl (l15,i16,_)) =>some (.inl (l15,wr .i64 (i16+1),()))|some (.inr (v,_)) =>some (.inr (.inr (v,())))|none =>none else some (.inr (.inl (())))
def qm (l:List Hold):Option Int:=
 bif decide (64<(l.length:Int)) then some 13 else match zah zqu (l,0,()) with|some (.inl (l4,_)) =>(match zah zkv (l4,0,()) with|some (.inl (_)) =>some 0|some (.inr (v,_)) =>some v|none =>none)|some (.inr (v17,_)) =>some v17|none =>none
def qe3 (n:Int):Option Bool:=
 let k (v:Bool):Option Bool:=some v;bif decide (0≤n) then k (decide (n≤109572)) else k false
def zit:((List Charge)×Int×Unit)→Option (((List Charge)×Int×Unit)⊕((Unit)⊕(Int×Unit))):=fun (l,i,_)=>
 bif decide (i<(l.length:Int)) then match getI l i with|some x =>let k22 (v:Bool):Option (((List Charge)×Int×Unit)⊕((Unit)⊕(Int×Unit))):=bif v then some (.inr (.inr (7,()))) else let k21 (v2:Bool):Option (((List Charge)×Int×Unit)⊕((Unit)⊕(Int×Unit))):=let k20 (v3:Bool):Option (((List Charge)×Int×Unit)⊕((Unit)⊕(Int×Unit))):=let k19 (v4:Bool):Option (((List Charge)×Int×Unit)⊕((Unit)⊕(Int×Unit))):=let k18 (v5:Bool):Option (((List Charge)×Int×Unit)⊕((Unit)⊕(Int×Unit))):=let k17 (v6:Bool):Option (((List Charge)×Int×Unit)⊕((Unit)⊕(Int×Unit))):=let k16 (v8:Bool):Option (((List Charge)×Int×Unit)⊕((Unit)⊕(Int×Unit))):=bif v8 then some (.inr (.inr (2,()))) else let k15 (v9:Bool):Option (((List Charge)×Int×Unit)⊕((Unit)⊕(Int×Unit))):=bif v9 then some (.inr (.inr (1,()))) else let k14 (v10:Bool):Option (((List Charge)×Int×Unit)⊕((Unit)⊕(Int×Unit))):=let k13 (v11:Bool):Option (((List Charge)×Int×Unit)⊕((Unit)⊕(Int×Unit))):=let k (v12:Bool):Option (((List Charge)×Int×Unit)⊕((Unit)⊕(Int×Unit))):=bif v12 then some (.inr (.inr (2,()))) else some (.inl (l,wr .i64 (i+1),()));bif v11 then k true else k (decide (x.Amount≤x.Paid));bif v10 then k13 true else k13 (decide (x.Paid<0));bif decide (x.Amount<1) then k14 true else k14 (decide (100000000<x.Amount));bif decide (x.Kind<1) then k15 true else k15 (decide (3<x.Kind));bif v6 then k16 true else match qe3 x.Day with|some r7 =>k16 (!r7)|none =>none;bif v5 then k17 true else k17 (decide (9999<x.Item));bif v4 then k18 true else k18 (decide (x.Item<1));bif v3 then k19 true else k19 (decide (9999<x.Patron));bif v2 then k20 true else k20 (decide (x.Patron<1));bif decide (x.ID<1) then k21 true else k21 (decide (99999<x.ID));bif decide (0<i) then match getI l (wr .i64 (i-1)) with|some x1 =>k22 (decide (x.ID≤x1.ID))|none =>none else k22 false|none =>none else some (.inr (.inl (())))
def qax (l:List Charge):Option Int:=
 bif decide (128<(l.length:Int)) then some 13 else match zah zit (l,0,()) with|some (.inl (_)) =>some 0|some (.inr (v,_)) =>some v|none =>none
def qbe (n:Int) (low:Int) (high:Int):Option Bool:=
 let k (v:Bool):Option Bool:=some v;bif decide (low≤n) then k (decide (n≤high)) else k false
def qc1 (r:Rule):Option Bool:=
 match qbe r.Patron 0 9 with|some r2 =>let k48 (v:Bool):Option Bool:=let k47 (v7:Bool):Option Bool:=match qbe r.Days 0 365 with|some r9 =>let k46 (v12:Bool):Option Bool:=let k45 (v15:Bool):Option Bool:=match qbe r.Fine 0 1000 with|some r17 =>let k44 (v20:Bool):Option Bool:=let k43 (v23:Bool):Option Bool:=let k42 (v24:Bool):Option Bool:=let k41 (v25:Bool):Option Bool:=let k40 (v28:Bool):Option Bool:=let k39 (v31:Bool):Option Bool:=let k38 (v34:Bool):Option Bool:=let k (v37:Bool):Option Bool:=some v37;bif v34 then match qbe r.Rank 0 9 with|some r36 =>k r36|none =>none else k false;bif v31 then match qbe r.Fixed 0 109572 with|some r33 =>k38 r33|none =>none else k38 false;bif v28 then match qbe r.Recall 1 60 with|some r30 =>k39 r30|none =>none else k39 false;bif v25 then match qbe r.Shelf 1 60 with|some r27 =>k40 r27|none =>none else k40 false;bif v24 then k41 v23 else k41 false;bif v7 then k42 v15 else k42 false;bif v20 then match qbe r.MaxFine 0 100000000 with|some r22 =>k43 r22|none =>none else k43 false;bif r17 then match qbe r.Grace 0 30 with|some r19 =>k44 r19|none =>none else k44 false|none =>none;bif v12 then match qbe r.Loans 0 99 with|some r14 =>k45 r14|none =>none else k45 false;bif r9 then match qbe r.Renewals 0 10 with|some r11 =>k46 r11|none =>none else k46 false|none =>none;bif v then match qbe r.Branch 0 4 with|some r6 =>k47 r6|none =>none else k47 false;bif r2 then match qbe r.Item 0 9 with|some r4 =>k48 r4|none =>none else k48 false|none =>none
def zqt:((List Rule)×Int×Int×Unit)→Option (((List Rule)×Int×Int×Unit)⊕(((List Rule)×Int×Unit)⊕(Int×Unit))):=fun (l,i,k,_)=>
 bif decide (k<i) then match getI l k with|some x =>(match getI l i with|some x2 =>let k9 (v:Bool):Option (((List Rule)×Int×Int×Unit)⊕(((List Rule)×Int×Unit)⊕(Int×Unit))):=let k8 (v7:Bool):Option (((List Rule)×Int×Int×Unit)⊕(((List Rule)×Int×Unit)⊕(Int×Unit))):=bif v7 then some (.inr (.inr (7,()))) else some (.inl (l,i,wr .i64 (k+1),()));bif v then match getI l k with|some x5 =>(match getI l i with|some x6 =>k8 (x5.Branch==x6.Branch)|none =>none)|none =>none else k8 false;bif x.Patron==x2.Patron then match getI l k with|some x3 =>(match getI l i with|some x4 =>k9 (x3.Item==x4.Item)|none =>none)|none =>none else k9 false|none =>none)|none =>none else some (.inr (.inl (l,i,())))
def zwn:((List Rule)×Int×Unit)→Option (((List Rule)×Int×Unit)⊕((Unit)⊕(Int×Unit))):=fun (l,i,_)=>
 bif decide (i<(l.length:Int)) then match getI l i with|some x =>(match qc1 x with|some r1 =>(bif !r1 then some (.inr (.inr (2,()))) else match zah zqt (l,i,0,()) with|some (.inl (l10,i11,_)) =>some (.inl (l10,wr .i64 (i11+1),()))|some (.inr (v,_)) =>some (.inr (.inr (v,())))|none =>none)|none =>none)|none =>none else some (.inr (.inl (())))
def ql (l:List Rule):Option Int:=
 bif decide (32<(l.length:Int)) then some 13 else match zah zwn (l,0,()) with|some (.inl (_)) =>some 0|some (.inr (v,_)) =>some v|none =>none
def zqv:(Int×Calendar×Unit)→Option ((Int×Calendar×Unit)⊕((Calendar×Unit)⊕(Int×Unit))):=fun (i,c,_)=>
 bif decide (i<(c.Closed.length:Int)) then match getI c.Closed i with|some x =>(let k (v:Bool):Option ((Int×Calendar×Unit)⊕((Calendar×Unit)⊕(Int×Unit))):=bif v then some (.inr (.inr (2,()))) else some (.inl (wr .i64 (i+1),c,()));bif decide (x<0) then k true else match getI c.Closed i with|some x1 =>k (decide (109572<x1))|none =>none)|none =>none else some (.inr (.inl (c,())))
def zix:(Int×Calendar×Unit)→Option ((Int×Calendar×Unit)⊕((Unit)⊕(Int×Unit))):=fun (i,c,_)=>
 bif decide (i<(c.Closed.length:Int)) then match getI c.Closed i with|some x =>(match getI c.Closed (wr .i64 (i-1)) with|some x3 =>bif decide (x≤x3) then some (.inr (.inr (7,()))) else some (.inl (wr .i64 (i+1),c,()))|none =>none)|none =>none else some (.inr (.inl (())))
def qw (c:Calendar):Option Int:=
 let k (v:Bool):Option Int:=bif v then some 1 else bif decide (64<(c.Closed.length:Int)) then some 13 else match zah zqv (0,c,()) with|some (.inl (c2,_)) =>(match zah zix (1,c2,()) with|some (.inl (_)) =>some 0|some (.inr (v4,_)) =>some v4|none =>none)|some (.inr (v5,_)) =>some v5|none =>none;bif decide (c.Week<0) then k true else k (decide (126<c.Week))
def zkq:((List Patron)×Int×Int×Unit)→Option (((List Patron)×Int×Int×Unit)⊕((Unit)⊕(Int×Unit))):=fun (l,vid,i,_)=>
 bif decide (i<(l.length:Int)) then match getI l i with|some x =>bif x.ID==vid then some (.inr (.inr (i,()))) else some (.inl (l,vid,wr .i64 (i+1),()))|none =>none else some (.inr (.inl (())))
def qas (l:List Patron) (vid:Int):Option Int:=
 match zah zkq (l,vid,0,()) with|some (.inl (_)) =>some (-1)|some (.inr (v,_)) =>some v|none =>none
def qb6 (l:List Patron) (vid:Int):Option (Patron×Bool):=
 match qas l vid with|some r1 =>(bif decide (r1<0) then some ((⟨0,0,0,0,false,[]⟩:Patron),false) else match getI l r1 with|some x =>some (x,true)|none =>none)|none =>none
def qdl (branch:Int):Option Custody:=
 some (⟨1,branch,0,0⟩:Custody)
def qfa (state:Int):Option Bool:=
 let k6 (v:Bool):Option Bool:=let k5 (v1:Bool):Option Bool:=let k4 (v2:Bool):Option Bool:=let k (v3:Bool):Option Bool:=some v3;bif v2 then k true else k (state==10);bif v1 then k4 true else k4 (state==9);bif v then k5 true else k5 (state==8);bif state==4 then k6 true else k6 (state==5)
def qdm (c:Custody):Option Bool:=
 let k17 (v:Bool):Option Bool:=let k16 (v1:Bool):Option Bool:=let k15 (v2:Bool):Option Bool:=bif v2 then some false else let k10 (v9:Bool):Option Bool:=some v9;bif c.State==6 then let k8 (v3:Bool):Option Bool:=let k7 (v4:Bool):Option Bool:=let k (v5:Bool):Option Bool:=bif v5 then k10 (!(c.To==c.Branch)) else k10 false;bif v4 then k (decide (c.To≤4)) else k false;bif v3 then k7 (decide (1≤c.To)) else k7 false;bif decide (0≤c.Who) then k8 (decide (c.Who≤9999)) else k8 false else bif !(c.To==0) then some false else match qfa c.State with|some r11 =>let k14 (v13:Bool):Option Bool:=some v13;bif r11 then bif decide (1≤c.Who) then k14 (decide (c.Who≤9999)) else k14 false else some (c.Who==0)|none =>none;bif v1 then k15 true else k15 (decide (4<c.Branch));bif v then k16 true else k16 (decide (c.Branch<1));bif decide (c.State<1) then k17 true else k17 (decide (12<c.State))
def qek (m:Move):Option Bool:=
 let k16 (v:Bool):Option Bool:=let k15 (v1:Bool):Option Bool:=let k14 (v2:Bool):Option Bool:=let k13 (v3:Bool):Option Bool:=let k12 (v4:Bool):Option Bool:=let k11 (v5:Bool):Option Bool:=let k10 (v6:Bool):Option Bool:=let k9 (v7:Bool):Option Bool:=let k (v8:Bool):Option Bool:=some v8;bif v7 then k (decide (m.Who≤9999)) else k false;bif v6 then k9 (decide (0≤m.Who)) else k9 false;bif v5 then k10 (decide (m.Branch≤4)) else k10 false;bif v4 then k11 (decide (1≤m.Branch)) else k11 false;bif v3 then k12 (decide (m.Kind≤15)) else k12 false;bif v2 then k13 (decide (1≤m.Kind)) else k13 false;bif v1 then k14 (decide (m.Item≤9999)) else k14 false;bif v then k15 (decide (1≤m.Item)) else k15 false;bif decide (0≤m.Day) then k16 (decide (m.Day≤109572)) else k16 false
def qcs (kind:Int):Option (List Int):=
 bif kind==1 then some ([1]) else bif kind==2 then some ([2,5]) else bif kind==3 then some ([3,5]) else bif kind==4 then some ([4,8,9,10]) else let k (v:Bool):Option (List Int):=bif v then some ([2,3]) else bif kind==6 then some ([2,3,5]) else bif kind==7 then some ([6]) else bif kind==9 then some ([7]) else bif kind==10 then some ([3]) else bif kind==11 then some ([4]) else bif kind==12 then some ([4,9]) else bif kind==13 then some ([2,3,5,6,7]) else bif kind==14 then some ([11]) else bif kind==15 then some ([1,2,3,11,10]) else some ([]);bif kind==5 then k (kind==5) else k (kind==8)
def zkk:(Int×(List Int)×Int×Unit)→Option ((Int×(List Int)×Int×Unit)⊕((Unit)⊕(Bool×Unit))):=fun (state,l,i,_)=>
 bif decide (i<(l.length:Int)) then match getI l i with|some x =>bif x==state then some (.inr (.inr (true,()))) else some (.inl (state,l,wr .i64 (i+1),()))|none =>none else some (.inr (.inl (())))
def qah (state:Int) (kind:Int):Option Bool:=
 match qcs kind with|some r1 =>(match zah zkk (state,r1,0,()) with|some (.inl (_)) =>some false|some (.inr (v,_)) =>some v|none =>none)|none =>none
def qc9 (c:Custody) (m:Move):Option Bool:=
 let k14 (v2:Bool):Option Bool:=let k11 (v10:Bool):Option Bool:=some v10;bif v2 then k11 (m.Who==0) else bif m.Kind==7 then bif m.Who==0 then k11 (m.Branch==c.To) else k11 false else bif m.Kind==6 then k11 (!(m.Branch==c.Branch)) else let k (v5:Bool):Option Bool:=bif v5 then bif m.Branch==c.Branch then k11 (decide (1≤m.Who)) else k11 false else let k13 (v12:Bool):Option Bool:=some v12;bif m.Branch==c.Branch then k13 (m.Who==0) else k13 false;bif m.Kind==3 then k (m.Kind==3) else bif m.Kind==5 then k (m.Kind==5) else k (m.Kind==10);bif m.Kind==1 then k14 (m.Kind==1) else bif m.Kind==4 then k14 (m.Kind==4) else bif m.Kind==9 then k14 (m.Kind==9) else k14 (m.Kind==14)
def qff (kind:Int):Option Int:=
 let k13 (v3:Bool):Option Int:=let k (v12:Int):Option Int:=some v12;bif v3 then k 2 else bif kind==2 then k 3 else bif kind==3 then k 4 else bif kind==5 then k 5 else bif kind==6 then k 6 else bif kind==8 then k 7 else bif kind==10 then k 8 else bif kind==11 then k 9 else bif kind==12 then k 10 else bif kind==13 then k 11 else some 12;bif kind==1 then k13 (kind==1) else bif kind==4 then k13 (kind==4) else bif kind==7 then k13 (kind==7) else bif kind==9 then k13 (kind==9) else k13 (kind==14)
def qct (c:Custody) (m:Move):Option (Custody×Int):=
 match qdm c with|some r1 =>(let k26 (v:Bool):Option (Custody×Int):=bif v then some ((⟨0,0,0,0⟩:Custody),1) else match qah c.State m.Kind with|some r5 =>bif !r5 then some ((⟨0,0,0,0⟩:Custody),12) else let k25 (v6:Bool):Option (Custody×Int):=let k24 (v7:Bool):Option (Custody×Int):=bif v7 then some ((⟨0,0,0,0⟩:Custody),16) else match qc9 c m with|some r9 =>(bif !r9 then some ((⟨0,0,0,0⟩:Custody),1) else match qff m.Kind with|some r11 =>let k23 (vout20:Int) (vout21:Int) (vout22:Int):Option (Custody×Int):=some ((⟨r11,vout20,vout21,vout22⟩:Custody),0);bif r11==2 then k23 m.Branch 0 0 else let k19 (v13:Bool):Option (Custody×Int):=bif v13 then k23 c.Branch m.Who 0 else bif r11==6 then k23 c.Branch m.Who m.Branch else let k (v14:Bool):Option (Custody×Int):=bif v14 then k23 c.Branch c.Who 0 else k23 c.Branch 0 0;bif r11==9 then k (r11==9) else k (r11==10);bif r11==4 then k19 (r11==4) else bif r11==5 then k19 (r11==5) else k19 (r11==8)|none =>none)|none =>none;bif v6 then k24 (!(m.Who==c.Who)) else k24 false;bif m.Kind==3 then k25 (c.State==5) else k25 false|none =>none;bif !r1 then k26 true else match qek m with|some r3 =>k26 (!r3)|none =>none)|none =>none
def zkl:((List Move)×Int×Int×Custody×Custody×Unit)→Option (((List Move)×Int×Int×Custody×Custody×Unit)⊕((Custody×Custody×Unit)⊕(Int×Int×Custody×Unit))):=fun (l,item,i,v,c,_)=>
 bif decide (i<(l.length:Int)) then match getI l i with|some x =>(bif !(x.Item==item) then some (.inl (l,item,wr .i64 (i+1),v,c,())) else match getI l i with|some x2 =>(match qct c x2 with|some (r3,r4) =>bif !(r4==0) then some (.inr (.inr (i,r4,(⟨0,0,0,0⟩:Custody),()))) else some (.inl (l,item,wr .i64 (i+1),v,r3,()))|none =>none)|none =>none)|none =>none else some (.inr (.inl (v,c,())))
def qai (branch:Int) (l:List Move) (item:Int):Option (Custody×Int×Int):=
 let k (v:Bool):Option (Custody×Int×Int):=bif v then some ((⟨0,0,0,0⟩:Custody),(-1),1) else match qdl branch with|some r1 =>(match zah zkl (l,item,0,(⟨0,0,0,0⟩:Custody),r1,()) with|some (.inl (v5,c,_)) =>some (c,(-1),0)|some (.inr (v6,v7,v8,_)) =>some (v8,v6,v7)|none =>none)|none =>none;bif decide (branch<1) then k true else k (decide (4<branch))
def zwq:(Int×Int×Circ×Unit)→Option ((Int×Int×Circ×Unit)⊕((Unit)⊕(Int×Unit))):=fun (item,i,c,_)=>
 bif decide (i<(c.Items.length:Int)) then match getI c.Items i with|some x =>bif x.ID==item then some (.inr (.inr (i,()))) else some (.inl (item,wr .i64 (i+1),c,()))|none =>none else some (.inr (.inl (())))
def qt (c:Circ) (item:Int):Option Int:=
 match zah zwq (item,0,c,()) with|some (.inl (_)) =>some (-1)|some (.inr (v,_)) =>some v|none =>none
def zqx:(Int×Circ×Unit)→Option ((Int×Circ×Unit)⊕((Circ×Unit)⊕(Bool×Unit))):=fun (i,c,_)=>
 bif decide (i<(c.Items.length:Int)) then match getI c.Items i with|some x =>let k29 (v:Bool):Option ((Int×Circ×Unit)⊕((Circ×Unit)⊕(Bool×Unit))):=let k28 (v3:Bool):Option ((Int×Circ×Unit)⊕((Circ×Unit)⊕(Bool×Unit))):=let k27 (v4:Bool):Option ((Int×Circ×Unit)⊕((Circ×Unit)⊕(Bool×Unit))):=let k26 (v5:Bool):Option ((Int×Circ×Unit)⊕((Circ×Unit)⊕(Bool×Unit))):=let k25 (v6:Bool):Option ((Int×Circ×Unit)⊕((Circ×Unit)⊕(Bool×Unit))):=let k24 (v7:Bool):Option ((Int×Circ×Unit)⊕((Circ×Unit)⊕(Bool×Unit))):=bif v7 then some (.inr (.inr (false,()))) else let k23 (v8:Bool):Option ((Int×Circ×Unit)⊕((Circ×Unit)⊕(Bool×Unit))):=let k22 (v9:Bool):Option ((Int×Circ×Unit)⊕((Circ×Unit)⊕(Bool×Unit))):=let k21 (v10:Bool):Option ((Int×Circ×Unit)⊕((Circ×Unit)⊕(Bool×Unit))):=let k20 (v11:Bool):Option ((Int×Circ×Unit)⊕((Circ×Unit)⊕(Bool×Unit))):=let k19 (v13:Bool):Option ((Int×Circ×Unit)⊕((Circ×Unit)⊕(Bool×Unit))):=bif v13 then some (.inr (.inr (false,()))) else match qai x.Branch c.Moves x.ID with|some (r15,r16,r17) =>let k (v18:Bool):Option ((Int×Circ×Unit)⊕((Circ×Unit)⊕(Bool×Unit))):=bif v18 then some (.inr (.inr (false,()))) else some (.inl (wr .i64 (i+1),c,()));bif !(r17==0) then k true else k (!(zck r15 x.Custody))|none =>none;bif v11 then k19 true else match qad x.Call with|some r12 =>k19 (!r12)|none =>none;bif v10 then k20 true else k20 (decide (200<(x.Call.length:Int)));bif v9 then k21 true else k21 (decide (100000000<x.Price));bif v8 then k22 true else k22 (decide (x.Price<0));bif decide (x.Kind<1) then k23 true else k23 (decide (9<x.Kind));bif v6 then k24 true else k24 (decide (4<x.Branch));bif v5 then k25 true else k25 (decide (x.Branch<1));bif v4 then k26 true else k26 (decide (9999<x.Record));bif v3 then k27 true else k27 (decide (x.Record<1));bif v then k28 true else bif decide (0<i) then match getI c.Items (wr .i64 (i-1)) with|some x1 =>k28 (decide (x.ID≤x1.ID))|none =>none else k28 false;bif decide (x.ID<1) then k29 true else k29 (decide (9999<x.ID))|none =>none else some (.inr (.inl (c,())))
def ziy:(Int×Circ×Unit)→Option ((Int×Circ×Unit)⊕((Unit)⊕(Bool×Unit))):=fun (i,c,_)=>
 bif decide (i<(c.Moves.length:Int)) then match getI c.Moves i with|some x =>(match qt c x.Item with|some r31 =>bif decide (r31<0) then some (.inr (.inr (false,()))) else some (.inl (wr .i64 (i+1),c,()))|none =>none)|none =>none else some (.inr (.inl (())))
def qy (c:Circ):Option Bool:=
 let k (v:Bool):Option Bool:=bif v then some false else match zah zqx (0,c,()) with|some (.inl (c30,_)) =>(match zah ziy (0,c30,()) with|some (.inl (_)) =>some true|some (.inr (v32,_)) =>some v32|none =>none)|some (.inr (v33,_)) =>some v33|none =>none;bif decide (64<(c.Items.length:Int)) then k true else k (decide (2000<(c.Moves.length:Int)))
def qef (u:Custody):Option Bool:=
 let k2 (v:Bool):Option Bool:=let k (v1:Bool):Option Bool:=some v1;bif v then k true else k (u.State==10);bif u.State==4 then k2 true else k2 (u.State==9)
def zkm:((List Loan)×Int×Int×Unit)→Option (((List Loan)×Int×Int×Unit)⊕((Unit)⊕(Int×Unit))):=fun (l,item,i,_)=>
 bif decide (i<(l.length:Int)) then match getI l i with|some x =>bif x.Item==item then some (.inr (.inr (i,()))) else some (.inl (l,item,wr .i64 (i+1),()))|none =>none else some (.inr (.inl (())))
def qaj (l:List Loan) (item:Int):Option Int:=
 match zah zkm (l,item,0,()) with|some (.inl (_)) =>some (-1)|some (.inr (v,_)) =>some v|none =>none
def qdo (l:List Loan) (item:Int):Option (Loan×Bool):=
 match qaj l item with|some r1 =>(bif decide (r1<0) then some ((⟨0,0,0,0,0,false⟩:Loan),false) else match getI l r1 with|some x =>some (x,true)|none =>none)|none =>none
def zqw:(Int×Circ×Unit)→Option ((Int×Circ×Unit)⊕((Circ×Unit)⊕(Bool×Unit))):=fun (i,c,_)=>
 bif decide (i<(c.Loans.length:Int)) then match getI c.Loans i with|some x =>(match qt c x.Item with|some r1 =>(match qb6 c.Patrons x.Patron with|some (r3,r4) =>let k12 (v:Bool):Option ((Int×Circ×Unit)⊕((Circ×Unit)⊕(Bool×Unit))):=let k11 (v8:Bool):Option ((Int×Circ×Unit)⊕((Circ×Unit)⊕(Bool×Unit))):=let k (v10:Bool):Option ((Int×Circ×Unit)⊕((Circ×Unit)⊕(Bool×Unit))):=bif v10 then some (.inr (.inr (false,()))) else some (.inl (wr .i64 (i+1),c,()));bif v8 then k true else match getI c.Items r1 with|some x9 =>k (!(x9.Custody.Who==x.Patron))|none =>none;bif v then k11 true else match getI c.Items r1 with|some x5 =>(match qef x5.Custody with|some r7 =>k11 (!r7)|none =>none)|none =>none;bif decide (r1<0) then k12 true else k12 (!r4)|none =>none)|none =>none)|none =>none else some (.inr (.inl (c,())))
def zkw:(Int×Circ×Unit)→Option ((Int×Circ×Unit)⊕((Unit)⊕(Bool×Unit))):=fun (i,c,_)=>
 bif decide (i<(c.Items.length:Int)) then match getI c.Items i with|some x =>(match qdo c.Loans x.ID with|some (r14,r15) =>(match getI c.Items i with|some x16 =>(match qef x16.Custody with|some r18 =>bif !(r15==r18) then some (.inr (.inr (false,()))) else some (.inl (wr .i64 (i+1),c,()))|none =>none)|none =>none)|none =>none)|none =>none else some (.inr (.inl (())))
def qx (c:Circ):Option Bool:=
 match zah zqw (0,c,()) with|some (.inl (c13,_)) =>(match zah zkw (0,c13,()) with|some (.inl (_)) =>some true|some (.inr (v,_)) =>some v|none =>none)|some (.inr (v19,_)) =>some v19|none =>none
def zko:(Int×Int×Circ×Hold×Unit)→Option ((Int×Int×Circ×Hold×Unit)⊕((Hold×Unit)⊕(Bool×Hold×Unit))):=fun (item,i,c,v,_)=>
 bif decide (i<(c.Holds.length:Int)) then match getI c.Holds i with|some x =>bif x.Got==item then match getI c.Holds i with|some x1 =>some (.inr (.inr (true,x1,())))|none =>none else some (.inl (item,wr .i64 (i+1),c,v,()))|none =>none else some (.inr (.inl (v,())))
def qaq (c:Circ) (item:Int):Option (Hold×Bool):=
 match zah zko (item,0,c,(⟨0,0,0,0,0,0,0,0,0,0,0⟩:Hold),()) with|some (.inl (v,_)) =>some ((⟨0,0,0,0,0,0,0,0,0,0,0⟩:Hold),false)|some (.inr (v2,v3,_)) =>some (v3,v2)|none =>none
def zqy:(Int×Circ×Unit)→Option ((Int×Circ×Unit)⊕((Circ×Unit)⊕(Bool×Unit))):=fun (i,c,_)=>
 bif decide (i<(c.Holds.length:Int)) then match getI c.Holds i with|some x =>(match qb6 c.Patrons x.Patron with|some (r1,r2) =>let k18 (v:Bool):Option ((Int×Circ×Unit)⊕((Circ×Unit)⊕(Bool×Unit))):=bif v then some (.inr (.inr (false,()))) else bif x.State==1 then some (.inl (wr .i64 (i+1),c,())) else match qt c x.Got with|some r4 =>(let k17 (v6:Bool):Option ((Int×Circ×Unit)⊕((Circ×Unit)⊕(Bool×Unit))):=bif v6 then some (.inr (.inr (false,()))) else match getI c.Items r4 with|some x7 =>let k16 (v10:Bool):Option ((Int×Circ×Unit)⊕((Circ×Unit)⊕(Bool×Unit))):=bif v10 then some (.inr (.inr (false,()))) else let k15 (v14:Bool):Option ((Int×Circ×Unit)⊕((Circ×Unit)⊕(Bool×Unit))):=bif v14 then some (.inr (.inr (false,()))) else some (.inl (wr .i64 (i+1),c,()));bif x.State==2 then let k13 (v11:Bool):Option ((Int×Circ×Unit)⊕((Circ×Unit)⊕(Bool×Unit))):=bif v11 then k15 true else k15 (!(x7.Custody.Who==x.Patron));bif !(x7.Custody.State==6) then k13 true else k13 (!(x7.Custody.To==x.Pickup)) else k15 false;bif x.State==3 then let k (v8:Bool):Option ((Int×Circ×Unit)⊕((Circ×Unit)⊕(Bool×Unit))):=bif v8 then k16 true else k16 (!(x7.Custody.Who==x.Patron));bif !(x7.Custody.State==5) then k true else k (!(x7.Custody.Branch==x.Pickup)) else k16 false|none =>none;bif decide (r4<0) then k17 true else match getI c.Items r4 with|some x5 =>k17 (!(x5.Record==x.Record))|none =>none)|none =>none;bif !r2 then k18 true else k18 (decide (c.NextHold≤x.ID))|none =>none)|none =>none else some (.inr (.inl (c,())))
def zkx:(Int×Circ×Unit)→Option ((Int×Circ×Unit)⊕((Unit)⊕(Bool×Unit))):=fun (i,c,_)=>
 bif decide (i<(c.Items.length:Int)) then match getI c.Items i with|some x =>(bif !(x.Custody.State==5) then some (.inl (wr .i64 (i+1),c,())) else match getI c.Items i with|some x20 =>(match qaq c x20.ID with|some (r21,r22) =>let k (v:Bool):Option ((Int×Circ×Unit)⊕((Unit)⊕(Bool×Unit))):=bif v then some (.inr (.inr (false,()))) else some (.inl (wr .i64 (i+1),c,()));bif !r22 then k true else k (!(r21.State==3))|none =>none)|none =>none)|none =>none else some (.inr (.inl (())))
def qz (c:Circ):Option Bool:=
 match zah zqy (0,c,()) with|some (.inl (c19,_)) =>(match zah zkx (0,c19,()) with|some (.inl (_)) =>some true|some (.inr (v,_)) =>some v|none =>none)|some (.inr (v23,_)) =>some v23|none =>none
def zgt:(Int×Circ×Unit)→Option ((Int×Circ×Unit)⊕((Circ×Unit)⊕(Bool×Unit))):=fun (i,c,_)=>
 bif decide (i<4) then let k (v:Int) (v18:List Int):Option ((Int×Circ×Unit)⊕((Circ×Unit)⊕(Bool×Unit))):=match qw (⟨v,v18⟩:Calendar) with|some r19 =>bif !(r19==0) then some (.inr (.inr (false,()))) else some (.inl (wr .i64 (i+1),c,()))|none =>none;bif i==0 then k c.Cals.x0.Week c.Cals.x0.Closed else bif i==1 then k c.Cals.x1.Week c.Cals.x1.Closed else bif i==2 then k c.Cals.x2.Week c.Cals.x2.Closed else bif i==3 then k c.Cals.x3.Week c.Cals.x3.Closed else none else some (.inr (.inl (c,())))
def zfd:(Int×Circ×Unit)→Option ((Int×Circ×Unit)⊕((Circ×Unit)⊕(Bool×Unit))):=fun (i,c,_)=>
 bif decide (i<(c.Charges.length:Int)) then match getI c.Charges i with|some x =>(match qb6 c.Patrons x.Patron with|some (r21,r22) =>(let k (v:Bool):Option ((Int×Circ×Unit)⊕((Circ×Unit)⊕(Bool×Unit))):=bif v then some (.inr (.inr (false,()))) else some (.inl (wr .i64 (i+1),c,()));bif !r22 then k true else match getI c.Charges i with|some x23 =>k (decide (c.NextCharge≤x23.ID))|none =>none)|none =>none)|none =>none else some (.inr (.inl (c,())))
def qac (c:Circ):Option Bool:=
 let k44 (v:Bool):Option Bool:=let k43 (v1:Bool):Option Bool:=let k42 (v2:Bool):Option Bool:=let k41 (v3:Bool):Option Bool:=let k40 (v4:Bool):Option Bool:=bif v4 then some false else match qan c.Patrons with|some r5 =>(let k39 (v8:Bool):Option Bool:=let k38 (v11:Bool):Option Bool:=let k37 (v14:Bool):Option Bool:=let k36 (v17:Bool):Option Bool:=bif v17 then some false else match zah zgt (0,c,()) with|some (.inl (c20,_)) =>(match zah zfd (0,c20,()) with|some (.inl (c24,_)) =>(match qy c24 with|some r26 =>let k33 (v29:Bool):Option Bool:=let k (v32:Bool):Option Bool:=some v32;bif v29 then match qz c24 with|some r31 =>k r31|none =>none else k false;bif r26 then match qx c24 with|some r28 =>k33 r28|none =>none else k33 false|none =>none)|some (.inr (v34,_)) =>some v34|none =>none)|some (.inr (v35,_)) =>some v35|none =>none;bif v14 then k36 true else match ql c.Rules with|some r16 =>k36 (!(r16==0))|none =>none;bif v11 then k37 true else match qax c.Charges with|some r13 =>k37 (!(r13==0))|none =>none;bif v8 then k38 true else match qm c.Holds with|some r10 =>k38 (!(r10==0))|none =>none;bif !(r5==0) then k39 true else match qam c.Loans with|some r7 =>k39 (!(r7==0))|none =>none)|none =>none;bif v3 then k40 true else k40 (decide (100000<c.NextCharge));bif v2 then k41 true else k41 (decide (c.NextCharge<1));bif v1 then k42 true else k42 (decide (100000<c.NextHold));bif v then k43 true else k43 (decide (c.NextHold<1));bif decide (c.Today<0) then k44 true else k44 (decide (109572<c.Today))
def qfg (c:Circ):Option Bool:=
 match qa c with|some r1 =>let k (v:Bool):Option Bool:=some v;bif r1 then match qac c with|some r3 =>k r3|none =>none else k false|none =>none
def qd7 (today:Int):Option Circ:=
 some (⟨(if 109572<(if today<0 then 0 else today) then 109572 else (if today<0 then 0 else today)),[],[],[],[],[],[],⟨⟨0,[]⟩,⟨0,[]⟩,⟨0,[]⟩,⟨0,[]⟩⟩,[],1,1,false⟩:Circ)
def qcr (x:Item) (v:Int):Option Bool:=
 some (x.ID==v)
def z2i {γ0:Type} (p:γ0→Item→Option Bool):((List Item)×γ0×Int×Int×Unit)→Option (((List Item)×γ0×Int×Int×Unit)⊕((Unit)⊕(Int×Unit))):=fun (s,g,v,v1,_)=>
 bif decide (v1<v) then match getI s v1 with|some x =>(match p g x with|some r =>bif r then some (.inr (.inr (v1,()))) else some (.inl (s,g,v,wr .i64 (v1+1),()))|none =>none)|none =>none else some (.inr (.inl (())))
def qc {γ0:Type} (p:γ0→Item→Option Bool) (s:List Item) (g:γ0):Option Int:=
 match zah (z2i p) (s,g,(s.length:Int),0,()) with|some (.inl (_)) =>some (-1)|some (.inr (v,_)) =>some v|none =>none
def qag (c:Circ) (item:Int):Option Int:=
 match qc (fun g x0=>qcr x0 g.2.1) c.Items ((),(item,())) with|some r1 =>some r1|none =>none
def qdy (branch:Int):Option Custody:=
 some (⟨1,branch,0,0⟩:Custody)
def qcp (z:Item) (v:Item):Option Bool:=
 some (decide (v.ID<z.ID))
def qce (s:List Item):Option (List Item):=
 bif decide (([]:List Item).length+s.length≤LIM) then some (([])++s) else none
def qb3 (n:Int) (low:Int) (high:Int):Option Bool:=
 let k (v:Bool):Option Bool:=some v;bif decide (low≤n) then k (decide (n≤high)) else k false
def qdx (x:Item):Option Bool:=
 match qb3 x.ID 1 9999 with|some r1 =>let k21 (v:Bool):Option Bool:=let k20 (v6:Bool):Option Bool:=let k19 (v9:Bool):Option Bool:=let k18 (v12:Bool):Option Bool:=let k17 (v13:Bool):Option Bool:=let k (v16:Bool):Option Bool:=some v16;bif v13 then match qc8 x.Call with|some r15 =>k r15|none =>none else k false;bif v12 then k17 (decide ((x.Call.length:Int)≤200)) else k17 false;bif v9 then match qb3 x.Price 0 100000000 with|some r11 =>k18 r11|none =>none else k18 false;bif v6 then match qb3 x.Kind 1 9 with|some r8 =>k19 r8|none =>none else k19 false;bif v then match qb3 x.Branch 1 4 with|some r5 =>k20 r5|none =>none else k20 false;bif r1 then match qb3 x.Record 1 9999 with|some r3 =>k21 r3|none =>none else k21 false|none =>none
def qbn (n:Int) (least:Int) (most:Int):Option Bool:=
 let k (v:Bool):Option Bool:=some v;bif decide (least≤n) then k (decide (n≤most)) else k false
def qe9 (c:Custody):Option Bool:=
 match qbn c.State 1 12 with|some r1 =>(let k23 (v:Bool):Option Bool:=bif v then some false else let k22 (v7:Bool):Option Bool:=let k19 (v18:Bool):Option Bool:=some v18;bif v7 then match qbn c.Who 1 9999 with|some r9 =>bif r9 then k19 (c.To==0) else k19 false|none =>none else bif c.State==6 then match qbn c.Who 0 9999 with|some r12 =>let k (v15:Bool):Option Bool:=bif v15 then k19 (!(c.To==c.Branch)) else k19 false;bif r12 then match qbn c.To 1 4 with|some r14 =>k r14|none =>none else k false|none =>none else let k21 (v20:Bool):Option Bool:=some v20;bif c.Who==0 then k21 (c.To==0) else k21 false;bif c.State==4 then k22 (c.State==4) else bif c.State==5 then k22 (c.State==5) else bif c.State==8 then k22 (c.State==8) else bif c.State==9 then k22 (c.State==9) else k22 (c.State==10);bif !r1 then k23 true else match qbn c.Branch 1 4 with|some r3 =>k23 (!r3)|none =>none)|none =>none
def qe7 (state:Int) (kind:Int):Option Bool:=
 match qbn state 1 12 with|some r1 =>let k5 (v:Bool):Option Bool:=let k (v4:Bool):Option Bool:=some v4;bif v then match getI zbu state with|some x =>bif decide (kind<0) then none else k ((wr .u16 (BitVec.ofInt 16 (x.fdiv (2 ^ (min kind.toNat 16))) &&& BitVec.ofInt 16 1).toNat)==1)|none =>none else k false;bif r1 then match qbn kind 1 15 with|some r3 =>k5 r3|none =>none else k5 false|none =>none
def qck (c:Custody) (ok:Bool):Option (Custody×Int):=
 bif !ok then some ((⟨0,0,0,0⟩:Custody),1) else some (c,0)
def qfb (c:Custody) (m:Move):Option (Custody×Int):=
 match qck (⟨6,c.Branch,m.Who,m.Branch⟩:Custody) (!(m.Branch==c.Branch)) with|some (r1,r2) =>some (r1,r2)|none =>none
def qdz (c:Custody) (m:Move):Option (Custody×Int):=
 match qe9 c with|some r1 =>(let k95 (v:Bool):Option (Custody×Int):=let k94 (v6:Bool):Option (Custody×Int):=let k93 (v9:Bool):Option (Custody×Int):=let k92 (v12:Bool):Option (Custody×Int):=let k91 (v15:Bool):Option (Custody×Int):=bif v15 then some ((⟨0,0,0,0⟩:Custody),1) else match qe7 c.State m.Kind with|some r17 =>bif !r17 then some ((⟨0,0,0,0⟩:Custody),12) else let k90 (v18:Bool):Option (Custody×Int):=let k89 (v19:Bool):Option (Custody×Int):=bif v19 then some ((⟨0,0,0,0⟩:Custody),16) else let k88 (v22:Bool):Option (Custody×Int):=let k84 (state79:Int) (ok80:Bool):Option (Custody×Int):=match qck (⟨state79,m.Branch,m.Who,0⟩:Custody) ok80 with|some (r82,r83) =>some (r82,r83)|none =>none;let k87 (v85:Int) (v86:Custody):Option (Custody×Int):=some (v86,v85);bif v22 then k84 2 (m.Who==0) else bif m.Kind==7 then bif m.Who==0 then k84 2 (m.Branch==c.To) else k84 2 false else bif m.Kind==6 then match qfb c m with|some (r25,r26) =>k87 r26 r25|none =>none else bif m.Kind==3 then bif m.Branch==c.Branch then k84 4 (!(m.Who==0)) else k84 4 false else bif m.Kind==5 then bif m.Branch==c.Branch then k84 5 (!(m.Who==0)) else k84 5 false else bif m.Kind==10 then bif m.Branch==c.Branch then k84 8 (!(m.Who==0)) else k84 8 false else bif m.Kind==2 then bif m.Branch==c.Branch then k84 3 (m.Who==0) else k84 3 false else bif m.Kind==8 then bif m.Branch==c.Branch then k84 7 (m.Who==0) else k84 7 false else bif m.Kind==11 then let k (v32:Bool):Option (Custody×Int):=match qck (⟨9,c.Branch,c.Who,0⟩:Custody) v32 with|some (r34,r35) =>k87 r35 r34|none =>none;bif m.Branch==c.Branch then k (m.Who==0) else k false else bif m.Kind==12 then let k40 (v36:Bool):Option (Custody×Int):=match qck (⟨10,c.Branch,c.Who,0⟩:Custody) v36 with|some (r38,r39) =>k87 r39 r38|none =>none;bif m.Branch==c.Branch then k40 (m.Who==0) else k40 false else bif m.Kind==13 then bif m.Branch==c.Branch then k84 11 (m.Who==0) else k84 11 false else bif m.Kind==15 then bif m.Branch==c.Branch then k84 12 (m.Who==0) else k84 12 false else k84 0 false;bif m.Kind==1 then k88 (m.Kind==1) else bif m.Kind==4 then k88 (m.Kind==4) else bif m.Kind==9 then k88 (m.Kind==9) else k88 (m.Kind==14);bif v18 then k89 (!(m.Who==c.Who)) else k89 false;bif m.Kind==3 then k90 (c.State==5) else k90 false|none =>none;bif v12 then k91 true else match qbn m.Who 0 9999 with|some r14 =>k91 (!r14)|none =>none;bif v9 then k92 true else match qbn m.Branch 1 4 with|some r11 =>k92 (!r11)|none =>none;bif v6 then k93 true else match qbn m.Kind 1 15 with|some r8 =>k93 (!r8)|none =>none;bif v then k94 true else match qbn m.Item 1 9999 with|some r5 =>k94 (!r5)|none =>none;bif !r1 then k95 true else match qbn m.Day 0 109572 with|some r3 =>k95 (!r3)|none =>none)|none =>none
def zad5:(Int×(List Move)×Int×Int×Custody×Custody×Unit)→Option ((Int×(List Move)×Int×Int×Custody×Custody×Unit)⊕((Custody×Custody×Unit)⊕(Int×Int×Custody×Unit))):=fun (item,v,v4,v5,v6,c,_)=>
 bif decide (v5<v4) then match getI v v5 with|some x =>(bif !(x.Item==item) then some (.inl (item,v,v4,wr .i64 (v5+1),v6,c,())) else match qdz c x with|some (r7,r8) =>bif !(r8==0) then some (.inr (.inr (v5,r8,(⟨0,0,0,0⟩:Custody),()))) else some (.inl (item,v,v4,wr .i64 (v5+1),v6,r7,()))|none =>none)|none =>none else some (.inr (.inl (v6,c,())))
def qbk (branch:Int) (l:List Move) (item:Int):Option (Custody×Int×Int):=
 match qbn branch 1 4 with|some r1 =>(bif !r1 then some ((⟨0,0,0,0⟩:Custody),(-1),1) else match qdy branch with|some r3 =>(match zah zad5 (item,l,(l.length:Int),0,(⟨0,0,0,0⟩:Custody),r3,()) with|some (.inl (v,c,_)) =>some (c,(-1),0)|some (.inr (v9,v10,v11,_)) =>some (v11,v9,v10)|none =>none)|none =>none)|none =>none
def zaub:((List Item)×Int×Int×Circ×Unit)→Option (((List Item)×Int×Int×Circ×Unit)⊕((Circ×Unit)⊕(Bool×Unit))):=fun (v,v1,v2,c,_)=>
 bif decide (v2<v1) then match getI v v2 with|some x =>(match qdx x with|some r3 =>let k (v6:Bool):Option (((List Item)×Int×Int×Circ×Unit)⊕((Circ×Unit)⊕(Bool×Unit))):=bif v6 then some (.inr (.inr (false,()))) else some (.inl (v,v1,wr .i64 (v2+1),c,()));bif !r3 then k true else bif decide (0<v2) then match getI c.Items (wr .i64 (v2-1)) with|some x4 =>k (decide (x.ID≤x4.ID))|none =>none else k false|none =>none)|none =>none else some (.inr (.inl (c,())))
def zaeg:((List Move)×Int×Int×Circ×Unit)→Option (((List Move)×Int×Int×Circ×Unit)⊕((Circ×Unit)⊕(Bool×Unit))):=fun (v,v8,v9,c,_)=>
 bif decide (v9<v8) then match getI v v9 with|some x =>(match qag c x.Item with|some r10 =>bif decide (r10<0) then some (.inr (.inr (false,()))) else some (.inl (v,v8,wr .i64 (v9+1),c,()))|none =>none)|none =>none else some (.inr (.inl (c,())))
def zaeh:((List Item)×Int×Int×Circ×Unit)→Option (((List Item)×Int×Int×Circ×Unit)⊕((Unit)⊕(Bool×Unit))):=fun (v,v12,v13,c,_)=>
 bif decide (v13<v12) then match getI v v13 with|some x =>(match qbk x.Branch c.Moves x.ID with|some (r14,r15,r16) =>let k (v17:Bool):Option (((List Item)×Int×Int×Circ×Unit)⊕((Unit)⊕(Bool×Unit))):=bif v17 then some (.inr (.inr (false,()))) else some (.inl (v,v12,wr .i64 (v13+1),c,()));bif !(r16==0) then k true else k (!(zck r14 x.Custody))|none =>none)|none =>none else some (.inr (.inl (())))
def qr (c:Circ):Option Bool:=
 let k (v:Bool):Option Bool:=bif v then some false else match zah zaub (c.Items,(c.Items.length:Int),0,c,()) with|some (.inl (c7,_)) =>(match zah zaeg (c7.Moves,(c7.Moves.length:Int),0,c7,()) with|some (.inl (c11,_)) =>(match zah zaeh (c11.Items,(c11.Items.length:Int),0,c11,()) with|some (.inl (_)) =>some true|some (.inr (v18,_)) =>some v18|none =>none)|some (.inr (v19,_)) =>some v19|none =>none)|some (.inr (v20,_)) =>some v20|none =>none;bif decide (64<(c.Items.length:Int)) then k true else k (decide (2000<(c.Moves.length:Int)))
def qbz (p:Patron):Option Int:=
 let k17 (v:Bool):Option Int:=let k16 (v1:Bool):Option Int:=let k15 (v2:Bool):Option Int:=let k14 (v13:Int):Option Int:=some v13;bif v2 then k14 1 else let k12 (v3:Bool):Option Int:=bif v3 then k14 2 else let k10 (v5:Bool):Option Int:=let k (v8:Bool):Option Int:=bif v8 then k14 3 else bif decide (200<(p.Name.length:Int)) then k14 4 else some 0;bif v5 then k true else match qd3 p.Name with|some r7 =>k (!(r7==p.Name))|none =>none;bif p.Name==([]) then k10 true else match qc8 p.Name with|some r4 =>k10 (!r4)|none =>none;bif decide (p.Until<0) then k12 true else k12 (decide (109572<p.Until));bif v1 then k15 true else k15 (decide (4<p.Branch));bif v then k16 true else k16 (decide (p.Branch<1));bif decide (p.Kind<1) then k17 true else k17 (decide (9<p.Kind))
def zadk:(Int×(List Patron)×Int×Int×Unit)→Option ((Int×(List Patron)×Int×Int×Unit)⊕((Unit)⊕(Int×Unit))):=fun (last,v,v1,v2,_)=>
 bif decide (v2<v1) then match getI v v2 with|some x =>let k6 (v3:Bool):Option ((Int×(List Patron)×Int×Int×Unit)⊕((Unit)⊕(Int×Unit))):=let k (v4:Int):Option ((Int×(List Patron)×Int×Int×Unit)⊕((Unit)⊕(Int×Unit))):=some (.inr (.inr (v4,())));bif v3 then k 2 else bif decide (x.ID≤last) then k 7 else match qbz x with|some r5 =>bif !(r5==0) then some (.inr (.inr (r5,()))) else some (.inl (x.ID,v,v1,wr .i64 (v2+1),()))|none =>none;bif decide (x.ID<1) then k6 true else k6 (decide (9999<x.ID))|none =>none else some (.inr (.inl (())))
def qa3 (l:List Patron):Option Int:=
 bif decide (32<(l.length:Int)) then some 13 else match zah zadk (0,l,(l.length:Int),0,()) with|some (.inl (_)) =>some 0|some (.inr (v,_)) =>some v|none =>none
def qes (n:Int):Option Bool:=
 let k (v:Bool):Option Bool:=some v;bif decide (1≤n) then k (decide (n≤9999)) else k false
def qeo (n:Int):Option Bool:=
 let k (v:Bool):Option Bool:=some v;bif decide (0≤n) then k (decide (n≤109572)) else k false
def zadm:((List Loan)×(List Loan)×Int×Int×Unit)→Option (((List Loan)×(List Loan)×Int×Int×Unit)⊕((Unit)⊕(Int×Unit))):=fun (l,v,v1,v2,_)=>
 bif decide (v2<v1) then match getI v v2 with|some x =>let k25 (v4:Bool):Option (((List Loan)×(List Loan)×Int×Int×Unit)⊕((Unit)⊕(Int×Unit))):=let k24 (v23:Int):Option (((List Loan)×(List Loan)×Int×Int×Unit)⊕((Unit)⊕(Int×Unit))):=some (.inr (.inr (v23,())));bif v4 then k24 7 else match qes x.Item with|some r5 =>(let k22 (v8:Bool):Option (((List Loan)×(List Loan)×Int×Int×Unit)⊕((Unit)⊕(Int×Unit))):=let k21 (v11:Bool):Option (((List Loan)×(List Loan)×Int×Int×Unit)⊕((Unit)⊕(Int×Unit))):=let k20 (v14:Bool):Option (((List Loan)×(List Loan)×Int×Int×Unit)⊕((Unit)⊕(Int×Unit))):=let k19 (v15:Bool):Option (((List Loan)×(List Loan)×Int×Int×Unit)⊕((Unit)⊕(Int×Unit))):=let k18 (v16:Bool):Option (((List Loan)×(List Loan)×Int×Int×Unit)⊕((Unit)⊕(Int×Unit))):=let k (v17:Bool):Option (((List Loan)×(List Loan)×Int×Int×Unit)⊕((Unit)⊕(Int×Unit))):=bif v17 then k24 2 else some (.inl (l,v,v1,wr .i64 (v2+1),()));bif v16 then k true else k (decide (10<x.Renewals));bif v15 then k18 true else k18 (decide (x.Renewals<0));bif v14 then k19 true else k19 (decide (x.Due<x.Out));bif v11 then k20 true else match qeo x.Due with|some r13 =>k20 (!r13)|none =>none;bif v8 then k21 true else match qeo x.Out with|some r10 =>k21 (!r10)|none =>none;bif !r5 then k22 true else match qes x.Patron with|some r7 =>k22 (!r7)|none =>none)|none =>none;bif decide (0<v2) then match getI l (wr .i64 (v2-1)) with|some x3 =>k25 (decide (x.Item≤x3.Item))|none =>none else k25 false|none =>none else some (.inr (.inl (())))
def qa6 (l:List Loan):Option Int:=
 bif decide (64<(l.length:Int)) then some 13 else match zah zadm (l,l,(l.length:Int),0,()) with|some (.inl (_)) =>some 0|some (.inr (v,_)) =>some v|none =>none
def qb2 (n:Int) (low:Int) (high:Int):Option Bool:=
 let k (v:Bool):Option Bool:=some v;bif decide (low≤n) then k (decide (n≤high)) else k false
def qel (n:Int):Option Bool:=
 match qb2 n 0 109572 with|some r1 =>some r1|none =>none
def qe1 (h:Hold):Option Int:=
 match qb2 h.ID 1 99999 with|some r1 =>(let k41 (v:Bool):Option Int:=let k40 (v6:Bool):Option Int:=let k39 (v9:Bool):Option Int:=let k38 (v37:Int):Option Int:=some v37;bif v9 then k38 2 else match qb2 h.Pickup 1 4 with|some r11 =>(let k36 (v14:Bool):Option Int:=let k35 (v17:Bool):Option Int:=let k34 (v20:Bool):Option Int:=let k33 (v23:Bool):Option Int:=let k32 (v26:Bool):Option Int:=bif v26 then k38 2 else match qb2 h.State 1 3 with|some r28 =>bif !r28 then k38 1 else let k (v29:Bool):Option Int:=bif v29 then k38 12 else some 0;bif !((decide (0<h.Got))==(!(h.State==1))) then k true else k (!((decide (0<h.Until))==(h.State==3)))|none =>none;bif v23 then k32 true else match qb2 h.Rank 0 9 with|some r25 =>k32 (!r25)|none =>none;bif v20 then k33 true else match qel h.Asleep with|some r22 =>k33 (!r22)|none =>none;bif v17 then k34 true else match qel h.Until with|some r19 =>k34 (!r19)|none =>none;bif v14 then k35 true else match qb2 h.Got 0 9999 with|some r16 =>k35 (!r16)|none =>none;bif !r11 then k36 true else match qel h.Placed with|some r13 =>k36 (!r13)|none =>none)|none =>none;bif v6 then k39 true else match qb2 h.Item 0 9999 with|some r8 =>k39 (!r8)|none =>none;bif v then k40 true else match qb2 h.Record 1 9999 with|some r5 =>k40 (!r5)|none =>none;bif !r1 then k41 true else match qb2 h.Patron 1 9999 with|some r3 =>k41 (!r3)|none =>none)|none =>none
def qca (a:Hold) (b:Hold):Option Bool:=
 let k (v:Bool):Option Bool:=some v;bif a.Patron==b.Patron then k (a.Record==b.Record) else k false
def zame {γ0:Type} (p:γ0→Hold→Hold→Option Bool):((List Hold)×γ0×Int×Int×Int×Int×Int×Unit)→Option (((List Hold)×γ0×Int×Int×Int×Int×Int×Unit)⊕(((List Hold)×γ0×Int×Int×Unit)⊕(Bool×Unit))):=fun (l,g,i,v,v2,v3,v4,_)=>
 bif decide (v4<v3) then match getI l v4 with|some x =>(match getI l i with|some x5 =>(match p g x x5 with|some r =>bif r then some (.inr (.inr (true,()))) else some (.inl (l,g,i,v,v2,v3,wr .i64 (v4+1),()))|none =>none)|none =>none)|none =>none else some (.inr (.inl (l,g,v,v2,())))
def zamd {γ0:Type} (p:γ0→Hold→Hold→Option Bool):((List Hold)×γ0×Int×Int×Unit)→Option (((List Hold)×γ0×Int×Int×Unit)⊕((Unit)⊕(Bool×Unit))):=fun (l,g,v,v1,_)=>
 bif decide (v1<v) then match zah (zame p) (l,g,v1,v,v1,v1,0,()) with|some (.inl (l6,g7,v8,v9,_)) =>some (.inl (l6,g7,v8,wr .i64 (v9+1),()))|some (.inr (v10,_)) =>some (.inr (.inr (v10,())))|none =>none else some (.inr (.inl (())))
def qd {γ0:Type} (p:γ0→Hold→Hold→Option Bool) (l:List Hold) (g:γ0):Option Bool:=
 match zah (zamd p) (l,g,(l.length:Int),0,()) with|some (.inl (_)) =>some false|some (.inr (v,_)) =>some v|none =>none
def qdh (a:Hold) (b:Hold):Option Bool:=
 let k (v:Bool):Option Bool:=some v;bif a.Got==b.Got then k (decide (0<a.Got)) else k false
def zat4:((List Hold)×(List Hold)×Int×Int×Unit)→Option (((List Hold)×(List Hold)×Int×Int×Unit)⊕(((List Hold)×Unit)⊕(Int×Unit))):=fun (l,v,v1,v2,_)=>
 bif decide (v2<v1) then match getI v v2 with|some x =>let k (v4:Bool):Option (((List Hold)×(List Hold)×Int×Int×Unit)⊕(((List Hold)×Unit)⊕(Int×Unit))):=bif v4 then some (.inr (.inr (7,()))) else match qe1 x with|some r5 =>bif !(r5==0) then some (.inr (.inr (r5,()))) else some (.inl (l,v,v1,wr .i64 (v2+1),()))|none =>none;bif decide (0<v2) then match getI l (wr .i64 (v2-1)) with|some x3 =>k (decide (x.ID≤x3.ID))|none =>none else k false|none =>none else some (.inr (.inl (l,())))
def qk (l:List Hold):Option Int:=
 bif decide (64<(l.length:Int)) then some 13 else match zah zat4 (l,l,(l.length:Int),0,()) with|some (.inl (l6,_)) =>(match qd (fun g x0 x1=>qca x0 x1) l6 ((),()) with|some r7 =>(bif r7 then some 7 else match qd (fun g x0 x1=>qdh x0 x1) l6 ((),()) with|some r9 =>bif r9 then some 7 else some 0|none =>none)|none =>none)|some (.inr (v,_)) =>some v|none =>none
def qey (n:Int):Option Bool:=
 let k (v:Bool):Option Bool:=some v;bif decide (1≤n) then k (decide (n≤9999)) else k false
def qd5 (n:Int):Option Bool:=
 let k (v:Bool):Option Bool:=some v;bif decide (0≤n) then k (decide (n≤109572)) else k false
def qb4 (x:Charge):Option Int:=
 let k22 (v:Bool):Option Int:=let k21 (v2:Bool):Option Int:=let k20 (v5:Bool):Option Int:=let k19 (v8:Bool):Option Int:=let k18 (v17:Int):Option Int:=some v17;bif v8 then k18 2 else let k16 (v9:Bool):Option Int:=bif v9 then k18 1 else let k14 (v10:Bool):Option Int:=let k13 (v11:Bool):Option Int:=let k (v12:Bool):Option Int:=bif v12 then k18 2 else some 0;bif v11 then k true else k (decide (x.Amount≤x.Paid));bif v10 then k13 true else k13 (decide (x.Paid<0));bif decide (x.Amount<1) then k14 true else k14 (decide (100000000<x.Amount));bif decide (x.Kind<1) then k16 true else k16 (decide (3<x.Kind));bif v5 then k19 true else match qd5 x.Day with|some r7 =>k19 (!r7)|none =>none;bif v2 then k20 true else match qey x.Item with|some r4 =>k20 (!r4)|none =>none;bif v then k21 true else match qey x.Patron with|some r1 =>k21 (!r1)|none =>none;bif decide (x.ID<1) then k22 true else k22 (decide (99999<x.ID))
def zadn:((List Charge)×(List Charge)×Int×Int×Unit)→Option (((List Charge)×(List Charge)×Int×Int×Unit)⊕((Unit)⊕(Int×Unit))):=fun (l,v,v1,v2,_)=>
 bif decide (v2<v1) then match getI v v2 with|some x =>let k (v4:Bool):Option (((List Charge)×(List Charge)×Int×Int×Unit)⊕((Unit)⊕(Int×Unit))):=bif v4 then some (.inr (.inr (7,()))) else match qb4 x with|some r5 =>bif !(r5==0) then some (.inr (.inr (r5,()))) else some (.inl (l,v,v1,wr .i64 (v2+1),()))|none =>none;bif decide (0<v2) then match getI l (wr .i64 (v2-1)) with|some x3 =>k (decide (x.ID≤x3.ID))|none =>none else k false|none =>none else some (.inr (.inl (())))
def qa7 (l:List Charge):Option Int:=
 bif decide (128<(l.length:Int)) then some 13 else match zah zadn (l,l,(l.length:Int),0,()) with|some (.inl (_)) =>some 0|some (.inr (v,_)) =>some v|none =>none
def qbt (n:Int) (least:Int) (most:Int):Option Bool:=
 let k (v:Bool):Option Bool:=some v;bif decide (least≤n) then k (decide (n≤most)) else k false
def qew (r:Rule):Option Bool:=
 match qbt r.Patron 0 9 with|some r2 =>let k48 (v:Bool):Option Bool:=let k47 (v7:Bool):Option Bool:=let k46 (v10:Bool):Option Bool:=let k45 (v13:Bool):Option Bool:=let k44 (v16:Bool):Option Bool:=let k43 (v19:Bool):Option Bool:=let k42 (v22:Bool):Option Bool:=let k41 (v25:Bool):Option Bool:=let k40 (v28:Bool):Option Bool:=let k39 (v31:Bool):Option Bool:=let k38 (v34:Bool):Option Bool:=let k (v37:Bool):Option Bool:=some v37;bif v34 then match qbt r.Rank 0 9 with|some r36 =>k r36|none =>none else k false;bif v31 then match qbt r.Fixed 0 109572 with|some r33 =>k38 r33|none =>none else k38 false;bif v28 then match qbt r.Recall 1 60 with|some r30 =>k39 r30|none =>none else k39 false;bif v25 then match qbt r.Shelf 1 60 with|some r27 =>k40 r27|none =>none else k40 false;bif v22 then match qbt r.Loans 0 99 with|some r24 =>k41 r24|none =>none else k41 false;bif v19 then match qbt r.MaxFine 0 100000000 with|some r21 =>k42 r21|none =>none else k42 false;bif v16 then match qbt r.Grace 0 30 with|some r18 =>k43 r18|none =>none else k43 false;bif v13 then match qbt r.Fine 0 1000 with|some r15 =>k44 r15|none =>none else k44 false;bif v10 then match qbt r.Renewals 0 10 with|some r12 =>k45 r12|none =>none else k45 false;bif v7 then match qbt r.Days 0 365 with|some r9 =>k46 r9|none =>none else k46 false;bif v then match qbt r.Branch 0 4 with|some r6 =>k47 r6|none =>none else k47 false;bif r2 then match qbt r.Item 0 9 with|some r4 =>k48 r4|none =>none else k48 false|none =>none
def qcf (o:Rule) (v:Rule):Option Bool:=
 let k3 (v1:Bool):Option Bool:=let k (v2:Bool):Option Bool:=some v2;bif v1 then k (o.Branch==v.Branch) else k false;bif o.Patron==v.Patron then k3 (o.Item==v.Item) else k3 false
def zady {γ0:Type} (p:γ0→Rule→Option Bool):((List Rule)×γ0×Int×Int×Unit)→Option (((List Rule)×γ0×Int×Int×Unit)⊕((Unit)⊕(Int×Unit))):=fun (s,g,v,v1,_)=>
 bif decide (v1<v) then match getI s v1 with|some x =>(match p g x with|some r =>bif r then some (.inr (.inr (v1,()))) else some (.inl (s,g,v,wr .i64 (v1+1),()))|none =>none)|none =>none else some (.inr (.inl (())))
def qaz {γ0:Type} (p:γ0→Rule→Option Bool) (s:List Rule) (g:γ0):Option Int:=
 match zah (zady p) (s,g,(s.length:Int),0,()) with|some (.inl (_)) =>some (-1)|some (.inr (v,_)) =>some v|none =>none
def qet {γ0:Type} (p:γ0→Rule→Option Bool) (s:List Rule) (g:γ0):Option Bool:=
 match qaz p s g with|some r1 =>some (decide (0≤r1))|none =>none
def zaud:((List Rule)×(List Rule)×Int×Int×Unit)→Option (((List Rule)×(List Rule)×Int×Int×Unit)⊕((Unit)⊕(Int×Unit))):=fun (l,v,v1,v2,_)=>
 bif decide (v2<v1) then match getI v v2 with|some x =>(match qew x with|some r3 =>bif !r3 then some (.inr (.inr (2,()))) else bif decide (0≤(0:Int))&&(decide ((0:Int)≤v2)&&decide (v2≤(l.length:Int))) then match qet (fun g x0=>qcf x0 g.2.1) ((l.take v2.toNat).drop (0:Int).toNat) ((),(x,())) with|some r5 =>bif r5 then some (.inr (.inr (7,()))) else some (.inl (l,v,v1,wr .i64 (v2+1),()))|none =>none else none|none =>none)|none =>none else some (.inr (.inl (())))
def qv (l:List Rule):Option Int:=
 bif decide (32<(l.length:Int)) then some 13 else match zah zaud (l,l,(l.length:Int),0,()) with|some (.inl (_)) =>some 0|some (.inr (v,_)) =>some v|none =>none
def qc0 (d:Int):Option Bool:=
 let k (v:Bool):Option Bool:=some v;bif decide (0≤d) then k (decide (d≤109572)) else k false
def qcx (d:Int):Option Bool:=
 match qc0 d with|some r1 =>some (!r1)|none =>none
def zadi {γ0:Type} (p:γ0→Int→Option Bool):((List Int)×γ0×Int×Int×Unit)→Option (((List Int)×γ0×Int×Int×Unit)⊕((Unit)⊕(Int×Unit))):=fun (s,g,v,v1,_)=>
 bif decide (v1<v) then match getI s v1 with|some x =>(match p g x with|some r =>bif r then some (.inr (.inr (v1,()))) else some (.inl (s,g,v,wr .i64 (v1+1),()))|none =>none)|none =>none else some (.inr (.inl (())))
def qa0 {γ0:Type} (p:γ0→Int→Option Bool) (s:List Int) (g:γ0):Option Int:=
 match zah (zadi p) (s,g,(s.length:Int),0,()) with|some (.inl (_)) =>some (-1)|some (.inr (v,_)) =>some v|none =>none
def qeu {γ0:Type} (p:γ0→Int→Option Bool) (s:List Int) (g:γ0):Option Bool:=
 match qa0 p s g with|some r1 =>some (decide (0≤r1))|none =>none
def zauc:((List Int)×Int×Int×Calendar×Unit)→Option (((List Int)×Int×Int×Calendar×Unit)⊕((Unit)⊕(Int×Unit))):=fun (v,v4,v5,c,_)=>
 bif decide (v5<v4) then match getI v v5 with|some x =>let k (v7:Bool):Option (((List Int)×Int×Int×Calendar×Unit)⊕((Unit)⊕(Int×Unit))):=bif v7 then some (.inr (.inr (7,()))) else some (.inl (v,v4,wr .i64 (v5+1),c,()));bif decide (0<v5) then match getI c.Closed (wr .i64 (v5-1)) with|some x6 =>k (decide (x≤x6))|none =>none else k false|none =>none else some (.inr (.inl (())))
def qu (c:Calendar):Option Int:=
 let k9 (v:Bool):Option Int:=let k (v3:Int):Option Int:=some v3;bif v then k 1 else bif decide (64<(c.Closed.length:Int)) then k 13 else match qeu (fun g x0=>qcx x0) c.Closed ((),()) with|some r1 =>(bif r1 then k 2 else match zah zauc (c.Closed,(c.Closed.length:Int),0,c,()) with|some (.inl (_)) =>some 0|some (.inr (v8,_)) =>some v8|none =>none)|none =>none;bif decide (c.Week<0) then k9 true else k9 (decide (127≤c.Week))
def zaua:((V4 Calendar)×Int×Circ×Unit)→Option (((V4 Calendar)×Int×Circ×Unit)⊕((Circ×Unit)⊕(Bool×Unit))):=fun (v,v13,c,_)=>
 bif decide (v13<4) then let k (v14:Int) (v15:List Int):Option (((V4 Calendar)×Int×Circ×Unit)⊕((Circ×Unit)⊕(Bool×Unit))):=match qu (⟨v14,v15⟩:Calendar) with|some r16 =>bif !(r16==0) then some (.inr (.inr (false,()))) else some (.inl (v,wr .i64 (v13+1),c,()))|none =>none;bif v13==0 then k v.x0.Week v.x0.Closed else bif v13==1 then k v.x1.Week v.x1.Closed else bif v13==2 then k v.x2.Week v.x2.Closed else bif v13==3 then k v.x3.Week v.x3.Closed else none else some (.inr (.inl (c,())))
def zaee:((List Hold)×Int×Int×Circ×Unit)→Option (((List Hold)×Int×Int×Circ×Unit)⊕((Circ×Unit)⊕(Bool×Unit))):=fun (v,v23,v24,c,_)=>
 bif decide (v24<v23) then match getI v v24 with|some x =>bif decide (c.NextHold≤x.ID) then some (.inr (.inr (false,()))) else some (.inl (v,v23,wr .i64 (v24+1),c,()))|none =>none else some (.inr (.inl (c,())))
def zaef:((List Charge)×Int×Int×Circ×Unit)→Option (((List Charge)×Int×Int×Circ×Unit)⊕((Unit)⊕(Bool×Unit))):=fun (v,v26,v27,c,_)=>
 bif decide (v27<v26) then match getI v v27 with|some x =>bif decide (c.NextCharge≤x.ID) then some (.inr (.inr (false,()))) else some (.inl (v,v26,wr .i64 (v27+1),c,()))|none =>none else some (.inr (.inl (())))
def qq (c:Circ):Option Bool:=
 match qa3 c.Patrons with|some r1 =>(let k34 (v:Bool):Option Bool:=let k33 (v6:Bool):Option Bool:=let k32 (v9:Bool):Option Bool:=let k31 (v12:Bool):Option Bool:=bif v12 then some false else match zah zaua (c.Cals,0,c,()) with|some (.inl (c17,_)) =>(match qb3 c17.NextHold 1 100000 with|some r19 =>(let k (v22:Bool):Option Bool:=bif v22 then some false else match zah zaee (c17.Holds,(c17.Holds.length:Int),0,c17,()) with|some (.inl (c25,_)) =>(match zah zaef (c25.Charges,(c25.Charges.length:Int),0,c25,()) with|some (.inl (_)) =>some true|some (.inr (v28,_)) =>some v28|none =>none)|some (.inr (v29,_)) =>some v29|none =>none;bif !r19 then k true else match qb3 c17.NextCharge 1 100000 with|some r21 =>k (!r21)|none =>none)|none =>none)|some (.inr (v30,_)) =>some v30|none =>none;bif v9 then k31 true else match qv c.Rules with|some r11 =>k31 (!(r11==0))|none =>none;bif v6 then k32 true else match qa7 c.Charges with|some r8 =>k32 (!(r8==0))|none =>none;bif v then k33 true else match qk c.Holds with|some r5 =>k33 (!(r5==0))|none =>none;bif !(r1==0) then k34 true else match qa6 c.Loans with|some r3 =>k34 (!(r3==0))|none =>none)|none =>none
def qcz (p:Patron) (v:Int):Option Bool:=
 some (p.ID==v)
def zamg {γ0:Type} (p:γ0→Patron→Option Bool):((List Patron)×γ0×Int×Int×Unit)→Option (((List Patron)×γ0×Int×Int×Unit)⊕((Unit)⊕(Int×Unit))):=fun (s,g,v,v1,_)=>
 bif decide (v1<v) then match getI s v1 with|some x =>(match p g x with|some r =>bif r then some (.inr (.inr (v1,()))) else some (.inl (s,g,v,wr .i64 (v1+1),()))|none =>none)|none =>none else some (.inr (.inl (())))
def qn {γ0:Type} (p:γ0→Patron→Option Bool) (s:List Patron) (g:γ0):Option Int:=
 match zah (zamg p) (s,g,(s.length:Int),0,()) with|some (.inl (_)) =>some (-1)|some (.inr (v,_)) =>some v|none =>none
def qbu (l:List Patron) (vid:Int):Option Int:=
 match qn (fun g x0=>qcz x0 g.2.1) l ((),(vid,())) with|some r1 =>some r1|none =>none
def qdj (l:List Patron) (vid:Int):Option (Patron×Bool):=
 match qbu l vid with|some r1 =>(bif decide (r1<0) then some ((⟨0,0,0,0,false,[]⟩:Patron),false) else match getI l r1 with|some x =>some (x,true)|none =>none)|none =>none
def qb5 (vid:Int) (v:Circ):Option Bool:=
 match qdj v.Patrons vid with|some (r1,r2) =>some r2|none =>none
def zatw:((List Loan)×Int×Int×Circ×Unit)→Option (((List Loan)×Int×Int×Circ×Unit)⊕((Circ×Unit)⊕(Bool×Unit))):=fun (v,v1,v2,c,_)=>
 bif decide (v2<v1) then match getI v v2 with|some x =>(match qb5 x.Patron c with|some r3 =>(let k (v6:Bool):Option (((List Loan)×Int×Int×Circ×Unit)⊕((Circ×Unit)⊕(Bool×Unit))):=bif v6 then some (.inr (.inr (false,()))) else some (.inl (v,v1,wr .i64 (v2+1),c,()));bif !r3 then k true else match qag c x.Item with|some r5 =>k (decide (r5<0))|none =>none)|none =>none)|none =>none else some (.inr (.inl (c,())))
def zatx:((List Hold)×Int×Int×Circ×Unit)→Option (((List Hold)×Int×Int×Circ×Unit)⊕((Circ×Unit)⊕(Bool×Unit))):=fun (v,v8,v9,c,_)=>
 bif decide (v9<v8) then match getI v v9 with|some x =>(match qb5 x.Patron c with|some r10 =>bif !r10 then some (.inr (.inr (false,()))) else some (.inl (v,v8,wr .i64 (v9+1),c,()))|none =>none)|none =>none else some (.inr (.inl (c,())))
def zaed:((List Charge)×Int×Int×Circ×Unit)→Option (((List Charge)×Int×Int×Circ×Unit)⊕((Unit)⊕(Bool×Unit))):=fun (v,v12,v13,c,_)=>
 bif decide (v13<v12) then match getI v v13 with|some x =>(match qb5 x.Patron c with|some r14 =>bif !r14 then some (.inr (.inr (false,()))) else some (.inl (v,v12,wr .i64 (v13+1),c,()))|none =>none)|none =>none else some (.inr (.inl (())))
def qf (c:Circ):Option Bool:=
 match zah zatw (c.Loans,(c.Loans.length:Int),0,c,()) with|some (.inl (c7,_)) =>(match zah zatx (c7.Holds,(c7.Holds.length:Int),0,c7,()) with|some (.inl (c11,_)) =>(match zah zaed (c11.Charges,(c11.Charges.length:Int),0,c11,()) with|some (.inl (_)) =>some true|some (.inr (v,_)) =>some v|none =>none)|some (.inr (v15,_)) =>some v15|none =>none)|some (.inr (v16,_)) =>some v16|none =>none
def qao (item:Int):Option (Int×Unit):=
 some (item,())
def qb7 (n:Loan) (v:Int):Option Bool:=
 some (n.Item==v)
def zamf {γ0:Type} (p:γ0→Loan→Option Bool):((List Loan)×γ0×Int×Int×Unit)→Option (((List Loan)×γ0×Int×Int×Unit)⊕((Unit)⊕(Int×Unit))):=fun (s,g,v,v1,_)=>
 bif decide (v1<v) then match getI s v1 with|some x =>(match p g x with|some r =>bif r then some (.inr (.inr (v1,()))) else some (.inl (s,g,v,wr .i64 (v1+1),()))|none =>none)|none =>none else some (.inr (.inl (())))
def qi {γ0:Type} (p:γ0→Loan→Option Bool) (s:List Loan) (g:γ0):Option Int:=
 match zah (zamf p) (s,g,(s.length:Int),0,()) with|some (.inl (_)) =>some (-1)|some (.inr (v,_)) =>some v|none =>none
def qby {γ0:Type} (p:γ0→Loan→Option Bool) (l:List Loan) (g:γ0):Option (Loan×Int):=
 match qi p l g with|some r1 =>(bif decide (r1<0) then some ((⟨0,0,0,0,0,false⟩:Loan),(-1)) else match getI l r1 with|some x =>some (x,r1)|none =>none)|none =>none
def qd6 (l:List Loan) (item:Int):Option (Loan×Bool):=
 match qao item with|some r1 =>(match qby (fun g x0=>qb7 x0 g.2.1) l ((),(r1.1,())) with|some (r3,r4) =>some (r3,decide (0≤r4))|none =>none)|none =>none
def zad6:((List Item)×Int×Int×Circ×Unit)→Option (((List Item)×Int×Int×Circ×Unit)⊕((Unit)⊕(Bool×Unit))):=fun (v,v1,v2,c,_)=>
 bif decide (v2<v1) then match getI v v2 with|some x =>(match qd6 c.Loans x.ID with|some (r3,r4) =>let k10 (v5:Bool):Option (((List Item)×Int×Int×Circ×Unit)⊕((Unit)⊕(Bool×Unit))):=let k9 (v6:Bool):Option (((List Item)×Int×Int×Circ×Unit)⊕((Unit)⊕(Bool×Unit))):=let k (v8:Bool):Option (((List Item)×Int×Int×Circ×Unit)⊕((Unit)⊕(Bool×Unit))):=bif v8 then some (.inr (.inr (false,()))) else some (.inl (v,v1,wr .i64 (v2+1),c,()));bif !(r4==v6) then k true else bif r4 then k (!(r3.Patron==x.Custody.Who)) else k false;bif v5 then k9 true else k9 (x.Custody.State==10);bif x.Custody.State==4 then k10 true else k10 (x.Custody.State==9)|none =>none)|none =>none else some (.inr (.inl (())))
def qbl (c:Circ):Option Bool:=
 match zah zad6 (c.Items,(c.Items.length:Int),0,c,()) with|some (.inl (_)) =>some true|some (.inr (v,_)) =>some v|none =>none
def qcq (h:Hold) (v:Int):Option Bool:=
 some (h.Got==v)
def zqr {γ0:Type} (p:γ0→Hold→Option Bool):((List Hold)×γ0×Int×Int×Unit)→Option (((List Hold)×γ0×Int×Int×Unit)⊕((Unit)⊕(Int×Unit))):=fun (s,g,v,v1,_)=>
 bif decide (v1<v) then match getI s v1 with|some x =>(match p g x with|some r =>bif r then some (.inr (.inr (v1,()))) else some (.inl (s,g,v,wr .i64 (v1+1),()))|none =>none)|none =>none else some (.inr (.inl (())))
def qb {γ0:Type} (p:γ0→Hold→Option Bool) (s:List Hold) (g:γ0):Option Int:=
 match zah (zqr p) (s,g,(s.length:Int),0,()) with|some (.inl (_)) =>some (-1)|some (.inr (v,_)) =>some v|none =>none
def qa5 (c:Circ) (item:Int):Option (Hold×Bool):=
 match qb (fun g x0=>qcq x0 g.2.1) c.Holds ((),(item,())) with|some r1 =>(bif decide (r1<0) then some ((⟨0,0,0,0,0,0,0,0,0,0,0⟩:Hold),false) else match getI c.Holds r1 with|some x =>some (x,true)|none =>none)|none =>none
def zas8:((List Hold)×Int×Int×Circ×Unit)→Option (((List Hold)×Int×Int×Circ×Unit)⊕((Circ×Unit)⊕(Bool×Unit))):=fun (v,v1,v2,c,_)=>
 bif decide (v2<v1) then match getI v v2 with|some x =>(bif x.State==1 then some (.inl (v,v1,wr .i64 (v2+1),c,())) else match qag c x.Got with|some r3 =>(let k9 (v5:Bool):Option (((List Hold)×Int×Int×Circ×Unit)⊕((Circ×Unit)⊕(Bool×Unit))):=bif v5 then some (.inr (.inr (false,()))) else match getI c.Items r3 with|some x6 =>let k (want:Int) (want7:Int) (want8:Int):Option (((List Hold)×Int×Int×Circ×Unit)⊕((Circ×Unit)⊕(Bool×Unit))):=bif !(zck x6.Custody (⟨want,want7,x.Patron,want8⟩:Custody)) then some (.inr (.inr (false,()))) else some (.inl (v,v1,wr .i64 (v2+1),c,()));bif x.State==2 then k 6 x6.Custody.Branch x.Pickup else k 5 x.Pickup 0|none =>none;bif decide (r3<0) then k9 true else match getI c.Items r3 with|some x4 =>k9 (!(x4.Record==x.Record))|none =>none)|none =>none)|none =>none else some (.inr (.inl (c,())))
def zadh:((List Item)×Int×Int×Circ×Unit)→Option (((List Item)×Int×Int×Circ×Unit)⊕((Unit)⊕(Bool×Unit))):=fun (v,v11,v12,c,_)=>
 bif decide (v12<v11) then match getI v v12 with|some x =>(match qa5 c x.ID with|some (r13,r14) =>let k (v16:Bool):Option (((List Item)×Int×Int×Circ×Unit)⊕((Unit)⊕(Bool×Unit))):=bif v16 then some (.inr (.inr (false,()))) else some (.inl (v,v11,wr .i64 (v12+1),c,()));bif x.Custody.State==5 then bif !r14 then k true else k (!(r13.State==3)) else k false|none =>none)|none =>none else some (.inr (.inl (())))
def q9 (c:Circ):Option Bool:=
 match zah zas8 (c.Holds,(c.Holds.length:Int),0,c,()) with|some (.inl (c10,_)) =>(match zah zadh (c10.Items,(c10.Items.length:Int),0,c10,()) with|some (.inl (_)) =>some true|some (.inr (v,_)) =>some v|none =>none)|some (.inr (v17,_)) =>some v17|none =>none
def qfe (c:Circ):Option Bool:=
 match qb3 c.Today 0 109572 with|some r1 =>let k19 (v:Bool):Option Bool:=let k18 (v6:Bool):Option Bool:=let k17 (v9:Bool):Option Bool:=let k16 (v12:Bool):Option Bool:=let k (v15:Bool):Option Bool:=some v15;bif v12 then match q9 c with|some r14 =>k r14|none =>none else k false;bif v9 then match qbl c with|some r11 =>k16 r11|none =>none else k16 false;bif v6 then match qf c with|some r8 =>k17 r8|none =>none else k17 false;bif v then match qq c with|some r5 =>k18 r5|none =>none else k18 false;bif r1 then match qr c with|some r3 =>k19 r3|none =>none else k19 false|none =>none
def q8 (c:Circ) (x:Item):Option (Circ×Int):=
 match qag c x.ID with|some r1 =>(bif decide (0≤r1) then some ((⟨0,[],[],[],[],[],[],⟨⟨0,[]⟩,⟨0,[]⟩,⟨0,[]⟩,⟨0,[]⟩⟩,[],0,0,false⟩:Circ),7) else bif decide (64≤(c.Items.length:Int)) then some ((⟨0,[],[],[],[],[],[],⟨⟨0,[]⟩,⟨0,[]⟩,⟨0,[]⟩,⟨0,[]⟩⟩,[],0,0,false⟩:Circ),13) else match qdy x.Branch with|some r3 =>(match qc (fun g x0=>qcp x0 g.2.1) c.Items ((),(x,())) with|some r5 =>let k (i:Int):Option (Circ×Int):=match qce c.Items with|some l =>(match qdt l i ([(⟨x.ID,x.Record,x.Branch,x.Kind,x.Price,x.Call,r3⟩:Item)]) with|some l8 =>(match qfe (⟨c.Today,l8,c.Patrons,c.Loans,c.Holds,c.Charges,c.Rules,c.Cals,c.Moves,c.NextHold,c.NextCharge,c.Local⟩:Circ) with|some r10 =>bif !r10 then some ((⟨0,[],[],[],[],[],[],⟨⟨0,[]⟩,⟨0,[]⟩,⟨0,[]⟩,⟨0,[]⟩⟩,[],0,0,false⟩:Circ),1) else some ((⟨c.Today,l8,c.Patrons,c.Loans,c.Holds,c.Charges,c.Rules,c.Cals,c.Moves,c.NextHold,c.NextCharge,c.Local⟩:Circ),0)|none =>none)|none =>none)|none =>none;bif decide (r5<0) then k (c.Items.length:Int) else k r5|none =>none)|none =>none)|none =>none
def qc3 (x:Patron) (v:Patron):Option Bool:=
 some (decide (v.ID<x.ID))
def qdr (s:List Patron):Option (List Patron):=
 bif decide (([]:List Patron).length+s.length≤LIM) then some (([])++s) else none
def qdw (l:List Patron):Option ((List Patron)×Int):=
 match qa3 l with|some r1 =>bif !(r1==0) then some ([],r1) else some (l,0)|none =>none
def qbw (l:List Patron) (p:Patron):Option ((List Patron)×Int):=
 match qbu l p.ID with|some r1 =>(bif decide (0≤r1) then some ([],7) else match qn (fun g x0=>qc3 x0 g.2.1) l ((),(p,())) with|some r3 =>let k (i:Int):Option ((List Patron)×Int):=match qdr l with|some l5 =>(match qdq l5 i ([p]) with|some l7 =>(match qdw l7 with|some (r9,r10) =>some (r9,r10)|none =>none)|none =>none)|none =>none;bif decide (r3<0) then k (l.length:Int) else k r3|none =>none)|none =>none
def qdf (c:Circ) (p:Patron):Option (Circ×Int):=
 match qbw c.Patrons p with|some (r1,r2) =>bif !(r2==0) then some ((⟨0,[],[],[],[],[],[],⟨⟨0,[]⟩,⟨0,[]⟩,⟨0,[]⟩,⟨0,[]⟩⟩,[],0,0,false⟩:Circ),r2) else some ((⟨c.Today,c.Items,r1,c.Loans,c.Holds,c.Charges,c.Rules,c.Cals,c.Moves,c.NextHold,c.NextCharge,c.Local⟩:Circ),0)|none =>none
def qc4:Option Circ:=
 match qd7 100 with|some r1 =>(match q8 (⟨r1.Today,r1.Items,r1.Patrons,r1.Loans,r1.Holds,r1.Charges,[(⟨0,0,0,14,1,10,0,500,2,5,7,0,0⟩:Rule)],r1.Cals,r1.Moves,r1.NextHold,r1.NextCharge,r1.Local⟩:Circ) (⟨1,5,1,1,2000,[],⟨0,0,0,0⟩⟩:Item) with|some (r3,r4) =>(match qdf r3 (⟨7,1,1,5000,false,[65,110,110]⟩:Patron) with|some (r6,r7) =>(match qdf r6 (⟨8,1,1,5000,false,[66,111,98]⟩:Patron) with|some (r9,r10) =>some r9|none =>none)|none =>none)|none =>none)|none =>none
def qcb (c:Circ):Option Circ_desk:=
 some (⟨c,0⟩:Circ_desk)
def qs (e:Int) (d:Circ_desk):Option (Unit×Circ_desk):=
 let k (v:Int):Option (Unit×Circ_desk):=some ((),(⟨d.c,v⟩:Circ_desk));bif d.err==0 then k e else k d.err
def qcn (vid:Int) (d:Circ_desk):Option (Int×Circ_desk):=
 match qag d.c vid with|some r1 =>let k (v3:Circ_desk):Option (Int×Circ_desk):=some (r1,v3);bif decide (r1<0) then match qs 9 d with|some (_,v) =>k v|none =>none else k d|none =>none
def qdc (s:List Move):Option (List Move):=
 bif decide (([]:List Move).length+s.length≤LIM) then some (([])++s) else none
def qbb (i:Int) (kind:Int) (branch:Int) (who:Int) (d:Circ_desk):Option (Unit×Circ_desk):=
 bif !(d.err==0) then some ((),d) else match getI d.c.Items i with|some x =>(match getI d.c.Items i with|some x1 =>(match qdz x1.Custody (⟨d.c.Today,x.ID,kind,branch,who⟩:Move) with|some (r2,r3) =>let k10 (v:Bool):Option (Unit×Circ_desk):=let k (e:Int):Option (Unit×Circ_desk):=bif !(e==0) then match qs e d with|some (_,v5) =>some ((),v5)|none =>none else match qce d.c.Items with|some l =>(match getI l i with|some _ =>(match l[i.toNat]? with|some x7 =>(match qdc d.c.Moves with|some l9 =>bif decide (l9.length+([(⟨d.c.Today,x.ID,kind,branch,who⟩:Move)]:List Move).length≤LIM) then some ((),(⟨⟨d.c.Today,l.set i.toNat (⟨x7.ID,x7.Record,x7.Branch,x7.Kind,x7.Price,x7.Call,r2⟩:Item),d.c.Patrons,d.c.Loans,d.c.Holds,d.c.Charges,d.c.Rules,d.c.Cals,l9++([(⟨d.c.Today,x.ID,kind,branch,who⟩:Move)]:List Move),d.c.NextHold,d.c.NextCharge,d.c.Local⟩,d.err⟩:Circ_desk)) else none|none =>none)|none =>none)|none =>none)|none =>none;bif v then k 13 else k r3;bif r3==0 then k10 (decide (2000≤(d.c.Moves.length:Int))) else k10 false|none =>none)|none =>none)|none =>none
def qb0 (a:Hold) (b:Hold):Option Int:=
 some (wr .i64 (b.Rank-a.Rank))
def zat9 {γ0:Type} (p:γ0→Hold→Hold→Option Int):(Int×Int×γ0×Int×Int×(List Hold)×Unit)→Option ((Int×Int×γ0×Int×Int×(List Hold)×Unit)⊕((Int×Int×γ0×Int×(List Hold)×Unit))):=fun (a,b,g,i,j,l,_)=>
 let k (v:Bool):Option ((Int×Int×γ0×Int×Int×(List Hold)×Unit)⊕((Int×Int×γ0×Int×(List Hold)×Unit))):=bif v then match getI l (wr .i64 (j-1)) with|some _ =>(match l[(wr .i64 (j-1)).toNat]? with|some x2 =>(match getI l j with|some _ =>(match l[j.toNat]? with|some x3 =>(match getI l j with|some _ =>(match l[j.toNat]? with|some x4 =>(match getI (l.set j.toNat x2) (wr .i64 (j-1)) with|some _ =>(match (l.set j.toNat x2)[(wr .i64 (j-1)).toNat]? with|some x5 =>some (.inl (a,b,g,i,wr .i64 (j-1),(l.set j.toNat x2).set (wr .i64 (j-1)).toNat x3,()))|none =>none)|none =>none)|none =>none)|none =>none)|none =>none)|none =>none)|none =>none)|none =>none else some (.inr ((a,b,g,i,l,())));bif decide (a<j) then match getI l j with|some _ =>(match l[j.toNat]? with|some x =>(match getI l (wr .i64 (j-1)) with|some _ =>(match l[(wr .i64 (j-1)).toNat]? with|some x1 =>(match p g x x1 with|some r =>k (decide (r<0))|none =>none)|none =>none)|none =>none)|none =>none)|none =>none else k false
def zat8 {γ0:Type} (p:γ0→Hold→Hold→Option Int):(Int×Int×γ0×Int×(List Hold)×Unit)→Option ((Int×Int×γ0×Int×(List Hold)×Unit)⊕(((List Hold)×Unit))):=fun (a,b,g,i,l,_)=>
 bif decide (i<b) then match zah (zat9 p) (a,b,g,i,i,l,()) with|some ((a6,b7,g8,i9,l10,_)) =>some (.inl (a6,b7,g8,wr .i64 (i9+1),l10,()))|none =>none else some (.inr ((l,())))
def qp {γ0:Type} (p:γ0→Hold→Hold→Option Int) (data:List Hold) (a:Int) (b:Int) (g:γ0):Option (List Hold):=
 match zah (zat8 p) (a,b,g,wr .i64 (a+1),data,()) with|some ((l,_)) =>some l|none =>none
def zat5 {γ0:Type} (p:γ0→Hold→Hold→Option Int):(Int×γ0×Int×Int×Int×(List Hold)×Unit)→Option ((Int×γ0×Int×Int×Int×(List Hold)×Unit)⊕((Int×γ0×Int×Int×(List Hold)×Unit))):=fun (n,g,blockSize,a,b,l,_)=>
 bif decide (b≤n) then match qp p l a b g with|some l1 =>some (.inl (n,g,blockSize,b,wr .i64 (b+blockSize),l1,()))|none =>none else some (.inr ((n,g,blockSize,a,l,())))
def zat7 {γ0:Type} (p:γ0→Hold→Hold→Option Int):(Int×γ0×Int×Int×Int×(List Hold)×Unit)→Option ((Int×γ0×Int×Int×Int×(List Hold)×Unit)⊕((Int×γ0×Int×Int×(List Hold)×Unit))):=fun (n,g,blockSize,a,b,l,_)=>
 bif decide (b≤n) then match qcw p l a (wr .i64 (a+blockSize)) b g with|some l5 =>some (.inl (n,g,blockSize,b,wr .i64 (b+(wr .i64 (2*blockSize))),l5,()))|none =>none else some (.inr ((n,g,blockSize,a,l,())))
def zat6 {γ0:Type} (p:γ0→Hold→Hold→Option Int):(Int×γ0×Int×(List Hold)×Unit)→Option ((Int×γ0×Int×(List Hold)×Unit)⊕(((List Hold)×Unit))):=fun (n,g,blockSize,l,_)=>
 bif decide (blockSize<n) then match zah (zat7 p) (n,g,blockSize,0,wr .i64 (2*blockSize),l,()) with|some ((n6,g7,blockSize8,a,l9,_)) =>let k (l11:List Hold):Option ((Int×γ0×Int×(List Hold)×Unit)⊕(((List Hold)×Unit))):=some (.inl (n6,g7,wr .i64 (blockSize8*2),l11,()));bif decide (wr .i64 (a+blockSize8)<n6) then match qcw p l9 a (wr .i64 (a+blockSize8)) n6 g7 with|some l10 =>k l10|none =>none else k l9|none =>none else some (.inr ((l,())))
def qo {γ0:Type} (p:γ0→Hold→Hold→Option Int) (data:List Hold) (n:Int) (g:γ0):Option (List Hold):=
 match zah (zat5 p) (n,g,20,0,20,data,()) with|some ((n2,g3,blockSize,a,l,_)) =>(match qp p l a n2 g3 with|some l4 =>(match zah (zat6 p) (n2,g3,blockSize,l4,()) with|some ((l12,_)) =>some l12|none =>none)|none =>none)|none =>none
def qdp {γ0:Type} (p:γ0→Hold→Hold→Option Int) (x:List Hold) (g:γ0):Option (List Hold):=
 match qo p x (x.length:Int) g with|some l =>some l|none =>none
def zat1:(Int×Int×(List Hold)×Int×Int×(List Hold)×Unit)→Option ((Int×Int×(List Hold)×Int×Int×(List Hold)×Unit)⊕(((List Hold)×Unit))):=fun (record,day,v,v1,v2,l,_)=>
 bif decide (v2<v1) then match getI v v2 with|some x =>let k5 (v3:Bool):Option ((Int×Int×(List Hold)×Int×Int×(List Hold)×Unit)⊕(((List Hold)×Unit))):=let k (v4:Bool):Option ((Int×Int×(List Hold)×Int×Int×(List Hold)×Unit)⊕(((List Hold)×Unit))):=bif v4 then bif decide (l.length+([x]:List Hold).length≤LIM) then some (.inl (record,day,v,v1,wr .i64 (v2+1),l++([x]:List Hold),())) else none else some (.inl (record,day,v,v1,wr .i64 (v2+1),l,()));bif v3 then k (decide (x.Asleep≤day)) else k false;bif x.Record==record then k5 (x.State==1) else k5 false|none =>none else some (.inr ((l,())))
def qh (l:List Hold) (record:Int) (day:Int):Option (List Hold):=
 match zah zat1 (record,day,l,(l.length:Int),0,([]:List Hold),()) with|some ((l6,_)) =>(match qdp (fun g x0 x1=>qb0 x0 x1) l6 ((),()) with|some l7 =>some l7|none =>none)|none =>none
def zad3:(Int×Bool×Int×(List Hold)×Int×Int×Item×Unit)→Option ((Int×Bool×Int×(List Hold)×Int×Int×Item×Unit)⊕((Int×Unit)⊕(Int×Unit))):=fun (branch,vlocal,first,v,v2,v3,x,_)=>
 bif decide (v3<v2) then match getI v v3 with|some x4 =>let k9 (v5:Bool):Option ((Int×Bool×Int×(List Hold)×Int×Int×Item×Unit)⊕((Int×Unit)⊕(Int×Unit))):=bif v5 then some (.inl (branch,vlocal,first,v,v2,wr .i64 (v3+1),x,())) else let k8 (v6:Bool):Option ((Int×Bool×Int×(List Hold)×Int×Int×Item×Unit)⊕((Int×Unit)⊕(Int×Unit))):=bif v6 then some (.inr (.inr (x4.ID,()))) else let k (first7:Int):Option ((Int×Bool×Int×(List Hold)×Int×Int×Item×Unit)⊕((Int×Unit)⊕(Int×Unit))):=some (.inl (branch,vlocal,first7,v,v2,wr .i64 (v3+1),x,()));bif first==0 then k x4.ID else k first;bif !vlocal then k8 true else k8 (x4.Pickup==branch);bif !(x4.Item==0) then k9 (!(x4.Item==x.ID)) else k9 false|none =>none else some (.inr (.inl (first,())))
def qbi (l:List Hold) (x:Item) (branch:Int) (day:Int) (vlocal:Bool):Option Int:=
 match qh l x.Record day with|some r1 =>(match zah zad3 (branch,vlocal,0,r1,(r1.length:Int),0,x,()) with|some (.inl (first,_)) =>some first|some (.inr (v,_)) =>some v|none =>none)|none =>none
def qem (c:Circ) (x:Item):Option Int:=
 match qbi c.Holds x x.Custody.Branch c.Today c.Local with|some r1 =>some r1|none =>none
def qd2 (h:Hold) (v:Int):Option Bool:=
 some (h.ID==v)
def qbh (l:List Hold) (vid:Int):Option Int:=
 match qb (fun g x0=>qd2 x0 g.2.1) l ((),(vid,())) with|some r1 =>some r1|none =>none
def qeq (l:List Hold) (vid:Int):Option (Hold×Bool):=
 match qbh l vid with|some r1 =>bif decide (0≤r1) then match getI l r1 with|some x =>some (x,true)|none =>none else some ((⟨0,0,0,0,0,0,0,0,0,0,0⟩:Hold),false)|none =>none
def qco (i:Int) (kind:Int) (d:Circ_desk):Option (Unit×Circ_desk):=
 let k (v1:Circ_desk):Option (Unit×Circ_desk):=some ((),v1);bif d.err==0 then match getI d.c.Items i with|some x =>(match qbb i kind x.Custody.Branch 0 d with|some (_,v) =>k v|none =>none)|none =>none else k d
def qeg (key:Int) (n:Int):Option Bool:=
 let k (v:Bool):Option Bool:=some v;bif key==0 then k true else k (key==n)
def qb1 (r:Rule) (patron:Int) (item:Int) (branch:Int):Option Bool:=
 match qeg r.Patron patron with|some r2 =>let k8 (v:Bool):Option Bool:=let k (v7:Bool):Option Bool:=some v7;bif v then match qeg r.Branch branch with|some r6 =>k r6|none =>none else k false;bif r2 then match qeg r.Item item with|some r4 =>k8 r4|none =>none else k8 false|none =>none
def zad0:(Int×Int×Int×(List Int)×Unit)→Option ((Int×Int×Int×(List Int)×Unit)⊕((Int×Unit))):=fun (n,v,v1,l,_)=>
 bif decide (v1<v) then match getI l v1 with|some _ =>(match l[v1.toNat]? with|some x =>let k (n2:Int):Option ((Int×Int×Int×(List Int)×Unit)⊕((Int×Unit))):=some (.inl (n2,v,wr .i64 (v1+1),l,()));bif !(x==0) then k (wr .i64 ((wr .i64 (n*2))+1)) else k (wr .i64 (n*2))|none =>none)|none =>none else some (.inr ((n,())))
def qbc (r:Rule):Option Int:=
 match zah zad0 (0,(([r.Patron,r.Item,r.Branch]).length:Int),0,[r.Patron,r.Item,r.Branch],()) with|some ((n,_)) =>some n|none =>none
def zadl:((List Rule)×Int×Int×Int×Int×(List Rule)×Int×Int×Unit)→Option (((List Rule)×Int×Int×Int×Int×(List Rule)×Int×Int×Unit)⊕((Int×Unit))):=fun (l,patron,item,branch,vat,v,v1,v2,_)=>
 bif decide (v2<v1) then match getI v v2 with|some x =>(match qb1 x patron item branch with|some r3 =>let k12 (v10:Bool):Option (((List Rule)×Int×Int×Int×Int×(List Rule)×Int×Int×Unit)⊕((Int×Unit))):=let k (vat11:Int):Option (((List Rule)×Int×Int×Int×Int×(List Rule)×Int×Int×Unit)⊕((Int×Unit))):=some (.inl (l,patron,item,branch,vat11,v,v1,wr .i64 (v2+1),()));bif v10 then k v2 else k vat;bif r3 then bif decide (vat<0) then k12 true else match qbc x with|some r5 =>(match getI l vat with|some x6 =>(match qbc x6 with|some r8 =>k12 (decide (r8<r5))|none =>none)|none =>none)|none =>none else k12 false|none =>none)|none =>none else some (.inr ((vat,())))
def qa4 (l:List Rule) (patron:Int) (item:Int) (branch:Int):Option Int:=
 match zah zadl (l,patron,item,branch,(-1),l,(l.length:Int),0,()) with|some ((vat,_)) =>some vat|none =>none
def qd1 (l:List Rule) (patron:Int) (item:Int) (branch:Int):Option (Rule×Bool):=
 match qa4 l patron item branch with|some r1 =>(bif decide (r1<0) then some ((⟨0,0,0,0,0,0,0,0,0,0,0,0,0⟩:Rule),false) else match getI l r1 with|some x =>some (x,true)|none =>none)|none =>none
def qcu (c:Circ) (vid:Int) (x:Item):Option (Rule×Bool):=
 match qdj c.Patrons vid with|some (r1,r2) =>(bif !r2 then some ((⟨0,0,0,0,0,0,0,0,0,0,0,0,0⟩:Rule),false) else match qd1 c.Rules r1.Kind x.Kind x.Branch with|some (r4,r5) =>some (r4,r5)|none =>none)|none =>none
def qcv (c:Circ) (branch:Int):Option Calendar:=
 match qb3 branch 1 4 with|some r1 =>bif !r1 then some (⟨0,[]⟩:Calendar) else let k (v:Int) (v2:List Int):Option Calendar:=some (⟨v,v2⟩:Calendar);bif (wr .i64 (branch-1))==0 then k c.Cals.x0.Week c.Cals.x0.Closed else bif (wr .i64 (branch-1))==1 then k c.Cals.x1.Week c.Cals.x1.Closed else bif (wr .i64 (branch-1))==2 then k c.Cals.x2.Week c.Cals.x2.Closed else bif (wr .i64 (branch-1))==3 then k c.Cals.x3.Week c.Cals.x3.Closed else none|none =>none
def qdg (x:Int):Option Bool:=
 some (!(x==x))
def qez (x:Int) (y:Int):Option Bool:=
 match qdg x with|some r1 =>let k5 (v:Bool):Option Bool:=let k (v4:Bool):Option Bool:=some v4;bif v then k true else k (decide (x<y));bif r1 then match qdg y with|some r3 =>k5 (!r3)|none =>none else k5 false|none =>none
def qed (x:Int):Option Bool:=
 some (!(x==x))
def zadv:((List Int)×Int×Int×Int×Int×Unit)→Option (((List Int)×Int×Int×Int×Int×Unit)⊕(((List Int)×Int×Int×Int×Unit))):=fun (x,target,n,i,j,_)=>
 bif decide (i<j) then match getI x (wr .i64 ((wr .u64 (wr .i64 (i+j))).fdiv (2 ^ 1))) with|some x1 =>(match qez x1 target with|some r2 =>let k (i3:Int) (j4:Int):Option (((List Int)×Int×Int×Int×Int×Unit)⊕(((List Int)×Int×Int×Int×Unit))):=some (.inl (x,target,n,i3,j4,()));bif r2 then k (wr .i64 ((wr .i64 ((wr .u64 (wr .i64 (i+j))).fdiv (2 ^ 1)))+1)) j else k i (wr .i64 ((wr .u64 (wr .i64 (i+j))).fdiv (2 ^ 1)))|none =>none)|none =>none else some (.inr ((x,target,n,i,())))
def qat (x:List Int) (target:Int):Option (Int×Bool):=
 match zah zadv (x,target,(x.length:Int),0,(x.length:Int),()) with|some ((x5,target6,n,i,_)) =>let k (v13:Bool):Option (Int×Bool):=some (i,v13);bif decide (i<n) then match getI x5 i with|some x7 =>(bif x7==target6 then k true else match getI x5 i with|some x8 =>(match qed x8 with|some r9 =>bif r9 then match qed target6 with|some r11 =>k r11|none =>none else k false|none =>none)|none =>none)|none =>none else k false|none =>none
def zadu:(Int×Calendar×(V7 Bool)×(V7 Bool)×Unit)→Option ((Int×Calendar×(V7 Bool)×(V7 Bool)×Unit)⊕(((V7 Bool)×(V7 Bool)×Unit))):=fun (v,c,v1,vopen,_)=>
 bif decide (v<7) then bif decide (v<0) then none else bif v==0 then some (.inl (wr .i64 (v+1),c,v1,(⟨(wr .i64 (BitVec.ofInt 64 (c.Week.fdiv (2 ^ (min v.toNat 64))) &&& BitVec.ofInt 64 1).toNat)==0,vopen.x1,vopen.x2,vopen.x3,vopen.x4,vopen.x5,vopen.x6⟩:V7 Bool),())) else bif v==1 then some (.inl (wr .i64 (v+1),c,v1,(⟨vopen.x0,(wr .i64 (BitVec.ofInt 64 (c.Week.fdiv (2 ^ (min v.toNat 64))) &&& BitVec.ofInt 64 1).toNat)==0,vopen.x2,vopen.x3,vopen.x4,vopen.x5,vopen.x6⟩:V7 Bool),())) else bif v==2 then some (.inl (wr .i64 (v+1),c,v1,(⟨vopen.x0,vopen.x1,(wr .i64 (BitVec.ofInt 64 (c.Week.fdiv (2 ^ (min v.toNat 64))) &&& BitVec.ofInt 64 1).toNat)==0,vopen.x3,vopen.x4,vopen.x5,vopen.x6⟩:V7 Bool),())) else bif v==3 then some (.inl (wr .i64 (v+1),c,v1,(⟨vopen.x0,vopen.x1,vopen.x2,(wr .i64 (BitVec.ofInt 64 (c.Week.fdiv (2 ^ (min v.toNat 64))) &&& BitVec.ofInt 64 1).toNat)==0,vopen.x4,vopen.x5,vopen.x6⟩:V7 Bool),())) else bif v==4 then some (.inl (wr .i64 (v+1),c,v1,(⟨vopen.x0,vopen.x1,vopen.x2,vopen.x3,(wr .i64 (BitVec.ofInt 64 (c.Week.fdiv (2 ^ (min v.toNat 64))) &&& BitVec.ofInt 64 1).toNat)==0,vopen.x5,vopen.x6⟩:V7 Bool),())) else bif v==5 then some (.inl (wr .i64 (v+1),c,v1,(⟨vopen.x0,vopen.x1,vopen.x2,vopen.x3,vopen.x4,(wr .i64 (BitVec.ofInt 64 (c.Week.fdiv (2 ^ (min v.toNat 64))) &&& BitVec.ofInt 64 1).toNat)==0,vopen.x6⟩:V7 Bool),())) else bif v==6 then some (.inl (wr .i64 (v+1),c,v1,(⟨vopen.x0,vopen.x1,vopen.x2,vopen.x3,vopen.x4,vopen.x5,(wr .i64 (BitVec.ofInt 64 (c.Week.fdiv (2 ^ (min v.toNat 64))) &&& BitVec.ofInt 64 1).toNat)==0⟩:V7 Bool),())) else none else some (.inr ((v1,vopen,())))
def qap (c:Calendar):Option (V7 Bool):=
 match zah zadu (0,c,(⟨false,false,false,false,false,false,false⟩:V7 Bool),(⟨false,false,false,false,false,false,false⟩:V7 Bool),()) with|some ((v,vopen,_)) =>some vopen|none =>none
def qfd (day:Int):Option Bool:=
 let k (v:Bool):Option Bool:=some v;bif decide (0≤day) then k (decide (day≤109572)) else k false
def qc5 (day:Int):Option Int:=
 match qfd day with|some r1 =>bif !r1 then some (-1) else some (day.tmod 7)|none =>none
def qb9 (c:Calendar) (day:Int):Option Bool:=
 match qc0 day with|some r1 =>(bif !r1 then some false else match qat c.Closed day with|some (r3,r4) =>let k (v9:Bool):Option Bool:=some v9;bif !r4 then match qap c with|some r6 =>(match qc5 day with|some r8 =>bif r8==0 then k r6.x0 else bif r8==1 then k r6.x1 else bif r8==2 then k r6.x2 else bif r8==3 then k r6.x3 else bif r8==4 then k r6.x4 else bif r8==5 then k r6.x5 else bif r8==6 then k r6.x6 else none|none =>none)|none =>none else k false|none =>none)|none =>none
def zadw:(Int×Calendar×Unit)→Option ((Int×Calendar×Unit)⊕((Unit)⊕(Int×Int×Unit))):=fun (d,c,_)=>
 bif decide (d≤109572) then match qb9 c d with|some r1 =>bif r1 then some (.inr (.inr (d,0,()))) else some (.inl (wr .i64 (d+1),c,()))|none =>none else some (.inr (.inl (())))
def qau (c:Calendar) (day:Int):Option (Int×Int):=
 match zah zadw ((if day<0 then 0 else day),c,()) with|some (.inl (_)) =>some (0,2)|some (.inr (v,v2,_)) =>some (v,v2)|none =>none
def zadj:(Int×Int×Int×Calendar×Unit)→Option ((Int×Int×Int×Calendar×Unit)⊕((Int×Unit)⊕(Int×Int×Unit))):=fun (d,v,v5,c,_)=>
 bif decide (v5<v) then match qau c (wr .i64 (d+1)) with|some (r6,r7) =>bif !(r7==0) then some (.inr (.inr (0,r7,()))) else some (.inl (r6,v,wr .i64 (v5+1),c,()))|none =>none else some (.inr (.inl (d,())))
def qa2 (c:Calendar) (day:Int) (n:Int):Option (Int×Int):=
 let k (v:Bool):Option (Int×Int):=bif v then some (0,1) else match qc0 day with|some r1 =>(bif !r1 then some (0,2) else bif n==0 then match qau c day with|some (r3,r4) =>some (r3,r4)|none =>none else match zah zadj (day,n,0,c,()) with|some (.inl (d,_)) =>some (d,0)|some (.inr (v8,v9,_)) =>some (v8,v9)|none =>none)|none =>none;bif decide (n<0) then k true else k (decide (1000<n))
def qe8 (branch:Int) (n:Int) (d:Circ_desk):Option (Int×Circ_desk):=
 match qcv d.c branch with|some r1 =>(match qa2 r1 d.c.Today n with|some (r3,r4) =>let k (v6:Circ_desk):Option (Int×Circ_desk):=some (r3,v6);bif !(r4==0) then match qs r4 d with|some (_,v) =>k v|none =>none else k d|none =>none)|none =>none
def qcg (o:Hold) (v:Int) (v1:Int):Option Bool:=
 let k (v2:Bool):Option Bool:=some v2;bif o.Got==v then k (!(o.ID==v1)) else k false
def qbx {γ0:Type} (p:γ0→Hold→Option Bool) (s:List Hold) (g:γ0):Option Bool:=
 match qb p s g with|some r1 =>some (decide (0≤r1))|none =>none
def qeb (s:List Hold):Option (List Hold):=
 bif decide (([]:List Hold).length+s.length≤LIM) then some (([])++s) else none
def qep (l:List Hold) (i:Int) (h:Hold):Option (List Hold):=
 match qeb l with|some l1 =>(match getI l1 i with|some _ =>(match l1[i.toNat]? with|some x =>some (l1.set i.toNat h)|none =>none)|none =>none)|none =>none
def qaw (l:List Hold) (vid:Int) (item:Int) (state:Int) (vuntil:Int):Option ((List Hold)×Int):=
 match qbh l vid with|some r1 =>bif decide (r1<0) then some ([],9) else let k18 (v:Bool):Option ((List Hold)×Int):=match qb2 item 1 9999 with|some r5 =>let k17 (v8:Bool):Option ((List Hold)×Int):=bif v8 then some ([],1) else match getI l r1 with|some x =>let k16 (v11:Bool):Option ((List Hold)×Int):=bif v11 then some ([],12) else match qbx (fun g x0=>qcg x0 g.2.1 g.2.2.1) l ((),(item,vid,())) with|some r13 =>(bif r13 then some ([],7) else match qep l r1 (⟨x.ID,x.Patron,x.Record,x.Item,x.Pickup,x.Placed,state,item,vuntil,x.Asleep,x.Rank⟩:Hold) with|some r15 =>some (r15,0)|none =>none)|none =>none;bif !(x.State==1) then let k (v9:Bool):Option ((List Hold)×Int):=bif v9 then k16 true else k16 (!(state==3));bif !(x.State==2) then k true else k (!(x.Got==item)) else k16 false|none =>none;bif !r5 then k17 true else bif !v then bif !(state==2) then k17 true else k17 (!(vuntil==0)) else k17 false|none =>none;bif state==3 then match qb2 vuntil 1 109572 with|some r3 =>k18 r3|none =>none else k18 false|none =>none
def qcm (l:List Hold) (e:Int) (d:Circ_desk):Option (Unit×Circ_desk):=
 let k3 (v1:Circ_desk):Option (Unit×Circ_desk):=let k (v2:List Hold):Option (Unit×Circ_desk):=some ((),(⟨⟨v1.c.Today,v1.c.Items,v1.c.Patrons,v1.c.Loans,v2,v1.c.Charges,v1.c.Rules,v1.c.Cals,v1.c.Moves,v1.c.NextHold,v1.c.NextCharge,v1.c.Local⟩,v1.err⟩:Circ_desk));bif v1.err==0 then k l else k v1.c.Holds;bif !(e==0) then match qs e d with|some (_,v) =>k3 v|none =>none else k3 d
def qdd (i:Int) (h:Hold) (d:Circ_desk):Option (Unit×Circ_desk):=
 bif !(d.err==0) then some ((),d) else match getI d.c.Items i with|some x =>(match qcu d.c h.Patron x with|some (r1,r2) =>let k13 (days:Int):Option (Unit×Circ_desk):=match qbb i 5 x.Custody.Branch h.Patron d with|some (_,v) =>(match qe8 x.Custody.Branch days v with|some (r5,v6) =>let k (v12:Circ_desk):Option (Unit×Circ_desk):=some ((),v12);bif v6.err==0 then match qaw v6.c.Holds h.ID x.ID 3 r5 with|some (r8,r9) =>(match qcm r8 r9 v6 with|some (_,v11) =>k v11|none =>none)|none =>none else k v6|none =>none)|none =>none;bif r2 then k13 r1.Shelf else k13 7|none =>none)|none =>none
def qec (i:Int) (d:Circ_desk):Option (Unit×Circ_desk):=
 bif !(d.err==0) then some ((),d) else match getI d.c.Items i with|some x =>(match qem d.c x with|some r1 =>(match qeq d.c.Holds r1 with|some (r3,r4) =>let k25 (v:Bool):Option (Unit×Circ_desk):=let k24 (v23:Circ_desk):Option (Unit×Circ_desk):=some ((),v23);bif v then match qbb i 6 x.Branch 0 d with|some (_,v6) =>k24 v6|none =>none else let k (v7:Bool):Option (Unit×Circ_desk):=bif v7 then match qco i 2 d with|some (_,v9) =>k24 v9|none =>none else bif !r4 then k24 d else bif r3.Pickup==x.Custody.Branch then match qdd i r3 d with|some (_,v11) =>k24 v11|none =>none else match qbb i 6 r3.Pickup r3.Patron d with|some (_,v13) =>bif v13.err==0 then match qaw v13.c.Holds r1 x.ID 2 0 with|some (r15,r16) =>(match qcm r15 r16 v13 with|some (_,v18) =>k24 v18|none =>none)|none =>none else k24 v13|none =>none;bif !r4 then k (!(x.Custody.State==3)) else k false;bif !r4 then k25 (!(x.Branch==x.Custody.Branch)) else k25 false|none =>none)|none =>none)|none =>none
def qa1 (d:Circ_desk):Option ((Circ×Int)×Circ_desk):=
 bif !(d.err==0) then some (((⟨0,[],[],[],[],[],[],⟨⟨0,[]⟩,⟨0,[]⟩,⟨0,[]⟩,⟨0,[]⟩⟩,[],0,0,false⟩:Circ),d.err),d) else some ((d.c,0),d)
def qci (c:Circ) (item:Int) (branch:Int):Option (Circ×Int):=
 match qcb c with|some d =>(match qcn item d with|some (r2,v) =>let k (v7:Circ_desk):Option (Circ×Int):=match qa1 v7 with|some ((r9,r10),v11) =>some (r9,r10)|none =>none;bif decide (0≤r2) then match qbb r2 1 branch 0 v with|some (_,v4) =>(match qec r2 v4 with|some (_,v6) =>k v6|none =>none)|none =>none else k v|none =>none)|none =>none
def zad4:(Int×Int×(List Charge)×Int×Int×Unit)→Option ((Int×Int×(List Charge)×Int×Int×Unit)⊕((Int×Unit))):=fun (patron,vsum,v,v1,v2,_)=>
 bif decide (v2<v1) then match getI v v2 with|some x =>let k (vsum3:Int):Option ((Int×Int×(List Charge)×Int×Int×Unit)⊕((Int×Unit))):=some (.inl (patron,vsum3,v,v1,wr .i64 (v2+1),()));bif x.Patron==patron then k (wr .i64 (vsum+(wr .i64 (x.Amount-x.Paid)))) else k vsum|none =>none else some (.inr ((vsum,())))
def qbj (l:List Charge) (patron:Int):Option Int:=
 match zah zad4 (patron,0,l,(l.length:Int),0,()) with|some ((vsum,_)) =>some vsum|none =>none
def zads:(Int×(List Loan)×Int×Int×(List Loan)×Unit)→Option ((Int×(List Loan)×Int×Int×(List Loan)×Unit)⊕(((List Loan)×Unit))):=fun (patron,v,v1,v2,l,_)=>
 bif decide (v2<v1) then match getI v v2 with|some x =>bif x.Patron==patron then bif decide (l.length+([x]:List Loan).length≤LIM) then some (.inl (patron,v,v1,wr .i64 (v2+1),l++([x]:List Loan),())) else none else some (.inl (patron,v,v1,wr .i64 (v2+1),l,()))|none =>none else some (.inr ((l,())))
def qae (l:List Loan) (patron:Int):Option (List Loan):=
 match zah zads (patron,l,(l.length:Int),0,([]:List Loan),()) with|some ((l3,_)) =>some l3|none =>none
def zado:(Int×Int×(List Loan)×Int×Int×Unit)→Option ((Int×Int×(List Loan)×Int×Int×Unit)⊕((Int×Unit))):=fun (day,n,v,v2,v3,_)=>
 bif decide (v3<v2) then match getI v v3 with|some x =>let k (n4:Int):Option ((Int×Int×(List Loan)×Int×Int×Unit)⊕((Int×Unit))):=some (.inl (day,n4,v,v2,wr .i64 (v3+1),()));bif decide (x.Due<day) then k (wr .i64 (n+1)) else k n|none =>none else some (.inr ((n,())))
def qa8 (l:List Loan) (patron:Int) (day:Int):Option Int:=
 match qae l patron with|some r1 =>(match zah zado (day,0,r1,(r1.length:Int),0,()) with|some ((n,_)) =>some n|none =>none)|none =>none
def zadz:(Int×Int×(List Int)×(List Bool)×Unit)→Option ((Int×Int×(List Int)×(List Bool)×Unit)⊕(((List Int)×Unit))):=fun (v,v1,l,l2,_)=>
 bif decide (v1<v) then match getI l2 v1 with|some _ =>(match l2[v1.toNat]? with|some x =>bif x then bif decide (l.length+([wr .i64 (v1+1)]:List Int).length≤LIM) then some (.inl (v,wr .i64 (v1+1),l++([wr .i64 (v1+1)]:List Int),l2,())) else none else some (.inl (v,wr .i64 (v1+1),l,l2,()))|none =>none)|none =>none else some (.inr ((l,())))
def qba (p:Patron) (day:Int) (owed:Int) (late:Int):Option (List Int):=
 match zah zadz ((([p.Stopped,decide (p.Until<day),decide (1000<owed),decide (2<late)]).length:Int),0,([]:List Int),[p.Stopped,decide (p.Until<day),decide (1000<owed),decide (2<late)],()) with|some ((l,_)) =>some l|none =>none
def qfc (c:Circ) (p:Patron):Option Bool:=
 match qbj c.Charges p.ID with|some r1 =>(match qa8 c.Loans p.ID c.Today with|some r3 =>(match qba p c.Today r1 r3 with|some r5 =>some (decide (0<(r5.length:Int)))|none =>none)|none =>none)|none =>none
def zad7:(Int×Calendar×Unit)→Option ((Int×Calendar×Unit)⊕((Unit)⊕(Int×Int×Unit))):=fun (d,c,_)=>
 bif decide (0≤d) then match qb9 c d with|some r1 =>bif r1 then some (.inr (.inr (d,0,()))) else some (.inl (wr .i64 (d-1),c,()))|none =>none else some (.inr (.inl (())))
def qbm (c:Calendar) (day:Int):Option (Int×Int):=
 match zah zad7 ((if 109572<day then 109572 else day),c,()) with|some (.inl (_)) =>some (0,2)|some (.inr (v,v2,_)) =>some (v,v2)|none =>none
def qd4 (r:Rule) (c:Calendar) (day:Int) (vuntil:Int):Option (Int×Int):=
 match qbt day 0 109572 with|some r2 =>(let k17 (v:Bool):Option (Int×Int):=bif v then some (0,2) else let k16 (last:Int):Option (Int×Int):=let k15 (v5:Bool):Option (Int×Int):=bif v5 then some (0,15) else match qau c (if last<wr .i64 (day+r.Days) then last else wr .i64 (day+r.Days)) with|some (r7,r8) =>let k14 (v9:Bool):Option (Int×Int):=bif v9 then some (r7,0) else match qbm c last with|some (r11,r12) =>let k (v13:Bool):Option (Int×Int):=bif v13 then some (0,15) else some (r11,0);bif !(r12==0) then k true else k (decide (r11≤day))|none =>none;bif r8==0 then k14 (decide (r7≤last)) else k14 false|none =>none;bif r.Days==0 then k15 true else k15 (decide (last≤day));bif decide (0<r.Fixed) then k16 (if r.Fixed<vuntil then r.Fixed else vuntil) else k16 vuntil;bif !r2 then k17 true else match qbt vuntil 0 109572 with|some r4 =>k17 (!r4)|none =>none)|none =>none
def qei (c:Circ) (x:Item) (p:Patron) (branch:Int):Option (Int×Int):=
 let k26 (v:Bool):Option (Int×Int):=let k4 (v3:Int):Option (Int×Int):=some (0,v3);bif v then k4 12 else bif !(x.Custody.Branch==branch) then k4 1 else let k (v1:Bool):Option (Int×Int):=bif v1 then k4 16 else let k25 (_:Unit):Option (Int×Int):=match qfc c p with|some r12 =>(bif r12 then some (0,14) else match qcu c p.ID x with|some (r14,r15) =>(let k24 (v18:Bool):Option (Int×Int):=bif v18 then some (0,15) else match qcv c branch with|some r20 =>(match qd4 r14 r20 c.Today p.Until with|some (r22,r23) =>some (r22,r23)|none =>none)|none =>none;bif !r15 then k24 true else match qae c.Loans p.ID with|some r17 =>k24 (decide (r14.Loans≤(r17.length:Int)))|none =>none)|none =>none)|none =>none;bif x.Custody.State==3 then match qem c x with|some r5 =>(match qeq c.Holds r5 with|some (r7,r8) =>let k10 (v9:Bool):Option (Int×Int):=bif v9 then some (0,16) else k25 ();bif r8 then k10 (!(r7.Patron==p.ID)) else k10 false|none =>none)|none =>none else k25 ();bif x.Custody.State==5 then k (!(x.Custody.Who==p.ID)) else k false;bif !(x.Custody.State==3) then k26 (!(x.Custody.State==5)) else k26 false
def qcj (x:Loan) (v:Loan):Option Bool:=
 some (decide (v.Item<x.Item))
def qea (s:List Loan):Option (List Loan):=
 bif decide (([]:List Loan).length+s.length≤LIM) then some (([])++s) else none
def qd0 (l:List Loan):Option ((List Loan)×Int):=
 match qa6 l with|some r1 =>bif !(r1==0) then some ([],r1) else some (l,0)|none =>none
def qbs (l:List Loan) (n:Loan):Option ((List Loan)×Int):=
 match qao n.Item with|some r1 =>(match qby (fun g x0=>qb7 x0 g.2.1) l ((),(r1.1,())) with|some (r3,r4) =>(bif decide (0≤r4) then some ([],7) else match qby (fun g x0=>qcj x0 g.2.1) l ((),(n,())) with|some (r6,r7) =>let k (i:Int):Option ((List Loan)×Int):=match qea l with|some l9 =>(match qds l9 i ([n]) with|some l11 =>(match qd0 l11 with|some (r13,r14) =>some (r13,r14)|none =>none)|none =>none)|none =>none;bif decide (r7<0) then k (l.length:Int) else k r7|none =>none)|none =>none)|none =>none
def qcl (l:List Loan) (e:Int) (d:Circ_desk):Option (Unit×Circ_desk):=
 let k3 (v1:Circ_desk):Option (Unit×Circ_desk):=let k (v2:List Loan):Option (Unit×Circ_desk):=some ((),(⟨⟨v1.c.Today,v1.c.Items,v1.c.Patrons,v2,v1.c.Holds,v1.c.Charges,v1.c.Rules,v1.c.Cals,v1.c.Moves,v1.c.NextHold,v1.c.NextCharge,v1.c.Local⟩,v1.err⟩:Circ_desk));bif v1.err==0 then k l else k v1.c.Loans;bif !(e==0) then match qs e d with|some (_,v) =>k3 v|none =>none else k3 d
def qej (l:List Hold) (vid:Int):Option ((List Hold)×Hold×Int):=
 match qbh l vid with|some r1 =>(bif decide (r1<0) then some ([],(⟨0,0,0,0,0,0,0,0,0,0,0⟩:Hold),9) else match qeb l with|some l3 =>(match qdv l3 r1 (wr .i64 (r1+1)) with|some l5 =>(match getI l r1 with|some x =>some (l5,x,0)|none =>none)|none =>none)|none =>none)|none =>none
def qev (vid:Int) (d:Circ_desk):Option (Unit×Circ_desk):=
 let k (v5:Circ_desk):Option (Unit×Circ_desk):=some ((),v5);bif d.err==0 then match qej d.c.Holds vid with|some (r1,r2,r3) =>(match qcm r1 r3 d with|some (_,v) =>k v|none =>none)|none =>none else k d
def qb8 (n:Int) (d:Circ_desk):Option ((Circ×Int×Int)×Circ_desk):=
 bif !(d.err==0) then some (((⟨0,[],[],[],[],[],[],⟨⟨0,[]⟩,⟨0,[]⟩,⟨0,[]⟩,⟨0,[]⟩⟩,[],0,0,false⟩:Circ),0,d.err),d) else some ((d.c,n,0),d)
def qen (h:Hold) (x:Item):Option Bool:=
 let k (v1:Bool):Option Bool:=some v1;bif h.Record==x.Record then bif h.Item==0 then k true else k (h.Item==x.ID) else k false
def qc7 (h:Hold) (v:Int) (v1:Item):Option Bool:=
 let k5 (v2:Bool):Option Bool:=let k (v4:Bool):Option Bool:=some v4;bif v2 then match qen h v1 with|some r3 =>k r3|none =>none else k false;bif h.Patron==v then k5 (h.State==1) else k5 false
def qbq (c:Circ) (item:Int) (vid:Int) (branch:Int):Option (Circ×Int×Int):=
 match qcb c with|some d =>(match qcn item d with|some (r2,v) =>(match qdj c.Patrons vid with|some (r4,r5) =>let k40 (v8:Circ_desk):Option (Circ×Int×Int):=bif !(v8.err==0) then some ((⟨0,[],[],[],[],[],[],⟨⟨0,[]⟩,⟨0,[]⟩,⟨0,[]⟩,⟨0,[]⟩⟩,[],0,0,false⟩:Circ),0,v8.err) else match getI c.Items r2 with|some x =>(match qei c x r4 branch with|some (r10,r11) =>(bif !(r11==0) then some ((⟨0,[],[],[],[],[],[],⟨⟨0,[]⟩,⟨0,[]⟩,⟨0,[]⟩,⟨0,[]⟩⟩,[],0,0,false⟩:Circ),0,r11) else match qbb r2 3 branch vid v8 with|some (_,v13) =>(match qbs c.Loans (⟨item,vid,c.Today,r10,0,false⟩:Loan) with|some (r15,r16) =>(match qcl r15 r16 v13 with|some (_,v18) =>(match qa5 c item with|some (r20,r21) =>(bif r21 then match qev r20.ID v18 with|some (_,v23) =>(match qb8 r10 v23 with|some ((r25,r26,r27),v28) =>some (r25,r26,r27)|none =>none)|none =>none else match qb (fun g x0=>qc7 x0 g.2.1 g.2.2.1) c.Holds ((),(vid,x,())) with|some r30 =>let k (v34:Circ_desk):Option (Circ×Int×Int):=match qb8 r10 v34 with|some ((r36,r37,r38),v39) =>some (r36,r37,r38)|none =>none;bif decide (0≤r30) then match getI c.Holds r30 with|some x31 =>(match qev x31.ID v18 with|some (_,v33) =>k v33|none =>none)|none =>none else k v18|none =>none)|none =>none)|none =>none)|none =>none)|none =>none)|none =>none)|none =>none;bif !r5 then match qs 9 v with|some (_,v7) =>k40 v7|none =>none else k40 v|none =>none)|none =>none)|none =>none
def qe5 (l:List Loan) (i:Int):Option (List Loan):=
 match qea l with|some l1 =>(match qdu l1 i (wr .i64 (i+1)) with|some l3 =>some l3|none =>none)|none =>none
def qdn (l:List Loan) (item:Int):Option ((List Loan)×Loan×Int):=
 match qao item with|some r1 =>(match qby (fun g x0=>qb7 x0 g.2.1) l ((),(r1.1,())) with|some (r3,r4) =>(bif decide (r4<0) then some ([],(⟨0,0,0,0,0,false⟩:Loan),9) else match qe5 l r4 with|some r6 =>some (r6,r3,0)|none =>none)|none =>none)|none =>none
def qeh (day:Int) (weekday:Int):Option Int:=
 match qc5 0 with|some r1 =>bif decide (day<(wr .i64 ((wr .i64 (weekday-r1))+7)).tmod 7) then some 0 else some (wr .i64 ((wr .i64 ((wr .i64 (day-((wr .i64 ((wr .i64 (weekday-r1))+7)).tmod 7))).tdiv 7))+1))|none =>none
def zadq:(Int×Int×Int×(V7 Bool)×Int×Calendar×(V7 Bool)×Unit)→Option ((Int×Int×Int×(V7 Bool)×Int×Calendar×(V7 Bool)×Unit)⊕((Int×Int×Int×Calendar×(V7 Bool)×Unit))):=fun (vfrom,vto,n,v,v2,c,vopen,_)=>
 bif decide (v2<7) then let k8 (v3:Bool):Option ((Int×Int×Int×(V7 Bool)×Int×Calendar×(V7 Bool)×Unit)⊕((Int×Int×Int×Calendar×(V7 Bool)×Unit))):=let k (n7:Int):Option ((Int×Int×Int×(V7 Bool)×Int×Calendar×(V7 Bool)×Unit)⊕((Int×Int×Int×Calendar×(V7 Bool)×Unit))):=some (.inl (vfrom,vto,n7,v,wr .i64 (v2+1),c,vopen,()));bif v3 then match qeh vto v2 with|some r4 =>(match qeh (wr .i64 (vfrom-1)) v2 with|some r6 =>k (wr .i64 (n+(wr .i64 (r4-r6))))|none =>none)|none =>none else k n;bif v2==0 then k8 v.x0 else bif v2==1 then k8 v.x1 else bif v2==2 then k8 v.x2 else bif v2==3 then k8 v.x3 else bif v2==4 then k8 v.x4 else bif v2==5 then k8 v.x5 else bif v2==6 then k8 v.x6 else none else some (.inr ((vfrom,vto,n,c,vopen,())))
def z2f:(Int×Int×Int×(List Int)×Int×Int×(V7 Bool)×Unit)→Option ((Int×Int×Int×(List Int)×Int×Int×(V7 Bool)×Unit)⊕((Int×Unit))):=fun (vfrom,vto,n,v,v12,v13,vopen,_)=>
 bif decide (v13<v12) then match getI v v13 with|some x =>let k20 (v14:Bool):Option ((Int×Int×Int×(List Int)×Int×Int×(V7 Bool)×Unit)⊕((Int×Unit))):=let k19 (v17:Bool):Option ((Int×Int×Int×(List Int)×Int×Int×(V7 Bool)×Unit)⊕((Int×Unit))):=let k (n18:Int):Option ((Int×Int×Int×(List Int)×Int×Int×(V7 Bool)×Unit)⊕((Int×Unit))):=some (.inl (vfrom,vto,n18,v,v12,wr .i64 (v13+1),vopen,()));bif v17 then k (wr .i64 (n-1)) else k n;bif v14 then match qc5 x with|some r15 =>bif r15==0 then k19 vopen.x0 else bif r15==1 then k19 vopen.x1 else bif r15==2 then k19 vopen.x2 else bif r15==3 then k19 vopen.x3 else bif r15==4 then k19 vopen.x4 else bif r15==5 then k19 vopen.x5 else bif r15==6 then k19 vopen.x6 else none|none =>none else k19 false;bif decide (vfrom≤x) then k20 (decide (x≤vto)) else k20 false|none =>none else some (.inr ((n,())))
def qaa (c:Calendar) (vfrom:Int) (vto:Int):Option Int:=
 bif decide ((if 109572<vto then 109572 else vto)<(if vfrom<0 then 0 else vfrom)) then some 0 else match qap c with|some r1 =>(match zah zadq ((if vfrom<0 then 0 else vfrom),(if 109572<vto then 109572 else vto),0,r1,0,c,r1,()) with|some ((vfrom9,vto10,n,c11,vopen,_)) =>(match zah z2f (vfrom9,vto10,n,c11.Closed,(c11.Closed.length:Int),0,vopen,()) with|some ((n21,_)) =>some n21|none =>none)|none =>none)|none =>none
def qfh (r:Rule) (c:Calendar) (due:Int) (back:Int):Option Int:=
 match qu c with|some r2 =>(let k10 (v:Bool):Option Int:=let k (v7:Bool):Option Int:=bif v7 then some 0 else match qaa c (wr .i64 (due+1)) back with|some r9 =>bif decide (r9≤r.Grace) then some 0 else some (if r.MaxFine<wr .i64 (r9*r.Fine) then r.MaxFine else wr .i64 (r9*r.Fine))|none =>none;bif v then k true else match qd5 back with|some r6 =>k (!r6)|none =>none;bif !(r2==0) then k10 true else match qd5 due with|some r4 =>k10 (!r4)|none =>none)|none =>none
def qda (l:List Charge) (c:Charge):Option ((List Charge)×Int):=
 bif decide (l.length≤LIM) then bif decide (l.length+([c]:List Charge).length≤LIM) then match qa7 (l++([c]:List Charge)) with|some r1 =>bif !(r1==0) then some ([],r1) else some (l++([c]:List Charge),0)|none =>none else none else none
def qe6 (vid:Int) (item:Int) (kind:Int) (amount:Int) (d:Circ_desk):Option (Unit×Circ_desk):=
 bif !(d.err==0) then some ((),d) else bif decide (99999<d.c.NextCharge) then match qs 13 d with|some (_,v) =>some ((),v)|none =>none else match qda d.c.Charges (⟨d.c.NextCharge,vid,item,d.c.Today,kind,amount,0⟩:Charge) with|some (r2,r3) =>bif !(r3==0) then match qs r3 d with|some (_,v5) =>some ((),v5)|none =>none else some ((),(⟨⟨d.c.Today,d.c.Items,d.c.Patrons,d.c.Loans,d.c.Holds,r2,d.c.Rules,d.c.Cals,d.c.Moves,d.c.NextHold,wr .i64 (d.c.NextCharge+1),d.c.Local⟩,d.err⟩:Circ_desk))|none =>none
def qc2 (x:Charge) (v:Int) (v1:Int) (v2:Int):Option Bool:=
 let k6 (v3:Bool):Option Bool:=let k (v5:Bool):Option Bool:=some v5;bif v3 then bif v2==0 then k true else k (x.Kind==v2) else k false;bif x.Patron==v then k6 (x.Item==v1) else k6 false
def zadx {γ0:Type} (p:γ0→Charge→Option Bool):(γ0×Int×Int×(List Charge)×Int×Int×(List Charge)×Unit)→Option ((γ0×Int×Int×(List Charge)×Int×Int×(List Charge)×Unit)⊕((Int×Int×(List Charge)×Unit))):=fun (g,paid,n,v,v1,v2,l,_)=>
 bif decide (v2<v1) then match getI v v2 with|some x =>(match p g x with|some r =>bif r then some (.inl (g,wr .i64 (paid+x.Paid),wr .i64 (n+1),v,v1,wr .i64 (v2+1),l,())) else bif decide (l.length+([x]:List Charge).length≤LIM) then some (.inl (g,paid,n,v,v1,wr .i64 (v2+1),l++([x]:List Charge),())) else none|none =>none)|none =>none else some (.inr ((paid,n,l,())))
def qav {γ0:Type} (p:γ0→Charge→Option Bool) (l:List Charge) (g:γ0):Option ((List Charge)×Int×Int):=
 match zah (zadx p) (g,0,0,l,(l.length:Int),0,([]:List Charge),()) with|some ((paid,n,l3,_)) =>some (l3,paid,n)|none =>none
def qbv (l:List Charge) (patron:Int) (item:Int) (kind:Int):Option ((List Charge)×Int):=
 match qav (fun g x0=>qc2 x0 g.2.1 g.2.2.1 g.2.2.2.1) l ((),(patron,item,kind,())) with|some (r1,r2,r3) =>some (r1,r2)|none =>none
def qe4 (i:Int) (branch:Int) (d:Circ_desk):Option (Unit×Circ_desk):=
 match getI d.c.Items i with|some x =>(match qbb i 4 branch 0 d with|some (_,v) =>(bif !(v.err==0) then some ((),v) else match qdn v.c.Loans x.ID with|some (r2,r3,r4) =>(match qcl r2 r4 v with|some (_,v6) =>(match qcu v6.c r3.Patron x with|some (r8,r9) =>let k (v17:Circ_desk):Option (Unit×Circ_desk):=match qbv v17.c.Charges r3.Patron x.ID 2 with|some (r19,r20) =>some ((),(⟨⟨v17.c.Today,v17.c.Items,v17.c.Patrons,v17.c.Loans,v17.c.Holds,r19,v17.c.Rules,v17.c.Cals,v17.c.Moves,v17.c.NextHold,v17.c.NextCharge,v17.c.Local⟩,v17.err⟩:Circ_desk))|none =>none;bif r9 then match qcv v6.c branch with|some r11 =>(match qfh r8 r11 r3.Due v6.c.Today with|some r13 =>bif !(r13==0) then match qe6 r3.Patron x.ID 1 r13 v6 with|some (_,v15) =>k v15|none =>none else k v6|none =>none)|none =>none else k v6|none =>none)|none =>none)|none =>none)|none =>none)|none =>none
def qe2 (c:Circ) (item:Int) (branch:Int):Option (Circ×Int×Int):=
 match qcb c with|some d =>(match qcn item d with|some (r2,v) =>(bif decide (r2<0) then match qb8 0 v with|some ((r4,r5,r6),v7) =>some (r4,r5,r6)|none =>none else match getI c.Items r2 with|some x =>let k43 (v9:Bool):Option (Circ×Int×Int):=let k42 (v23:Circ_desk):Option (Circ×Int×Int):=match qa5 v23.c item with|some (r25,r26) =>let k41 (v27:Bool):Option (Circ×Int×Int):=let k (v32:Circ_desk):Option (Circ×Int×Int):=match qa5 v32.c item with|some (r34,r35) =>(match qb8 r34.ID v32 with|some ((r37,r38,r39),v40) =>some (r37,r38,r39)|none =>none)|none =>none;bif v27 then match qdd r2 r25 v23 with|some (_,v29) =>k v29|none =>none else match qec r2 v23 with|some (_,v31) =>k v31|none =>none;bif r26 then k41 (r25.State==2) else k41 false|none =>none;bif v9 then match qe4 r2 branch v with|some (_,v11) =>k42 v11|none =>none else bif x.Custody.State==8 then match qbb r2 4 branch 0 v with|some (_,v13) =>k42 v13|none =>none else bif x.Custody.State==11 then match qbb r2 14 branch 0 v with|some (_,v15) =>k42 v15|none =>none else bif x.Custody.State==6 then match qbb r2 7 branch 0 v with|some (_,v17) =>k42 v17|none =>none else match qs 12 v with|some (_,v19) =>k42 v19|none =>none;bif x.Custody.State==4 then k43 (x.Custody.State==4) else bif x.Custody.State==9 then k43 (x.Custody.State==9) else k43 (x.Custody.State==10)|none =>none)|none =>none)|none =>none
def zad1:(Bool×Int×Circ×Circ×Unit)→Option ((Bool×Int×Circ×Circ×Unit)⊕((Bool×Circ×Circ×Unit))):=fun (ok,i,v,c,_)=>
 bif decide (i≤3) then match qci c i 1 with|some (r8,r9) =>let k (v10:Bool):Option ((Bool×Int×Circ×Circ×Unit)⊕((Bool×Circ×Circ×Unit))):=some (.inl (v10,wr .i64 (i+1),v,r8,()));bif ok then k (r9==0) else k false|none =>none else some (.inr ((ok,v,c,())))
def qbd:Option (Circ×Bool):=
 match qc4 with|some r1 =>(match q8 r1 (⟨2,5,1,1,0,[],⟨0,0,0,0⟩⟩:Item) with|some (r3,r4) =>(match q8 r3 (⟨3,6,1,1,0,[],⟨0,0,0,0⟩⟩:Item) with|some (r6,r7) =>let k23 (v:Bool):Option (Circ×Bool):=match zah zad1 (v,1,(⟨0,[],[],[],[],[],[],⟨⟨0,[]⟩,⟨0,[]⟩,⟨0,[]⟩,⟨0,[]⟩⟩,[],0,0,false⟩:Circ),r6,()) with|some ((ok,v11,c,_)) =>(match qbq (⟨110,c.Items,c.Patrons,c.Loans,c.Holds,c.Charges,c.Rules,c.Cals,c.Moves,c.NextHold,c.NextCharge,c.Local⟩:Circ) 2 7 1 with|some (r13,r14,r15) =>let k22 (v16:Bool):Option (Circ×Bool):=match qe2 (⟨120,r13.Items,r13.Patrons,r13.Loans,r13.Holds,r13.Charges,r13.Rules,r13.Cals,r13.Moves,r13.NextHold,r13.NextCharge,r13.Local⟩:Circ) 2 1 with|some (r18,r19,r20) =>let k (v21:Bool):Option (Circ×Bool):=some ((⟨300,r18.Items,r18.Patrons,r18.Loans,r18.Holds,r18.Charges,r18.Rules,r18.Cals,r18.Moves,r18.NextHold,r18.NextCharge,r18.Local⟩:Circ),v21);bif v16 then k (r20==0) else k false|none =>none;bif ok then k22 (r15==0) else k22 false|none =>none)|none =>none;bif r4==0 then k23 (r7==0) else k23 false|none =>none)|none =>none)|none =>none
def zkp:(Int×Int×Int×(List Move)×Int×Int×Unit)→Option ((Int×Int×Int×(List Move)×Int×Int×Unit)⊕((Int×Int×Unit))):=fun (item,loans,last,v,v1,v2,_)=>
 bif decide (v2<v1) then match getI v v2 with|some x =>bif !(x.Item==item) then some (.inl (item,loans,last,v,v1,wr .i64 (v2+1),())) else let k7 (loans5:Int) (last6:Int):Option ((Int×Int×Int×(List Move)×Int×Int×Unit)⊕((Int×Int×Unit))):=some (.inl (item,loans5,last6,v,v1,wr .i64 (v2+1),()));bif x.Kind==3 then k7 (wr .i64 (loans+1)) (if last<x.Day then x.Day else last) else let k (v3:Bool):Option ((Int×Int×Int×(List Move)×Int×Int×Unit)⊕((Int×Int×Unit))):=bif v3 then k7 loans (if last<x.Day then x.Day else last) else k7 loans last;bif x.Kind==1 then k (x.Kind==1) else k (x.Kind==4)|none =>none else some (.inr ((loans,last,())))
def qar (c:Circ) (item:Int):Option (Int×Int):=
 match zah zkp (item,0,(-1),c.Moves,(c.Moves.length:Int),0,()) with|some ((loans,last,_)) =>some (loans,last)|none =>none
def zkn:(Int×Int×(List Item)×Int×Int×Unit)→Option ((Int×Int×(List Item)×Int×Int×Unit)⊕((Int×Unit))):=fun (record,n,v,v1,v2,_)=>
 bif decide (v2<v1) then match getI v v2 with|some x =>let k5 (v3:Bool):Option ((Int×Int×(List Item)×Int×Int×Unit)⊕((Int×Unit))):=let k (n4:Int):Option ((Int×Int×(List Item)×Int×Int×Unit)⊕((Int×Unit))):=some (.inl (record,n4,v,v1,wr .i64 (v2+1),()));bif v3 then k (wr .i64 (n+1)) else k n;bif x.Record==record then k5 (!(x.Custody.State==12)) else k5 false|none =>none else some (.inr ((n,())))
def qak (c:Circ) (record:Int):Option Int:=
 match zah zkn (record,0,c.Items,(c.Items.length:Int),0,()) with|some ((n,_)) =>some n|none =>none
def qcd (h:Hold) (v:Item):Option Bool:=
 let k (v1:Bool):Option Bool:=some v1;bif h.Record==v.Record then k true else k (h.Item==v.ID)
def qee (x:Int) (y:Int):Option Int:=
 match qdg x with|some r1 =>(match qdg y with|some r3 =>let k (v:Int):Option Int:=some v;bif r1 then bif r3 then k 0 else k (-1) else bif r3 then some 1 else bif decide (x<y) then some (-1) else bif decide (y<x) then some 1 else some 0|none =>none)|none =>none
def zad2:(Int×(List Int)×Int×Int×Unit)→Option ((Int×(List Int)×Int×Int×Unit)⊕((Int×Unit)⊕(Int×Unit))):=fun (zero,v,v1,v2,_)=>
 bif decide (v2<v1) then match getI v v2 with|some x =>bif !(x==zero) then some (.inr (.inr (x,()))) else some (.inl (zero,v,v1,wr .i64 (v2+1),()))|none =>none else some (.inr (.inl (zero,())))
def qbg (vals:List Int):Option Int:=
 match zah zad2 (0,vals,(vals.length:Int),0,()) with|some (.inl (zero,_)) =>some zero|some (.inr (v,_)) =>some v|none =>none
def qd9 (a:Weed_candidate) (b:Weed_candidate):Option Int:=
 match qee a.loans b.loans with|some r1 =>(match qee a.last b.last with|some r3 =>(match qee a.id_ b.id_ with|some r5 =>(match qbg ([r1,r3,r5]) with|some r7 =>some r7|none =>none)|none =>none)|none =>none)|none =>none
def zat0:(Int×Int×(List Item)×Int×Int×Circ×(List Weed_candidate)×Unit)→Option ((Int×Int×(List Item)×Int×Int×Circ×(List Weed_candidate)×Unit)⊕(((List Weed_candidate)×Unit))):=fun (days,loans,v,v1,v2,c,l,_)=>
 bif decide (v2<v1) then match getI v v2 with|some x =>(match qbx (fun g x0=>qcd x0 g.2.1) c.Holds ((),(x,())) with|some r3 =>(match qar c x.ID with|some (r5,r6) =>let k11 (v7:Bool):Option ((Int×Int×(List Item)×Int×Int×Circ×(List Weed_candidate)×Unit)⊕(((List Weed_candidate)×Unit))):=let k10 (v8:Bool):Option ((Int×Int×(List Item)×Int×Int×Circ×(List Weed_candidate)×Unit)⊕(((List Weed_candidate)×Unit))):=let k (v9:Bool):Option ((Int×Int×(List Item)×Int×Int×Circ×(List Weed_candidate)×Unit)⊕(((List Weed_candidate)×Unit))):=bif v9 then bif decide (l.length+([(⟨x.ID,x.Record,r5,r6⟩:Weed_candidate)]:List Weed_candidate).length≤LIM) then some (.inl (days,loans,v,v1,wr .i64 (v2+1),c,l++([(⟨x.ID,x.Record,r5,r6⟩:Weed_candidate)]:List Weed_candidate),())) else none else some (.inl (days,loans,v,v1,wr .i64 (v2+1),c,l,()));bif v8 then k (!r3) else k false;bif v7 then k10 (decide (days<wr .i64 (c.Today-r6))) else k10 false;bif x.Custody.State==3 then k11 (decide (r5≤loans)) else k11 false|none =>none)|none =>none)|none =>none else some (.inr ((l,())))
def qg (c:Circ) (days:Int) (loans:Int):Option (List Weed_candidate):=
 match zah zat0 (days,loans,c.Items,(c.Items.length:Int),0,c,([]:List Weed_candidate),()) with|some ((l,_)) =>(match qdb (fun g x0 x1=>qd9 x0 x1) l ((),()) with|some l12 =>some l12|none =>none)|none =>none
def zadp:((List Weed_candidate)×Int×Int×(List Int)×Unit)→Option (((List Weed_candidate)×Int×Int×(List Int)×Unit)⊕(((List Int)×Unit))):=fun (v,v2,v3,l,_)=>
 bif decide (v3<v2) then match getI v v3 with|some x =>bif decide (l.length+([x.id_]:List Int).length≤LIM) then some (.inl (v,v2,wr .i64 (v3+1),l++([x.id_]:List Int),())) else none|none =>none else some (.inr ((l,())))
def qa9 (c:Circ) (days:Int) (loans:Int):Option (List Int):=
 match qg c days loans with|some r1 =>(match zah zadp (r1,(r1.length:Int),0,([]:List Int),()) with|some ((l,_)) =>some l|none =>none)|none =>none
def zadt:((List Int)×(List Int)×Int×Unit)→Option (((List Int)×(List Int)×Int×Unit)⊕((Unit)⊕(Bool×Unit))):=fun (a,b,i,_)=>
 bif decide (i<(a.length:Int)) then match getI a i with|some x =>(match getI b i with|some x1 =>bif !(x==x1) then some (.inr (.inr (false,()))) else some (.inl (a,b,wr .i64 (i+1),()))|none =>none)|none =>none else some (.inr (.inl (())))
def qal (a:List Int) (b:List Int):Option Bool:=
 bif !((a.length:Int)==(b.length:Int)) then some false else match zah zadt (a,b,0,()) with|some (.inl (_)) =>some true|some (.inr (v,_)) =>some v|none =>none
def qcy (x:Item) (v:Int):Option Bool:=
 some (x.ID==v)
def qcc {γ0:Type} (p:γ0→Item→Option Bool) (s:List Item) (g:γ0):Option Bool:=
 match qc p s g with|some r1 =>some (decide (0≤r1))|none =>none
def qdi (x:Item) (record:Int):Option Bool:=
 let k (v:Bool):Option Bool:=some v;bif x.Record==record then k (!(x.Custody.State==12)) else k false
def qc6 (y:Item) (v:Item):Option Bool:=
 let k (v2:Bool):Option Bool:=some v2;bif !(y.ID==v.ID) then match qdi y v.Record with|some r1 =>k r1|none =>none else k false
def qch (h:Hold) (v:Item) (v1:Bool):Option Bool:=
 let k (v3:Bool):Option Bool:=some v3;bif h.Item==v.ID then k true else bif v1 then k (h.Record==v.Record) else k false
def qab (c:Circ) (x:Item):Option Bool:=
 match qcc (fun g x0=>qc6 x0 g.2.1) c.Items ((),(x,())) with|some r1 =>(match qdi x x.Record with|some r3 =>let k (v:Bool):Option Bool:=match qbx (fun g x0=>qch x0 g.2.1 g.2.2.1) c.Holds ((),(x,v,())) with|some r5 =>some r5|none =>none;bif r3 then k (!r1) else k false|none =>none)|none =>none
def qex (c:Circ) (item:Int):Option (Circ×Int):=
 match qcb c with|some d =>(match qcn item d with|some (r2,v) =>let k26 (v5:Bool):Option (Circ×Int):=let k25 (v8:Circ_desk):Option (Circ×Int):=match qco r2 15 v8 with|some (_,v10) =>(match qd6 c.Loans item with|some (r12,r13) =>let k (v20:Circ_desk):Option (Circ×Int):=match qa1 v20 with|some ((r22,r23),v24) =>some (r22,r23)|none =>none;bif r13 then match qdn c.Loans item with|some (r15,r16,r17) =>(match qcl r15 r17 v10 with|some (_,v19) =>k v19|none =>none)|none =>none else k v10|none =>none)|none =>none;bif v5 then match qs 10 v with|some (_,v7) =>k25 v7|none =>none else k25 v;bif decide (0≤r2) then match getI c.Items r2 with|some x =>(match qab c x with|some r4 =>k26 r4|none =>none)|none =>none else k26 false|none =>none)|none =>none
def zat2:((List Int)×(List Int)×Int×Int×Circ×Circ×Unit)→Option (((List Int)×(List Int)×Int×Int×Circ×Circ×Unit)⊕(((List Int)×Circ×Circ×Unit)⊕((List Int)×Int×Circ×Unit))):=fun (l,v,v1,v2,c,v3,_)=>
 bif decide (v2<v1) then match getI v v2 with|some x =>(match qcc (fun g x0=>qcy x0 g.2.1) c.Items ((),(x,())) with|some r4 =>bif !r4 then some (.inr (.inr ([],9,(⟨0,[],[],[],[],[],[],⟨⟨0,[]⟩,⟨0,[]⟩,⟨0,[]⟩,⟨0,[]⟩⟩,[],0,0,false⟩:Circ),()))) else some (.inl (l,v,v1,wr .i64 (v2+1),c,v3,()))|none =>none)|none =>none else some (.inr (.inl (l,c,v3,())))
def zat3:((List Int)×Int×Int×Circ×Circ×(List Int)×Unit)→Option (((List Int)×Int×Int×Circ×Circ×(List Int)×Unit)⊕((Circ×Circ×(List Int)×Unit))):=fun (v,v7,v8,c,v9,l,_)=>
 bif decide (v8<v7) then match getI v v8 with|some x =>(match qex c x with|some (r10,r11) =>bif r11==0 then bif decide (l.length+([x]:List Int).length≤LIM) then some (.inl (v,v7,wr .i64 (v8+1),r10,v9,l++([x]:List Int),())) else none else some (.inl (v,v7,wr .i64 (v8+1),c,v9,l,()))|none =>none)|none =>none else some (.inr ((c,v9,l,())))
def qj (c:Circ) (l:List Int):Option (Circ×(List Int)×Int):=
 match zah zat2 (l,l,(l.length:Int),0,c,(⟨0,[],[],[],[],[],[],⟨⟨0,[]⟩,⟨0,[]⟩,⟨0,[]⟩,⟨0,[]⟩⟩,[],0,0,false⟩:Circ),()) with|some (.inl (l5,c6,v,_)) =>(match zah zat3 (l5,(l5.length:Int),0,c6,v,([]:List Int),()) with|some ((c12,v13,l14,_)) =>some (c12,l14,0)|none =>none)|some (.inr (v15,v16,v17,_)) =>some (v17,v15,v16)|none =>none
def zad8:(Int×(List Weed_candidate)×Int×Int×Circ×(List Int)×(List MapI)×Unit)→Option ((Int×(List Weed_candidate)×Int×Int×Circ×(List Int)×(List MapI)×Unit)⊕(((List Int)×Unit))):=fun (most,v,v2,v3,c,l,l4,_)=>
 bif decide (v3<v2) then match getI v v3 with|some x =>let k (v6:Bool):Option ((Int×(List Weed_candidate)×Int×Int×Circ×(List Int)×(List MapI)×Unit)⊕(((List Int)×Unit))):=bif v6 then bif decide (l.length+([x.id_]:List Int).length≤LIM) then some (.inl (most,v,v2,wr .i64 (v3+1),c,l++([x.id_]:List Int),setM MapI.key x.record (⟨x.record,wr .i64 ((z17 MapI.key MapI.val l4 x.record)+1)⟩:MapI) l4,())) else none else some (.inl (most,v,v2,wr .i64 (v3+1),c,l,l4,()));bif decide ((l.length:Int)<most) then match qak c x.record with|some r5 =>k (decide (1<wr .i64 (r5-(z17 MapI.key MapI.val l4 x.record))))|none =>none else k false|none =>none else some (.inr ((l,())))
def qbp (c:Circ) (days:Int) (loans:Int) (most:Int):Option (List Int):=
 match qg c days loans with|some r1 =>(match zah zad8 (most,r1,(r1.length:Int),0,c,([]:List Int),([]:List MapI),()) with|some ((l,_)) =>some l|none =>none)|none =>none
def qe0:Option Bool:=
 match qbd with|some (r1,r2) =>(match qar r1 2 with|some (r4,r5) =>let k53 (v:Bool):Option Bool:=let k52 (v6:Bool):Option Bool:=let k51 (v9:Bool):Option Bool:=let k50 (v14:Bool):Option Bool:=let k49 (v19:Bool):Option Bool:=let k48 (v24:Bool):Option Bool:=bif v24 then some false else match qj r1 ([1,3]) with|some (r26,r27,r28) =>(match qj r1 ([1,9]) with|some (r30,r31,r32) =>(match qbp r1 50 1 5 with|some r34 =>(match qal r34 ([1]) with|some r36 =>let k47 (v37:Bool):Option Bool:=let k46 (v40:Bool):Option Bool:=let k45 (v43:Bool):Option Bool:=let k (v44:Bool):Option Bool:=some v44;bif v43 then k (r32==9) else k false;bif v40 then match qak r26 5 with|some r42 =>k45 (r42==1)|none =>none else k45 false;bif v37 then match qal r27 ([1,3]) with|some r39 =>k46 r39|none =>none else k46 false;bif r36 then k47 (r28==0) else k47 false|none =>none)|none =>none)|none =>none)|none =>none;bif v19 then k48 true else match qa9 r1 50 0 with|some r21 =>(match qal r21 ([1,3]) with|some r23 =>k48 (!r23)|none =>none)|none =>none;bif v14 then k49 true else match qa9 r1 190 1 with|some r16 =>(match qal r16 ([1,3]) with|some r18 =>k49 (!r18)|none =>none)|none =>none;bif v9 then k50 true else match qa9 r1 50 1 with|some r11 =>(match qal r11 ([1,3,2]) with|some r13 =>k50 (!r13)|none =>none)|none =>none;bif v6 then k51 true else match qak r1 5 with|some r8 =>k51 (!(r8==2))|none =>none;bif v then k52 true else k52 (!(r5==120));bif !r2 then k53 true else k53 (!(r4==1))|none =>none)|none =>none
def zkt:(Int×Int×Int×Int×Circ×Unit)→Option ((Int×Int×Int×Int×Circ×Unit)⊕((Int×Int×Unit))):=fun (item,n,last,i,c,_)=>
 bif decide (i<(c.Moves.length:Int)) then match getI c.Moves i with|some x =>let k7 (v2:Bool):Option ((Int×Int×Int×Int×Circ×Unit)⊕((Int×Int×Unit))):=bif v2 then some (.inl (item,n,last,wr .i64 (i+1),c,())) else let k6 (n3:Int):Option ((Int×Int×Int×Int×Circ×Unit)⊕((Int×Int×Unit))):=let k5 (last4:Int):Option ((Int×Int×Int×Int×Circ×Unit)⊕((Int×Int×Unit))):=some (.inl (item,n3,last4,wr .i64 (i+1),c,()));bif decide (last<x.Day) then k5 x.Day else k5 last;bif x.Kind==3 then k6 (wr .i64 (n+1)) else k6 n;bif !(x.Item==item) then k7 true else let k (v:Bool):Option ((Int×Int×Int×Int×Circ×Unit)⊕((Int×Int×Unit))):=bif v then k7 (!(x.Kind==4)) else k7 false;bif !(x.Kind==1) then k (!(x.Kind==3)) else k false|none =>none else some (.inr ((n,last,())))
def qbr (c:Circ) (item:Int):Option (Int×Int):=
 match zah zkt (item,0,(-1),0,c,()) with|some ((n,last,_)) =>some (n,last)|none =>none
def zks:(Int×Int×Int×Circ×Unit)→Option ((Int×Int×Int×Circ×Unit)⊕((Int×Unit))):=fun (record,n,i,c,_)=>
 bif decide (i<(c.Items.length:Int)) then match getI c.Items i with|some x =>let k3 (v:Bool):Option ((Int×Int×Int×Circ×Unit)⊕((Int×Unit))):=let k (n2:Int):Option ((Int×Int×Int×Circ×Unit)⊕((Int×Unit))):=some (.inl (record,n2,wr .i64 (i+1),c,()));bif v then k (wr .i64 (n+1)) else k n;bif x.Record==record then match getI c.Items i with|some x1 =>k3 (!(x1.Custody.State==12))|none =>none else k3 false|none =>none else some (.inr ((n,())))
def qbo (c:Circ) (record:Int):Option Int:=
 match zah zks (record,0,0,c,()) with|some ((n,_)) =>some n|none =>none
def qde (c:Circ) (item:Int) (record:Int):Option Bool:=
 match qfg c with|some r1 =>(bif !r1 then match qe0 with|some r3 =>some r3|none =>none else match qar c item with|some (r5,r6) =>(match qbr c item with|some (r8,r9) =>(match qe0 with|some r11 =>let k19 (v:Bool):Option Bool:=let k18 (v12:Bool):Option Bool:=let k (v17:Bool):Option Bool:=some v17;bif v12 then match qak c record with|some r14 =>(match qbo c record with|some r16 =>k (r14==r16)|none =>none)|none =>none else k false;bif v then k18 (r6==r9) else k18 false;bif r11 then k19 (r5==r8) else k19 false|none =>none)|none =>none)|none =>none)|none =>none
end Go.Proofs.YtpaidiaknfhclaaGreatDoor
namespace Go.Proofs.YtpaidiaknfhclaaGreatDoor
set_option maxRecDepth 100000
open Ev
open Go (IntKind)
open Go
theorem zm2:CCOk zax:=CCOk.iso (CCOk.cons (zai.int _) (CCOk.cons (zai.int _) (CCOk.cons (zai.int _) (CCOk.cons (zai.int _) CCOk.nil)))) (fun _=>rfl)
theorem zm4:CCOk za1:=CCOk.iso (CCOk.cons (zai.int _) (CCOk.cons (zai.int _) (CCOk.cons (zai.int _) (CCOk.cons (zai.int _) (CCOk.cons (zai.int _) (CCOk.cons zai.str (CCOk.cons (zai.int _) (CCOk.cons (zai.int _) (CCOk.cons (zai.int _) (CCOk.cons (zai.int _) CCOk.nil)))))))))) (fun _=>rfl)
theorem zhu:CCOk zba:=CCOk.iso (CCOk.cons (zai.int _) (CCOk.cons (zai.int _) (CCOk.cons (zai.int _) (CCOk.cons (zai.int _) (CCOk.cons zai.bool (CCOk.cons zai.str CCOk.nil)))))) (fun _=>rfl)
theorem zm5:CCOk zcj:=CCOk.iso (CCOk.cons (zai.int _) (CCOk.cons (zai.int _) (CCOk.cons (zai.int _) (CCOk.cons (zai.int _) (CCOk.cons (zai.int _) (CCOk.cons zai.bool CCOk.nil)))))) (fun _=>rfl)
theorem zm3:CCOk zbj:=CCOk.iso (CCOk.cons (zai.int _) (CCOk.cons (zai.int _) (CCOk.cons (zai.int _) (CCOk.cons (zai.int _) (CCOk.cons (zai.int _) (CCOk.cons (zai.int _) (CCOk.cons (zai.int _) (CCOk.cons (zai.int _) (CCOk.cons (zai.int _) (CCOk.cons (zai.int _) (CCOk.cons (zai.int _) CCOk.nil))))))))))) (fun _=>rfl)
theorem zht:CCOk zc6:=CCOk.iso (CCOk.cons (zai.int _) (CCOk.cons (zai.int _) (CCOk.cons (zai.int _) (CCOk.cons (zai.int _) (CCOk.cons (zai.int _) (CCOk.cons (zai.int _) (CCOk.cons (zai.int _) CCOk.nil))))))) (fun _=>rfl)
theorem zm8:CCOk zcy:=CCOk.iso (CCOk.cons (zai.int _) (CCOk.cons (zai.int _) (CCOk.cons (zai.int _) (CCOk.cons (zai.int _) (CCOk.cons (zai.int _) (CCOk.cons (zai.int _) (CCOk.cons (zai.int _) (CCOk.cons (zai.int _) (CCOk.cons (zai.int _) (CCOk.cons (zai.int _) (CCOk.cons (zai.int _) (CCOk.cons (zai.int _) (CCOk.cons (zai.int _) CCOk.nil))))))))))))) (fun _=>rfl)
theorem zlf:CCOk zaw:=CCOk.iso (CCOk.cons (zai.int _) (CCOk.cons (zai.lst _) CCOk.nil)) (fun _=>rfl)
theorem zm7:CCOk zf7:=CCOk.iso (CCOk.cons (zai.int _) (CCOk.cons (zai.int _) (CCOk.cons (zai.int _) (CCOk.cons (zai.int _) (CCOk.cons (zai.int _) CCOk.nil))))) (fun _=>rfl)
theorem zyb:CCOk zal:=CCOk.iso (CCOk.cons (zai.int _) (CCOk.cons (zai.lst _) (CCOk.cons (zai.lst _) (CCOk.cons (zai.lst _) (CCOk.cons (zai.lst _) (CCOk.cons (zai.lst _) (CCOk.cons (zai.lst _) (CCOk.cons (zai.int _) (CCOk.cons (zai.lst _) (CCOk.cons (zai.int _) (CCOk.cons (zai.lst _) (CCOk.cons (zai.int _) (CCOk.cons (zai.lst _) (CCOk.cons (zai.int _) (CCOk.cons (zai.lst _) (CCOk.cons (zai.lst _) (CCOk.cons (zai.int _) (CCOk.cons (zai.int _) (CCOk.cons zai.bool CCOk.nil))))))))))))))))))) (fun _=>rfl)
theorem zjh:CCOk zau:=CCOk.iso (CCOk.cons (zai.int _) (CCOk.cons (zai.lst _) (CCOk.cons (zai.lst _) (CCOk.cons (zai.lst _) (CCOk.cons (zai.lst _) (CCOk.cons (zai.lst _) (CCOk.cons (zai.lst _) (CCOk.cons (zai.int _) (CCOk.cons (zai.lst _) (CCOk.cons (zai.int _) (CCOk.cons (zai.lst _) (CCOk.cons (zai.int _) (CCOk.cons (zai.lst _) (CCOk.cons (zai.int _) (CCOk.cons (zai.lst _) (CCOk.cons (zai.lst _) (CCOk.cons (zai.int _) (CCOk.cons (zai.int _) (CCOk.cons zai.bool (CCOk.cons (zai.int _) CCOk.nil)))))))))))))))))))) (fun _=>rfl)
theorem zc7:CCOk zbl:=CCOk.iso (CCOk.cons (zai.int _) (CCOk.cons (zai.int _) (CCOk.cons (zai.int _) (CCOk.cons (zai.int _) CCOk.nil)))) (fun _=>rfl)
theorem zm6:CCOk zpn:=CCOk.iso (CCOk.cons (zai.int _) (CCOk.cons (zai.int _) CCOk.nil)) (fun _=>rfl)
theorem zct:CCOk zb4:=CCOk.iso (CCOk.cons (zai.int _) (CCOk.cons (zai.int _) CCOk.nil)) (fun _=>rfl)
theorem zgz:CCOk zdk:=CCOk.iso (CCOk.cons (zai.int _) (CCOk.cons (zai.lst _) (CCOk.cons (zai.int _) (CCOk.cons (zai.lst _) (CCOk.cons (zai.int _) (CCOk.cons (zai.lst _) (CCOk.cons (zai.int _) (CCOk.cons (zai.lst _) CCOk.nil)))))))) (fun _=>rfl)
theorem zm9:CCOk zbk:=CCOk.iso (CCOk.cons zai.bool (CCOk.cons zai.bool (CCOk.cons zai.bool (CCOk.cons zai.bool (CCOk.cons zai.bool (CCOk.cons zai.bool (CCOk.cons zai.bool CCOk.nil))))))) (fun _=>rfl)
instance:CCC zax:=⟨zm2⟩
instance:CCC za1:=⟨zm4⟩
instance:CCC zba:=⟨zhu⟩
instance:CCC zcj:=⟨zm5⟩
instance:CCC zbj:=⟨zm3⟩
instance:CCC zc6:=⟨zht⟩
instance:CCC zcy:=⟨zm8⟩
instance:CCC zaw:=⟨zlf⟩
instance:CCC zf7:=⟨zm7⟩
instance:CCC zal:=⟨zyb⟩
instance:CCC zau:=⟨zjh⟩
instance:CCC zbl:=⟨zc7⟩
instance:CCC zpn:=⟨zm6⟩
instance:CCC zb4:=⟨zct⟩
instance:CCC zdk:=⟨zgz⟩
instance:CCC zbk:=⟨zm9⟩
end Go.Proofs.YtpaidiaknfhclaaGreatDoor
namespace Go.Proofs.YtpaidiaknfhclaaGreatDoor
set_option maxRecDepth 100000
open Ev
open Go (IntKind)
abbrev zf5:ZC (Circ×Unit):=Zc (Cod.agg zal) Zn
abbrev zat:ZD (Bool):=Zb
abbrev zaut {R:Type}:Sm R:=semP zf5 zat (fun a=>qa a.1)
def zafx {R:Type}:Nat→Sm R:=c0
abbrev z0r:=mkld [] [] [1,3] [1] [] (Zp 1 1 (Zs 3 Zi (Zx 1 zal Zz))) zwh (.xs 0 [1] [1] [] (Zp 1 1 (Zx 1 zal Zz)) (.r [2] [] [] (Zs 2 Zb Zz)))
abbrev z0s:=mkld [] [] [1,4] [1] [] (Zp 1 1 (Zs 4 Zi (Zx 1 zal Zz))) zwi (.xs 2 [1] [1] [] (Zp 1 1 (Zx 1 zal Zz)) (.r [2] [] [] (Zs 2 Zb Zz)))
abbrev zsm:=mkld [] [] [1,5] [1] [] (Zp 1 1 (Zs 5 Zi (Zx 1 zal Zz))) zgs (.xs 4 [] [] [] Zz (.r [2] [] [] (Zs 2 Zb Zz)))
def zhb {R:Type}:Lp Kd El R:=lp 14 zsm.sem (lp 9 z0s.sem (lp 4 z0r.sem l0))
abbrev zaa3:ZC ((List UInt8)×Int×Unit):=Zc Cod.str (Zc Zi Zn)
abbrev zgu:ZD (Int×Int):=(Cod.tup2 (Zc Zi (Zc Zi Zn)))
abbrev zq9 {R:Type}:Sm R:=semP zaa3 zgu (fun a=>qbf a.1 a.2.1)
abbrev zrh:ZC ((List UInt8)×Unit):=Zc Cod.str Zn
abbrev zq6 {R:Type}:Sm R:=semP zrh zat (fun a=>qad a.1)
def z6l {R:Type}:Nat→Sm R:=cl 146 zq9 c0
abbrev zsp:=mkld [] [] [0,3] [] [] (Zs 0 Cod.str (Zs 3 Zi Zz)) zkj (.xs 0 [] [] [] Zz (.r [2] [] [] (Zs 2 Zb Zz)))
def zn5 {R:Type}:Lp Kd El R:=lp 2 zsp.sem l0
abbrev za0:ZD (Int):=Zi
abbrev zae6 {R:Type}:Sm R:=semP zaa3 za0 (fun a=>qe a.1 a.2.1)
abbrev zbz:ZC (Int×Unit):=Zc Zi Zn
abbrev z29 {R:Type}:Sm R:=semP zbz zat (fun a=>qaf a.1)
abbrev zaej:ZD ((List UInt8)):=Cod.str
abbrev z3j {R:Type}:Sm R:=semP zrh zaej (fun a=>qay a.1)
def z62 {R:Type}:Nat→Sm R:=cl 146 zq9 (cl 147 zae6 (cl 148 z29 c0))
abbrev zs7:=mkld [] [] [0,3,4,5] [] [] (Zs 0 Cod.str (Zs 3 Cod.str (Zs 4 Zb (Zs 5 Zi Zz)))) zkr (.x 0 [3] [] [] (Zs 3 Cod.str Zz))
def zom {R:Type}:Lp Kd El R:=lp 4 zs7.sem l0
abbrev zrj:ZC ((List Patron)×Unit):=Zc (Zl .kPatron) Zn
abbrev z3d {R:Type}:Sm R:=semP zrj za0 (fun a=>qan a.1)
def z6t {R:Type}:Nat→Sm R:=cl 88 zq6 (cl 89 z3j c0)
abbrev zsx:=mkld [] [] [0,3] [] [] (Zs 0 (Zl .kPatron) (Zs 3 Zi Zz)) zis (.xs 0 [] [] [] Zz (.r [2] [] [] (Zs 2 Zi Zz)))
def zod {R:Type}:Lp Kd El R:=lp 4 zsx.sem l0
abbrev zri:ZC ((List Loan)×Unit):=Zc (Zl .kLoan) Zn
abbrev z3c {R:Type}:Sm R:=semP zri za0 (fun a=>qam a.1)
def z6s {R:Type}:Nat→Sm R:=c0
abbrev zsw:=mkld [] [] [0,3] [] [] (Zs 0 (Zl .kLoan) (Zs 3 Zi Zz)) zir (.xs 0 [] [] [] Zz (.r [2] [] [] (Zs 2 Zi Zz)))
def zoc {R:Type}:Lp Kd El R:=lp 4 zsw.sem l0
abbrev zan7 {R:Type}:Sm R:=semP zbz zat (fun a=>qd8 a.1)
abbrev zao6 {R:Type}:Sm R:=semP zbz zat (fun a=>qer a.1)
abbrev zabc:ZC (Hold×Unit):=Zc (Cod.agg zbj) Zn
abbrev z4w {R:Type}:Sm R:=semP zabc za0 (fun a=>qdk a.1)
abbrev zafn:ZC ((List Hold)×Unit):=Zc (Zl .kHold) Zn
abbrev zafa {R:Type}:Sm R:=semP zafn za0 (fun a=>qm a.1)
def zaf8 {R:Type}:Nat→Sm R:=cl 90 z4w c0
abbrev z07:=mkld [] [] [0,3] [] [] (Zs 0 (Zl .kHold) (Zs 3 Zi Zz)) zqu (.xs 0 [0] [] [] (Zs 0 (Zl .kHold) Zz) (.r [2] [] [] (Zs 2 Zi Zz)))
abbrev ztn:=mkld [] [] [0,5,6] [] [] (Zs 0 (Zl .kHold) (Zs 5 Zi (Zs 6 Zi Zz))) ziw (.xs 4 [0,5] [] [] (Zs 0 (Zl .kHold) (Zs 5 Zi Zz)) (.r [2] [] [] (Zs 2 Zi Zz)))
abbrev ztm:=mkld [] [] [0,5] [] [] (Zs 0 (Zl .kHold) (Zs 5 Zi Zz)) zkv (.xs 2 [] [] [] Zz (.r [2] [] [] (Zs 2 Zi Zz)))
def zhd {R:Type}:Lp Kd El R:=lp 12 ztm.sem (lp 15 ztn.sem (lp 4 z07.sem l0))
abbrev z48 {R:Type}:Sm R:=semP zbz zat (fun a=>qe3 a.1)
abbrev zaa0:ZC ((List Charge)×Unit):=Zc (Zl .kCharge) Zn
abbrev z3i {R:Type}:Sm R:=semP zaa0 za0 (fun a=>qax a.1)
def z61 {R:Type}:Nat→Sm R:=cl 91 z48 c0
abbrev zs6:=mkld [] [] [0,3] [] [] (Zs 0 (Zl .kCharge) (Zs 3 Zi Zz)) zit (.xs 0 [] [] [] Zz (.r [2] [] [] (Zs 2 Zi Zz)))
def zol {R:Type}:Lp Kd El R:=lp 4 zs6.sem l0
abbrev zmq:ZC (Int×Int×Int×Unit):=Zc Zi (Zc Zi (Zc Zi Zn))
abbrev zana {R:Type}:Sm R:=semP zmq zat (fun a=>qbe a.1 a.2.1 a.2.2.1)
abbrev zxa:ZC (Rule×Unit):=Zc (Cod.agg zcy) Zn
abbrev z30 {R:Type}:Sm R:=semP zxa zat (fun a=>qc1 a.1)
abbrev zaqx:ZC ((List Rule)×Unit):=Zc (Zl .kRule) Zn
abbrev zae9 {R:Type}:Sm R:=semP zaqx za0 (fun a=>ql a.1)
def zaf7 {R:Type}:Nat→Sm R:=cl 92 z30 c0
abbrev z06:=mkld [] [] [0,3,4] [] [] (Zs 0 (Zl .kRule) (Zs 3 Zi (Zs 4 Zi Zz))) zqt (.xs 2 [0,3] [] [] (Zs 0 (Zl .kRule) (Zs 3 Zi Zz)) (.r [2] [] [] (Zs 2 Zi Zz)))
abbrev z05:=mkld [] [] [0,3] [] [] (Zs 0 (Zl .kRule) (Zs 3 Zi Zz)) zwn (.xs 0 [] [] [] Zz (.r [2] [] [] (Zs 2 Zi Zz)))
def zl7 {R:Type}:Lp Kd El R:=lp 4 z05.sem (lp 9 z06.sem l0)
abbrev zafo:ZC (Calendar×Unit):=Zc (Cod.agg zaw) Zn
abbrev zafe {R:Type}:Sm R:=semP zafo za0 (fun a=>qw a.1)
def zagh {R:Type}:Nat→Sm R:=c0
abbrev z1j:=mkld [] [] [1,3] [1] [] (Zp 1 1 (Zs 3 Zi (Zx 1 zaw Zz))) zqv (.xs 0 [1] [1] [] (Zp 1 1 (Zx 1 zaw Zz)) (.r [2] [] [] (Zs 2 Zi Zz)))
abbrev zts:=mkld [] [] [1,4] [1] [] (Zp 1 1 (Zs 4 Zi (Zx 1 zaw Zz))) zix (.xs 2 [] [] [] Zz (.r [2] [] [] (Zs 2 Zi Zz)))
def zl9 {R:Type}:Lp Kd El R:=lp 11 zts.sem (lp 6 z1j.sem l0)
abbrev zrk:ZC ((List Patron)×Int×Unit):=Zc (Zl .kPatron) (Zc Zi Zn)
abbrev zam0 {R:Type}:Sm R:=semP zrk za0 (fun a=>qas a.1 a.2.1)
def z6x {R:Type}:Nat→Sm R:=c0
abbrev zs1:=mkld [] [] [0,1,5] [] [] (Zs 0 (Zl .kPatron) (Zs 1 Zi (Zs 5 Zi Zz))) zkq (.xs 0 [] [] [] Zz (.r [4] [] [] (Zs 4 Zi Zz)))
def zoh {R:Type}:Lp Kd El R:=lp 2 zs1.sem l0
abbrev zaek:ZD (Patron×Bool):=(Cod.tup2 (Zc (Cod.agg zba) (Zc Zb Zn)))
abbrev zml {R:Type}:Sm R:=semP zrk zaek (fun a=>qb6 a.1 a.2.1)
abbrev zaev:ZD (Custody):=(Cod.agg zax)
abbrev z4x {R:Type}:Sm R:=semP zbz zaev (fun a=>qdl a.1)
abbrev zao9 {R:Type}:Sm R:=semP zbz zat (fun a=>qfa a.1)
abbrev zxh:ZC (Custody×Unit):=Zc (Cod.agg zax) Zn
abbrev zaoi {R:Type}:Sm R:=semP zxh zat (fun a=>qdm a.1)
abbrev zaqt:ZC (Move×Unit):=Zc (Cod.agg zf7) Zn
abbrev zao0 {R:Type}:Sm R:=semP zaqt zat (fun a=>qek a.1)
abbrev zub:ZD ((List Int)):=(Zl .ki64)
abbrev z4o {R:Type}:Sm R:=semP zbz zub (fun a=>qcs a.1)
abbrev zjs:ZC (Int×Int×Unit):=Zc Zi (Zc Zi Zn)
abbrev zamw {R:Type}:Sm R:=semP zjs zat (fun a=>qah a.1 a.2.1)
def z6n {R:Type}:Nat→Sm R:=cl 238 z4o c0
abbrev zsr:=mkld [] [] [0,5,6] [] [] (Zs 0 Zi (Zs 5 (Zl .ki64) (Zs 6 Zi Zz))) zkk (.xs 0 [] [] [] Zz (.r [4] [] [] (Zs 4 Zb Zz)))
def zn7 {R:Type}:Lp Kd El R:=lp 3 zsr.sem l0
abbrev zro:ZC (Custody×Move×Unit):=Zc (Cod.agg zax) (Zc (Cod.agg zf7) Zn)
abbrev zanr {R:Type}:Sm R:=semP zro zat (fun a=>qc9 a.1 a.2.1)
abbrev zape {R:Type}:Sm R:=semP zbz za0 (fun a=>qff a.1)
abbrev zuc:ZD (Custody×Int):=(Cod.tup2 (Zc (Cod.agg zax) (Zc Zi Zn)))
abbrev z4p {R:Type}:Sm R:=semP zro zuc (fun a=>qct a.1 a.2.1)
abbrev zaaz:ZC (Int×(List Move)×Int×Unit):=Zc Zi (Zc (Zl .kMove) (Zc Zi Zn))
abbrev zaei:ZD (Custody×Int×Int):=(Cod.tup3 (Zc (Cod.agg zax) (Zc Zi (Zc Zi Zn))))
abbrev z3a {R:Type}:Sm R:=semP zaaz zaei (fun a=>qai a.1 a.2.1 a.2.2.1)
def z6o {R:Type}:Nat→Sm R:=cl 124 z4p (cl 152 z4x c0)
abbrev zss:=mkld [] [] [1,2,6,9,10] [6,9] [] (Zs 1 (Zl .kMove) (Zs 2 Zi (Zp 6 6 (Zp 9 9 (Zs 10 Zi (Zx 6 zax (Zx 9 zax Zz))))))) zkl (.xs 0 [6,9] [6,9] [] (Zp 6 6 (Zp 9 9 (Zx 6 zax (Zx 9 zax Zz)))) (.r [7,8] [6] [6] (Zp 6 6 (Zs 7 Zi (Zs 8 Zi (Zx 6 zax Zz))))))
def zn8 {R:Type}:Lp Kd El R:=lp 5 zss.sem l0
abbrev zjf:ZC (Circ×Int×Unit):=Zc (Cod.agg zal) (Zc Zi Zn)
abbrev zuh {R:Type}:Sm R:=semP zjf za0 (fun a=>qt a.1 a.2.1)
def zage {R:Type}:Nat→Sm R:=c0
abbrev z1g:=mkld [] [] [1,2,5] [2] [] (Zs 1 Zi (Zp 2 2 (Zs 5 Zi (Zx 2 zal Zz)))) zwq (.xs 0 [] [] [] Zz (.r [4] [] [] (Zs 4 Zi Zz)))
def zt6 {R:Type}:Lp Kd El R:=lp 2 z1g.sem l0
abbrev zafg {R:Type}:Sm R:=semP zf5 zat (fun a=>qy a.1)
def zagj {R:Type}:Nat→Sm R:=cl 73 zuh (cl 88 zq6 (cl 94 z3a c0))
abbrev z1l:=mkld [] [] [1,3] [1] [] (Zp 1 1 (Zs 3 Zi (Zx 1 zal Zz))) zqx (.xs 0 [1] [1] [] (Zp 1 1 (Zx 1 zal Zz)) (.r [2] [] [] (Zs 2 Zb Zz)))
abbrev ztu:=mkld [] [] [1,8] [1] [] (Zp 1 1 (Zs 8 Zi (Zx 1 zal Zz))) ziy (.xs 2 [] [] [] Zz (.r [2] [] [] (Zs 2 Zb Zz)))
def zmb {R:Type}:Lp Kd El R:=lp 15 ztu.sem (lp 4 z1l.sem l0)
abbrev z5a {R:Type}:Sm R:=semP zxh zat (fun a=>qef a.1)
abbrev zjt:ZC ((List Loan)×Int×Unit):=Zc (Zl .kLoan) (Zc Zi Zn)
abbrev zamx {R:Type}:Sm R:=semP zjt za0 (fun a=>qaj a.1 a.2.1)
def z6p {R:Type}:Nat→Sm R:=c0
abbrev zst:=mkld [] [] [0,1,5] [] [] (Zs 0 (Zl .kLoan) (Zs 1 Zi (Zs 5 Zi Zz))) zkm (.xs 0 [] [] [] Zz (.r [4] [] [] (Zs 4 Zi Zz)))
def zn9 {R:Type}:Lp Kd El R:=lp 2 zst.sem l0
abbrev zaew:ZD (Loan×Bool):=(Cod.tup2 (Zc (Cod.agg zcj) (Zc Zb Zn)))
abbrev z4y {R:Type}:Sm R:=semP zjt zaew (fun a=>qdo a.1 a.2.1)
abbrev zaff {R:Type}:Sm R:=semP zf5 zat (fun a=>qx a.1)
def zagi {R:Type}:Nat→Sm R:=cl 48 zml (cl 73 zuh (cl 95 z5a (cl 96 z4y c0)))
abbrev z1k:=mkld [] [] [1,3] [1] [] (Zp 1 1 (Zs 3 Zi (Zx 1 zal Zz))) zqw (.xs 0 [1] [1] [] (Zp 1 1 (Zx 1 zal Zz)) (.r [2] [] [] (Zs 2 Zb Zz)))
abbrev ztt:=mkld [] [] [1,8] [1] [] (Zp 1 1 (Zs 8 Zi (Zx 1 zal Zz))) zkw (.xs 2 [] [] [] Zz (.r [2] [] [] (Zs 2 Zb Zz)))
def zma {R:Type}:Lp Kd El R:=lp 10 ztt.sem (lp 2 z1k.sem l0)
abbrev z2r:ZD (Hold×Bool):=(Cod.tup2 (Zc (Cod.agg zbj) (Zc Zb Zn)))
abbrev z3f {R:Type}:Sm R:=semP zjf z2r (fun a=>qaq a.1 a.2.1)
def z6v {R:Type}:Nat→Sm R:=c0
abbrev zsz:=mkld [] [] [1,2,4,6] [2,4] [] (Zs 1 Zi (Zp 2 2 (Zp 4 4 (Zs 6 Zi (Zx 2 zal (Zx 4 zbj Zz)))))) zko (.xs 0 [4] [4] [] (Zp 4 4 (Zx 4 zbj Zz)) (.r [5] [4] [4] (Zp 4 4 (Zs 5 Zb (Zx 4 zbj Zz)))))
def zof {R:Type}:Lp Kd El R:=lp 2 zsz.sem l0
abbrev zafh {R:Type}:Sm R:=semP zf5 zat (fun a=>qz a.1)
def zagk {R:Type}:Nat→Sm R:=cl 48 zml (cl 73 zuh (cl 97 z3f c0))
abbrev z1m:=mkld [] [] [1,3] [1] [] (Zp 1 1 (Zs 3 Zi (Zx 1 zal Zz))) zqy (.xs 0 [1] [1] [] (Zp 1 1 (Zx 1 zal Zz)) (.r [2] [] [] (Zs 2 Zb Zz)))
abbrev ztv:=mkld [] [] [1,9] [1] [] (Zp 1 1 (Zs 9 Zi (Zx 1 zal Zz))) zkx (.xs 2 [] [] [] Zz (.r [2] [] [] (Zs 2 Zb Zz)))
def zmc {R:Type}:Lp Kd El R:=lp 18 ztv.sem (lp 2 z1m.sem l0)
abbrev zamv {R:Type}:Sm R:=semP zf5 zat (fun a=>qac a.1)
def z6k {R:Type}:Nat→Sm R:=cl 42 z3d (cl 43 z3c (cl 44 zafa (cl 45 z3i (cl 46 zae9 (cl 47 zafe (cl 48 zml (cl 49 zafg (cl 50 zaff (cl 51 zafh c0)))))))))
abbrev zso:=mkld [] [] [1,3] [1] [] (Zp 1 1 (Zs 3 Zi (Zx 1 zal Zz))) zgt (.xs 0 [1] [1] [] (Zp 1 1 (Zx 1 zal Zz)) (.r [2] [] [] (Zs 2 Zb Zz)))
abbrev znr:=mkld [] [] [1,4] [1] [] (Zp 1 1 (Zs 4 Zi (Zx 1 zal Zz))) zfd (.xs 2 [1] [1] [] (Zp 1 1 (Zx 1 zal Zz)) (.r [2] [] [] (Zs 2 Zb Zz)))
def zid {R:Type}:Lp Kd El R:=lp 11 znr.sem (lp 6 zso.sem l0)
abbrev zapf {R:Type}:Sm R:=semP zf5 zat (fun a=>qfg a.1)
abbrev zaes:ZD (Circ):=(Cod.agg zal)
abbrev zan6 {R:Type}:Sm R:=semP zbz zaes (fun a=>qd7 a.1)
abbrev zaa7:ZC (Item×Int×Unit):=Zc (Cod.agg za1) (Zc (Cod.cptr (CC.one Zi)) Zn)
abbrev z4n {R:Type}:Sm R:=semP zaa7 zat (fun a=>qcr a.1 a.2.1)
abbrev zava:ZC ((List Item)×((Unit)×(Int×Unit))×Unit):=Zc (Zl .kItem) (Zc (Cod.fnc 127 (Zn) (Zc (Cod.cptr (CC.one Zi)) Zn)) Zn)
abbrev zauv {R:Type}:Sm R:=semP zava za0 (fun a=>qc (fun g x0=>qcr x0 g.2.1) a.1 a.2.1)
def zafz {R:Type}:Nat→Sm R:=cl 127 z4n c0
abbrev z0u:=mkld [] [] [0,1,7,8] [] [] (Zs 0 (Zl .kItem) (Zs 1 (Cod.fnc 127 (Zn) (Zc (Cod.cptr (CC.one Zi)) Zn)) (Zs 7 Zi (Zs 8 Zi Zz)))) (z2i (fun g x0=>qcr x0 g.2.1)) (.xs 0 [] [] [] Zz (.r [4] [] [] (Zs 4 Zi Zz)))
def zt0 {R:Type}:Lp Kd El R:=lp 2 z0u.sem l0
abbrev zmk {R:Type}:Sm R:=semP zjf za0 (fun a=>qag a.1 a.2.1)
abbrev z42 {R:Type}:Sm R:=semP zbz zaev (fun a=>qdy a.1)
abbrev zaa5:ZC (Item×Item×Unit):=Zc (Cod.agg za1) (Zc (Cod.cptr za1) Zn)
abbrev z4l {R:Type}:Sm R:=semP zaa5 zat (fun a=>qcp a.1 a.2.1)
abbrev z5w:ZC ((List Item)×((Unit)×(Item×Unit))×Unit):=Zc (Zl .kItem) (Zc (Cod.fnc 101 (Zn) (Zc (Cod.cptr za1) Zn)) Zn)
abbrev z4a {R:Type}:Sm R:=semP z5w za0 (fun a=>qc (fun g x0=>qcp x0 g.2.1) a.1 a.2.1)
def zu2 {R:Type}:Nat→Sm R:=cl 101 z4l c0
abbrev zj9:=mkld [] [] [0,1,7,8] [] [] (Zs 0 (Zl .kItem) (Zs 1 (Cod.fnc 101 (Zn) (Zc (Cod.cptr za1) Zn)) (Zs 7 Zi (Zs 8 Zi Zz)))) (z2i (fun g x0=>qcp x0 g.2.1)) (.xs 0 [] [] [] Zz (.r [4] [] [] (Zs 4 Zi Zz)))
def zij {R:Type}:Lp Kd El R:=lp 2 zj9.sem l0
abbrev zaqa:ZC ((List Item)×Unit):=Zc (Zl .kItem) Zn
abbrev zaen:ZD ((List Item)):=(Zl .kItem)
abbrev zant {R:Type}:Sm R:=semP zaqa zaen (fun a=>qce a.1)
abbrev zxk:ZC ((List Item)×Int×(List Item)×Unit):=Zc (Zl .kItem) (Zc Zi (Zc (Zl .kItem) Zn))
abbrev zae0:ZD ((List Item)):=zaen
def zade (a:(List Item)×Int×(List Item)×Unit):Option ((List Item)):=qdt a.1 a.2.1 a.2.2.1
abbrev zavv {R:Type}:Sm R:=semP zxk zae0 zade
abbrev z3l {R:Type}:Sm R:=semP zmq zat (fun a=>qb3 a.1 a.2.1 a.2.2.1)
abbrev zxc:ZC ((List UInt8)×Unit):=zrh
abbrev zaem:ZD (Bool):=zat
def zac7 (a:(List UInt8)×Unit):Option (Bool):=qc8 a.1
abbrev zavr {R:Type}:Sm R:=semP zxc zaem zac7
abbrev zaqr:ZC (Item×Unit):=Zc (Cod.agg za1) Zn
abbrev z41 {R:Type}:Sm R:=semP zaqr zat (fun a=>qdx a.1)
abbrev z3w {R:Type}:Sm R:=semP zmq zat (fun a=>qbn a.1 a.2.1 a.2.2.1)
abbrev zaos {R:Type}:Sm R:=semP zxh zat (fun a=>qe9 a.1)
abbrev zaoq {R:Type}:Sm R:=semP zjs zat (fun a=>qe7 a.1 a.2.1)
abbrev zaqf:ZC (Custody×Bool×Unit):=Zc (Cod.agg zax) (Zc Zb Zn)
abbrev zanu {R:Type}:Sm R:=semP zaqf zuc (fun a=>qck a.1 a.2.1)
abbrev zapa {R:Type}:Sm R:=semP zro zuc (fun a=>qfb a.1 a.2.1)
abbrev z43 {R:Type}:Sm R:=semP zro zuc (fun a=>qdz a.1 a.2.1)
abbrev z3v {R:Type}:Sm R:=semP zaaz zaei (fun a=>qbk a.1 a.2.1 a.2.2.1)
def z7b {R:Type}:Nat→Sm R:=cl 100 z42 (cl 128 z3w (cl 129 z43 c0))
abbrev ztf:=mkld [] [] [2,6,9,20,21,22] [6,9] [] (Zs 2 Zi (Zp 6 6 (Zp 9 9 (Zs 20 (Zl .kMove) (Zs 21 Zi (Zs 22 Zi (Zx 6 zax (Zx 9 zax Zz)))))))) zad5 (.xs 0 [6,9] [6,9] [] (Zp 6 6 (Zp 9 9 (Zx 6 zax (Zx 9 zax Zz)))) (.r [7,8] [6] [6] (Zp 6 6 (Zs 7 Zi (Zs 8 Zi (Zx 6 zax Zz))))))
def zou {R:Type}:Lp Kd El R:=lp 5 ztf.sem l0
abbrev zau2 {R:Type}:Sm R:=semP zf5 zat (fun a=>qr a.1)
def zagd {R:Type}:Nat→Sm R:=cl 76 z41 (cl 77 zmk (cl 78 z3v c0))
abbrev z1f:=mkld [] [] [1,23,24,25] [1] [] (Zp 1 1 (Zs 23 (Zl .kItem) (Zs 24 Zi (Zs 25 Zi (Zx 1 zal Zz))))) zaub (.xs 0 [1] [1] [] (Zp 1 1 (Zx 1 zal Zz)) (.r [2] [] [] (Zs 2 Zb Zz)))
abbrev ztq:=mkld [] [] [1,51,52,53] [1] [] (Zp 1 1 (Zs 51 (Zl .kMove) (Zs 52 Zi (Zs 53 Zi (Zx 1 zal Zz))))) zaeg (.xs 2 [1] [1] [] (Zp 1 1 (Zx 1 zal Zz)) (.r [2] [] [] (Zs 2 Zb Zz)))
abbrev ztr:=mkld [] [] [1,64,65,66] [1] [] (Zp 1 1 (Zs 64 (Zl .kItem) (Zs 65 Zi (Zs 66 Zi (Zx 1 zal Zz))))) zaeh (.xs 4 [] [] [] Zz (.r [2] [] [] (Zs 2 Zb Zz)))
def zhg {R:Type}:Lp Kd El R:=lp 16 ztr.sem (lp 10 ztq.sem (lp 4 z1f.sem l0))
abbrev zxf:ZC ((List UInt8)×Unit):=zrh
abbrev zaer:ZD ((List UInt8)):=zaej
def zac9 (a:(List UInt8)×Unit):Option ((List UInt8)):=qd3 a.1
abbrev zavs {R:Type}:Sm R:=semP zxf zaer zac9
abbrev zap5:ZC (Patron×Unit):=Zc (Cod.agg zba) Zn
abbrev z3y {R:Type}:Sm R:=semP zap5 za0 (fun a=>qbz a.1)
abbrev z23 {R:Type}:Sm R:=semP zrj za0 (fun a=>qa3 a.1)
def z6d {R:Type}:Nat→Sm R:=cl 130 z3y c0
abbrev zsg:=mkld [] [] [3,10,11,12] [] [] (Zs 3 Zi (Zs 10 (Zl .kPatron) (Zs 11 Zi (Zs 12 Zi Zz)))) zadk (.xs 0 [] [] [] Zz (.r [2] [] [] (Zs 2 Zi Zz)))
def znz {R:Type}:Lp Kd El R:=lp 5 zsg.sem l0
abbrev z5d {R:Type}:Sm R:=semP zbz zat (fun a=>qes a.1)
abbrev z5c {R:Type}:Sm R:=semP zbz zat (fun a=>qeo a.1)
abbrev z26 {R:Type}:Sm R:=semP zri za0 (fun a=>qa6 a.1)
def z6f {R:Type}:Nat→Sm R:=cl 131 z5d (cl 132 z5c c0)
abbrev zsi:=mkld [] [] [0,8,9,10] [] [] (Zs 0 (Zl .kLoan) (Zs 8 (Zl .kLoan) (Zs 9 Zi (Zs 10 Zi Zz)))) zadm (.xs 0 [] [] [] Zz (.r [2] [] [] (Zs 2 Zi Zz)))
def zn1 {R:Type}:Lp Kd El R:=lp 4 zsi.sem l0
abbrev zam5 {R:Type}:Sm R:=semP zmq zat (fun a=>qb2 a.1 a.2.1 a.2.2.1)
abbrev zao1 {R:Type}:Sm R:=semP zbz zat (fun a=>qel a.1)
abbrev z44 {R:Type}:Sm R:=semP zabc za0 (fun a=>qe1 a.1)
abbrev zxd:ZC (Hold×Hold×Unit):=Zc (Cod.agg zbj) (Zc (Cod.agg zbj) Zn)
abbrev z4d {R:Type}:Sm R:=semP zxd zat (fun a=>qca a.1 a.2.1)
abbrev zaqk:ZC ((List Hold)×((Unit)×(Unit))×Unit):=Zc (Zl .kHold) (Zc (Cod.fnc 135 (Zn) (Zn)) Zn)
abbrev zae5 {R:Type}:Sm R:=semP zaqk zat (fun a=>qd (fun g x0 x1=>qca x0 x1) a.1 a.2.1)
def zaf0 {R:Type}:Nat→Sm R:=cl 135 z4d c0
abbrev z0w:=mkld [] [] [0,1,5,8,9,12,13] [] [] (Zs 0 (Zl .kHold) (Zs 1 (Cod.fnc 135 (Zn) (Zn)) (Zs 5 Zi (Zs 8 Zi (Zs 9 Zi (Zs 12 Zi (Zs 13 Zi Zz))))))) (zame (fun g x0 x1=>qca x0 x1)) (.xs 2 [0,1,8,9] [] [] (Zs 0 (Zl .kHold) (Zs 1 (Cod.fnc 135 (Zn) (Zn)) (Zs 8 Zi (Zs 9 Zi Zz)))) (.r [4] [] [] (Zs 4 Zb Zz)))
abbrev z0v:=mkld [] [] [0,1,8,9] [] [] (Zs 0 (Zl .kHold) (Zs 1 (Cod.fnc 135 (Zn) (Zn)) (Zs 8 Zi (Zs 9 Zi Zz)))) (zamd (fun g x0 x1=>qca x0 x1)) (.xs 0 [] [] [] Zz (.r [4] [] [] (Zs 4 Zb Zz)))
def zl5 {R:Type}:Lp Kd El R:=lp 2 z0v.sem (lp 5 z0w.sem l0)
abbrev z4v {R:Type}:Sm R:=semP zxd zat (fun a=>qdh a.1 a.2.1)
abbrev zrr:ZC ((List Hold)×((Unit)×(Unit))×Unit):=Zc (Zl .kHold) (Zc (Cod.fnc 136 (Zn) (Zn)) Zn)
abbrev zo7 {R:Type}:Sm R:=semP zrr zat (fun a=>qd (fun g x0 x1=>qdh x0 x1) a.1 a.2.1)
def zu5 {R:Type}:Nat→Sm R:=cl 136 z4v c0
abbrev zkd:=mkld [] [] [0,1,5,8,9,12,13] [] [] (Zs 0 (Zl .kHold) (Zs 1 (Cod.fnc 136 (Zn) (Zn)) (Zs 5 Zi (Zs 8 Zi (Zs 9 Zi (Zs 12 Zi (Zs 13 Zi Zz))))))) (zame (fun g x0 x1=>qdh x0 x1)) (.xs 2 [0,1,8,9] [] [] (Zs 0 (Zl .kHold) (Zs 1 (Cod.fnc 136 (Zn) (Zn)) (Zs 8 Zi (Zs 9 Zi Zz)))) (.r [4] [] [] (Zs 4 Zb Zz)))
abbrev zkc:=mkld [] [] [0,1,8,9] [] [] (Zs 0 (Zl .kHold) (Zs 1 (Cod.fnc 136 (Zn) (Zn)) (Zs 8 Zi (Zs 9 Zi Zz)))) (zamd (fun g x0 x1=>qdh x0 x1)) (.xs 0 [] [] [] Zz (.r [4] [] [] (Zs 4 Zb Zz)))
def zfb {R:Type}:Lp Kd El R:=lp 2 zkc.sem (lp 5 zkd.sem l0)
abbrev zae8 {R:Type}:Sm R:=semP zafn za0 (fun a=>qk a.1)
def zaf6 {R:Type}:Nat→Sm R:=cl 133 z44 (cl 134 (si zaqk zae5 (si zrr zo7 s0)) c0)
abbrev z04:=mkld [] [] [0,9,10,11] [] [] (Zs 0 (Zl .kHold) (Zs 9 (Zl .kHold) (Zs 10 Zi (Zs 11 Zi Zz)))) zat4 (.xs 0 [0] [] [] (Zs 0 (Zl .kHold) Zz) (.r [2] [] [] (Zs 2 Zi Zz)))
def zt4 {R:Type}:Lp Kd El R:=lp 4 z04.sem l0
abbrev zao8 {R:Type}:Sm R:=semP zbz zat (fun a=>qey a.1)
abbrev zan5 {R:Type}:Sm R:=semP zbz zat (fun a=>qd5 a.1)
abbrev zapv:ZC (Charge×Unit):=Zc (Cod.agg zc6) Zn
abbrev z3m {R:Type}:Sm R:=semP zapv za0 (fun a=>qb4 a.1)
abbrev z27 {R:Type}:Sm R:=semP zaa0 za0 (fun a=>qa7 a.1)
def z6g {R:Type}:Nat→Sm R:=cl 137 z3m c0
abbrev zsj:=mkld [] [] [0,9,10,11] [] [] (Zs 0 (Zl .kCharge) (Zs 9 (Zl .kCharge) (Zs 10 Zi (Zs 11 Zi Zz)))) zadn (.xs 0 [] [] [] Zz (.r [2] [] [] (Zs 2 Zi Zz)))
def zn2 {R:Type}:Lp Kd El R:=lp 4 zsj.sem l0
abbrev zanl {R:Type}:Sm R:=semP zmq zat (fun a=>qbt a.1 a.2.1 a.2.2.1)
abbrev z5g {R:Type}:Sm R:=semP zxa zat (fun a=>qew a.1)
abbrev zaqb:ZC (Rule×Rule×Unit):=Zc (Cod.agg zcy) (Zc (Cod.cptr zcy) Zn)
abbrev z4g {R:Type}:Sm R:=semP zaqb zat (fun a=>qcf a.1 a.2.1)
abbrev zaa1:ZC ((List Rule)×((Unit)×(Rule×Unit))×Unit):=Zc (Zl .kRule) (Zc (Cod.fnc 139 (Zn) (Zc (Cod.cptr zcy) Zn)) Zn)
abbrev zam4 {R:Type}:Sm R:=semP zaa1 za0 (fun a=>qaz (fun g x0=>qcf x0 g.2.1) a.1 a.2.1)
def z63 {R:Type}:Nat→Sm R:=cl 139 z4g c0
abbrev zs8:=mkld [] [] [0,1,7,8] [] [] (Zs 0 (Zl .kRule) (Zs 1 (Cod.fnc 139 (Zn) (Zc (Cod.cptr zcy) Zn)) (Zs 7 Zi (Zs 8 Zi Zz)))) (zady (fun g x0=>qcf x0 g.2.1)) (.xs 0 [] [] [] Zz (.r [4] [] [] (Zs 4 Zi Zz)))
def zon {R:Type}:Lp Kd El R:=lp 2 zs8.sem l0
abbrev z5e {R:Type}:Sm R:=semP zaa1 zat (fun a=>qet (fun g x0=>qcf x0 g.2.1) a.1 a.2.1)
abbrev zafd {R:Type}:Sm R:=semP zaqx za0 (fun a=>qv a.1)
def zagg {R:Type}:Nat→Sm R:=cl 138 z5g (cl 140 z5e c0)
abbrev z1i:=mkld [] [] [0,9,10,11] [] [] (Zs 0 (Zl .kRule) (Zs 9 (Zl .kRule) (Zs 10 Zi (Zs 11 Zi Zz)))) zaud (.xs 0 [] [] [] Zz (.r [2] [] [] (Zs 2 Zi Zz)))
def zt8 {R:Type}:Lp Kd El R:=lp 4 z1i.sem l0
abbrev z3z {R:Type}:Sm R:=semP zbz zat (fun a=>qc0 a.1)
abbrev z4q {R:Type}:Sm R:=semP zbz zat (fun a=>qcx a.1)
abbrev zaav:ZC ((List Int)×((Unit)×(Unit))×Unit):=Zc (Zl .ki64) (Zc (Cod.fnc 142 (Zn) (Zn)) Zn)
abbrev zamn {R:Type}:Sm R:=semP zaav za0 (fun a=>qa0 (fun g x0=>qcx x0) a.1 a.2.1)
def z6b {R:Type}:Nat→Sm R:=cl 142 z4q c0
abbrev zse:=mkld [] [] [0,1,7,8] [] [] (Zs 0 (Zl .ki64) (Zs 1 (Cod.fnc 142 (Zn) (Zn)) (Zs 7 Zi (Zs 8 Zi Zz)))) (zadi (fun g x0=>qcx x0)) (.xs 0 [] [] [] Zz (.r [4] [] [] (Zs 4 Zi Zz)))
def znx {R:Type}:Lp Kd El R:=lp 2 zse.sem l0
abbrev z5f {R:Type}:Sm R:=semP zaav zat (fun a=>qeu (fun g x0=>qcx x0) a.1 a.2.1)
abbrev zafc {R:Type}:Sm R:=semP zafo za0 (fun a=>qu a.1)
def zagf {R:Type}:Nat→Sm R:=cl 141 z5f c0
abbrev z1h:=mkld [] [] [1,24,25,26] [1] [] (Zp 1 1 (Zs 24 (Zl .ki64) (Zs 25 Zi (Zs 26 Zi (Zx 1 zaw Zz))))) zauc (.xs 1 [] [] [] Zz (.r [2] [] [] (Zs 2 Zi Zz)))
def zt7 {R:Type}:Lp Kd El R:=lp 8 z1h.sem l0
abbrev zau1 {R:Type}:Sm R:=semP zf5 zat (fun a=>qq a.1)
def zagc {R:Type}:Nat→Sm R:=cl 36 z3l (cl 79 z23 (cl 80 z26 (cl 81 zae8 (cl 82 z27 (cl 83 zafd (cl 84 zafc c0))))))
abbrev z1e:=mkld [] [] [1,38,39] [1] [] (Zp 1 1 (Zs 38 (Cod.agg zdk) (Zs 39 Zi (Zx 1 zal Zz)))) zaua (.xs 0 [1] [1] [] (Zp 1 1 (Zx 1 zal Zz)) (.r [2] [] [] (Zs 2 Zb Zz)))
abbrev zto:=mkld [] [] [1,57,58,59] [1] [] (Zp 1 1 (Zs 57 (Zl .kHold) (Zs 58 Zi (Zs 59 Zi (Zx 1 zal Zz))))) zaee (.xs 2 [1] [1] [] (Zp 1 1 (Zx 1 zal Zz)) (.r [2] [] [] (Zs 2 Zb Zz)))
abbrev ztp:=mkld [] [] [1,70,71,72] [1] [] (Zp 1 1 (Zs 70 (Zl .kCharge) (Zs 71 Zi (Zs 72 Zi (Zx 1 zal Zz))))) zaef (.xs 4 [] [] [] Zz (.r [2] [] [] (Zs 2 Zb Zz)))
def zhf {R:Type}:Lp Kd El R:=lp 18 ztp.sem (lp 12 zto.sem (lp 4 z1e.sem l0))
abbrev zaqj:ZC (Patron×Int×Unit):=Zc (Cod.agg zba) (Zc (Cod.cptr (CC.one Zi)) Zn)
abbrev z4s {R:Type}:Sm R:=semP zaqj zat (fun a=>qcz a.1 a.2.1)
abbrev zavc:ZC ((List Patron)×((Unit)×(Int×Unit))×Unit):=Zc (Zl .kPatron) (Zc (Cod.fnc 207 (Zn) (Zc (Cod.cptr (CC.one Zi)) Zn)) Zn)
abbrev zauz {R:Type}:Sm R:=semP zavc za0 (fun a=>qn (fun g x0=>qcz x0 g.2.1) a.1 a.2.1)
def zaf9 {R:Type}:Nat→Sm R:=cl 207 z4s c0
abbrev z08:=mkld [] [] [0,1,7,8] [] [] (Zs 0 (Zl .kPatron) (Zs 1 (Cod.fnc 207 (Zn) (Zc (Cod.cptr (CC.one Zi)) Zn)) (Zs 7 Zi (Zs 8 Zi Zz)))) (zamg (fun g x0=>qcz x0 g.2.1)) (.xs 0 [] [] [] Zz (.r [4] [] [] (Zs 4 Zi Zz)))
def zt5 {R:Type}:Lp Kd El R:=lp 2 z08.sem l0
abbrev zanm {R:Type}:Sm R:=semP zrk za0 (fun a=>qbu a.1 a.2.1)
abbrev zaoh {R:Type}:Sm R:=semP zrk zaek (fun a=>qdj a.1 a.2.1)
abbrev zapw:ZC (Int×Circ×Unit):=Zc Zi (Zc (Cod.cptr zal) Zn)
abbrev z3n {R:Type}:Sm R:=semP zapw zat (fun a=>qb5 a.1 a.2.1)
abbrev zauw {R:Type}:Sm R:=semP zf5 zat (fun a=>qf a.1)
def zaf1 {R:Type}:Nat→Sm R:=cl 77 zmk (cl 85 z3n c0)
abbrev z0x:=mkld [] [] [1,3,12,13,14] [1] [] (Zp 1 1 (FC.clo 3 85 [] [1] (Zs 12 (Zl .kLoan) (Zs 13 Zi (Zs 14 Zi (Zx 1 zal Zz)))))) zatw (.xs 0 [1,3] [1] [] (Zp 1 1 (FC.clo 3 85 [] [1] (Zx 1 zal Zz))) (.r [2] [] [] (Zs 2 Zb Zz)))
abbrev z0y:=mkld [] [] [1,3,32,33,34] [1] [] (Zp 1 1 (FC.clo 3 85 [] [1] (Zs 32 (Zl .kHold) (Zs 33 Zi (Zs 34 Zi (Zx 1 zal Zz)))))) zatx (.xs 2 [1,3] [1] [] (Zp 1 1 (FC.clo 3 85 [] [1] (Zx 1 zal Zz))) (.r [2] [] [] (Zs 2 Zb Zz)))
abbrev ztl:=mkld [] [] [3,45,46,47] [1] [] (FC.clo 3 85 [] [1] (Zs 45 (Zl .kCharge) (Zs 46 Zi (Zs 47 Zi (Zx 1 zal Zz))))) zaed (.xs 4 [] [] [] Zz (.r [2] [] [] (Zs 2 Zb Zz)))
def zhc {R:Type}:Lp Kd El R:=lp 15 ztl.sem (lp 9 z0y.sem (lp 3 z0x.sem l0))
abbrev zaue:ZD ((Int×Unit)):=(Cod.clo 186 (Zc (Cod.cptr (CC.one Zi)) Zn))
abbrev zamz {R:Type}:Sm R:=semP zbz zaue (fun a=>qao a.1)
abbrev zapx:ZC (Loan×Int×Unit):=Zc (Cod.agg zcj) (Zc (Cod.cptr (CC.one Zi)) Zn)
abbrev z3o {R:Type}:Sm R:=semP zapx zat (fun a=>qb7 a.1 a.2.1)
abbrev zafm:ZC ((List Loan)×((Unit)×(Int×Unit))×Unit):=Zc (Zl .kLoan) (Zc (Cod.fnc 186 (Zn) (Zc (Cod.cptr (CC.one Zi)) Zn)) Zn)
abbrev zaux {R:Type}:Sm R:=semP zafm za0 (fun a=>qi (fun g x0=>qb7 x0 g.2.1) a.1 a.2.1)
def zaf4 {R:Type}:Nat→Sm R:=cl 186 z3o c0
abbrev z01:=mkld [] [] [0,1,7,8] [] [] (Zs 0 (Zl .kLoan) (Zs 1 (Cod.fnc 186 (Zn) (Zc (Cod.cptr (CC.one Zi)) Zn)) (Zs 7 Zi (Zs 8 Zi Zz)))) (zamf (fun g x0=>qb7 x0 g.2.1)) (.xs 0 [] [] [] Zz (.r [4] [] [] (Zs 4 Zi Zz)))
def zt3 {R:Type}:Lp Kd El R:=lp 2 z01.sem l0
abbrev zael:ZD (Loan×Int):=(Cod.tup2 (Zc (Cod.agg zcj) (Zc Zi Zn)))
abbrev zanq {R:Type}:Sm R:=semP zafm zael (fun a=>qby (fun g x0=>qb7 x0 g.2.1) a.1 a.2.1)
abbrev z4u {R:Type}:Sm R:=semP zjt zaew (fun a=>qd6 a.1 a.2.1)
abbrev zanf {R:Type}:Sm R:=semP zf5 zat (fun a=>qbl a.1)
def z7c {R:Type}:Nat→Sm R:=cl 69 z4u c0
abbrev ztg:=mkld [] [] [1,9,10,11] [1] [] (Zp 1 1 (Zs 9 (Zl .kItem) (Zs 10 Zi (Zs 11 Zi (Zx 1 zal Zz))))) zad6 (.xs 0 [] [] [] Zz (.r [2] [] [] (Zs 2 Zb Zz)))
def zov {R:Type}:Lp Kd El R:=lp 2 ztg.sem l0
abbrev zaa6:ZC (Hold×Int×Unit):=Zc (Cod.agg zbj) (Zc (Cod.cptr (CC.one Zi)) Zn)
abbrev z4m {R:Type}:Sm R:=semP zaa6 zat (fun a=>qcq a.1 a.2.1)
abbrev zau9:ZC ((List Hold)×((Unit)×(Int×Unit))×Unit):=Zc (Zl .kHold) (Zc (Cod.fnc 145 (Zn) (Zc (Cod.cptr (CC.one Zi)) Zn)) Zn)
abbrev zauu {R:Type}:Sm R:=semP zau9 za0 (fun a=>qb (fun g x0=>qcq x0 g.2.1) a.1 a.2.1)
def zafy {R:Type}:Nat→Sm R:=cl 145 z4m c0
abbrev z0t:=mkld [] [] [0,1,7,8] [] [] (Zs 0 (Zl .kHold) (Zs 1 (Cod.fnc 145 (Zn) (Zc (Cod.cptr (CC.one Zi)) Zn)) (Zs 7 Zi (Zs 8 Zi Zz)))) (zqr (fun g x0=>qcq x0 g.2.1)) (.xs 0 [] [] [] Zz (.r [4] [] [] (Zs 4 Zi Zz)))
def ztz {R:Type}:Lp Kd El R:=lp 2 z0t.sem l0
abbrev z24 {R:Type}:Sm R:=semP zjf z2r (fun a=>qa5 a.1 a.2.1)
abbrev zaus {R:Type}:Sm R:=semP zf5 zat (fun a=>q9 a.1)
def zafw {R:Type}:Nat→Sm R:=cl 77 zmk (cl 87 z24 c0)
abbrev z0q:=mkld [] [] [1,13,14,15] [1] [] (Zp 1 1 (Zs 13 (Zl .kHold) (Zs 14 Zi (Zs 15 Zi (Zx 1 zal Zz))))) zas8 (.xs 0 [1] [1] [] (Zp 1 1 (Zx 1 zal Zz)) (.r [2] [] [] (Zs 2 Zb Zz)))
abbrev zsd:=mkld [] [] [1,65,66,67] [1] [] (Zp 1 1 (Zs 65 (Zl .kItem) (Zs 66 Zi (Zs 67 Zi (Zx 1 zal Zz))))) zadh (.xs 2 [] [] [] Zz (.r [2] [] [] (Zs 2 Zb Zz)))
def zl4 {R:Type}:Lp Kd El R:=lp 16 zsd.sem (lp 2 z0q.sem l0)
abbrev zapd {R:Type}:Sm R:=semP zf5 zat (fun a=>qfe a.1)
abbrev zafl:ZC (Circ×Item×Unit):=Zc (Cod.agg zal) (Zc (Cod.agg za1) Zn)
abbrev z2q:ZD (Circ×Int):=(Cod.tup2 (Zc (Cod.agg zal) (Zc Zi Zn)))
abbrev zae4 {R:Type}:Sm R:=semP zafl z2q (fun a=>q8 a.1 a.2.1)
abbrev zap7:ZC (Patron×Patron×Unit):=Zc (Cod.agg zba) (Zc (Cod.cptr zba) Zn)
abbrev z33 {R:Type}:Sm R:=semP zap7 zat (fun a=>qc3 a.1 a.2.1)
abbrev z5x:ZC ((List Patron)×((Unit)×(Patron×Unit))×Unit):=Zc (Zl .kPatron) (Zc (Cod.fnc 208 (Zn) (Zc (Cod.cptr zba) Zn)) Zn)
abbrev z5l {R:Type}:Sm R:=semP z5x za0 (fun a=>qn (fun g x0=>qc3 x0 g.2.1) a.1 a.2.1)
def zu7 {R:Type}:Nat→Sm R:=cl 208 z33 c0
abbrev zkf:=mkld [] [] [0,1,7,8] [] [] (Zs 0 (Zl .kPatron) (Zs 1 (Cod.fnc 208 (Zn) (Zc (Cod.cptr zba) Zn)) (Zs 7 Zi (Zs 8 Zi Zz)))) (zamg (fun g x0=>qc3 x0 g.2.1)) (.xs 0 [] [] [] Zz (.r [4] [] [] (Zs 4 Zi Zz)))
def zin {R:Type}:Lp Kd El R:=lp 2 zkf.sem l0
abbrev zaey:ZD ((List Patron)):=(Zl .kPatron)
abbrev zaok {R:Type}:Sm R:=semP zrj zaey (fun a=>qdr a.1)
abbrev zxi:ZC ((List Patron)×Int×(List Patron)×Unit):=Zc (Zl .kPatron) (Zc Zi (Zc (Zl .kPatron) Zn))
abbrev zaex:ZD ((List Patron)):=zaey
def zadc (a:(List Patron)×Int×(List Patron)×Unit):Option ((List Patron)):=qdq a.1 a.2.1 a.2.2.1
abbrev zavt {R:Type}:Sm R:=semP zxi zaex zadc
abbrev zae3:ZD ((List Patron)×Int):=(Cod.tup2 (Zc (Zl .kPatron) (Zc Zi Zn)))
abbrev zaol {R:Type}:Sm R:=semP zrj zae3 (fun a=>qdw a.1)
abbrev zap4:ZC ((List Patron)×Patron×Unit):=Zc (Zl .kPatron) (Zc (Cod.agg zba) Zn)
abbrev zano {R:Type}:Sm R:=semP zap4 zae3 (fun a=>qbw a.1 a.2.1)
abbrev zabb:ZC (Circ×Patron×Unit):=Zc (Cod.agg zal) (Zc (Cod.agg zba) Zn)
abbrev zaoe {R:Type}:Sm R:=semP zabb z2q (fun a=>qdf a.1 a.2.1)
abbrev zxb:ZC (Unit):=Zn
abbrev z34 {R:Type}:Sm R:=semP zxb zaes (fun a=>qc4)
abbrev zauk:ZC (Circ_desk):=zau
abbrev zans {R:Type}:Sm R:=semN zf5 zauk (fun a=>qcb a.1)
abbrev zxn:ZC (Unit×Int×Unit):=Zc (Cod.ptrc 100000) (Zc Zi Zn)
abbrev zjn:ZD (Unit):=Cod.unit
abbrev zau3 {R:Type}:Sm R:=semM zxn (BC.one zau) zjn (fun a b=>qs a.2.1 b)
abbrev zanx {R:Type}:Sm R:=semM zxn (BC.one zau) za0 (fun a b=>qcn a.2.1 b)
abbrev zaqn:ZC ((List Move)×Unit):=Zc (Zl .kMove) Zn
abbrev zaum:ZD ((List Move)):=(Zl .kMove)
abbrev zaob {R:Type}:Sm R:=semP zaqn zaum (fun a=>qdc a.1)
abbrev zaa2:ZC (Unit×Int×Int×Int×Int×Unit):=Zc (Cod.ptrc 100000) (Zc Zi (Zc Zi (Zc Zi (Zc Zi Zn))))
abbrev zam8 {R:Type}:Sm R:=semM zaa2 (BC.one zau) zjn (fun a b=>qbb a.2.1 a.2.2.1 a.2.2.2.1 a.2.2.2.2.1 b)
abbrev zq7 {R:Type}:Sm R:=semP zxd za0 (fun a=>qb0 a.1 a.2.1)
abbrev zave:ZC ((List Hold)×Int×Int×((Unit)×(Unit))×Unit):=Zc (Zl .kHold) (Zc Zi (Zc Zi (Zc (Cod.fnc 260 (Zn) (Zn)) Zn)))
abbrev zaah:ZD (List Hold):=(Zl .kHold)
abbrev zafb {R:Type}:Sm R:=semP zave zaah (fun a=>qp (fun g x0 x1=>qb0 x0 x1) a.1 a.2.1 a.2.2.1 a.2.2.2.1)
def zagb {R:Type}:Nat→Sm R:=cl 260 zq7 c0
abbrev z1d:=mkld [] [] [0,1,2,3,8,9] [] [99999] (FC.arr 0 99999 (Zs 1 Zi (Zs 2 Zi (Zs 3 (Cod.fnc 260 (Zn) (Zn)) (Zs 8 Zi (Zs 9 Zi (FC.own 99999 Kd.kHold false Zz))))))) (zat9 (fun g x0 x1=>qb0 x0 x1)) (.x 2 [0,1,2,3,8] [] [99999] (FC.arr 0 99999 (Zs 1 Zi (Zs 2 Zi (Zs 3 (Cod.fnc 260 (Zn) (Zn)) (Zs 8 Zi (FC.own 99999 Kd.kHold false Zz)))))))
abbrev z1c:=mkld [] [] [0,1,2,3,8] [] [99999] (FC.arr 0 99999 (Zs 1 Zi (Zs 2 Zi (Zs 3 (Cod.fnc 260 (Zn) (Zn)) (Zs 8 Zi (FC.own 99999 Kd.kHold false Zz)))))) (zat8 (fun g x0 x1=>qb0 x0 x1)) (.x 0 [] [] [99999] (FC.own 99999 Kd.kHold false Zz))
def zl8 {R:Type}:Lp Kd El R:=lp 1 z1c.sem (lp 4 z1d.sem l0)
abbrev zaa8:ZC ((List Hold)×Int×Int×Int×((Unit)×(Unit))×Unit):=Zc (Zl .kHold) (Zc Zi (Zc Zi (Zc Zi (Zc (Cod.fnc 260 (Zn) (Zn)) Zn))))
abbrev zaeo:ZD (List Hold):=zaah
def zac8 (a:(List Hold)×Int×Int×Int×((Unit)×(Unit))×Unit):Option (List Hold):=qcw (fun g x0 x1=>qb0 x0 x1) a.1 a.2.1 a.2.2.1 a.2.2.2.1 a.2.2.2.2.1
abbrev zan1 {R:Type}:Sm R:=semP zaa8 zaeo zac8
abbrev zavd:ZC ((List Hold)×Int×((Unit)×(Unit))×Unit):=Zc (Zl .kHold) (Zc Zi (Zc (Cod.fnc 260 (Zn) (Zn)) Zn))
abbrev zau0 {R:Type}:Sm R:=semP zavd zaah (fun a=>qo (fun g x0 x1=>qb0 x0 x1) a.1 a.2.1 a.2.2.1)
def zaga {R:Type}:Nat→Sm R:=cl 260 zq7 (cl 275 zafb (cl 276 zan1 c0))
abbrev z09:=mkld [] [] [0,1,2,6,7,8] [] [99999] (FC.arr 0 99999 (Zs 1 Zi (Zs 2 (Cod.fnc 260 (Zn) (Zn)) (Zs 6 Zi (Zs 7 Zi (Zs 8 Zi (FC.own 99999 Kd.kHold false Zz))))))) (zat5 (fun g x0 x1=>qb0 x0 x1)) (.x 0 [0,1,2,6,7] [] [99999] (FC.arr 0 99999 (Zs 1 Zi (Zs 2 (Cod.fnc 260 (Zn) (Zn)) (Zs 6 Zi (Zs 7 Zi (FC.own 99999 Kd.kHold false Zz)))))))
abbrev z1b:=mkld [] [] [0,1,2,6,7,8] [] [99999] (FC.arr 0 99999 (Zs 1 Zi (Zs 2 (Cod.fnc 260 (Zn) (Zn)) (Zs 6 Zi (Zs 7 Zi (Zs 8 Zi (FC.own 99999 Kd.kHold false Zz))))))) (zat7 (fun g x0 x1=>qb0 x0 x1)) (.x 4 [0,1,2,6,7] [] [99999] (FC.arr 0 99999 (Zs 1 Zi (Zs 2 (Cod.fnc 260 (Zn) (Zn)) (Zs 6 Zi (Zs 7 Zi (FC.own 99999 Kd.kHold false Zz)))))))
abbrev z1a:=mkld [] [] [0,1,2,6] [] [99999] (FC.arr 0 99999 (Zs 1 Zi (Zs 2 (Cod.fnc 260 (Zn) (Zn)) (Zs 6 Zi (FC.own 99999 Kd.kHold false Zz))))) (zat6 (fun g x0 x1=>qb0 x0 x1)) (.x 2 [] [] [99999] (FC.own 99999 Kd.kHold false Zz))
def zhe {R:Type}:Lp Kd El R:=lp 7 z1a.sem (lp 9 z1b.sem (lp 2 z09.sem l0))
abbrev zaqq:ZC ((List Hold)×((Unit)×(Unit))×Unit):=Zc (Zl .kHold) (Zc (Cod.fnc 260 (Zn) (Zn)) Zn)
abbrev z4z {R:Type}:Sm R:=semP zaqq zaah (fun a=>qdp (fun g x0 x1=>qb0 x0 x1) a.1 a.2.1)
abbrev zaqw:ZC ((List Hold)×Int×Int×Unit):=Zc (Zl .kHold) (Zc Zi (Zc Zi Zn))
abbrev zaag:ZD ((List Hold)):=(Zl .kHold)
abbrev zae7 {R:Type}:Sm R:=semP zaqw zaag (fun a=>qh a.1 a.2.1 a.2.2.1)
def zaf3 {R:Type}:Nat→Sm R:=cl 259 z4z c0
abbrev z00:=mkld [(7,7,Kd.kHold)] [] [1,2,7,10,11,12] [] [7] (Zs 1 Zi (Zs 2 Zi (FC.arr 7 7 (Zs 10 (Zl .kHold) (Zs 11 Zi (Zs 12 Zi (FC.own 7 Kd.kHold false Zz))))))) zat1 (.x 0 [7] [] [7] (FC.arr 7 7 (FC.own 7 Kd.kHold false Zz)))
def zt2 {R:Type}:Lp Kd El R:=lp 3 z00.sem l0
abbrev zap0:ZC ((List Hold)×Item×Int×Int×Bool×Unit):=Zc (Zl .kHold) (Zc (Cod.agg za1) (Zc Zi (Zc Zi (Zc Zb Zn))))
abbrev zand {R:Type}:Sm R:=semP zap0 za0 (fun a=>qbi a.1 a.2.1 a.2.2.1 a.2.2.2.1 a.2.2.2.2.1)
def z69 {R:Type}:Nat→Sm R:=cl 246 zae7 c0
abbrev ztd:=mkld [] [] [2,4,6,11,18,19,20] [6] [] (Zs 2 Zi (Zs 4 Zb (Zp 6 6 (Zs 11 Zi (Zs 18 (Zl .kHold) (Zs 19 Zi (Zs 20 Zi (Zx 6 za1 Zz)))))))) zad3 (.xs 0 [11] [] [] (Zs 11 Zi Zz) (.r [10] [] [] (Zs 10 Zi Zz)))
def zos {R:Type}:Lp Kd El R:=lp 3 ztd.sem l0
abbrev zao2 {R:Type}:Sm R:=semP zafl za0 (fun a=>qem a.1 a.2.1)
abbrev z4t {R:Type}:Sm R:=semP zaa6 zat (fun a=>qd2 a.1 a.2.1)
abbrev z5u:ZC ((List Hold)×((Unit)×(Int×Unit))×Unit):=Zc (Zl .kHold) (Zc (Cod.fnc 247 (Zn) (Zc (Cod.cptr (CC.one Zi)) Zn)) Zn)
abbrev z3p {R:Type}:Sm R:=semP z5u za0 (fun a=>qb (fun g x0=>qd2 x0 g.2.1) a.1 a.2.1)
def zux {R:Type}:Nat→Sm R:=cl 247 z4t c0
abbrev zj4:=mkld [] [] [0,1,7,8] [] [] (Zs 0 (Zl .kHold) (Zs 1 (Cod.fnc 247 (Zn) (Zc (Cod.cptr (CC.one Zi)) Zn)) (Zs 7 Zi (Zs 8 Zi Zz)))) (zqr (fun g x0=>qd2 x0 g.2.1)) (.xs 0 [] [] [] Zz (.r [4] [] [] (Zs 4 Zi Zz)))
def zie {R:Type}:Lp Kd El R:=lp 2 zj4.sem l0
abbrev zw9:ZC ((List Hold)×Int×Unit):=Zc (Zl .kHold) (Zc Zi Zn)
abbrev zanc {R:Type}:Sm R:=semP zw9 za0 (fun a=>qbh a.1 a.2.1)
abbrev zao5 {R:Type}:Sm R:=semP zw9 z2r (fun a=>qeq a.1 a.2.1)
abbrev zxe:ZC (Unit×Int×Int×Unit):=Zc (Cod.ptrc 100000) (Zc Zi (Zc Zi Zn))
abbrev zany {R:Type}:Sm R:=semM zxe (BC.one zau) zjn (fun a b=>qco a.2.1 a.2.2.1 b)
abbrev zaox {R:Type}:Sm R:=semP zjs zat (fun a=>qeg a.1 a.2.1)
abbrev zapu:ZC (Rule×Int×Int×Int×Unit):=Zc (Cod.agg zcy) (Zc Zi (Zc Zi (Zc Zi Zn)))
abbrev z3k {R:Type}:Sm R:=semP zapu zat (fun a=>qb1 a.1 a.2.1 a.2.2.1 a.2.2.2.1)
abbrev z3u {R:Type}:Sm R:=semP zxa za0 (fun a=>qbc a.1)
def z65 {R:Type}:Nat→Sm R:=c0
abbrev zta:=mkld [] [] [3,12,13,14] [] [12] (Zs 3 Zi (FC.arr 12 12 (Zs 13 Zi (Zs 14 Zi (FC.own 12 Kd.ki64 false Zz))))) zad0 (.x 0 [3] [] [] (Zs 3 Zi Zz))
def zop {R:Type}:Lp Kd El R:=lp 3 zta.sem l0
abbrev zaax:ZC ((List Rule)×Int×Int×Int×Unit):=Zc (Zl .kRule) (Zc Zi (Zc Zi (Zc Zi Zn)))
abbrev zamq {R:Type}:Sm R:=semP zaax za0 (fun a=>qa4 a.1 a.2.1 a.2.2.1 a.2.2.2.1)
def z6e {R:Type}:Nat→Sm R:=cl 261 z3k (cl 262 z3u c0)
abbrev zsh:=mkld [] [] [0,1,2,3,9,12,13,14] [] [] (Zs 0 (Zl .kRule) (Zs 1 Zi (Zs 2 Zi (Zs 3 Zi (Zs 9 Zi (Zs 12 (Zl .kRule) (Zs 13 Zi (Zs 14 Zi Zz)))))))) zadl (.x 0 [9] [] [] (Zs 9 Zi Zz))
def zn0 {R:Type}:Lp Kd El R:=lp 3 zsh.sem l0
abbrev zaeq:ZD (Rule×Bool):=(Cod.tup2 (Zc (Cod.agg zcy) (Zc Zb Zn)))
abbrev zan3 {R:Type}:Sm R:=semP zaax zaeq (fun a=>qd1 a.1 a.2.1 a.2.2.1 a.2.2.2.1)
abbrev zaqi:ZC (Circ×Int×Item×Unit):=Zc (Cod.agg zal) (Zc Zi (Zc (Cod.agg za1) Zn))
abbrev zanz {R:Type}:Sm R:=semP zaqi zaeq (fun a=>qcu a.1 a.2.1 a.2.2.1)
abbrev zaul:ZD (Calendar):=(Cod.agg zaw)
abbrev zan0 {R:Type}:Sm R:=semP zjf zaul (fun a=>qcv a.1 a.2.1)
abbrev zaof {R:Type}:Sm R:=semP zbz zat (fun a=>qdg a.1)
abbrev z5i {R:Type}:Sm R:=semP zjs zat (fun a=>qez a.1 a.2.1)
abbrev z49 {R:Type}:Sm R:=semP zbz zat (fun a=>qed a.1)
abbrev zapr:ZC ((List Int)×Int×Unit):=Zc (Zl .ki64) (Zc Zi Zn)
abbrev zaug:ZD (Int×Bool):=(Cod.tup2 (Zc Zi (Zc Zb Zn)))
abbrev zam1 {R:Type}:Sm R:=semP zapr zaug (fun a=>qat a.1 a.2.1)
def z6y {R:Type}:Nat→Sm R:=cl 271 z5i (cl 272 z49 c0)
abbrev zs3:=mkld [] [] [0,1,6,7,8] [] [] (Zs 0 (Zl .ki64) (Zs 1 Zi (Zs 6 Zi (Zs 7 Zi (Zs 8 Zi Zz))))) zadv (.x 0 [0,1,6,7] [] [] (Zs 0 (Zl .ki64) (Zs 1 Zi (Zs 6 Zi (Zs 7 Zi Zz)))))
def zoi {R:Type}:Lp Kd El R:=lp 3 zs3.sem l0
abbrev zauf:ZD ((V7 Bool)):=(Cod.agg zbk)
abbrev z3e {R:Type}:Sm R:=semP zafo zauf (fun a=>qap a.1)
def z6u {R:Type}:Nat→Sm R:=c0
abbrev zsy:=mkld [] [] [1,2,3,5] [1,2,3] [] (Zp 1 1 (Zp 2 2 (Zp 3 3 (Zs 5 Zi (Zx 1 zaw (Zx 2 zbk (Zx 3 zbk Zz))))))) zadu (.x 0 [2,3] [2,3] [] (Zp 2 2 (Zp 3 3 (Zx 2 zbk (Zx 3 zbk Zz)))))
def zoe {R:Type}:Lp Kd El R:=lp 3 zsy.sem l0
abbrev zapc {R:Type}:Sm R:=semP zbz zat (fun a=>qfd a.1)
abbrev z35 {R:Type}:Sm R:=semP zbz za0 (fun a=>qc5 a.1)
abbrev zw8:ZC (Calendar×Int×Unit):=Zc (Cod.agg zaw) (Zc Zi Zn)
abbrev zq8 {R:Type}:Sm R:=semP zw8 zat (fun a=>qb9 a.1 a.2.1)
abbrev z3h {R:Type}:Sm R:=semP zw8 zgu (fun a=>qau a.1 a.2.1)
def z6z {R:Type}:Nat→Sm R:=cl 249 zq8 c0
abbrev zs4:=mkld [] [] [2,6] [2] [] (Zp 2 2 (Zs 6 Zi (Zx 2 zaw Zz))) zadw (.xs 0 [] [] [] Zz (.r [4,5] [] [] (Zs 4 Zi (Zs 5 Zi Zz))))
def zoj {R:Type}:Lp Kd El R:=lp 2 zs4.sem l0
abbrev zaaw:ZC (Calendar×Int×Int×Unit):=Zc (Cod.agg zaw) (Zc Zi (Zc Zi Zn))
abbrev zamp {R:Type}:Sm R:=semP zaaw zgu (fun a=>qa2 a.1 a.2.1 a.2.2.1)
def z6c {R:Type}:Nat→Sm R:=cl 143 z3z (cl 221 z3h c0)
abbrev zsf:=mkld [] [] [3,8,28,29] [3] [] (Zp 3 3 (Zs 8 Zi (Zs 28 Zi (Zs 29 Zi (Zx 3 zaw Zz))))) zadj (.xs 0 [8] [] [] (Zs 8 Zi Zz) (.r [6,7] [] [] (Zs 6 Zi (Zs 7 Zi Zz))))
def zny {R:Type}:Lp Kd El R:=lp 9 zsf.sem l0
abbrev zaor {R:Type}:Sm R:=semM zxe (BC.one zau) za0 (fun a b=>qe8 a.2.1 a.2.2.1 b)
abbrev zaqc:ZC (Hold×Int×Int×Unit):=Zc (Cod.agg zbj) (Zc (Cod.cptr (CC.one Zi)) (Zc (Cod.cptr (CC.one Zi)) Zn))
abbrev z4h {R:Type}:Sm R:=semP zaqc zat (fun a=>qcg a.1 a.2.1 a.2.2.1)
abbrev zrl:ZC ((List Hold)×((Unit)×(Int×Int×Unit))×Unit):=Zc (Zl .kHold) (Zc (Cod.fnc 215 (Zn) (Zc (Cod.cptr (CC.one Zi)) (Zc (Cod.cptr (CC.one Zi)) Zn))) Zn)
abbrev z3q {R:Type}:Sm R:=semP zrl za0 (fun a=>qb (fun g x0=>qcg x0 g.2.1 g.2.2.1) a.1 a.2.1)
def zuy {R:Type}:Nat→Sm R:=cl 215 z4h c0
abbrev zj5:=mkld [] [] [0,1,7,8] [] [] (Zs 0 (Zl .kHold) (Zs 1 (Cod.fnc 215 (Zn) (Zc (Cod.cptr (CC.one Zi)) (Zc (Cod.cptr (CC.one Zi)) Zn))) (Zs 7 Zi (Zs 8 Zi Zz)))) (zqr (fun g x0=>qcg x0 g.2.1 g.2.2.1)) (.xs 0 [] [] [] Zz (.r [4] [] [] (Zs 4 Zi Zz)))
def zif {R:Type}:Lp Kd El R:=lp 2 zj5.sem l0
abbrev zanp {R:Type}:Sm R:=semP zrl zat (fun a=>qbx (fun g x0=>qcg x0 g.2.1 g.2.2.1) a.1 a.2.1)
abbrev zaou {R:Type}:Sm R:=semP zafn zaag (fun a=>qeb a.1)
abbrev zaqv:ZC ((List Hold)×Int×Hold×Unit):=Zc (Zl .kHold) (Zc Zi (Zc (Cod.agg zbj) Zn))
abbrev zao4 {R:Type}:Sm R:=semP zaqv zaag (fun a=>qep a.1 a.2.1 a.2.2.1)
abbrev zapt:ZC ((List Hold)×Int×Int×Int×Int×Unit):=Zc (Zl .kHold) (Zc Zi (Zc Zi (Zc Zi (Zc Zi Zn))))
abbrev zaui:ZD ((List Hold)×Int):=(Cod.tup2 (Zc (Zl .kHold) (Zc Zi Zn)))
abbrev zam3 {R:Type}:Sm R:=semP zapt zaui (fun a=>qaw a.1 a.2.1 a.2.2.1 a.2.2.2.1 a.2.2.2.2.1)
abbrev zaqh:ZC (Unit×(List Hold)×Int×Unit):=Zc (Cod.ptrc 100000) (Zc (Zl .kHold) (Zc Zi Zn))
abbrev zanw {R:Type}:Sm R:=semM zaqh (BC.one zau) zjn (fun a b=>qcm a.2.1 a.2.2.1 b)
abbrev zaqo:ZC (Unit×Int×Hold×Unit):=Zc (Cod.ptrc 100000) (Zc Zi (Zc (Cod.agg zbj) Zn))
abbrev zaoc {R:Type}:Sm R:=semM zaqo (BC.one zau) zjn (fun a b=>qdd a.2.1 a.2.2.1 b)
abbrev zaov {R:Type}:Sm R:=semM zxn (BC.one zau) zjn (fun a b=>qec a.2.1 b)
abbrev zapp:ZC (Unit×Unit):=Zc (Cod.ptrc 100000) Zn
abbrev zamo {R:Type}:Sm R:=semM zapp (BC.one zau) z2q (fun a b=>qa1 b)
abbrev zmr:ZC (Circ×Int×Int×Unit):=Zc (Cod.agg zal) (Zc Zi (Zc Zi Zn))
abbrev z4j {R:Type}:Sm R:=semP zmr z2q (fun a=>qci a.1 a.2.1 a.2.2.1)
abbrev zap1:ZC ((List Charge)×Int×Unit):=Zc (Zl .kCharge) (Zc Zi Zn)
abbrev zane {R:Type}:Sm R:=semP zap1 za0 (fun a=>qbj a.1 a.2.1)
def z7a {R:Type}:Nat→Sm R:=c0
abbrev zte:=mkld [] [] [1,5,8,9,10] [] [] (Zs 1 Zi (Zs 5 Zi (Zs 8 (Zl .kCharge) (Zs 9 Zi (Zs 10 Zi Zz))))) zad4 (.x 0 [5] [] [] (Zs 5 Zi Zz))
def zot {R:Type}:Lp Kd El R:=lp 3 zte.sem l0
abbrev zo4:ZD ((List Loan)):=(Zl .kLoan)
abbrev z28 {R:Type}:Sm R:=semP zjt zo4 (fun a=>qae a.1 a.2.1)
def z6m {R:Type}:Nat→Sm R:=c0
abbrev zsq:=mkld [(5,5,Kd.kLoan)] [] [1,5,8,9,10] [] [5] (Zs 1 Zi (FC.arr 5 5 (Zs 8 (Zl .kLoan) (Zs 9 Zi (Zs 10 Zi (FC.own 5 Kd.kLoan false Zz)))))) zads (.x 0 [5] [] [5] (FC.arr 5 5 (FC.own 5 Kd.kLoan false Zz)))
def zn6 {R:Type}:Lp Kd El R:=lp 3 zsq.sem l0
abbrev zaay:ZC ((List Loan)×Int×Int×Unit):=Zc (Zl .kLoan) (Zc Zi (Zc Zi Zn))
abbrev zamr {R:Type}:Sm R:=semP zaay za0 (fun a=>qa8 a.1 a.2.1 a.2.2.1)
def z6h {R:Type}:Nat→Sm R:=cl 163 z28 c0
abbrev zsk:=mkld [] [] [2,7,12,13,14] [] [] (Zs 2 Zi (Zs 7 Zi (Zs 12 (Zl .kLoan) (Zs 13 Zi (Zs 14 Zi Zz))))) zado (.x 0 [7] [] [] (Zs 7 Zi Zz))
def zn3 {R:Type}:Lp Kd El R:=lp 3 zsk.sem l0
abbrev zapy:ZC (Patron×Int×Int×Int×Unit):=Zc (Cod.agg zba) (Zc Zi (Zc Zi (Zc Zi Zn)))
abbrev zam7 {R:Type}:Sm R:=semP zapy zub (fun a=>qba a.1 a.2.1 a.2.2.1 a.2.2.2.1)
def z64 {R:Type}:Nat→Sm R:=c0
abbrev zs9:=mkld [(9,9,Kd.ki64)] [] [9,22,23,24] [] [9,22] (FC.arr 9 9 (FC.arr 22 22 (Zs 23 Zi (Zs 24 Zi (FC.own 9 Kd.ki64 false (FC.own 22 Kd.kbool false Zz)))))) zadz (.x 0 [9] [] [9] (FC.arr 9 9 (FC.own 9 Kd.ki64 false Zz)))
def zoo {R:Type}:Lp Kd El R:=lp 3 zs9.sem l0
abbrev zapb {R:Type}:Sm R:=semP zabb zat (fun a=>qfc a.1 a.2.1)
abbrev zang {R:Type}:Sm R:=semP zw8 zgu (fun a=>qbm a.1 a.2.1)
def z7d {R:Type}:Nat→Sm R:=cl 249 zq8 c0
abbrev zth:=mkld [] [] [2,6] [2] [] (Zp 2 2 (Zs 6 Zi (Zx 2 zaw Zz))) zad7 (.xs 0 [] [] [] Zz (.r [4,5] [] [] (Zs 4 Zi (Zs 5 Zi Zz))))
def zow {R:Type}:Lp Kd El R:=lp 2 zth.sem l0
abbrev zaa9:ZC (Rule×Calendar×Int×Int×Unit):=Zc (Cod.agg zcy) (Zc (Cod.agg zaw) (Zc Zi (Zc Zi Zn)))
abbrev zan4 {R:Type}:Sm R:=semP zaa9 zgu (fun a=>qd4 a.1 a.2.1 a.2.2.1 a.2.2.2.1)
abbrev zaqs:ZC (Circ×Item×Patron×Int×Unit):=Zc (Cod.agg zal) (Zc (Cod.agg za1) (Zc (Cod.agg zba) (Zc Zi Zn)))
abbrev zaoy {R:Type}:Sm R:=semP zaqs zgu (fun a=>qei a.1 a.2.1 a.2.2.1 a.2.2.2.1)
abbrev zaqe:ZC (Loan×Loan×Unit):=Zc (Cod.agg zcj) (Zc (Cod.cptr zcj) Zn)
abbrev z4k {R:Type}:Sm R:=semP zaqe zat (fun a=>qcj a.1 a.2.1)
abbrev zk6:ZC ((List Loan)×((Unit)×(Loan×Unit))×Unit):=Zc (Zl .kLoan) (Zc (Cod.fnc 166 (Zn) (Zc (Cod.cptr zcj) Zn)) Zn)
abbrev z5k {R:Type}:Sm R:=semP zk6 za0 (fun a=>qi (fun g x0=>qcj x0 g.2.1) a.1 a.2.1)
def zu6 {R:Type}:Nat→Sm R:=cl 166 z4k c0
abbrev zke:=mkld [] [] [0,1,7,8] [] [] (Zs 0 (Zl .kLoan) (Zs 1 (Cod.fnc 166 (Zn) (Zc (Cod.cptr zcj) Zn)) (Zs 7 Zi (Zs 8 Zi Zz)))) (zamf (fun g x0=>qcj x0 g.2.1)) (.xs 0 [] [] [] Zz (.r [4] [] [] (Zs 4 Zi Zz)))
def zim {R:Type}:Lp Kd El R:=lp 2 zke.sem l0
abbrev zwz {R:Type}:Sm R:=semP zk6 zael (fun a=>qby (fun g x0=>qcj x0 g.2.1) a.1 a.2.1)
abbrev zaot {R:Type}:Sm R:=semP zri zo4 (fun a=>qea a.1)
abbrev zxj:ZC ((List Loan)×Int×(List Loan)×Unit):=Zc (Zl .kLoan) (Zc Zi (Zc (Zl .kLoan) Zn))
abbrev zaez:ZD ((List Loan)):=zo4
def zadd (a:(List Loan)×Int×(List Loan)×Unit):Option ((List Loan)):=qds a.1 a.2.1 a.2.2.1
abbrev zavu {R:Type}:Sm R:=semP zxj zaez zadd
abbrev zaep:ZD ((List Loan)×Int):=(Cod.tup2 (Zc (Zl .kLoan) (Zc Zi Zn)))
abbrev zan2 {R:Type}:Sm R:=semP zri zaep (fun a=>qd0 a.1)
abbrev zap2:ZC ((List Loan)×Loan×Unit):=Zc (Zl .kLoan) (Zc (Cod.agg zcj) Zn)
abbrev zank {R:Type}:Sm R:=semP zap2 zaep (fun a=>qbs a.1 a.2.1)
abbrev zaqg:ZC (Unit×(List Loan)×Int×Unit):=Zc (Cod.ptrc 100000) (Zc (Zl .kLoan) (Zc Zi Zn))
abbrev zanv {R:Type}:Sm R:=semM zaqg (BC.one zau) zjn (fun a b=>qcl a.2.1 a.2.2.1 b)
abbrev zxm:ZC ((List Hold)×Int×Int×Unit):=zaqw
abbrev zae2:ZD ((List Hold)):=zaag
def zadg (a:(List Hold)×Int×Int×Unit):Option ((List Hold)):=qdv a.1 a.2.1 a.2.2.1
abbrev zavx {R:Type}:Sm R:=semP zxm zae2 zadg
abbrev zaup:ZD ((List Hold)×Hold×Int):=(Cod.tup3 (Zc (Zl .kHold) (Zc (Cod.agg zbj) (Zc Zi Zn))))
abbrev zaoz {R:Type}:Sm R:=semP zw9 zaup (fun a=>qej a.1 a.2.1)
abbrev zao7 {R:Type}:Sm R:=semM zxn (BC.one zau) zjn (fun a b=>qev a.2.1 b)
abbrev z2s:ZD (Circ×Int×Int):=(Cod.tup3 (Zc (Cod.agg zal) (Zc Zi (Zc Zi Zn))))
abbrev zam6 {R:Type}:Sm R:=semM zxn (BC.one zau) z2s (fun a b=>qb8 a.2.1 b)
abbrev zaqu:ZC (Hold×Item×Unit):=Zc (Cod.agg zbj) (Zc (Cod.agg za1) Zn)
abbrev zao3 {R:Type}:Sm R:=semP zaqu zat (fun a=>qen a.1 a.2.1)
abbrev zap8:ZC (Hold×Int×Item×Unit):=Zc (Cod.agg zbj) (Zc (Cod.cptr (CC.one Zi)) (Zc (Cod.cptr za1) Zn))
abbrev z38 {R:Type}:Sm R:=semP zap8 zat (fun a=>qc7 a.1 a.2.1 a.2.2.1)
abbrev z5v:ZC ((List Hold)×((Unit)×(Int×Item×Unit))×Unit):=Zc (Zl .kHold) (Zc (Cod.fnc 111 (Zn) (Zc (Cod.cptr (CC.one Zi)) (Zc (Cod.cptr za1) Zn))) Zn)
abbrev z3r {R:Type}:Sm R:=semP z5v za0 (fun a=>qb (fun g x0=>qc7 x0 g.2.1 g.2.2.1) a.1 a.2.1)
def zuz {R:Type}:Nat→Sm R:=cl 111 z38 c0
abbrev zj6:=mkld [] [] [0,1,7,8] [] [] (Zs 0 (Zl .kHold) (Zs 1 (Cod.fnc 111 (Zn) (Zc (Cod.cptr (CC.one Zi)) (Zc (Cod.cptr za1) Zn))) (Zs 7 Zi (Zs 8 Zi Zz)))) (zqr (fun g x0=>qc7 x0 g.2.1 g.2.2.1)) (.xs 0 [] [] [] Zz (.r [4] [] [] (Zs 4 Zi Zz)))
def zig {R:Type}:Lp Kd El R:=lp 2 zj6.sem l0
abbrev zaa4:ZC (Circ×Int×Int×Int×Unit):=Zc (Cod.agg zal) (Zc Zi (Zc Zi (Zc Zi Zn)))
abbrev z3x {R:Type}:Sm R:=semP zaa4 z2s (fun a=>qbq a.1 a.2.1 a.2.2.1 a.2.2.2.1)
abbrev zxl:ZC ((List Loan)×Int×Int×Unit):=zaay
abbrev zae1:ZD ((List Loan)):=zo4
def zadf (a:(List Loan)×Int×Int×Unit):Option ((List Loan)):=qdu a.1 a.2.1 a.2.2.1
abbrev zavw {R:Type}:Sm R:=semP zxl zae1 zadf
abbrev zaoo {R:Type}:Sm R:=semP zjt zo4 (fun a=>qe5 a.1 a.2.1)
abbrev zauo:ZD ((List Loan)×Loan×Int):=(Cod.tup3 (Zc (Zl .kLoan) (Zc (Cod.agg zcj) (Zc Zi Zn))))
abbrev zaoj {R:Type}:Sm R:=semP zjt zauo (fun a=>qdn a.1 a.2.1)
abbrev z5b {R:Type}:Sm R:=semP zjs za0 (fun a=>qeh a.1 a.2.1)
abbrev zamt {R:Type}:Sm R:=semP zaaw za0 (fun a=>qaa a.1 a.2.1 a.2.2.1)
def z6j {R:Type}:Nat→Sm R:=cl 251 z3e (cl 252 z5b (cl 253 z35 c0))
abbrev zsn:=mkld [] [] [1,2,3,7,8,22,23] [3,7] [] (Zs 1 Zi (Zs 2 Zi (Zp 3 3 (Zp 7 7 (Zs 8 Zi (Zs 22 (Cod.agg zbk) (Zs 23 Zi (Zx 3 zaw (Zx 7 zbk Zz))))))))) zadq (.x 0 [1,2,3,7,8] [3,7] [] (Zs 1 Zi (Zs 2 Zi (Zp 3 3 (Zp 7 7 (Zs 8 Zi (Zx 3 zaw (Zx 7 zbk Zz))))))))
abbrev znq:=mkld [] [] [1,2,7,8,40,41,42] [7] [] (Zs 1 Zi (Zs 2 Zi (Zp 7 7 (Zs 8 Zi (Zs 40 (Zl .ki64) (Zs 41 Zi (Zs 42 Zi (Zx 7 zbk Zz)))))))) z2f (.x 2 [8] [] [] (Zs 8 Zi Zz))
def zic {R:Type}:Lp Kd El R:=lp 13 znq.sem (lp 7 zsn.sem l0)
abbrev zapg {R:Type}:Sm R:=semP zaa9 za0 (fun a=>qfh a.1 a.2.1 a.2.2.1 a.2.2.2.1)
abbrev zaqm:ZC ((List Charge)×Charge×Unit):=Zc (Zl .kCharge) (Zc (Cod.agg zc6) Zn)
abbrev zaet:ZD ((List Charge)×Int):=(Cod.tup2 (Zc (Zl .kCharge) (Zc Zi Zn)))
abbrev zan9 {R:Type}:Sm R:=semP zaqm zaet (fun a=>qda a.1 a.2.1)
abbrev zaop {R:Type}:Sm R:=semM zaa2 (BC.one zau) zjn (fun a b=>qe6 a.2.1 a.2.2.1 a.2.2.2.1 a.2.2.2.2.1 b)
abbrev zap6:ZC (Charge×Int×Int×Int×Unit):=Zc (Cod.agg zc6) (Zc (Cod.cptr (CC.one Zi)) (Zc (Cod.cptr (CC.one Zi)) (Zc (Cod.cptr (CC.one Zi)) Zn)))
abbrev z32 {R:Type}:Sm R:=semP zap6 zat (fun a=>qc2 a.1 a.2.1 a.2.2.1 a.2.2.2.1)
abbrev zaps:ZC ((List Charge)×((Unit)×(Int×Int×Int×Unit))×Unit):=Zc (Zl .kCharge) (Zc (Cod.fnc 230 (Zn) (Zc (Cod.cptr (CC.one Zi)) (Zc (Cod.cptr (CC.one Zi)) (Zc (Cod.cptr (CC.one Zi)) Zn)))) Zn)
abbrev zauh:ZD ((List Charge)×Int×Int):=(Cod.tup3 (Zc (Zl .kCharge) (Zc Zi (Zc Zi Zn))))
abbrev zam2 {R:Type}:Sm R:=semP zaps zauh (fun a=>qav (fun g x0=>qc2 x0 g.2.1 g.2.2.1 g.2.2.2.1) a.1 a.2.1)
def z60 {R:Type}:Nat→Sm R:=cl 230 z32 c0
abbrev zs5:=mkld [(4,4,Kd.kCharge)] [] [1,4,5,6,9,10,11] [] [4] (Zs 1 (Cod.fnc 230 (Zn) (Zc (Cod.cptr (CC.one Zi)) (Zc (Cod.cptr (CC.one Zi)) (Zc (Cod.cptr (CC.one Zi)) Zn)))) (FC.arr 4 4 (Zs 5 Zi (Zs 6 Zi (Zs 9 (Zl .kCharge) (Zs 10 Zi (Zs 11 Zi (FC.own 4 Kd.kCharge false Zz)))))))) (zadx (fun g x0=>qc2 x0 g.2.1 g.2.2.1 g.2.2.2.1)) (.x 0 [4,5,6] [] [4] (FC.arr 4 4 (Zs 5 Zi (Zs 6 Zi (FC.own 4 Kd.kCharge false Zz)))))
def zok {R:Type}:Lp Kd El R:=lp 2 zs5.sem l0
abbrev zap3:ZC ((List Charge)×Int×Int×Int×Unit):=Zc (Zl .kCharge) (Zc Zi (Zc Zi (Zc Zi Zn)))
abbrev zann {R:Type}:Sm R:=semP zap3 zaet (fun a=>qbv a.1 a.2.1 a.2.2.1 a.2.2.2.1)
abbrev zaon {R:Type}:Sm R:=semM zxe (BC.one zau) zjn (fun a b=>qe4 a.2.1 a.2.2.1 b)
abbrev z47 {R:Type}:Sm R:=semP zmr z2s (fun a=>qe2 a.1 a.2.1 a.2.2.1)
abbrev zauj:ZD (Circ×Bool):=(Cod.tup2 (Zc (Cod.agg zal) (Zc Zb Zn)))
abbrev zam9 {R:Type}:Sm R:=semP zxb zauj (fun a=>qbd)
def z67 {R:Type}:Nat→Sm R:=cl 52 z34 (cl 53 zae4 (cl 54 z4j (cl 55 z3x (cl 56 z47 c0))))
abbrev ztb:=mkld [] [] [0,2,5,6] [0,2] [] (Zp 0 0 (Zp 2 2 (Zs 5 Zb (Zs 6 Zi (Zx 0 zal (Zx 2 zal Zz)))))) zad1 (.x 0 [0,2,5] [0,2] [] (Zp 0 0 (Zp 2 2 (Zs 5 Zb (Zx 0 zal (Zx 2 zal Zz))))))
def zoq {R:Type}:Lp Kd El R:=lp 6 ztb.sem l0
abbrev z3g {R:Type}:Sm R:=semP zjf zgu (fun a=>qar a.1 a.2.1)
def z6w {R:Type}:Nat→Sm R:=c0
abbrev zs0:=mkld [] [] [1,6,7,11,12,13] [] [] (Zs 1 Zi (Zs 6 Zi (Zs 7 Zi (Zs 11 (Zl .kMove) (Zs 12 Zi (Zs 13 Zi Zz)))))) zkp (.x 0 [6,7] [] [] (Zs 6 Zi (Zs 7 Zi Zz)))
def zog {R:Type}:Lp Kd El R:=lp 3 zs0.sem l0
abbrev z3b {R:Type}:Sm R:=semP zjf za0 (fun a=>qak a.1 a.2.1)
def z6q {R:Type}:Nat→Sm R:=c0
abbrev zsu:=mkld [] [] [1,5,9,10,11] [] [] (Zs 1 Zi (Zs 5 Zi (Zs 9 (Zl .kItem) (Zs 10 Zi (Zs 11 Zi Zz))))) zkn (.x 0 [5] [] [] (Zs 5 Zi Zz))
def zoa {R:Type}:Lp Kd El R:=lp 3 zsu.sem l0
abbrev zap9:ZC (Hold×Item×Unit):=Zc (Cod.agg zbj) (Zc (Cod.cptr za1) Zn)
abbrev z4f {R:Type}:Sm R:=semP zap9 zat (fun a=>qcd a.1 a.2.1)
abbrev zrm:ZC ((List Hold)×((Unit)×(Item×Unit))×Unit):=Zc (Zl .kHold) (Zc (Cod.fnc 58 (Zn) (Zc (Cod.cptr za1) Zn)) Zn)
abbrev z3s {R:Type}:Sm R:=semP zrm za0 (fun a=>qb (fun g x0=>qcd x0 g.2.1) a.1 a.2.1)
def zu0 {R:Type}:Nat→Sm R:=cl 58 z4f c0
abbrev zj7:=mkld [] [] [0,1,7,8] [] [] (Zs 0 (Zl .kHold) (Zs 1 (Cod.fnc 58 (Zn) (Zc (Cod.cptr za1) Zn)) (Zs 7 Zi (Zs 8 Zi Zz)))) (zqr (fun g x0=>qcd x0 g.2.1)) (.xs 0 [] [] [] Zz (.r [4] [] [] (Zs 4 Zi Zz)))
def zih {R:Type}:Lp Kd El R:=lp 2 zj7.sem l0
abbrev zk0 {R:Type}:Sm R:=semP zrm zat (fun a=>qbx (fun g x0=>qcd x0 g.2.1) a.1 a.2.1)
abbrev zaow {R:Type}:Sm R:=semP zjs za0 (fun a=>qee a.1 a.2.1)
abbrev zapz:ZC ((List Int)×Unit):=Zc (Zl .ki64) Zn
abbrev zanb {R:Type}:Sm R:=semP zapz za0 (fun a=>qbg a.1)
def z68 {R:Type}:Nat→Sm R:=c0
abbrev ztc:=mkld [] [] [3,6,7,8] [] [] (Zs 3 Zi (Zs 6 (Zl .ki64) (Zs 7 Zi (Zs 8 Zi Zz)))) zad2 (.xs 0 [3] [] [] (Zs 3 Zi Zz) (.r [2] [] [] (Zs 2 Zi Zz)))
def zor {R:Type}:Lp Kd El R:=lp 3 ztc.sem l0
abbrev zaql:ZC (Weed_candidate×Weed_candidate×Unit):=Zc (Cod.agg zbl) (Zc (Cod.agg zbl) Zn)
abbrev zan8 {R:Type}:Sm R:=semP zaql za0 (fun a=>qd9 a.1 a.2.1)
abbrev zxg:ZC ((List Weed_candidate)×((Unit)×(Unit))×Unit):=Zc (Zl .kWeed_candidate) (Zc (Cod.fnc 60 (Zn) (Zn)) Zn)
abbrev zaeu:ZD (List Weed_candidate):=(Zl .kWeed_candidate)
def zada (a:(List Weed_candidate)×((Unit)×(Unit))×Unit):Option (List Weed_candidate):=qdb (fun g x0 x1=>qd9 x0 x1) a.1 a.2.1
abbrev zaoa {R:Type}:Sm R:=semP zxg zaeu zada
abbrev zavp:ZD ((List Weed_candidate)):=(Zl .kWeed_candidate)
abbrev z5j {R:Type}:Sm R:=semP zmr zavp (fun a=>qg a.1 a.2.1 a.2.2.1)
def zaf2 {R:Type}:Nat→Sm R:=cl 11 z3g (cl 57 zk0 (cl 59 zaoa c0))
abbrev z0z:=mkld [(7,7,Kd.kWeed_candidate)] [] [1,2,3,7,14,15,16] [3] [7] (Zs 1 Zi (Zs 2 Zi (Zp 3 3 (FC.arr 7 7 (Zs 14 (Zl .kItem) (Zs 15 Zi (Zs 16 Zi (Zx 3 zal (FC.own 7 Kd.kWeed_candidate false Zz))))))))) zat0 (.x 0 [7] [] [7] (FC.arr 7 7 (FC.own 7 Kd.kWeed_candidate false Zz)))
def zt1 {R:Type}:Lp Kd El R:=lp 3 z0z.sem l0
abbrev zams {R:Type}:Sm R:=semP zmr zub (fun a=>qa9 a.1 a.2.1 a.2.2.1)
def z6i {R:Type}:Nat→Sm R:=cl 27 z5j c0
abbrev zsl:=mkld [(7,7,Kd.ki64)] [] [7,13,14,15] [] [7] (FC.arr 7 7 (Zs 13 (Zl .kWeed_candidate) (Zs 14 Zi (Zs 15 Zi (FC.own 7 Kd.ki64 false Zz))))) zadp (.x 0 [7] [] [7] (FC.arr 7 7 (FC.own 7 Kd.ki64 false Zz)))
def zn4 {R:Type}:Lp Kd El R:=lp 3 zsl.sem l0
abbrev zapq:ZC ((List Int)×(List Int)×Unit):=Zc (Zl .ki64) (Zc (Zl .ki64) Zn)
abbrev zamy {R:Type}:Sm R:=semP zapq zat (fun a=>qal a.1 a.2.1)
def z6r {R:Type}:Nat→Sm R:=c0
abbrev zsv:=mkld [] [] [0,1,5] [] [] (Zs 0 (Zl .ki64) (Zs 1 (Zl .ki64) (Zs 5 Zi Zz))) zadt (.xs 0 [] [] [] Zz (.r [4] [] [] (Zs 4 Zb Zz)))
def zob {R:Type}:Lp Kd El R:=lp 4 zsv.sem l0
abbrev z4r {R:Type}:Sm R:=semP zaa7 zat (fun a=>qcy a.1 a.2.1)
abbrev zrp:ZC ((List Item)×((Unit)×(Int×Unit))×Unit):=Zc (Zl .kItem) (Zc (Cod.fnc 32 (Zn) (Zc (Cod.cptr (CC.one Zi)) Zn)) Zn)
abbrev z4b {R:Type}:Sm R:=semP zrp za0 (fun a=>qc (fun g x0=>qcy x0 g.2.1) a.1 a.2.1)
def zu3 {R:Type}:Nat→Sm R:=cl 32 z4r c0
abbrev zka:=mkld [] [] [0,1,7,8] [] [] (Zs 0 (Zl .kItem) (Zs 1 (Cod.fnc 32 (Zn) (Zc (Cod.cptr (CC.one Zi)) Zn)) (Zs 7 Zi (Zs 8 Zi Zz)))) (z2i (fun g x0=>qcy x0 g.2.1)) (.xs 0 [] [] [] Zz (.r [4] [] [] (Zs 4 Zi Zz)))
def zik {R:Type}:Lp Kd El R:=lp 2 zka.sem l0
abbrev z4e {R:Type}:Sm R:=semP zrp zat (fun a=>qcc (fun g x0=>qcy x0 g.2.1) a.1 a.2.1)
abbrev zaqp:ZC (Item×Int×Unit):=Zc (Cod.agg za1) (Zc Zi Zn)
abbrev zaog {R:Type}:Sm R:=semP zaqp zat (fun a=>qdi a.1 a.2.1)
abbrev z36 {R:Type}:Sm R:=semP zaa5 zat (fun a=>qc6 a.1 a.2.1)
abbrev zrq:ZC ((List Item)×((Unit)×(Item×Unit))×Unit):=Zc (Zl .kItem) (Zc (Cod.fnc 118 (Zn) (Zc (Cod.cptr za1) Zn)) Zn)
abbrev z4c {R:Type}:Sm R:=semP zrq za0 (fun a=>qc (fun g x0=>qc6 x0 g.2.1) a.1 a.2.1)
def zu4 {R:Type}:Nat→Sm R:=cl 118 z36 c0
abbrev zkb:=mkld [] [] [0,1,7,8] [] [] (Zs 0 (Zl .kItem) (Zs 1 (Cod.fnc 118 (Zn) (Zc (Cod.cptr za1) Zn)) (Zs 7 Zi (Zs 8 Zi Zz)))) (z2i (fun g x0=>qc6 x0 g.2.1)) (.xs 0 [] [] [] Zz (.r [4] [] [] (Zs 4 Zi Zz)))
def zil {R:Type}:Lp Kd El R:=lp 2 zkb.sem l0
abbrev zw0 {R:Type}:Sm R:=semP zrq zat (fun a=>qcc (fun g x0=>qc6 x0 g.2.1) a.1 a.2.1)
abbrev zaqd:ZC (Hold×Item×Bool×Unit):=Zc (Cod.agg zbj) (Zc (Cod.cptr za1) (Zc (Cod.cptr (CC.one Zb)) Zn))
abbrev z4i {R:Type}:Sm R:=semP zaqd zat (fun a=>qch a.1 a.2.1 a.2.2.1)
abbrev zrn:ZC ((List Hold)×((Unit)×(Item×Bool×Unit))×Unit):=Zc (Zl .kHold) (Zc (Cod.fnc 120 (Zn) (Zc (Cod.cptr za1) (Zc (Cod.cptr (CC.one Zb)) Zn))) Zn)
abbrev z3t {R:Type}:Sm R:=semP zrn za0 (fun a=>qb (fun g x0=>qch x0 g.2.1 g.2.2.1) a.1 a.2.1)
def zu1 {R:Type}:Nat→Sm R:=cl 120 z4i c0
abbrev zj8:=mkld [] [] [0,1,7,8] [] [] (Zs 0 (Zl .kHold) (Zs 1 (Cod.fnc 120 (Zn) (Zc (Cod.cptr za1) (Zc (Cod.cptr (CC.one Zb)) Zn))) (Zs 7 Zi (Zs 8 Zi Zz)))) (zqr (fun g x0=>qch x0 g.2.1 g.2.2.1)) (.xs 0 [] [] [] Zz (.r [4] [] [] (Zs 4 Zi Zz)))
def zii {R:Type}:Lp Kd El R:=lp 2 zj8.sem l0
abbrev zwy {R:Type}:Sm R:=semP zrn zat (fun a=>qbx (fun g x0=>qch x0 g.2.1 g.2.2.1) a.1 a.2.1)
abbrev zamu {R:Type}:Sm R:=semP zafl zat (fun a=>qab a.1 a.2.1)
abbrev z5h {R:Type}:Sm R:=semP zjf z2q (fun a=>qex a.1 a.2.1)
abbrev zavb:ZC (Circ×(List Int)×Unit):=Zc (Cod.agg zal) (Zc (Zl .ki64) Zn)
abbrev zavq:ZD (Circ×(List Int)×Int):=(Cod.tup3 (Zc (Cod.agg zal) (Zc (Zl .ki64) (Zc Zi Zn))))
abbrev zauy {R:Type}:Sm R:=semP zavb zavq (fun a=>qj a.1 a.2.1)
def zaf5 {R:Type}:Nat→Sm R:=cl 31 z4e (cl 33 z5h c0)
abbrev z02:=mkld [] [] [1,2,4,14,15,16] [2,4] [] (Zs 1 (Zl .ki64) (Zp 2 2 (Zp 4 4 (Zs 14 (Zl .ki64) (Zs 15 Zi (Zs 16 Zi (Zx 2 zal (Zx 4 zal Zz)))))))) zat2 (.xs 0 [1,2,4] [2,4] [] (Zs 1 (Zl .ki64) (Zp 2 2 (Zp 4 4 (Zx 2 zal (Zx 4 zal Zz))))) (.r [5,6] [4] [4] (Zp 4 4 (Zs 5 (Zl .ki64) (Zs 6 Zi (Zx 4 zal Zz))))))
abbrev z03:=mkld [(9,9,Kd.ki64)] [] [2,4,9,27,28,29] [2,4] [9] (Zp 2 2 (Zp 4 4 (FC.arr 9 9 (Zs 27 (Zl .ki64) (Zs 28 Zi (Zs 29 Zi (Zx 2 zal (Zx 4 zal (FC.own 9 Kd.ki64 false Zz))))))))) zat3 (.x 2 [2,4,9] [2,4] [9] (Zp 2 2 (Zp 4 4 (FC.arr 9 9 (Zx 2 zal (Zx 4 zal (FC.own 9 Kd.ki64 false Zz)))))))
def zl6 {R:Type}:Lp Kd El R:=lp 9 z03.sem (lp 2 z02.sem l0)
abbrev zani {R:Type}:Sm R:=semP zaa4 zub (fun a=>qbp a.1 a.2.1 a.2.2.1 a.2.2.2.1)
def z7f {R:Type}:Nat→Sm R:=cl 13 z3b (cl 27 z5j c0)
abbrev ztj:=mkld [(9,9,Kd.ki64)] [] [3,4,9,10,17,18,19] [4] [9,13] (Zs 3 Zi (Zp 4 4 (FC.arr 9 9 (FC.arr 10 13 (Zs 17 (Zl .kWeed_candidate) (Zs 18 Zi (Zs 19 Zi (Zx 4 zal (FC.own 9 Kd.ki64 false (FC.map 13 Kd.kMapI Zz)))))))))) zad8 (.x 0 [9] [] [9] (FC.arr 9 9 (FC.own 9 Kd.ki64 false Zz)))
def zoy {R:Type}:Lp Kd El R:=lp 4 ztj.sem l0
abbrev zaom {R:Type}:Sm R:=semP zxb zat (fun a=>qe0)
abbrev zanj {R:Type}:Sm R:=semP zjf zgu (fun a=>qbr a.1 a.2.1)
def z7g {R:Type}:Nat→Sm R:=c0
abbrev ztk:=mkld [] [] [1,2,6,7,8] [2] [] (Zs 1 Zi (Zp 2 2 (Zs 6 Zi (Zs 7 Zi (Zs 8 Zi (Zx 2 zal Zz)))))) zkt (.x 0 [6,7] [] [] (Zs 6 Zi (Zs 7 Zi Zz)))
def zoz {R:Type}:Lp Kd El R:=lp 3 ztk.sem l0
abbrev zanh {R:Type}:Sm R:=semP zjf za0 (fun a=>qbo a.1 a.2.1)
def z7e {R:Type}:Nat→Sm R:=c0
abbrev zti:=mkld [] [] [1,2,5,6] [2] [] (Zs 1 Zi (Zp 2 2 (Zs 5 Zi (Zs 6 Zi (Zx 2 zal Zz))))) zks (.x 0 [5] [] [] (Zs 5 Zi Zz))
def zox {R:Type}:Lp Kd El R:=lp 3 zti.sem l0
abbrev zaba:ZC (Circ×Int×Int×Unit):=zmr
abbrev zaun:ZD (Bool):=zat
def zadb (a:Circ×Int×Int×Unit):Option (Bool):=qde a.1 a.2.1 a.2.2.1
abbrev zaod {R:Type}:Sm R:=semP zaba zaun zadb
end Go.Proofs.YtpaidiaknfhclaaGreatDoor
namespace Go.Proofs.YtpaidiaknfhclaaGreatDoor
set_option maxRecDepth 100000
open Ev
open Go (IntKind)
open Go
theorem zara:∀k,CCOk (ccK k)
 |.kItem=>zm4
 |.kPatron=>zhu
 |.kLoan=>zm5
 |.kHold=>zm3
 |.kCharge=>zht
 |.kRule=>zm8
 |.ki64=>CCOk.one (zai.int _)
 |.kMove=>zm7
 |.kbool=>CCOk.one zai.bool
 |.kWeed_candidate=>zc7
 |.kMapI=>zm6
 |.ku8=>CCOk.one (zai.int _)
 |.kUtf8_acceptRange=>zct
 |.ku16=>CCOk.one (zai.int _)
theorem sgok:SgOk sg:=zaph (cc:=ccK) (fun _=>rfl) (fun _=>rfl) zara (by intro k x;cases k<;>rfl) (by intro k x;cases k<;>rfl) (by intro k;cases k<;>decide)
theorem eok:∀t,zar0 t=true→EqOk Tryz.prog t:=z73 (by kernel_rfl) (zaki)
theorem mok:∀t M,zas6 t=some M→MpOk Tryz.prog sg t M:=z98 (z99 (kt:=3) (et:=3) (by kernel_rfl) (by kernel_rfl) (by kernel_rfl) (fun _ _=>rfl) (fun _ _=>rfl) (fun _=>rfl)) (zal3)
theorem good:GoodP Tryz.prog sg:=⟨prOk (by kernel_rfl) (by kernel_rfl),sgok,eok,mok⟩
end Go.Proofs.YtpaidiaknfhclaaGreatDoor
namespace Go.Proofs.YtpaidiaknfhclaaGreatDoor.Ev
open Go
section
variable {P:Program} {w:World}
theorem zbc {dT sT ty elem:TypeId} {i0:TypeInfo} {g o dLen dCap sLen sCap z:Nat} {a:Addr} {L cs:List Value} {t:TypeId} (hu:P.underlying dT=some (.slice elem)) (hi:P.info? elem=some i0) (hz:i0.size=z)
 (hg:w.heap[g]?=some (.cells L.toArray t (0,0))) (hn:cs.length=Nat.min sLen dLen*z) (hsrc:∀j v,cs[j]?=some v→w.cell? (a.add j)=some v) (hfit:o+cs.length≤L.length) (h1:∀v∈cs,v.oneCell'=true) :
 (Builtin.copy_ #[dT,sT] ty #[.slice (some ⟨g,o,none⟩) dLen dCap,.slice (some a) sLen sCap]).run P w=.ok (goInt (Nat.min sLen dLen)) (w.setRow g (Go.splice L o cs).toArray):=by
 have hl:=run_firstCells_some (P:=P) w z (Nat.min sLen dLen) a sLen sCap cs hn hsrc
 have hst:=run_storeCells_at P g o t cs 0 L.toArray w hg (by simpa using hfit) h1
 simp only[Nat.add_zero]at hst
 subst hz
 simp[Builtin.copy_,run_underlying hu,Builtin.lenOf,sizeOf,typeInfo,hi,hl,hst,Go.splice]
theorem zjd {ops:Array Oper} {rest:List Oper} {o:Oper} {a:Act} {Q:Exit→Act→World→Prop} (hgd:o.guard=none) (d s:Operand) (t t':TypeId)
 (ho:o.op=.call {callee:=.builtin .copy,args:=#[d,s],argTypes:=#[t,t']}) (v u:Value) (hd:a.eval d=v) (hs:a.eval s=u) {v':Value} {w':World}
 (hr:(Builtin.copy_ #[t,t'] o.type #[v,u]).run P w=.ok v' w') (h:wpList P ops Q rest (a.put o.dst v') w'):wpList P ops Q (o::rest) a w:=
 wpList_plain hgd fun _ hK=>by
  unfold Oper.wp execOp
  simp only[ho,resolve,invoke,builtin,Sem.run_bind,Sem.run_pure,Result.andThen_ok,List.map_toArray,List.map_cons,List.map_nil,hd,hs,hr]
  exact hK _ _ h
theorem zco {ops:Array Oper} {o:Oper} {a:Act} {K:Act→World→Prop} {Q:Exit→Act→World→Prop} {E:Prop}
 (hg:o.guard=none) (d x:Operand) (dT sT:TypeId) (hop:o.op=Op.call {callee:=Callee.builtin Builtin.copy,args:=#[d,x],argTypes:=#[dT,sT]})
 (v u:Value) (hd:a.eval d=v) (hx:a.eval x=u) {v':Value} {w':World} (hr:(Builtin.copy_ #[dT,sT] o.type #[v,u]).run P w=.ok v' w') (hK:K (a.put o.dst v') w') :
 if Region.wanted o (yielded ops a.tmps)=true then Oper.wp P o a w K Q else E:=by
 have hw:Region.wanted o (yielded ops a.tmps)=true:=by simp[Region.wanted,hg]
 rw[if_pos hw]
 unfold Oper.wp
 simp[execOp,hop,resolve,invoke,builtin,hd,hx,hr,Result.andThen]
 exact hK
theorem zk1 {ops:Array Oper} {o:Oper} {a:Act} {K:Act→World→Prop} {Q:Exit→Act→World→Prop} {E:Prop}
 (hg:o.guard=none) (d x:Operand) (dT sT:TypeId) (hop:o.op=Op.call {callee:=Callee.builtin Builtin.append,args:=#[d,x],argTypes:=#[dT,sT]})
 (v u:Value) (hd:a.eval d=v) (hx:a.eval x=u) {v':Value} {w':World} (hr:(Builtin.append_ #[dT,sT] o.type #[v,u]).run P w=.ok v' w') (hK:K (a.put o.dst v') w') :
 if Region.wanted o (yielded ops a.tmps)=true then Oper.wp P o a w K Q else E:=by
 have hw:Region.wanted o (yielded ops a.tmps)=true:=by simp[Region.wanted,hg]
 rw[if_pos hw]
 unfold Oper.wp
 simp[execOp,hop,resolve,invoke,builtin,hd,hx,hr,Result.andThen]
 exact hK
theorem zbd {ops:Array Oper} {rest:List Oper} {o:Oper} {a:Act} {Q:Exit→Act→World→Prop} (hgd:o.guard=none) (s x:Operand) (t tn:TypeId)
 (ho:o.op=.call {callee:=.builtin .append,args:=#[s,x],argTypes:=#[t,tn]}) (vs vx:Value) (hs:a.eval s=vs) (hx:a.eval x=vx)
 {v':Value} {w':World} (hr:(Builtin.append_ #[t,tn] o.type #[vs,vx]).run P w=.ok v' w') (h:wpList P ops Q rest (a.put o.dst v') w'):wpList P ops Q (o::rest) a w:=
 Lib.wpList_append_run w hgd s x t tn ho vs vx hs hx v' w' hr h
theorem zi0 {t e ty:TypeId} {i0:TypeInfo} {z0:Value} {b o n c:Nat} {L:List Value} {tt:TypeId} (ht:P.underlying t=some (.slice e)) (hi:P.info? e=some i0) (hz:i0.zero=some z0)
 (hn:0<n) (hb:w.heap[b]?=some (.cells L.toArray tt (0,0))) (hfit:o+n*z0.cells.size≤L.length) (h1:∀v∈z0.cells,v.oneCell'=true) :
 (Builtin.clear_ #[t] ty #[.slice (some ⟨b,o,none⟩) n c]).run P w=.ok (.tuple #[]) (w.setRow b (Go.splice L o (Builtin.zeroCells z0.cells n).toList).toArray):=by
 have hl:(Builtin.zeroCells z0.cells n).toList.length=n*z0.cells.size:=by rw[Array.length_toList,Go.size_zeroCells]
 have hst:=run_storeCells_at P b o tt (Builtin.zeroCells z0.cells n).toList 0 L.toArray w hb (by rw[hl];simpa using hfit) (fun v hv=>by
  simp only[Builtin.zeroCells,Array.toList_map,List.mem_map,Array.toList_range,List.mem_range]at hv
  obtain ⟨q,hq,rfl⟩:=hv
  have hp:0<z0.cells.size:=Nat.pos_of_ne_zero (fun h=>by rw[h]at hq;omega)
  rw[getElem!_pos z0.cells _ (Nat.mod_lt _ hp)]
  exact h1 _ (Array.getElem_mem _))
 simp only[Nat.add_zero]at hst
 obtain ⟨m,rfl⟩:∃m,n=m+1:=⟨n-1,by omega⟩
 simp only[List.append_assoc]at hst
 simp[Builtin.clear_,run_underlying ht,sizeOf,typeInfo,zeroValue,hi,hz,hst,Go.splice]
theorem zcz {tS tR e:TypeId} {i0:TypeInfo} (ht:P.underlying tS=some (.slice e)) (hi:P.info? e=some i0) {a b:Addr} {la ca lb cb:Nat} (hne:a.block≠b.block)
 {va vb:Array Value} {ta tb:TypeId} {fa:Nat×Nat} (ha:w.heap[a.block]?=some (.cells va ta fa)) (ha0:0<va.size) (hb:w.heap[b.block]?=some (.cells vb tb (0,0))) (hb0:0<vb.size) :
 (Extern.SlicesOverlaps.overlaps #[tS,tS] #[tR] #[.slice (some a) la ca,.slice (some b) lb cb]).run P w=.ok (.bool false) w:=by
 have hnb:(a.block != b.block)=true:=by simpa using hne
 have hnb':(a.block==b.block)=false:=by simpa using hne
 have hsa:w.shape? a.block=some (ta,va.size):=by simp[World.shape?,ha]
 have hsb:w.shape? b.block=some (tb,vb.size):=by simp[World.shape?,hb]
 have hfb:w.frozen? b=false:=by simp[World.frozen?,hb]
 have hfb':w.frozen? {block:=b.block,off:=vb.size}=false:=by simp[World.frozen?,hb]
 change Sem.run P (α:=Value) (do
  let some t:=(#[tS,tS]:Array TypeId)[0]?|stuck "slices.overlaps: no parameter types"
  let .slice elem ←underlying t|stuck "slices.overlaps: slice type expected"
  let size ←sizeOf elem
  match (some a:Option Addr),(some b:Option Addr) with
  |some a,some b=>
   if la=0∨lb=0∨size=0 then pure (Value.bool false)
   else if a.block != b.block&&(←frozen a)&&(←frozen b) then unsupported .addressObserved
   else do
    if a.block != b.block then do
     noView a;noView b
     if ←mayBeOne a b then return Value.bool ((←choose (.extern "sameAddr.stringBytes" 2))==1)
    pure (Value.bool (a.block==b.block&&a.off<b.off+lb*size&&b.off<a.off+la*size))
  |_,_=>pure (Value.bool false)) w=_
 have hz:(Go.sizeOf e).run P w=.ok i0.size w:=by simp[sizeOf,typeInfo,hi]
 by_cases h0:la=0∨lb=0∨i0.size=0
 ·simp[run_underlying ht,hz,h0]
 ·obtain ⟨ka,hka⟩:∃k,va.size=k+1:=⟨va.size-1,by omega⟩
  obtain ⟨kb,hkb⟩:∃k,vb.size=k+1:=⟨vb.size-1,by omega⟩
  rw[hka]at hsa
  rw[hkb]at hsb hfb'
  by_cases hfa:w.frozen? a=true
  ·simp[run_underlying ht,hz,h0,hnb,hnb',frozen,noView,viewAt,mayBeOne,stringish,shape,Sem.run,hsa,hsb,hfa,hfb,hfb']
  ·have hfa:w.frozen? a=false:=by simpa using hfa
   by_cases hfe:w.frozen? {block:=a.block,off:=ka+1}=true
   ·simp[run_underlying ht,hz,h0,hnb,hnb',frozen,noView,viewAt,mayBeOne,stringish,shape,Sem.run,hsa,hsb,hfa,hfb,hfb',hfe]
   ·have hfe:w.frozen? {block:=a.block,off:=ka+1}=false:=by simpa using hfe
    simp[run_underlying ht,hz,h0,hnb,hnb',frozen,noView,viewAt,mayBeOne,stringish,shape,Sem.run,hsa,hsb,hfa,hfb,hfb',hfe]
end
end Go.Proofs.YtpaidiaknfhclaaGreatDoor.Ev
namespace Go.Proofs.YtpaidiaknfhclaaGreatDoor.Ev
open Go
section
variable {κ:Type} {El:κ→Type} {S:Sg κ El} {P:Program}
theorem za5 {α:Type} {L new:List α} {off j:Nat} (h:off+new.length≤L.length):(Go.splice L off new)[j]?=if off≤j∧j<off+new.length then new[j-off]? else L[j]?:=by
 unfold Go.splice
 rw[←List.append_assoc]
 exact zmj L new off j h
theorem zej (sgk:SgOk S) {w w':World} {I J I':Nat→Nat→Prop} {v:Value} {d:D κ El} (h:DR S w I J v d) (hp:zeq d=true) (H:∀b o,I b o→w'.cell? ⟨b,o,none⟩=w.cell? ⟨b,o,none⟩∧I' b o):DR S w' I' I' v d:=
 (h.relendL sgk (J':=I) (zcm hp)).mono H H
theorem zcw (sgk:SgOk S) {k:κ} {x:El k} {j:Nat} {d:D κ El} (h:(S.enc k x)[j]?=some d):zeq d=true:=sgk.plain k x d (List.mem_of_getElem? h)
theorem z19 {w:World} {I J:Nat→Nat→Prop} {v:Value} {d:D κ El} (h:DR S w I J v d) (hp:zeq d=true):v.oneCell'=true:=
 (h.lone (by cases d<;>simp_all[zeq,solid])).one
structure InsOk (P:Program) (f z E:Nat):Prop where
 shift:∀{w:World} {b n c i vb vo vc:Nat} {L vs:List Value} {t:TypeId},i<n→n+1≤c→n+1≤1073741824→vb≠b→w.heap[b]?=some (.cells L.toArray t (0,0))→L.length=c*z→vs.length=z→
  (∀j v,vs[j]?=some v→w.cell? ⟨vb,vo+j,none⟩=some v)→(∀v∈(L.drop (i*z)).take ((n-i)*z),v.oneCell'=true)→(∀v∈vs,v.oneCell'=true)→
  Calls P f #[.slice (some ⟨b,0,none⟩) n c,.int .i64 i,.slice (some ⟨vb,vo,none⟩) 1 vc] w fun e w'=>
   e=.returned (.slice (some ⟨b,0,none⟩) (n+1) c)∧w'=(w.drew.setRow b (Go.splice L ((i+1)*z) ((L.drop (i*z)).take ((n-i)*z))).toArray).setRow b (Go.splice (Go.splice L ((i+1)*z) ((L.drop (i*z)).take ((n-i)*z))) (i*z) vs).toArray
 room:∀{w:World} {b n c vb vo vc:Nat} {L vs:List Value} {t:TypeId},n+1≤c→n+1≤1073741824→w.heap[b]?=some (.cells L.toArray t (0,0))→L.length=c*z→vs.length=z→
  (∀j v,vs[j]?=some v→w.cell? ⟨vb,vo+j,none⟩=some v)→(∀v∈vs,v.oneCell'=true)→
  Calls P f #[.slice (some ⟨b,0,none⟩) n c,.int .i64 n,.slice (some ⟨vb,vo,none⟩) 1 vc] w fun e w'=>
   e=.returned (.slice (some ⟨b,0,none⟩) (n+1) c)∧w'=w.setRow b (Go.splice L (n*z) vs).toArray
 new:∀{w:World} {base:Option Addr} {n c vb vo vc:Nat} {olds vs:List Value},n≤c→c<n+1→n+1≤1073741824→vs.length=z→(base=none→n=0)→olds.length=n*z→
  (∀a,base=some a→∀j v,olds[j]?=some v→w.cell? (a.add j)=some v)→(∀j v,vs[j]?=some v→w.cell? ⟨vb,vo+j,none⟩=some v)→
  Calls P f #[.slice base n c,.int .i64 n,.slice (some ⟨vb,vo,none⟩) 1 vc] w fun e w'=>
   ∃cap zs,e=.returned (.slice (some ⟨w.heap.size,0,none⟩) (n+1) cap)∧w'=w.drew.alloc (.cells (olds++(vs++zs)).toArray E)∧n+1≤cap∧zs.length=(cap-(n+1))*z
 grow:∀{w:World} {b n c i vb vo vc:Nat} {L vs:List Value} {t:TypeId},i<n→n≤c→c<n+1→n+1≤1073741824→vb≠b→w.heap[b]?=some (.cells L.toArray t (0,0))→L.length=c*z→vs.length=z→
  (∀j v,vs[j]?=some v→w.cell? ⟨vb,vo+j,none⟩=some v)→(∀v∈(L.drop (i*z)).take ((n-i)*z),v.oneCell'=true)→(∀v∈vs,v.oneCell'=true)→
  Calls P f #[.slice (some ⟨b,0,none⟩) n c,.int .i64 i,.slice (some ⟨vb,vo,none⟩) 1 vc] w fun e w'=>
   ∃cap row,e=.returned (.slice (some ⟨w.heap.size,0,none⟩) (n+1) cap)∧n+1≤cap∧row.length=cap*z∧row.take (i*z)=L.take (i*z)∧
    w'.heap=(w.heap.push (.cells (Go.splice (Go.splice row (i*z) vs) ((i+1)*z) ((L.drop (i*z)).take ((n-i)*z))).toArray E))∧w'.os=w.os∧w'.output=w.output∧w'.tape=w.tape
theorem zh8 {k:κ} {xs:List (El k)} {y:El k} {i:Nat} {L vs M:List Value} {Q:Value→D κ El→Prop} (sgk:SgOk S) (hi:i≤xs.length)
 (h1:∀(i:Nat) (hi:i<xs.length) (j:Nat) (d:D κ El),(S.enc k xs[i])[j]?=some d→∃v,L[i*S.sz k+j]?=some v∧Q v d)
 (h2:∀(j:Nat) (d:D κ El),(S.enc k y)[j]?=some d→∃v,vs[j]?=some v∧Q v d)
 (m1:∀p:Nat,p<i*S.sz k→M[p]?=L[p]?) (m2:∀j:Nat,j<S.sz k→M[i*S.sz k+j]?=vs[j]?) (m3:∀p:Nat,i*S.sz k≤p→p<xs.length*S.sz k→M[p+S.sz k]?=L[p]?) :
 ∀(i':Nat) (hi':i'<(xs.take i++y::xs.drop i).length) (j:Nat) (d:D κ El),(S.enc k (xs.take i++y::xs.drop i)[i'])[j]?=some d→∃v,M[i'*S.sz k+j]?=some v∧Q v d:=by
 intro i' hi' j d hj
 have hj':j<S.sz k:=by have:=(List.getElem?_eq_some_iff.1 hj).1;rwa [sgk.sz]at this
 have hl:(xs.take i).length=i:=by simp;omega
 by_cases hlt:i'<i
 ·have e:(xs.take i++y::xs.drop i)[i']=xs[i']'(by omega):=by rw[List.getElem_append_left (by omega)];simp
  rw[e]at hj
  obtain ⟨v,a,b⟩:=h1 i' (by omega) j d hj
  exact ⟨v,by rw[m1 _ (zcp hj' hlt)];exact a,b⟩
 ·by_cases heq:i'=i
  ·subst heq
   have e:(xs.take i'++y::xs.drop i')[i']=y:=by rw[List.getElem_append_right (by omega)];simp[hl]
   rw[e]at hj
   obtain ⟨v,a,b⟩:=h2 j d hj
   exact ⟨v,by rw[m2 j hj'];exact a,b⟩
  ·obtain ⟨p,rfl⟩:∃p,i'=p+1:=⟨i'-1,by omega⟩
   have hp:p<xs.length:=by simp at hi';omega
   have e:(xs.take i++y::xs.drop i)[p+1]=xs[p]:=by
    rw[List.getElem_append_right (by omega)]
    have e2:p+1-(xs.take i).length=(p-i)+1:=by omega
    simp only[e2,List.getElem_cons_succ,List.getElem_drop]
    congr 1;omega
   rw[e]at hj
   obtain ⟨v,a,b⟩:=h1 p hp j d hj
   refine ⟨v,?_,b⟩
   have:=m3 (p*S.sz k+j) (by have:=Nat.mul_le_mul_right (S.sz k) (show i≤p by omega);omega) (zcp hj' hp)
   rw[←a,←this]
   congr 1
   rw[Nat.add_mul];omega
theorem zagx (sgk:SgOk S) {f E:Nat} {fn:Func} {code:Code} (fok:FnOk P f fn code) (hmd:S.md f=.cons) {k:κ} (W:InsOk P f (S.sz k) E)
 {xs:List (El k)} {y:El k} {i:Nat} {ds:List (D κ El)} (hi:i≤xs.length) (hlim:xs.length+1≤1073741824) (hwl:WL ds [.lst k xs,.int .i64 (i:Int),.lst k [y]]) :
 Con P S f ds [] (.lst k (xs.take i++y::xs.drop i)) []:=by
 unfold Con
 rw[hmd]
 intro _ k' xs' ds0 hds k2 xs2 hd w I J mb v0 vs hp ho ha
 subst hds
 cases hd
 have hw0:=hwl.2 0 _ _ rfl rfl
 cases hw0 with
 |leaf _ _ hw0=>
 cases hw0
 have ha:=WL.args (cs':=[.int .i64 (i:Int),.lst k [y]]) ⟨by simpa using hwl.1,fun q d d' h1 h2=>hwl.2 (q+1) d d' (by simpa using h1) (by simpa using h2)⟩ ha
 obtain ⟨base,c,rfl,hnc,hz⟩:=ho
 obtain ⟨hvs,hav⟩:=ha
 obtain ⟨u1,u2,rfl⟩:∃u1 u2,vs = #[u1,u2]:=by
  simp at hvs
  exact ⟨vs[0],vs[1],by
   apply Array.ext
   ·simp[hvs]
   ·intro j h1 h2;simp at h2;rcases (show j=0∨j=1 by omega) with rfl|rfl<;>rfl⟩
 have hu1:u1=.int .i64 i:=(hav 0 u1 _ rfl rfl).int_inv
 have hu2:=hav 1 u2 _ rfl rfl
 subst hu1
 obtain ⟨n,hn⟩:∃n,n=xs.length:=⟨_,rfl⟩
 have hpos:=sgk.pos k
 cases hu2 with
 |lst vb vo vc _ _ cv hvcap hvc hvv=>
 obtain ⟨us,hus⟩:∃us,us=(List.range (S.sz k)).map (cv 0):=⟨_,rfl⟩
 have husl:us.length=S.sz k:=by rw[hus];simp
 have hug:∀j,j<S.sz k→us[j]?=some (cv 0 j):=fun j hj=>by rw[hus];simp[hj]
 have huc:∀j v,us[j]?=some v→w.cell? ⟨vb,vo+j,none⟩=some v:=fun j v hj=>by
  have hlt:=(List.getElem?_eq_some_iff.1 hj).1
  rw[husl]at hlt
  rw[hug j hlt]at hj;cases hj
  have:=(hvc 0 j (by simp) hlt).1
  simpa using this
 have huI:∀j,j<S.sz k→I vb (vo+j):=fun j hlt=>by have:=(hvc 0 j (by simp) hlt).2;simpa using this
 have hud:∀j d,(S.enc k y)[j]?=some d→∃v,us[j]?=some v∧DR S w I J v d:=fun j d hj=>by
  have hlt:=(List.getElem?_eq_some_iff.1 hj).1
  rw[sgk.sz]at hlt
  exact ⟨_,hug j hlt,hvv 0 (by simp) j d hj⟩
 have hu1c:∀v∈us,v.oneCell'=true:=fun v hv=>by
  obtain ⟨j,hj⟩:=List.getElem?_of_mem hv
  have hlt:=(List.getElem?_eq_some_iff.1 hj).1
  have hlt':j<(S.enc k y).length:=by rw[sgk.sz,←husl];exact hlt
  obtain ⟨v',e1,e2⟩:=hud j _ (List.getElem?_eq_getElem hlt')
  rw[hj]at e1;cases e1
  exact z19 e2 (sgk.plain k y _ (List.getElem_mem hlt'))
 have hIw:∀b o,I b o→b<w.heap.size:=hp.ib
 have hres:(xs.take i++y::xs.drop i).length=n+1:=by simp;omega
 unfold zcb
 rw[MuLone.run_callFunc_enter fok.at_ fok.name fok.body _ w]
 simp only
 show Calls P f #[.slice base xs.length c,.int .i64 (i:Int),.slice (some ⟨vb,vo,none⟩) 1 vc] w _
 rcases hz with ⟨rfl,rfl⟩|⟨b,vals,t,rfl,rfl,hb,hvsz,hel⟩
 ·have hx0:xs=[]:=List.eq_nil_of_length_eq_zero (by omega)
  subst hx0
  have hi0:i=0:=by simpa using hi
  subst hi0
  have hnew:=W.new (w:=w) (base:=base) (n:=0) (c:=0) (vb:=vb) (vo:=vo) (vc:=vc) (olds:=[]) (vs:=us) (by omega) (by omega) (by omega) husl (fun _=>rfl) (by simp) (fun a _ j v hj=>by simp at hj) huc
  refine hnew.mono (fun e w' he=>?_)
  obtain ⟨cap,zs,rfl,rfl,hcap,hzl⟩:=he
  refine ⟨I,⟨by rw[World.size_alloc];show w.heap.size≤w.heap.size+1;omega,rfl,rfl,rfl,fun q hq _=>?_,fun _ _ h=>h,fun _ _ h=>.inl h,fun q o h=>by have:=hIw q o h;rw[World.size_alloc];show q<w.heap.size+1;omega⟩,
   some ⟨w.heap.size,0,none⟩,cap,by simp,by simp;omega,.inr ⟨w.heap.size,_,E,rfl,zcr w.drew _,?_,.inl (Nat.le_refl _),fun o h=>absurd (hIw _ _ h) (by omega),?_⟩⟩
  ·simp only[World.alloc];rw[Array.getElem?_push,if_neg (by show ¬q=w.heap.size;omega)];rfl
  ·simp[husl,hzl]
   obtain ⟨q,rfl⟩:∃q,cap=q+1:=⟨cap-1,by omega⟩
   rw[Nat.add_sub_cancel,Nat.add_mul];omega
  ·intro i' hi' j d hj
   have:=zh8 (L:=[]) (vs:=us) (M:=us++zs) (Q:=fun v d=>DR S (w.drew.alloc (.cells ([]++(us++zs)).toArray E)) I I v d) sgk (i:=0) (xs:=[]) (y:=y) (by simp) (fun i hi=>absurd hi (by simp))
    (fun j d hj=>by
     obtain ⟨v,a,b⟩:=hud j d hj
     exact ⟨v,a,zej sgk b (zcw sgk hj) (fun q o h=>⟨by
      have:=hIw q o h
      simp only[World.cell?,World.alloc];rw[Array.getElem?_push,if_neg (by show ¬q=w.heap.size;omega)];rfl,h⟩)⟩)
    (fun p hp=>absurd hp (by omega)) (fun j hj=>by rw[Nat.zero_mul,Nat.zero_add,List.getElem?_append_left (by omega)]) (fun p _ hp=>by simp at hp) i' hi' j d hj
   simpa using this
 ·have hbw:b<w.heap.size:=(Array.getElem?_eq_some_iff.1 hb).1
  have hbI:∀o,¬I b o:=fun o h=>(hp.jb b o (hp.ij b o h)).2 (by simp)
  have hne:vb≠b:=fun e=>by subst e;exact hbI _ (huI 0 hpos)
  obtain ⟨L,hL⟩:∃L,L=vals.toList:=⟨_,rfl⟩
  have hLa:vals=L.toArray:=by rw[hL]
  have hLl:L.length=c*S.sz k:=by rw[hL];simpa using hvsz
  rw[hLa]at hb
  have hel':∀i (hi:i<xs.length) j d,(S.enc k xs[i])[j]?=some d→∃v,L[i*S.sz k+j]?=some v∧DR S w I J v d:=fun i hi j d hj=>by
   obtain ⟨v,a,e⟩:=hel i hi j d hj
   exact ⟨v,by rw[hL];simpa using a,e⟩
  have hnL:n*S.sz k≤L.length:=by rw[hLl];exact Nat.mul_le_mul_right _ (by omega)
  have hone:∀v∈L.take (n*S.sz k),v.oneCell'=true:=fun v hv=>by
   obtain ⟨p,hp'⟩:=List.getElem?_of_mem hv
   have hlt:=(List.getElem?_eq_some_iff.1 hp').1
   simp only[List.length_take]at hlt
   have h1:p / S.sz k<n:=(Nat.div_lt_iff_lt_mul hpos).2 (by omega)
   have h2:=Nat.mod_lt p hpos
   have h3:p % S.sz k<(S.enc k (xs[p / S.sz k]'(by omega))).length:=by rw[sgk.sz];exact h2
   obtain ⟨v',a,e⟩:=hel' (p / S.sz k) (by omega) _ _ (List.getElem?_eq_getElem h3)
   rw[Nat.div_add_mod']at a
   rw[List.getElem?_take,if_pos (by omega),a]at hp'
   cases hp'
   exact z19 e (sgk.plain k _ _ (List.getElem_mem h3))
  have hC1:(L.drop (i*S.sz k)).take ((n-i)*S.sz k)=(L.take (n*S.sz k)).drop (i*S.sz k):=by
   rw[List.drop_take];congr 1;rw[Nat.sub_mul]
  have hone1:∀v∈(L.drop (i*S.sz k)).take ((n-i)*S.sz k),v.oneCell'=true:=fun v hv=>hone v (by rw[hC1]at hv;exact List.mem_of_mem_drop hv)
  have hin:i*S.sz k≤n*S.sz k:=Nat.mul_le_mul_right _ (by omega)
  have hi1:(i+1)*S.sz k=i*S.sz k+S.sz k:=by rw[Nat.add_mul,Nat.one_mul]
  have hn1:(n+1)*S.sz k=n*S.sz k+S.sz k:=by rw[Nat.add_mul,Nat.one_mul]
  obtain ⟨C1,hC⟩:∃C1,C1=(L.drop (i*S.sz k)).take ((n-i)*S.sz k):=⟨_,rfl⟩
  have hC1l:C1.length=n*S.sz k-i*S.sz k:=by rw[hC,hC1];simp;omega
  have hC1g:∀q,q<n*S.sz k-i*S.sz k→C1[q]?=L[i*S.sz k+q]?:=fun q hq=>by rw[hC,hC1,List.getElem?_drop,List.getElem?_take,if_pos (by omega)]
  have inpl:∀(M:List Value) (w':World),M.length=L.length→(w'=w.setRow b M.toArray∨∃M0:Array Value,w'=(w.drew.setRow b M0).setRow b M.toArray)→n+1≤c→
   (∀p:Nat,p<i*S.sz k→M[p]?=L[p]?)→(∀j:Nat,j<S.sz k→M[i*S.sz k+j]?=us[j]?)→(∀p:Nat,i*S.sz k≤p→p<xs.length*S.sz k→M[p+S.sz k]?=L[p]?)→
   ∃I',GrowM [b] w w' I I'∧NewO S w' I' w.heap.size [b] k (xs.take i++y::xs.drop i) (.slice (some ⟨b,0,none⟩) (n+1) c):=by
   intro M w' hMl hw' hroom m1 m2 m3
   have hheap:w'.heap[b]?=some (.cells M.toArray t (0,0)):=by
    rcases hw' with rfl|⟨M0,rfl⟩
    ·exact setRow_heap _ _ _ _ _ _ hb
    ·exact setRow_heap _ _ _ _ _ _ (setRow_heap w.drew _ _ _ _ _ hb)
   have hoth:∀q,q≠b→w'.heap[q]?=w.heap[q]?:=fun q hq=>by
    rcases hw' with rfl|⟨M0,rfl⟩
    ·exact setRow_other _ _ _ _ hq
    ·rw[setRow_other _ _ _ _ hq,setRow_other _ _ _ _ hq];rfl
   have hsz:w'.heap.size=w.heap.size:=by
    rcases hw' with rfl|⟨M0,rfl⟩<;>simp only[setRow_size]<;>rfl
   refine ⟨I,⟨by omega,by rcases hw' with rfl|⟨M0,rfl⟩<;>rfl,by rcases hw' with rfl|⟨M0,rfl⟩<;>rfl,by rcases hw' with rfl|⟨M0,rfl⟩<;>rfl,fun q hq hm=>hoth q (by simpa using hm),fun _ _ h=>h,fun _ _ h=>.inl h,fun q o h=>by have:=hIw q o h;omega⟩,
    some ⟨b,0,none⟩,c,by rw[hres],by omega,.inr ⟨b,_,t,rfl,hheap,by simp[hMl,hLl],.inr (by simp),hbI,?_⟩⟩
   intro i' hi' j d hj
   have:=zh8 (L:=L) (vs:=us) (M:=M) (Q:=fun v d=>DR S w' I I v d) sgk (by omega)
    (fun i hi j d hj=>by
     obtain ⟨v,a,e⟩:=hel' i hi j d hj
     exact ⟨v,a,zej sgk e (zcw sgk hj) (fun q o h=>⟨by simp only[World.cell?];rw[hoth q (fun e=>by subst e;exact hbI o h)],h⟩)⟩)
    (fun j d hj=>by
     obtain ⟨v,a,e⟩:=hud j d hj
     exact ⟨v,a,zej sgk e (zcw sgk hj) (fun q o h=>⟨by simp only[World.cell?];rw[hoth q (fun e=>by subst e;exact hbI o h)],h⟩)⟩) m1 m2 m3 i' hi' j d hj
   simpa using this
  have newb:∀(M:List Value) (cap:Nat) (w':World),M.length=cap*S.sz k→w'.heap=w.heap.push (.cells M.toArray E)→w'.os=w.os→w'.output=w.output→w'.tape=w.tape→n+1≤cap→
   (∀p:Nat,p<i*S.sz k→M[p]?=L[p]?)→(∀j:Nat,j<S.sz k→M[i*S.sz k+j]?=us[j]?)→(∀p:Nat,i*S.sz k≤p→p<xs.length*S.sz k→M[p+S.sz k]?=L[p]?)→
   ∃I',GrowM [b] w w' I I'∧NewO S w' I' w.heap.size [b] k (xs.take i++y::xs.drop i) (.slice (some ⟨w.heap.size,0,none⟩) (n+1) cap):=by
   intro M cap w' hMl hheap h1 h2 h3 hcap m1 m2 m3
   have hoth:∀q,q<w.heap.size→w'.heap[q]?=w.heap[q]?:=fun q hq=>by rw[hheap,Array.getElem?_push,if_neg (by omega)]
   refine ⟨I,⟨by rw[hheap];simp,h1,h2,h3,fun q hq _=>hoth q hq,fun _ _ h=>h,fun _ _ h=>.inl h,fun q o h=>by have:=hIw q o h;rw[hheap];simp;omega⟩,
    some ⟨w.heap.size,0,none⟩,cap,by rw[hres],by omega,.inr ⟨w.heap.size,_,E,rfl,by rw[hheap];exact Array.getElem?_push_size,by simp[hMl],.inl (Nat.le_refl _),fun o h=>absurd (hIw _ _ h) (by omega),?_⟩⟩
   intro i' hi' j d hj
   have:=zh8 (L:=L) (vs:=us) (M:=M) (Q:=fun v d=>DR S w' I I v d) sgk (by omega)
    (fun i hi j d hj=>by
     obtain ⟨v,a,e⟩:=hel' i hi j d hj
     exact ⟨v,a,zej sgk e (zcw sgk hj) (fun q o h=>⟨by simp only[World.cell?];rw[hoth q (hIw q o h)],h⟩)⟩)
    (fun j d hj=>by
     obtain ⟨v,a,e⟩:=hud j d hj
     exact ⟨v,a,zej sgk e (zcw sgk hj) (fun q o h=>⟨by simp only[World.cell?];rw[hoth q (hIw q o h)],h⟩)⟩) m1 m2 m3 i' hi' j d hj
   simpa using this
  rw[←hn]at hi hlim hnc ⊢
  by_cases hroom:n+1≤c
  ·have hn1c:(n+1)*S.sz k≤L.length:=by rw[hLl];exact Nat.mul_le_mul_right _ hroom
   by_cases hlt:i<n
   ·refine (W.shift (vc:=vc) hlt hroom hlim hne hb hLl husl huc hone1 hu1c).mono (fun e w' he=>?_)
    obtain ⟨rfl,rfl⟩:=he
    rw[←hC]
    have l1:(Go.splice L ((i+1)*S.sz k) C1).length=L.length:=length_splice _ _ _ (by omega)
    refine inpl _ _ ?_ (.inr ⟨_,rfl⟩) hroom ?_ ?_ ?_
    ·rw[length_splice _ _ _ (by omega),l1]
    ·intro p hp'
     rw[za5 (by omega),if_neg (by omega),za5 (by omega),if_neg (by omega)]
    ·intro j hj
     rw[za5 (by omega),if_pos (by omega)]
     congr 1;omega
    ·intro p h1 h2
     rw[←hn]at h2
     rw[za5 (by omega),if_neg (by omega),za5 (by omega),if_pos (by omega),hC1g _ (by omega)]
     congr 1;omega
   ·have hie:i=n:=by omega
    subst hie
    refine (W.room (vc:=vc) hroom hlim hb hLl husl huc hu1c).mono (fun e w' he=>?_)
    obtain ⟨rfl,rfl⟩:=he
    refine inpl _ _ (length_splice _ _ _ (by omega)) (.inl rfl) hroom ?_ ?_ ?_
    ·intro p hp'
     rw[za5 (by omega),if_neg (by omega)]
    ·intro j hj
     rw[za5 (by omega),if_pos (by omega)]
     congr 1;omega
    ·intro p h1 h2
     rw[←hn]at h2
     omega
  ·by_cases hlt:i<n
   ·refine (W.grow (vc:=vc) hlt hnc (by omega) hlim hne hb hLl husl huc hone1 hu1c).mono (fun e w' he=>?_)
    obtain ⟨cap,row,rfl,hcap,hrl,hrt,hheap,q1,q2,q3⟩:=he
    rw[←hC]at hheap
    have hrl':(n+1)*S.sz k≤row.length:=by rw[hrl];exact Nat.mul_le_mul_right _ hcap
    have l1:(Go.splice row (i*S.sz k) us).length=row.length:=length_splice _ _ _ (by omega)
    refine newb _ cap w' ?_ hheap q1 q2 q3 hcap ?_ ?_ ?_
    ·rw[length_splice _ _ _ (by omega),l1,hrl]
    ·intro p hp'
     rw[za5 (by omega),if_neg (by omega),za5 (by omega),if_neg (by omega)]
     have e1:(row.take (i*S.sz k))[p]?=row[p]?:=by rw[List.getElem?_take,if_pos hp']
     have e2:(L.take (i*S.sz k))[p]?=L[p]?:=by rw[List.getElem?_take,if_pos hp']
     rw[←e1,hrt,e2]
    ·intro j hj
     rw[za5 (by omega),if_neg (by omega),za5 (by omega),if_pos (by omega)]
     congr 1;omega
    ·intro p h1 h2
     rw[←hn]at h2
     rw[za5 (by omega),if_pos (by omega),hC1g _ (by omega)]
     congr 1;omega
   ·have hie:i=n:=by omega
    subst hie
    refine (W.new (base:=some ⟨b,0,none⟩) (vc:=vc) (olds:=L.take (i*S.sz k)) hnc (by omega) hlim husl (fun h=>by cases h) (by simp;omega) (fun a ha j v hj=>?_) huc).mono (fun e w' he=>?_)
    ·cases ha
     rw[List.getElem?_take]at hj
     split at hj
     ·rw[zbg,Nat.zero_add]
      simp only[World.cell?,hb]
      simpa using hj
     ·cases hj
    ·obtain ⟨cap,zs,rfl,rfl,hcap,hzl⟩:=he
     obtain ⟨q,rfl⟩:∃q,cap=q+(i+1):=⟨cap-(i+1),by omega⟩
     rw[Nat.add_sub_cancel]at hzl
     have hTl:(L.take (i*S.sz k)).length=i*S.sz k:=by simp;omega
     refine newb _ (q+(i+1)) _ ?_ rfl rfl rfl rfl hcap ?_ ?_ ?_
     ·simp only[List.length_append,hTl,husl,hzl]
      rw[Nat.add_mul,hi1];omega
     ·intro p hp'
      rw[List.getElem?_append_left (by omega),List.getElem?_take,if_pos hp']
     ·intro j hj
      rw[List.getElem?_append_right (by omega),List.getElem?_append_left (by omega)]
      congr 1;omega
     ·intro p h1 h2
      rw[←hn]at h2
      omega
theorem zlg (sgk:SgOk S) {f E:Nat} {fn:Func} {code:Code} (fok:FnOk P f fn code) (hmd:S.md f=.cons) {k:κ} (W:InsOk P f (S.sz k) E)
 {xs vs r:List (El k)} {i:Int} {ds:List (D κ El)} (hwl:WL ds [.lst k xs,.int .i64 i,.lst k vs]) (hr:zh9 xs i vs=some r):Con P S f ds [] (.lst k r) []:=by
 unfold zh9 at hr
 split at hr
 ·rename_i y
  rw[zad]at hr
  split at hr
  ·rename_i h
   simp only[Bool.and_eq_true,decide_eq_true_eq]at h
   cases hr
   obtain ⟨n,rfl⟩:=Int.eq_ofNat_of_zero_le h.1.1
   exact zagx sgk fok hmd W (i:=n) (by omega) h.2 hwl
  ·cases hr
 ·cases hr
end
end Go.Proofs.YtpaidiaknfhclaaGreatDoor.Ev
