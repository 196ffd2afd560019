/- CircRenews: a part of the proof of the given statement, which is proved without conditions. -/
import Derived.Test.YtdahfgialanmpaaGreatDoorU3
import Derived.KernelRfl
import Derived.Test.YtdahfgialanmpaaGreatDoorProg
set_option linter.all false
namespace Go.Proofs.YtdahfgialanmpaaGreatDoor
set_option maxRecDepth 100000
open Ev
open Go (IntKind)
def z0i:(Int×Circ×Unit)→Option ((Int×Circ×Unit)⊕((Circ×Unit)⊕(Bool×Unit))):=fun (i,c,_)=>
 bif decide (i<(c.Items.length:Int)) then match getI c.Items i with|some x =>bif decide (300<(x.Call.length:Int)) then some (.inr (.inr (false,()))) else some (.inl (wr .i64 (i+1),c,()))|none =>none else some (.inr (.inl (c,())))
def z0j:(Int×Circ×Unit)→Option ((Int×Circ×Unit)⊕((Circ×Unit)⊕(Bool×Unit))):=fun (i,c,_)=>
 bif decide (i<(c.Patrons.length:Int)) then match getI c.Patrons i with|some x =>bif decide (300<(x.Name.length:Int)) then some (.inr (.inr (false,()))) else some (.inl (wr .i64 (i+1),c,()))|none =>none else some (.inr (.inl (c,())))
def zhy:(Int×Circ×Unit)→Option ((Int×Circ×Unit)⊕((Unit)⊕(Bool×Unit))):=fun (i,c,_)=>
 bif decide (i<4) then let k (v:Int) (v8:List Int):Option ((Int×Circ×Unit)⊕((Unit)⊕(Bool×Unit))):=bif decide (20<(v8.length:Int)) then some (.inr (.inr (false,()))) else some (.inl (wr .i64 (i+1),c,()));bif i==0 then k c.Cals.x0.Week c.Cals.x0.Closed else bif i==1 then k c.Cals.x1.Week c.Cals.x1.Closed else bif i==2 then k c.Cals.x2.Week c.Cals.x2.Closed else bif i==3 then k c.Cals.x3.Week c.Cals.x3.Closed else none else some (.inr (.inl (())))
def qa (c:Circ):Option Bool:=
 let k16 (v:Bool):Option Bool:=let k15 (v1:Bool):Option Bool:=let k14 (v2:Bool):Option Bool:=let k13 (v3:Bool):Option Bool:=let k12 (v4:Bool):Option Bool:=let k (v5:Bool):Option Bool:=bif v5 then some false else match zae z0i (0,c,()) with|some (.inl (c6,_)) =>(match zae z0j (0,c6,()) with|some (.inl (c7,_)) =>(match zae zhy (0,c7,()) with|some (.inl (_)) =>some true|some (.inr (v9,_)) =>some v9|none =>none)|some (.inr (v10,_)) =>some v10|none =>none)|some (.inr (v11,_)) =>some v11|none =>none;bif v4 then k true else k (decide (200<(c.Moves.length:Int)));bif v3 then k12 true else k12 (decide (10<(c.Rules.length:Int)));bif v2 then k13 true else k13 (decide (30<(c.Charges.length:Int)));bif v1 then k14 true else k14 (decide (12<(c.Loans.length:Int)));bif v then k15 true else k15 (decide (12<(c.Holds.length:Int)));bif decide (10<(c.Items.length:Int)) then k16 true else k16 (decide (8<(c.Patrons.length:Int)))
def qaq (s:List UInt8) (i:Int):Option (Int×Int):=
 match getI s i with|some b =>let k35 (v:Bool):Option (Int×Int):=bif v then some (wr .i64 (b.toNat:Int),1) else let k34 (v1:Bool):Option (Int×Int):=let k33 (v2:Bool):Option (Int×Int):=let k32 (v4:Bool):Option (Int×Int):=let k31 (v6:Bool):Option (Int×Int):=let k (v8:Int) (v9:Int):Option (Int×Int):=some (v8,v9);bif v6 then match getI s (wr .i64 (i+1)) with|some b7 =>bif decide (160≤wr .i64 ((wr .i64 ((wr .i64 ((wr .i64 ((wr .i64 (b.toNat:Int))-192))*64))+(wr .i64 (b7.toNat:Int))))-128)) then k (wr .i64 ((wr .i64 ((wr .i64 ((wr .i64 ((wr .i64 (b.toNat:Int))-192))*64))+(wr .i64 (b7.toNat:Int))))-128)) 2 else k 0 0|none =>none else let k30 (v10:Bool):Option (Int×Int):=let k29 (v11:Bool):Option (Int×Int):=let k28 (v13:Bool):Option (Int×Int):=let k27 (v15:Bool):Option (Int×Int):=let k26 (v17:Bool):Option (Int×Int):=let k25 (v19:Bool):Option (Int×Int):=bif v19 then match getI s (wr .i64 (i+1)) with|some b20 =>(match getI s (wr .i64 (i+2)) with|some b21 =>let k24 (v23:Bool):Option (Int×Int):=bif v23 then some (wr .i64 ((wr .i64 ((wr .i64 ((wr .i64 ((wr .i64 ((wr .i64 (b.toNat:Int))-224))*4096))+(wr .i64 ((wr .i64 ((wr .i64 (b20.toNat:Int))-128))*64))))+(wr .i64 (b21.toNat:Int))))-128),3) else some (0,0);bif decide (2048≤wr .i64 ((wr .i64 ((wr .i64 ((wr .i64 ((wr .i64 ((wr .i64 (b.toNat:Int))-224))*4096))+(wr .i64 ((wr .i64 ((wr .i64 (b20.toNat:Int))-128))*64))))+(wr .i64 (b21.toNat:Int))))-128)) then bif decide (wr .i64 ((wr .i64 ((wr .i64 ((wr .i64 ((wr .i64 ((wr .i64 (b.toNat:Int))-224))*4096))+(wr .i64 ((wr .i64 ((wr .i64 (b20.toNat:Int))-128))*64))))+(wr .i64 (b21.toNat:Int))))-128)<55296) then k24 true else k24 (decide (57343<wr .i64 ((wr .i64 ((wr .i64 ((wr .i64 ((wr .i64 ((wr .i64 (b.toNat:Int))-224))*4096))+(wr .i64 ((wr .i64 ((wr .i64 (b20.toNat:Int))-128))*64))))+(wr .i64 (b21.toNat:Int))))-128))) else k24 false|none =>none)|none =>none else some (0,0);bif v17 then match getI s (wr .i64 (i+2)) with|some b18 =>k25 (decide ((b18.toNat:Int)<192))|none =>none else k25 false;bif v15 then match getI s (wr .i64 (i+2)) with|some b16 =>k26 (decide (128≤(b16.toNat:Int)))|none =>none else k26 false;bif v13 then match getI s (wr .i64 (i+1)) with|some b14 =>k27 (decide ((b14.toNat:Int)<192))|none =>none else k27 false;bif v11 then match getI s (wr .i64 (i+1)) with|some b12 =>k28 (decide (128≤(b12.toNat:Int)))|none =>none else k28 false;bif v10 then k29 (decide (wr .i64 (i+2)<(s.length:Int))) else k29 false;bif decide (224≤wr .i64 (b.toNat:Int)) then k30 (decide (wr .i64 (b.toNat:Int)<240)) else k30 false;bif v4 then match getI s (wr .i64 (i+1)) with|some b5 =>k31 (decide ((b5.toNat:Int)<192))|none =>none else k31 false;bif v2 then match getI s (wr .i64 (i+1)) with|some b3 =>k32 (decide (128≤(b3.toNat:Int)))|none =>none else k32 false;bif v1 then k33 (decide (wr .i64 (i+1)<(s.length:Int))) else k33 false;bif decide (194≤wr .i64 (b.toNat:Int)) then k34 (decide (wr .i64 (b.toNat:Int)<224)) else k34 false;bif decide (32≤wr .i64 (b.toNat:Int)) then k35 (decide (wr .i64 (b.toNat:Int)<127)) else k35 false|none =>none
def zm6:((List UInt8)×Int×Unit)→Option (((List UInt8)×Int×Unit)⊕((Unit)⊕(Bool×Unit))):=fun (s,i,_)=>
 bif decide (i<(s.length:Int)) then match qaq s i with|some (r1,r2) =>bif r2==0 then some (.inr (.inr (false,()))) else some (.inl (s,wr .i64 (i+r2),()))|none =>none else some (.inr (.inl (())))
def qal (s:List UInt8):Option Bool:=
 match zae zm6 (s,0,()) with|some (.inl (_)) =>some true|some (.inr (v,_)) =>some v|none =>none
def qf (s:List UInt8) (i:Int):Option Int:=
 match qaq s i with|some (r1,r2) =>some (if r2<1 then 1 else r2)|none =>none
def qaj (c:Int):Option Bool:=
 let k (v:Bool):Option Bool:=some v;bif c==32 then k true else k (c==160)
def zm4:((List UInt8)×(List UInt8)×Bool×Int×Unit)→Option (((List UInt8)×(List UInt8)×Bool×Int×Unit)⊕(((List UInt8)×Unit))):=fun (s,vout,gap,i,_)=>
 bif decide (i<(s.length:Int)) then match qaq s i with|some (r1,r2) =>(match qf s i with|some r4 =>(match qaj r1 with|some r6 =>let k11 (vout9:List UInt8) (gap10:Bool):Option (((List UInt8)×(List UInt8)×Bool×Int×Unit)⊕(((List UInt8)×Unit))):=some (.inl (s,vout9,gap10,wr .i64 (i+r4),()));bif r6 then k11 vout true else let k8 (v:Bool):Option (((List UInt8)×(List UInt8)×Bool×Int×Unit)⊕(((List UInt8)×Unit))):=let k (vout7:List UInt8):Option (((List UInt8)×(List UInt8)×Bool×Int×Unit)⊕(((List UInt8)×Unit))):=bif decide (0≤(i:Int))&&(decide ((i:Int)≤wr .i64 (i+r4))&&decide (wr .i64 (i+r4)≤(s.length:Int))) then bif decide (vout7.length+((s.take (wr .i64 (i+r4)).toNat).drop (i:Int).toNat).length≤LIM) then k11 (vout7++((s.take (wr .i64 (i+r4)).toNat).drop (i:Int).toNat)) false else none else none;bif v then bif decide (vout.length+([32]).length≤LIM) then k (vout++([32])) else none else k vout;bif gap then k8 (!(vout==([]))) else k8 false|none =>none)|none =>none)|none =>none else some (.inr ((vout,())))
def qa5 (s:List UInt8):Option (List UInt8):=
 match zae zm4 (s,[],false,0,()) with|some ((vout,_)) =>some vout|none =>none
def zkk:((List Patron)×Int×Unit)→Option (((List Patron)×Int×Unit)⊕((Unit)⊕(Int×Unit))):=fun (l,i,_)=>
 bif decide (i<(l.length:Int)) then match getI l i with|some x =>let k18 (v:Bool):Option (((List Patron)×Int×Unit)⊕((Unit)⊕(Int×Unit))):=bif v then some (.inr (.inr (2,()))) else let k17 (v2:Bool):Option (((List Patron)×Int×Unit)⊕((Unit)⊕(Int×Unit))):=bif v2 then some (.inr (.inr (7,()))) else let k16 (v3:Bool):Option (((List Patron)×Int×Unit)⊕((Unit)⊕(Int×Unit))):=let k15 (v4:Bool):Option (((List Patron)×Int×Unit)⊕((Unit)⊕(Int×Unit))):=let k14 (v5:Bool):Option (((List Patron)×Int×Unit)⊕((Unit)⊕(Int×Unit))):=bif v5 then some (.inr (.inr (1,()))) else let k13 (v6:Bool):Option (((List Patron)×Int×Unit)⊕((Unit)⊕(Int×Unit))):=bif v6 then some (.inr (.inr (2,()))) else let k12 (v8:Bool):Option (((List Patron)×Int×Unit)⊕((Unit)⊕(Int×Unit))):=let k (v11:Bool):Option (((List Patron)×Int×Unit)⊕((Unit)⊕(Int×Unit))):=bif v11 then some (.inr (.inr (3,()))) else bif decide (200<(x.Name.length:Int)) then some (.inr (.inr (4,()))) else some (.inl (l,wr .i64 (i+1),()));bif v8 then k true else match qa5 x.Name with|some r10 =>k (!(r10==x.Name))|none =>none;bif x.Name==([]) then k12 true else match qal x.Name with|some r7 =>k12 (!r7)|none =>none;bif decide (x.Until<0) then k13 true else k13 (decide (109572<x.Until));bif v4 then k14 true else k14 (decide (4<x.Branch));bif v3 then k15 true else k15 (decide (x.Branch<1));bif decide (x.Kind<1) then k16 true else k16 (decide (9<x.Kind));bif decide (0<i) then match getI l (wr .i64 (i-1)) with|some x1 =>k17 (decide (x.ID≤x1.ID))|none =>none else k17 false;bif decide (x.ID<1) then k18 true else k18 (decide (9999<x.ID))|none =>none else some (.inr (.inl (())))
def qar (l:List Patron):Option Int:=
 bif decide (32<(l.length:Int)) then some 13 else match zae zkk (l,0,()) with|some (.inl (_)) =>some 0|some (.inr (v,_)) =>some v|none =>none
def zkj:((List Loan)×Int×Unit)→Option (((List Loan)×Int×Unit)⊕((Unit)⊕(Int×Unit))):=fun (l,i,_)=>
 bif decide (i<(l.length:Int)) then match getI l i with|some x =>let k21 (v:Bool):Option (((List Loan)×Int×Unit)⊕((Unit)⊕(Int×Unit))):=bif v then some (.inr (.inr (7,()))) else let k20 (v2:Bool):Option (((List Loan)×Int×Unit)⊕((Unit)⊕(Int×Unit))):=let k19 (v3:Bool):Option (((List Loan)×Int×Unit)⊕((Unit)⊕(Int×Unit))):=let k18 (v4:Bool):Option (((List Loan)×Int×Unit)⊕((Unit)⊕(Int×Unit))):=let k17 (v5:Bool):Option (((List Loan)×Int×Unit)⊕((Unit)⊕(Int×Unit))):=let k16 (v6:Bool):Option (((List Loan)×Int×Unit)⊕((Unit)⊕(Int×Unit))):=let k15 (v7:Bool):Option (((List Loan)×Int×Unit)⊕((Unit)⊕(Int×Unit))):=let k14 (v8:Bool):Option (((List Loan)×Int×Unit)⊕((Unit)⊕(Int×Unit))):=let k13 (v9:Bool):Option (((List Loan)×Int×Unit)⊕((Unit)⊕(Int×Unit))):=let k12 (v10:Bool):Option (((List Loan)×Int×Unit)⊕((Unit)⊕(Int×Unit))):=let k (v11:Bool):Option (((List Loan)×Int×Unit)⊕((Unit)⊕(Int×Unit))):=bif v11 then some (.inr (.inr (2,()))) else some (.inl (l,wr .i64 (i+1),()));bif v10 then k true else k (decide (10<x.Renewals));bif v9 then k12 true else k12 (decide (x.Renewals<0));bif v8 then k13 true else k13 (decide (x.Due<x.Out));bif v7 then k14 true else k14 (decide (109572<x.Due));bif v6 then k15 true else k15 (decide (x.Due<0));bif v5 then k16 true else k16 (decide (109572<x.Out));bif v4 then k17 true else k17 (decide (x.Out<0));bif v3 then k18 true else k18 (decide (9999<x.Patron));bif v2 then k19 true else k19 (decide (x.Patron<1));bif decide (x.Item<1) then k20 true else k20 (decide (9999<x.Item));bif decide (0<i) then match getI l (wr .i64 (i-1)) with|some x1 =>k21 (decide (x.Item≤x1.Item))|none =>none else k21 false|none =>none else some (.inr (.inl (())))
def qak (l:List Loan):Option Int:=
 bif decide (64<(l.length:Int)) then some 13 else match zae zkj (l,0,()) with|some (.inl (_)) =>some 0|some (.inr (v,_)) =>some v|none =>none
def qei (n:Int):Option Bool:=
 let k (v:Bool):Option Bool:=some v;bif decide (1≤n) then k (decide (n≤9999)) else k false
def qe0 (n:Int):Option Bool:=
 let k (v:Bool):Option Bool:=some v;bif decide (0≤n) then k (decide (n≤109572)) else k false
def qdu (h:Hold):Option Int:=
 let k41 (v:Bool):Option Int:=let k40 (v2:Bool):Option Int:=let k39 (v5:Bool):Option Int:=let k38 (v9:Bool):Option Int:=let k37 (v10:Bool):Option Int:=let k36 (v11:Bool):Option Int:=let k35 (v14:Bool):Option Int:=let k34 (v18:Bool):Option Int:=let k33 (v21:Bool):Option Int:=let k32 (v24:Bool):Option Int:=let k31 (v25:Bool):Option Int:=let k30 (v26:Bool):Option Int:=bif v26 then some 2 else let k29 (v27:Bool):Option Int:=bif v27 then some 1 else let k (v28:Bool):Option Int:=bif v28 then some 12 else some 0;bif !((decide (0<h.Got))==(!(h.State==1))) then k true else k (!((decide (0<h.Until))==(h.State==3)));bif decide (h.State<1) then k29 true else k29 (decide (3<h.State));bif v25 then k30 true else k30 (decide (9<h.Rank));bif v24 then k31 true else k31 (decide (h.Rank<0));bif v21 then k32 true else match qe0 h.Asleep with|some r23 =>k32 (!r23)|none =>none;bif v18 then k33 true else match qe0 h.Until with|some r20 =>k33 (!r20)|none =>none;bif v14 then k34 true else bif !(h.Got==0) then match qei h.Got with|some r16 =>k34 (!r16)|none =>none else k34 false;bif v11 then k35 true else match qe0 h.Placed with|some r13 =>k35 (!r13)|none =>none;bif v10 then k36 true else k36 (decide (4<h.Pickup));bif v9 then k37 true else k37 (decide (h.Pickup<1));bif v5 then k38 true else bif !(h.Item==0) then match qei h.Item with|some r7 =>k38 (!r7)|none =>none else k38 false;bif v2 then k39 true else match qei h.Record with|some r4 =>k39 (!r4)|none =>none;bif v then k40 true else match qei h.Patron with|some r1 =>k40 (!r1)|none =>none;bif decide (h.ID<1) then k41 true else k41 (decide (99999<h.ID))
def zuo:((List Hold)×Int×Unit)→Option (((List Hold)×Int×Unit)⊕(((List Hold)×Unit)⊕(Int×Unit))):=fun (l,i,_)=>
 bif decide (i<(l.length:Int)) then let k (v:Bool):Option (((List Hold)×Int×Unit)⊕(((List Hold)×Unit)⊕(Int×Unit))):=bif v then some (.inr (.inr (7,()))) else match getI l i with|some x2 =>(match qdu x2 with|some r3 =>bif !(r3==0) then some (.inr (.inr (r3,()))) else some (.inl (l,wr .i64 (i+1),()))|none =>none)|none =>none;bif decide (0<i) then match getI l i with|some x =>(match getI l (wr .i64 (i-1)) with|some x1 =>k (decide (x.ID≤x1.ID))|none =>none)|none =>none else k false else some (.inr (.inl (l,())))
def zkz:((List Hold)×Int×Int×Unit)→Option (((List Hold)×Int×Int×Unit)⊕(((List Hold)×Int×Unit)⊕(Int×Unit))):=fun (l,i,k,_)=>
 bif decide (k<i) then match getI l i with|some x =>(match getI l k with|some x5 =>let k14 (v:Bool):Option (((List Hold)×Int×Int×Unit)⊕(((List Hold)×Int×Unit)⊕(Int×Unit))):=let k13 (v12:Bool):Option (((List Hold)×Int×Int×Unit)⊕(((List Hold)×Int×Unit)⊕(Int×Unit))):=bif v12 then some (.inr (.inr (7,()))) else some (.inl (l,i,wr .i64 (k+1),()));bif v then k13 true else match getI l i with|some x8 =>bif decide (0<x8.Got) then match getI l i with|some x9 =>(match getI l k with|some x10 =>k13 (x9.Got==x10.Got)|none =>none)|none =>none else k13 false|none =>none;bif x.Patron==x5.Patron then match getI l i with|some x6 =>(match getI l k with|some x7 =>k14 (x6.Record==x7.Record)|none =>none)|none =>none else k14 false|none =>none)|none =>none else some (.inr (.inl (l,i,())))
def znj:((List Hold)×Int×Unit)→Option (((List Hold)×Int×Unit)⊕((Unit)⊕(Int×Unit))):=fun (l,i,_)=>
 bif decide (i<(l.length:Int)) then match zae zkz (l,i,0,()) with|some (.inl (l15,i16,_)) =>some (.inl (l15,wr .i64 (i16+1),()))|some (.inr (v,_)) =>some (.inr (.inr (v,())))|none =>none else some (.inr (.inl (())))
def ql (l:List Hold):Option Int:=
 bif decide (64<(l.length:Int)) then some 13 else match zae zuo (l,0,()) with|some (.inl (l4,_)) =>(match zae znj (l4,0,()) with|some (.inl (_)) =>some 0|some (.inr (v,_)) =>some v|none =>none)|some (.inr (v17,_)) =>some v17|none =>none
def qfi (n:Int):Option Bool:=
 let k (v:Bool):Option Bool:=some v;bif decide (0≤n) then k (decide (n≤109572)) else k false
def zkf:((List Charge)×Int×Unit)→Option (((List Charge)×Int×Unit)⊕((Unit)⊕(Int×Unit))):=fun (l,i,_)=>
 bif decide (i<(l.length:Int)) then match getI l i with|some x =>let k22 (v:Bool):Option (((List Charge)×Int×Unit)⊕((Unit)⊕(Int×Unit))):=bif v then some (.inr (.inr (7,()))) else let k21 (v2:Bool):Option (((List Charge)×Int×Unit)⊕((Unit)⊕(Int×Unit))):=let k20 (v3:Bool):Option (((List Charge)×Int×Unit)⊕((Unit)⊕(Int×Unit))):=let k19 (v4:Bool):Option (((List Charge)×Int×Unit)⊕((Unit)⊕(Int×Unit))):=let k18 (v5:Bool):Option (((List Charge)×Int×Unit)⊕((Unit)⊕(Int×Unit))):=let k17 (v6:Bool):Option (((List Charge)×Int×Unit)⊕((Unit)⊕(Int×Unit))):=let k16 (v8:Bool):Option (((List Charge)×Int×Unit)⊕((Unit)⊕(Int×Unit))):=bif v8 then some (.inr (.inr (2,()))) else let k15 (v9:Bool):Option (((List Charge)×Int×Unit)⊕((Unit)⊕(Int×Unit))):=bif v9 then some (.inr (.inr (1,()))) else let k14 (v10:Bool):Option (((List Charge)×Int×Unit)⊕((Unit)⊕(Int×Unit))):=let k13 (v11:Bool):Option (((List Charge)×Int×Unit)⊕((Unit)⊕(Int×Unit))):=let k (v12:Bool):Option (((List Charge)×Int×Unit)⊕((Unit)⊕(Int×Unit))):=bif v12 then some (.inr (.inr (2,()))) else some (.inl (l,wr .i64 (i+1),()));bif v11 then k true else k (decide (x.Amount≤x.Paid));bif v10 then k13 true else k13 (decide (x.Paid<0));bif decide (x.Amount<1) then k14 true else k14 (decide (100000000<x.Amount));bif decide (x.Kind<1) then k15 true else k15 (decide (3<x.Kind));bif v6 then k16 true else match qfi x.Day with|some r7 =>k16 (!r7)|none =>none;bif v5 then k17 true else k17 (decide (9999<x.Item));bif v4 then k18 true else k18 (decide (x.Item<1));bif v3 then k19 true else k19 (decide (9999<x.Patron));bif v2 then k20 true else k20 (decide (x.Patron<1));bif decide (x.ID<1) then k21 true else k21 (decide (99999<x.ID));bif decide (0<i) then match getI l (wr .i64 (i-1)) with|some x1 =>k22 (decide (x.ID≤x1.ID))|none =>none else k22 false|none =>none else some (.inr (.inl (())))
def qa4 (l:List Charge):Option Int:=
 bif decide (128<(l.length:Int)) then some 13 else match zae zkf (l,0,()) with|some (.inl (_)) =>some 0|some (.inr (v,_)) =>some v|none =>none
def qau (n:Int) (low:Int) (high:Int):Option Bool:=
 let k (v:Bool):Option Bool:=some v;bif decide (low≤n) then k (decide (n≤high)) else k false
def qcv (r:Rule):Option Bool:=
 match qau r.Patron 0 9 with|some r2 =>let k48 (v:Bool):Option Bool:=let k47 (v7:Bool):Option Bool:=match qau r.Days 0 365 with|some r9 =>let k46 (v12:Bool):Option Bool:=let k45 (v15:Bool):Option Bool:=match qau r.Fine 0 1000 with|some r17 =>let k44 (v20:Bool):Option Bool:=let k43 (v23:Bool):Option Bool:=let k42 (v24:Bool):Option Bool:=let k41 (v25:Bool):Option Bool:=let k40 (v28:Bool):Option Bool:=let k39 (v31:Bool):Option Bool:=let k38 (v34:Bool):Option Bool:=let k (v37:Bool):Option Bool:=some v37;bif v34 then match qau r.Rank 0 9 with|some r36 =>k r36|none =>none else k false;bif v31 then match qau r.Fixed 0 109572 with|some r33 =>k38 r33|none =>none else k38 false;bif v28 then match qau r.Recall 1 60 with|some r30 =>k39 r30|none =>none else k39 false;bif v25 then match qau r.Shelf 1 60 with|some r27 =>k40 r27|none =>none else k40 false;bif v24 then k41 v23 else k41 false;bif v7 then k42 v15 else k42 false;bif v20 then match qau r.MaxFine 0 100000000 with|some r22 =>k43 r22|none =>none else k43 false;bif r17 then match qau r.Grace 0 30 with|some r19 =>k44 r19|none =>none else k44 false|none =>none;bif v12 then match qau r.Loans 0 99 with|some r14 =>k45 r14|none =>none else k45 false;bif r9 then match qau r.Renewals 0 10 with|some r11 =>k46 r11|none =>none else k46 false|none =>none;bif v then match qau r.Branch 0 4 with|some r6 =>k47 r6|none =>none else k47 false;bif r2 then match qau r.Item 0 9 with|some r4 =>k48 r4|none =>none else k48 false|none =>none
def zum:((List Rule)×Int×Int×Unit)→Option (((List Rule)×Int×Int×Unit)⊕(((List Rule)×Int×Unit)⊕(Int×Unit))):=fun (l,i,k,_)=>
 bif decide (k<i) then match getI l k with|some x =>(match getI l i with|some x2 =>let k9 (v:Bool):Option (((List Rule)×Int×Int×Unit)⊕(((List Rule)×Int×Unit)⊕(Int×Unit))):=let k8 (v7:Bool):Option (((List Rule)×Int×Int×Unit)⊕(((List Rule)×Int×Unit)⊕(Int×Unit))):=bif v7 then some (.inr (.inr (7,()))) else some (.inl (l,i,wr .i64 (k+1),()));bif v then match getI l k with|some x5 =>(match getI l i with|some x6 =>k8 (x5.Branch==x6.Branch)|none =>none)|none =>none else k8 false;bif x.Patron==x2.Patron then match getI l k with|some x3 =>(match getI l i with|some x4 =>k9 (x3.Item==x4.Item)|none =>none)|none =>none else k9 false|none =>none)|none =>none else some (.inr (.inl (l,i,())))
def z0r:((List Rule)×Int×Unit)→Option (((List Rule)×Int×Unit)⊕((Unit)⊕(Int×Unit))):=fun (l,i,_)=>
 bif decide (i<(l.length:Int)) then match getI l i with|some x =>(match qcv x with|some r1 =>(bif !r1 then some (.inr (.inr (2,()))) else match zae zum (l,i,0,()) with|some (.inl (l10,i11,_)) =>some (.inl (l10,wr .i64 (i11+1),()))|some (.inr (v,_)) =>some (.inr (.inr (v,())))|none =>none)|none =>none)|none =>none else some (.inr (.inl (())))
def qj (l:List Rule):Option Int:=
 bif decide (32<(l.length:Int)) then some 13 else match zae z0r (l,0,()) with|some (.inl (_)) =>some 0|some (.inr (v,_)) =>some v|none =>none
def zuu:(Int×Calendar×Unit)→Option ((Int×Calendar×Unit)⊕((Calendar×Unit)⊕(Int×Unit))):=fun (i,c,_)=>
 bif decide (i<(c.Closed.length:Int)) then match getI c.Closed i with|some x =>(let k (v:Bool):Option ((Int×Calendar×Unit)⊕((Calendar×Unit)⊕(Int×Unit))):=bif v then some (.inr (.inr (2,()))) else some (.inl (wr .i64 (i+1),c,()));bif decide (x<0) then k true else match getI c.Closed i with|some x1 =>k (decide (109572<x1))|none =>none)|none =>none else some (.inr (.inl (c,())))
def zk0:(Int×Calendar×Unit)→Option ((Int×Calendar×Unit)⊕((Unit)⊕(Int×Unit))):=fun (i,c,_)=>
 bif decide (i<(c.Closed.length:Int)) then match getI c.Closed i with|some x =>(match getI c.Closed (wr .i64 (i-1)) with|some x3 =>bif decide (x≤x3) then some (.inr (.inr (7,()))) else some (.inl (wr .i64 (i+1),c,()))|none =>none)|none =>none else some (.inr (.inl (())))
def qy (c:Calendar):Option Int:=
 let k (v:Bool):Option Int:=bif v then some 1 else bif decide (64<(c.Closed.length:Int)) then some 13 else match zae zuu (0,c,()) with|some (.inl (c2,_)) =>(match zae zk0 (1,c2,()) with|some (.inl (_)) =>some 0|some (.inr (v4,_)) =>some v4|none =>none)|some (.inr (v5,_)) =>some v5|none =>none;bif decide (c.Week<0) then k true else k (decide (126<c.Week))
def znc:((List Patron)×Int×Int×Unit)→Option (((List Patron)×Int×Int×Unit)⊕((Unit)⊕(Int×Unit))):=fun (l,vid,i,_)=>
 bif decide (i<(l.length:Int)) then match getI l i with|some x =>bif x.ID==vid then some (.inr (.inr (i,()))) else some (.inl (l,vid,wr .i64 (i+1),()))|none =>none else some (.inr (.inl (())))
def qax (l:List Patron) (vid:Int):Option Int:=
 match zae znc (l,vid,0,()) with|some (.inl (_)) =>some (-1)|some (.inr (v,_)) =>some v|none =>none
def qbo (l:List Patron) (vid:Int):Option (Patron×Bool):=
 match qax l vid with|some r1 =>(bif decide (r1<0) then some ((⟨0,0,0,0,false,[]⟩:Patron),false) else match getI l r1 with|some x =>some (x,true)|none =>none)|none =>none
def qdv (branch:Int):Option Custody:=
 some (⟨1,branch,0,0⟩:Custody)
def qfo (state:Int):Option Bool:=
 let k6 (v:Bool):Option Bool:=let k5 (v1:Bool):Option Bool:=let k4 (v2:Bool):Option Bool:=let k (v3:Bool):Option Bool:=some v3;bif v2 then k true else k (state==10);bif v1 then k4 true else k4 (state==9);bif v then k5 true else k5 (state==8);bif state==4 then k6 true else k6 (state==5)
def qdw (c:Custody):Option Bool:=
 let k17 (v:Bool):Option Bool:=let k16 (v1:Bool):Option Bool:=let k15 (v2:Bool):Option Bool:=bif v2 then some false else let k10 (v9:Bool):Option Bool:=some v9;bif c.State==6 then let k8 (v3:Bool):Option Bool:=let k7 (v4:Bool):Option Bool:=let k (v5:Bool):Option Bool:=bif v5 then k10 (!(c.To==c.Branch)) else k10 false;bif v4 then k (decide (c.To≤4)) else k false;bif v3 then k7 (decide (1≤c.To)) else k7 false;bif decide (0≤c.Who) then k8 (decide (c.Who≤9999)) else k8 false else bif !(c.To==0) then some false else match qfo c.State with|some r11 =>let k14 (v13:Bool):Option Bool:=some v13;bif r11 then bif decide (1≤c.Who) then k14 (decide (c.Who≤9999)) else k14 false else some (c.Who==0)|none =>none;bif v1 then k15 true else k15 (decide (4<c.Branch));bif v then k16 true else k16 (decide (c.Branch<1));bif decide (c.State<1) then k17 true else k17 (decide (12<c.State))
def qes (m:Move):Option Bool:=
 let k16 (v:Bool):Option Bool:=let k15 (v1:Bool):Option Bool:=let k14 (v2:Bool):Option Bool:=let k13 (v3:Bool):Option Bool:=let k12 (v4:Bool):Option Bool:=let k11 (v5:Bool):Option Bool:=let k10 (v6:Bool):Option Bool:=let k9 (v7:Bool):Option Bool:=let k (v8:Bool):Option Bool:=some v8;bif v7 then k (decide (m.Who≤9999)) else k false;bif v6 then k9 (decide (0≤m.Who)) else k9 false;bif v5 then k10 (decide (m.Branch≤4)) else k10 false;bif v4 then k11 (decide (1≤m.Branch)) else k11 false;bif v3 then k12 (decide (m.Kind≤15)) else k12 false;bif v2 then k13 (decide (1≤m.Kind)) else k13 false;bif v1 then k14 (decide (m.Item≤9999)) else k14 false;bif v then k15 (decide (1≤m.Item)) else k15 false;bif decide (0≤m.Day) then k16 (decide (m.Day≤109572)) else k16 false
def qdf (kind:Int):Option (List Int):=
 bif kind==1 then some ([1]) else bif kind==2 then some ([2,5]) else bif kind==3 then some ([3,5]) else bif kind==4 then some ([4,8,9,10]) else let k (v:Bool):Option (List Int):=bif v then some ([2,3]) else bif kind==6 then some ([2,3,5]) else bif kind==7 then some ([6]) else bif kind==9 then some ([7]) else bif kind==10 then some ([3]) else bif kind==11 then some ([4]) else bif kind==12 then some ([4,9]) else bif kind==13 then some ([2,3,5,6,7]) else bif kind==14 then some ([11]) else bif kind==15 then some ([1,2,3,11,10]) else some ([]);bif kind==5 then k (kind==5) else k (kind==8)
def zm9:(Int×(List Int)×Int×Unit)→Option ((Int×(List Int)×Int×Unit)⊕((Unit)⊕(Bool×Unit))):=fun (state,l,i,_)=>
 bif decide (i<(l.length:Int)) then match getI l i with|some x =>bif x==state then some (.inr (.inr (true,()))) else some (.inl (state,l,wr .i64 (i+1),()))|none =>none else some (.inr (.inl (())))
def qao (state:Int) (kind:Int):Option Bool:=
 match qdf kind with|some r1 =>(match zae zm9 (state,r1,0,()) with|some (.inl (_)) =>some false|some (.inr (v,_)) =>some v|none =>none)|none =>none
def qdh (c:Custody) (m:Move):Option Bool:=
 let k14 (v2:Bool):Option Bool:=let k11 (v10:Bool):Option Bool:=some v10;bif v2 then k11 (m.Who==0) else bif m.Kind==7 then bif m.Who==0 then k11 (m.Branch==c.To) else k11 false else bif m.Kind==6 then k11 (!(m.Branch==c.Branch)) else let k (v5:Bool):Option Bool:=bif v5 then bif m.Branch==c.Branch then k11 (decide (1≤m.Who)) else k11 false else let k13 (v12:Bool):Option Bool:=some v12;bif m.Branch==c.Branch then k13 (m.Who==0) else k13 false;bif m.Kind==3 then k (m.Kind==3) else bif m.Kind==5 then k (m.Kind==5) else k (m.Kind==10);bif m.Kind==1 then k14 (m.Kind==1) else bif m.Kind==4 then k14 (m.Kind==4) else bif m.Kind==9 then k14 (m.Kind==9) else k14 (m.Kind==14)
def qfv (kind:Int):Option Int:=
 let k13 (v3:Bool):Option Int:=let k (v12:Int):Option Int:=some v12;bif v3 then k 2 else bif kind==2 then k 3 else bif kind==3 then k 4 else bif kind==5 then k 5 else bif kind==6 then k 6 else bif kind==8 then k 7 else bif kind==10 then k 8 else bif kind==11 then k 9 else bif kind==12 then k 10 else bif kind==13 then k 11 else some 12;bif kind==1 then k13 (kind==1) else bif kind==4 then k13 (kind==4) else bif kind==7 then k13 (kind==7) else bif kind==9 then k13 (kind==9) else k13 (kind==14)
def qcy (c:Custody) (m:Move):Option (Custody×Int):=
 match qdw c with|some r1 =>(let k26 (v:Bool):Option (Custody×Int):=bif v then some ((⟨0,0,0,0⟩:Custody),1) else match qao c.State m.Kind with|some r5 =>bif !r5 then some ((⟨0,0,0,0⟩:Custody),12) else let k25 (v6:Bool):Option (Custody×Int):=let k24 (v7:Bool):Option (Custody×Int):=bif v7 then some ((⟨0,0,0,0⟩:Custody),16) else match qdh c m with|some r9 =>(bif !r9 then some ((⟨0,0,0,0⟩:Custody),1) else match qfv m.Kind with|some r11 =>let k23 (vout20:Int) (vout21:Int) (vout22:Int):Option (Custody×Int):=some ((⟨r11,vout20,vout21,vout22⟩:Custody),0);bif r11==2 then k23 m.Branch 0 0 else let k19 (v13:Bool):Option (Custody×Int):=bif v13 then k23 c.Branch m.Who 0 else bif r11==6 then k23 c.Branch m.Who m.Branch else let k (v14:Bool):Option (Custody×Int):=bif v14 then k23 c.Branch c.Who 0 else k23 c.Branch 0 0;bif r11==9 then k (r11==9) else k (r11==10);bif r11==4 then k19 (r11==4) else bif r11==5 then k19 (r11==5) else k19 (r11==8)|none =>none)|none =>none;bif v6 then k24 (!(m.Who==c.Who)) else k24 false;bif m.Kind==3 then k25 (c.State==5) else k25 false|none =>none;bif !r1 then k26 true else match qes m with|some r3 =>k26 (!r3)|none =>none)|none =>none
def zm8:((List Move)×Int×Int×Custody×Custody×Unit)→Option (((List Move)×Int×Int×Custody×Custody×Unit)⊕((Custody×Custody×Unit)⊕(Int×Int×Custody×Unit))):=fun (l,item,i,v,c,_)=>
 bif decide (i<(l.length:Int)) then match getI l i with|some x =>(bif !(x.Item==item) then some (.inl (l,item,wr .i64 (i+1),v,c,())) else match getI l i with|some x2 =>(match qcy c x2 with|some (r3,r4) =>bif !(r4==0) then some (.inr (.inr (i,r4,(⟨0,0,0,0⟩:Custody),()))) else some (.inl (l,item,wr .i64 (i+1),v,r3,()))|none =>none)|none =>none)|none =>none else some (.inr (.inl (v,c,())))
def qan (branch:Int) (l:List Move) (item:Int):Option (Custody×Int×Int):=
 let k (v:Bool):Option (Custody×Int×Int):=bif v then some ((⟨0,0,0,0⟩:Custody),(-1),1) else match qdv branch with|some r1 =>(match zae zm8 (l,item,0,(⟨0,0,0,0⟩:Custody),r1,()) with|some (.inl (v5,c,_)) =>some (c,(-1),0)|some (.inr (v6,v7,v8,_)) =>some (v8,v6,v7)|none =>none)|none =>none;bif decide (branch<1) then k true else k (decide (4<branch))
def z0u:(Int×Int×Circ×Unit)→Option ((Int×Int×Circ×Unit)⊕((Unit)⊕(Int×Unit))):=fun (item,i,c,_)=>
 bif decide (i<(c.Items.length:Int)) then match getI c.Items i with|some x =>bif x.ID==item then some (.inr (.inr (i,()))) else some (.inl (item,wr .i64 (i+1),c,()))|none =>none else some (.inr (.inl (())))
def qn (c:Circ) (item:Int):Option Int:=
 match zae z0u (item,0,c,()) with|some (.inl (_)) =>some (-1)|some (.inr (v,_)) =>some v|none =>none
def zkh:(Int×Circ×Unit)→Option ((Int×Circ×Unit)⊕((Circ×Unit)⊕(Bool×Unit))):=fun (i,c,_)=>
 bif decide (i<(c.Items.length:Int)) then match getI c.Items i with|some x =>let k29 (v:Bool):Option ((Int×Circ×Unit)⊕((Circ×Unit)⊕(Bool×Unit))):=let k28 (v3:Bool):Option ((Int×Circ×Unit)⊕((Circ×Unit)⊕(Bool×Unit))):=let k27 (v4:Bool):Option ((Int×Circ×Unit)⊕((Circ×Unit)⊕(Bool×Unit))):=let k26 (v5:Bool):Option ((Int×Circ×Unit)⊕((Circ×Unit)⊕(Bool×Unit))):=let k25 (v6:Bool):Option ((Int×Circ×Unit)⊕((Circ×Unit)⊕(Bool×Unit))):=let k24 (v7:Bool):Option ((Int×Circ×Unit)⊕((Circ×Unit)⊕(Bool×Unit))):=bif v7 then some (.inr (.inr (false,()))) else let k23 (v8:Bool):Option ((Int×Circ×Unit)⊕((Circ×Unit)⊕(Bool×Unit))):=let k22 (v9:Bool):Option ((Int×Circ×Unit)⊕((Circ×Unit)⊕(Bool×Unit))):=let k21 (v10:Bool):Option ((Int×Circ×Unit)⊕((Circ×Unit)⊕(Bool×Unit))):=let k20 (v11:Bool):Option ((Int×Circ×Unit)⊕((Circ×Unit)⊕(Bool×Unit))):=let k19 (v13:Bool):Option ((Int×Circ×Unit)⊕((Circ×Unit)⊕(Bool×Unit))):=bif v13 then some (.inr (.inr (false,()))) else match qan x.Branch c.Moves x.ID with|some (r15,r16,r17) =>let k (v18:Bool):Option ((Int×Circ×Unit)⊕((Circ×Unit)⊕(Bool×Unit))):=bif v18 then some (.inr (.inr (false,()))) else some (.inl (wr .i64 (i+1),c,()));bif !(r17==0) then k true else k (!(zba r15 x.Custody))|none =>none;bif v11 then k19 true else match qal x.Call with|some r12 =>k19 (!r12)|none =>none;bif v10 then k20 true else k20 (decide (200<(x.Call.length:Int)));bif v9 then k21 true else k21 (decide (100000000<x.Price));bif v8 then k22 true else k22 (decide (x.Price<0));bif decide (x.Kind<1) then k23 true else k23 (decide (9<x.Kind));bif v6 then k24 true else k24 (decide (4<x.Branch));bif v5 then k25 true else k25 (decide (x.Branch<1));bif v4 then k26 true else k26 (decide (9999<x.Record));bif v3 then k27 true else k27 (decide (x.Record<1));bif v then k28 true else bif decide (0<i) then match getI c.Items (wr .i64 (i-1)) with|some x1 =>k28 (decide (x.ID≤x1.ID))|none =>none else k28 false;bif decide (x.ID<1) then k29 true else k29 (decide (9999<x.ID))|none =>none else some (.inr (.inl (c,())))
def zgc:(Int×Circ×Unit)→Option ((Int×Circ×Unit)⊕((Unit)⊕(Bool×Unit))):=fun (i,c,_)=>
 bif decide (i<(c.Moves.length:Int)) then match getI c.Moves i with|some x =>(match qn c x.Item with|some r31 =>bif decide (r31<0) then some (.inr (.inr (false,()))) else some (.inl (wr .i64 (i+1),c,()))|none =>none)|none =>none else some (.inr (.inl (())))
def qad (c:Circ):Option Bool:=
 let k (v:Bool):Option Bool:=bif v then some false else match zae zkh (0,c,()) with|some (.inl (c30,_)) =>(match zae zgc (0,c30,()) with|some (.inl (_)) =>some true|some (.inr (v32,_)) =>some v32|none =>none)|some (.inr (v33,_)) =>some v33|none =>none;bif decide (64<(c.Items.length:Int)) then k true else k (decide (2000<(c.Moves.length:Int)))
def qel (u:Custody):Option Bool:=
 let k2 (v:Bool):Option Bool:=let k (v1:Bool):Option Bool:=some v1;bif v then k true else k (u.State==10);bif u.State==4 then k2 true else k2 (u.State==9)
def zm5:((List Loan)×Int×Int×Unit)→Option (((List Loan)×Int×Int×Unit)⊕((Unit)⊕(Int×Unit))):=fun (l,item,i,_)=>
 bif decide (i<(l.length:Int)) then match getI l i with|some x =>bif x.Item==item then some (.inr (.inr (i,()))) else some (.inl (l,item,wr .i64 (i+1),()))|none =>none else some (.inr (.inl (())))
def qaf (l:List Loan) (item:Int):Option Int:=
 match zae zm5 (l,item,0,()) with|some (.inl (_)) =>some (-1)|some (.inr (v,_)) =>some v|none =>none
def qci (l:List Loan) (item:Int):Option (Loan×Bool):=
 match qaf l item with|some r1 =>(bif decide (r1<0) then some ((⟨0,0,0,0,0,false⟩:Loan),false) else match getI l r1 with|some x =>some (x,true)|none =>none)|none =>none
def zkg:(Int×Circ×Unit)→Option ((Int×Circ×Unit)⊕((Circ×Unit)⊕(Bool×Unit))):=fun (i,c,_)=>
 bif decide (i<(c.Loans.length:Int)) then match getI c.Loans i with|some x =>(match qn c x.Item with|some r1 =>(match qbo c.Patrons x.Patron with|some (r3,r4) =>let k12 (v:Bool):Option ((Int×Circ×Unit)⊕((Circ×Unit)⊕(Bool×Unit))):=let k11 (v8:Bool):Option ((Int×Circ×Unit)⊕((Circ×Unit)⊕(Bool×Unit))):=let k (v10:Bool):Option ((Int×Circ×Unit)⊕((Circ×Unit)⊕(Bool×Unit))):=bif v10 then some (.inr (.inr (false,()))) else some (.inl (wr .i64 (i+1),c,()));bif v8 then k true else match getI c.Items r1 with|some x9 =>k (!(x9.Custody.Who==x.Patron))|none =>none;bif v then k11 true else match getI c.Items r1 with|some x5 =>(match qel x5.Custody with|some r7 =>k11 (!r7)|none =>none)|none =>none;bif decide (r1<0) then k12 true else k12 (!r4)|none =>none)|none =>none)|none =>none else some (.inr (.inl (c,())))
def zhm:(Int×Circ×Unit)→Option ((Int×Circ×Unit)⊕((Unit)⊕(Bool×Unit))):=fun (i,c,_)=>
 bif decide (i<(c.Items.length:Int)) then match getI c.Items i with|some x =>(match qci c.Loans x.ID with|some (r14,r15) =>(match getI c.Items i with|some x16 =>(match qel x16.Custody with|some r18 =>bif !(r15==r18) then some (.inr (.inr (false,()))) else some (.inl (wr .i64 (i+1),c,()))|none =>none)|none =>none)|none =>none)|none =>none else some (.inr (.inl (())))
def qac (c:Circ):Option Bool:=
 match zae zkg (0,c,()) with|some (.inl (c13,_)) =>(match zae zhm (0,c13,()) with|some (.inl (_)) =>some true|some (.inr (v,_)) =>some v|none =>none)|some (.inr (v19,_)) =>some v19|none =>none
def zna:(Int×Int×Circ×Hold×Unit)→Option ((Int×Int×Circ×Hold×Unit)⊕((Hold×Unit)⊕(Bool×Hold×Unit))):=fun (item,i,c,v,_)=>
 bif decide (i<(c.Holds.length:Int)) then match getI c.Holds i with|some x =>bif x.Got==item then match getI c.Holds i with|some x1 =>some (.inr (.inr (true,x1,())))|none =>none else some (.inl (item,wr .i64 (i+1),c,v,()))|none =>none else some (.inr (.inl (v,())))
def qap (c:Circ) (item:Int):Option (Hold×Bool):=
 match zae zna (item,0,c,(⟨0,0,0,0,0,0,0,0,0,0,0⟩:Hold),()) with|some (.inl (v,_)) =>some ((⟨0,0,0,0,0,0,0,0,0,0,0⟩:Hold),false)|some (.inr (v2,v3,_)) =>some (v3,v2)|none =>none
def zki:(Int×Circ×Unit)→Option ((Int×Circ×Unit)⊕((Circ×Unit)⊕(Bool×Unit))):=fun (i,c,_)=>
 bif decide (i<(c.Holds.length:Int)) then match getI c.Holds i with|some x =>(match qbo c.Patrons x.Patron with|some (r1,r2) =>let k18 (v:Bool):Option ((Int×Circ×Unit)⊕((Circ×Unit)⊕(Bool×Unit))):=bif v then some (.inr (.inr (false,()))) else bif x.State==1 then some (.inl (wr .i64 (i+1),c,())) else match qn c x.Got with|some r4 =>(let k17 (v6:Bool):Option ((Int×Circ×Unit)⊕((Circ×Unit)⊕(Bool×Unit))):=bif v6 then some (.inr (.inr (false,()))) else match getI c.Items r4 with|some x7 =>let k16 (v10:Bool):Option ((Int×Circ×Unit)⊕((Circ×Unit)⊕(Bool×Unit))):=bif v10 then some (.inr (.inr (false,()))) else let k15 (v14:Bool):Option ((Int×Circ×Unit)⊕((Circ×Unit)⊕(Bool×Unit))):=bif v14 then some (.inr (.inr (false,()))) else some (.inl (wr .i64 (i+1),c,()));bif x.State==2 then let k13 (v11:Bool):Option ((Int×Circ×Unit)⊕((Circ×Unit)⊕(Bool×Unit))):=bif v11 then k15 true else k15 (!(x7.Custody.Who==x.Patron));bif !(x7.Custody.State==6) then k13 true else k13 (!(x7.Custody.To==x.Pickup)) else k15 false;bif x.State==3 then let k (v8:Bool):Option ((Int×Circ×Unit)⊕((Circ×Unit)⊕(Bool×Unit))):=bif v8 then k16 true else k16 (!(x7.Custody.Who==x.Patron));bif !(x7.Custody.State==5) then k true else k (!(x7.Custody.Branch==x.Pickup)) else k16 false|none =>none;bif decide (r4<0) then k17 true else match getI c.Items r4 with|some x5 =>k17 (!(x5.Record==x.Record))|none =>none)|none =>none;bif !r2 then k18 true else k18 (decide (c.NextHold≤x.ID))|none =>none)|none =>none else some (.inr (.inl (c,())))
def zhn:(Int×Circ×Unit)→Option ((Int×Circ×Unit)⊕((Unit)⊕(Bool×Unit))):=fun (i,c,_)=>
 bif decide (i<(c.Items.length:Int)) then match getI c.Items i with|some x =>(bif !(x.Custody.State==5) then some (.inl (wr .i64 (i+1),c,())) else match getI c.Items i with|some x20 =>(match qap c x20.ID with|some (r21,r22) =>let k (v:Bool):Option ((Int×Circ×Unit)⊕((Unit)⊕(Bool×Unit))):=bif v then some (.inr (.inr (false,()))) else some (.inl (wr .i64 (i+1),c,()));bif !r22 then k true else k (!(r21.State==3))|none =>none)|none =>none)|none =>none else some (.inr (.inl (())))
def qae (c:Circ):Option Bool:=
 match zae zki (0,c,()) with|some (.inl (c19,_)) =>(match zae zhn (0,c19,()) with|some (.inl (_)) =>some true|some (.inr (v,_)) =>some v|none =>none)|some (.inr (v23,_)) =>some v23|none =>none
def zhz:(Int×Circ×Unit)→Option ((Int×Circ×Unit)⊕((Circ×Unit)⊕(Bool×Unit))):=fun (i,c,_)=>
 bif decide (i<4) then let k (v:Int) (v18:List Int):Option ((Int×Circ×Unit)⊕((Circ×Unit)⊕(Bool×Unit))):=match qy (⟨v,v18⟩:Calendar) with|some r19 =>bif !(r19==0) then some (.inr (.inr (false,()))) else some (.inl (wr .i64 (i+1),c,()))|none =>none;bif i==0 then k c.Cals.x0.Week c.Cals.x0.Closed else bif i==1 then k c.Cals.x1.Week c.Cals.x1.Closed else bif i==2 then k c.Cals.x2.Week c.Cals.x2.Closed else bif i==3 then k c.Cals.x3.Week c.Cals.x3.Closed else none else some (.inr (.inl (c,())))
def zgd:(Int×Circ×Unit)→Option ((Int×Circ×Unit)⊕((Circ×Unit)⊕(Bool×Unit))):=fun (i,c,_)=>
 bif decide (i<(c.Charges.length:Int)) then match getI c.Charges i with|some x =>(match qbo c.Patrons x.Patron with|some (r21,r22) =>(let k (v:Bool):Option ((Int×Circ×Unit)⊕((Circ×Unit)⊕(Bool×Unit))):=bif v then some (.inr (.inr (false,()))) else some (.inl (wr .i64 (i+1),c,()));bif !r22 then k true else match getI c.Charges i with|some x23 =>k (decide (c.NextCharge≤x23.ID))|none =>none)|none =>none)|none =>none else some (.inr (.inl (c,())))
def qai (c:Circ):Option Bool:=
 let k44 (v:Bool):Option Bool:=let k43 (v1:Bool):Option Bool:=let k42 (v2:Bool):Option Bool:=let k41 (v3:Bool):Option Bool:=let k40 (v4:Bool):Option Bool:=bif v4 then some false else match qar c.Patrons with|some r5 =>(let k39 (v8:Bool):Option Bool:=let k38 (v11:Bool):Option Bool:=let k37 (v14:Bool):Option Bool:=let k36 (v17:Bool):Option Bool:=bif v17 then some false else match zae zhz (0,c,()) with|some (.inl (c20,_)) =>(match zae zgd (0,c20,()) with|some (.inl (c24,_)) =>(match qad c24 with|some r26 =>let k33 (v29:Bool):Option Bool:=let k (v32:Bool):Option Bool:=some v32;bif v29 then match qae c24 with|some r31 =>k r31|none =>none else k false;bif r26 then match qac c24 with|some r28 =>k33 r28|none =>none else k33 false|none =>none)|some (.inr (v34,_)) =>some v34|none =>none)|some (.inr (v35,_)) =>some v35|none =>none;bif v14 then k36 true else match qj c.Rules with|some r16 =>k36 (!(r16==0))|none =>none;bif v11 then k37 true else match qa4 c.Charges with|some r13 =>k37 (!(r13==0))|none =>none;bif v8 then k38 true else match ql c.Holds with|some r10 =>k38 (!(r10==0))|none =>none;bif !(r5==0) then k39 true else match qak c.Loans with|some r7 =>k39 (!(r7==0))|none =>none)|none =>none;bif v3 then k40 true else k40 (decide (100000<c.NextCharge));bif v2 then k41 true else k41 (decide (c.NextCharge<1));bif v1 then k42 true else k42 (decide (100000<c.NextHold));bif v then k43 true else k43 (decide (c.NextHold<1));bif decide (c.Today<0) then k44 true else k44 (decide (109572<c.Today))
def qfw (c:Circ):Option Bool:=
 match qa c with|some r1 =>let k (v:Bool):Option Bool:=some v;bif r1 then match qai c with|some r3 =>k r3|none =>none else k false|none =>none
def qeh (today:Int):Option Circ:=
 some (⟨(if 109572<(if today<0 then 0 else today) then 109572 else (if today<0 then 0 else today)),[],[],[],[],[],[],⟨⟨0,[]⟩,⟨0,[]⟩,⟨0,[]⟩,⟨0,[]⟩⟩,[],1,1,false⟩:Circ)
def qdc (x:Item) (v:Int):Option Bool:=
 some (x.ID==v)
def zsf {γ0:Type} (p:γ0→Item→Option Bool):((List Item)×γ0×Int×Int×Unit)→Option (((List Item)×γ0×Int×Int×Unit)⊕((Unit)⊕(Int×Unit))):=fun (s,g,v,v1,_)=>
 bif decide (v1<v) then match getI s v1 with|some x =>(match p g x with|some r =>bif r then some (.inr (.inr (v1,()))) else some (.inl (s,g,v,wr .i64 (v1+1),()))|none =>none)|none =>none else some (.inr (.inl (())))
def qe {γ0:Type} (p:γ0→Item→Option Bool) (s:List Item) (g:γ0):Option Int:=
 match zae (zsf p) (s,g,(s.length:Int),0,()) with|some (.inl (_)) =>some (-1)|some (.inr (v,_)) =>some v|none =>none
def qaa (c:Circ) (item:Int):Option Int:=
 match qe (fun g x0=>qdc x0 g.2.1) c.Items ((),(item,())) with|some r1 =>some r1|none =>none
def qea (branch:Int):Option Custody:=
 some (⟨1,branch,0,0⟩:Custody)
def qc5 (z:Item) (v:Item):Option Bool:=
 some (decide (v.ID<z.ID))
def qco (s:List Item):Option (List Item):=
 bif decide (([]:List Item).length+s.length≤LIM) then some (([])++s) else none
def qca (n:Int) (low:Int) (high:Int):Option Bool:=
 let k (v:Bool):Option Bool:=some v;bif decide (low≤n) then k (decide (n≤high)) else k false
def qd9 (x:Item):Option Bool:=
 match qca x.ID 1 9999 with|some r1 =>let k21 (v:Bool):Option Bool:=let k20 (v6:Bool):Option Bool:=let k19 (v9:Bool):Option Bool:=let k18 (v12:Bool):Option Bool:=let k17 (v13:Bool):Option Bool:=let k (v16:Bool):Option Bool:=some v16;bif v13 then match qde x.Call with|some r15 =>k r15|none =>none else k false;bif v12 then k17 (decide ((x.Call.length:Int)≤200)) else k17 false;bif v9 then match qca x.Price 0 100000000 with|some r11 =>k18 r11|none =>none else k18 false;bif v6 then match qca x.Kind 1 9 with|some r8 =>k19 r8|none =>none else k19 false;bif v then match qca x.Branch 1 4 with|some r5 =>k20 r5|none =>none else k20 false;bif r1 then match qca x.Record 1 9999 with|some r3 =>k21 r3|none =>none else k21 false|none =>none
def qbs (n:Int) (least:Int) (most:Int):Option Bool:=
 let k (v:Bool):Option Bool:=some v;bif decide (least≤n) then k (decide (n≤most)) else k false
def qfn (c:Custody):Option Bool:=
 match qbs c.State 1 12 with|some r1 =>(let k23 (v:Bool):Option Bool:=bif v then some false else let k22 (v7:Bool):Option Bool:=let k19 (v18:Bool):Option Bool:=some v18;bif v7 then match qbs c.Who 1 9999 with|some r9 =>bif r9 then k19 (c.To==0) else k19 false|none =>none else bif c.State==6 then match qbs c.Who 0 9999 with|some r12 =>let k (v15:Bool):Option Bool:=bif v15 then k19 (!(c.To==c.Branch)) else k19 false;bif r12 then match qbs c.To 1 4 with|some r14 =>k r14|none =>none else k false|none =>none else let k21 (v20:Bool):Option Bool:=some v20;bif c.Who==0 then k21 (c.To==0) else k21 false;bif c.State==4 then k22 (c.State==4) else bif c.State==5 then k22 (c.State==5) else bif c.State==8 then k22 (c.State==8) else bif c.State==9 then k22 (c.State==9) else k22 (c.State==10);bif !r1 then k23 true else match qbs c.Branch 1 4 with|some r3 =>k23 (!r3)|none =>none)|none =>none
def qfm (state:Int) (kind:Int):Option Bool:=
 match qbs state 1 12 with|some r1 =>let k5 (v:Bool):Option Bool:=let k (v4:Bool):Option Bool:=some v4;bif v then match getI zb5 state with|some x =>bif decide (kind<0) then none else k ((wr .u16 (BitVec.ofInt 16 (x.fdiv (2 ^ (min kind.toNat 16))) &&& BitVec.ofInt 16 1).toNat)==1)|none =>none else k false;bif r1 then match qbs kind 1 15 with|some r3 =>k5 r3|none =>none else k5 false|none =>none
def qcu (c:Custody) (ok:Bool):Option (Custody×Int):=
 bif !ok then some ((⟨0,0,0,0⟩:Custody),1) else some (c,0)
def qfp (c:Custody) (m:Move):Option (Custody×Int):=
 match qcu (⟨6,c.Branch,m.Who,m.Branch⟩:Custody) (!(m.Branch==c.Branch)) with|some (r1,r2) =>some (r1,r2)|none =>none
def qeb (c:Custody) (m:Move):Option (Custody×Int):=
 match qfn c with|some r1 =>(let k95 (v:Bool):Option (Custody×Int):=let k94 (v6:Bool):Option (Custody×Int):=let k93 (v9:Bool):Option (Custody×Int):=let k92 (v12:Bool):Option (Custody×Int):=let k91 (v15:Bool):Option (Custody×Int):=bif v15 then some ((⟨0,0,0,0⟩:Custody),1) else match qfm c.State m.Kind with|some r17 =>bif !r17 then some ((⟨0,0,0,0⟩:Custody),12) else let k90 (v18:Bool):Option (Custody×Int):=let k89 (v19:Bool):Option (Custody×Int):=bif v19 then some ((⟨0,0,0,0⟩:Custody),16) else let k88 (v22:Bool):Option (Custody×Int):=let k84 (state79:Int) (ok80:Bool):Option (Custody×Int):=match qcu (⟨state79,m.Branch,m.Who,0⟩:Custody) ok80 with|some (r82,r83) =>some (r82,r83)|none =>none;let k87 (v85:Int) (v86:Custody):Option (Custody×Int):=some (v86,v85);bif v22 then k84 2 (m.Who==0) else bif m.Kind==7 then bif m.Who==0 then k84 2 (m.Branch==c.To) else k84 2 false else bif m.Kind==6 then match qfp c m with|some (r25,r26) =>k87 r26 r25|none =>none else bif m.Kind==3 then bif m.Branch==c.Branch then k84 4 (!(m.Who==0)) else k84 4 false else bif m.Kind==5 then bif m.Branch==c.Branch then k84 5 (!(m.Who==0)) else k84 5 false else bif m.Kind==10 then bif m.Branch==c.Branch then k84 8 (!(m.Who==0)) else k84 8 false else bif m.Kind==2 then bif m.Branch==c.Branch then k84 3 (m.Who==0) else k84 3 false else bif m.Kind==8 then bif m.Branch==c.Branch then k84 7 (m.Who==0) else k84 7 false else bif m.Kind==11 then let k (v32:Bool):Option (Custody×Int):=match qcu (⟨9,c.Branch,c.Who,0⟩:Custody) v32 with|some (r34,r35) =>k87 r35 r34|none =>none;bif m.Branch==c.Branch then k (m.Who==0) else k false else bif m.Kind==12 then let k40 (v36:Bool):Option (Custody×Int):=match qcu (⟨10,c.Branch,c.Who,0⟩:Custody) v36 with|some (r38,r39) =>k87 r39 r38|none =>none;bif m.Branch==c.Branch then k40 (m.Who==0) else k40 false else bif m.Kind==13 then bif m.Branch==c.Branch then k84 11 (m.Who==0) else k84 11 false else bif m.Kind==15 then bif m.Branch==c.Branch then k84 12 (m.Who==0) else k84 12 false else k84 0 false;bif m.Kind==1 then k88 (m.Kind==1) else bif m.Kind==4 then k88 (m.Kind==4) else bif m.Kind==9 then k88 (m.Kind==9) else k88 (m.Kind==14);bif v18 then k89 (!(m.Who==c.Who)) else k89 false;bif m.Kind==3 then k90 (c.State==5) else k90 false|none =>none;bif v12 then k91 true else match qbs m.Who 0 9999 with|some r14 =>k91 (!r14)|none =>none;bif v9 then k92 true else match qbs m.Branch 1 4 with|some r11 =>k92 (!r11)|none =>none;bif v6 then k93 true else match qbs m.Kind 1 15 with|some r8 =>k93 (!r8)|none =>none;bif v then k94 true else match qbs m.Item 1 9999 with|some r5 =>k94 (!r5)|none =>none;bif !r1 then k95 true else match qbs m.Day 0 109572 with|some r3 =>k95 (!r3)|none =>none)|none =>none
def zai4:(Int×(List Move)×Int×Int×Custody×Custody×Unit)→Option ((Int×(List Move)×Int×Int×Custody×Custody×Unit)⊕((Custody×Custody×Unit)⊕(Int×Int×Custody×Unit))):=fun (item,v,v4,v5,v6,c,_)=>
 bif decide (v5<v4) then match getI v v5 with|some x =>(bif !(x.Item==item) then some (.inl (item,v,v4,wr .i64 (v5+1),v6,c,())) else match qeb c x with|some (r7,r8) =>bif !(r8==0) then some (.inr (.inr (v5,r8,(⟨0,0,0,0⟩:Custody),()))) else some (.inl (item,v,v4,wr .i64 (v5+1),v6,r7,()))|none =>none)|none =>none else some (.inr (.inl (v6,c,())))
def qbk (branch:Int) (l:List Move) (item:Int):Option (Custody×Int×Int):=
 match qbs branch 1 4 with|some r1 =>(bif !r1 then some ((⟨0,0,0,0⟩:Custody),(-1),1) else match qea branch with|some r3 =>(match zae zai4 (item,l,(l.length:Int),0,(⟨0,0,0,0⟩:Custody),r3,()) with|some (.inl (v,c,_)) =>some (c,(-1),0)|some (.inr (v9,v10,v11,_)) =>some (v11,v9,v10)|none =>none)|none =>none)|none =>none
def zazy:((List Item)×Int×Int×Circ×Unit)→Option (((List Item)×Int×Int×Circ×Unit)⊕((Circ×Unit)⊕(Bool×Unit))):=fun (v,v1,v2,c,_)=>
 bif decide (v2<v1) then match getI v v2 with|some x =>(match qd9 x with|some r3 =>let k (v6:Bool):Option (((List Item)×Int×Int×Circ×Unit)⊕((Circ×Unit)⊕(Bool×Unit))):=bif v6 then some (.inr (.inr (false,()))) else some (.inl (v,v1,wr .i64 (v2+1),c,()));bif !r3 then k true else bif decide (0<v2) then match getI c.Items (wr .i64 (v2-1)) with|some x4 =>k (decide (x.ID≤x4.ID))|none =>none else k false|none =>none)|none =>none else some (.inr (.inl (c,())))
def zajn:((List Move)×Int×Int×Circ×Unit)→Option (((List Move)×Int×Int×Circ×Unit)⊕((Circ×Unit)⊕(Bool×Unit))):=fun (v,v8,v9,c,_)=>
 bif decide (v9<v8) then match getI v v9 with|some x =>(match qaa c x.Item with|some r10 =>bif decide (r10<0) then some (.inr (.inr (false,()))) else some (.inl (v,v8,wr .i64 (v9+1),c,()))|none =>none)|none =>none else some (.inr (.inl (c,())))
def zajo:((List Item)×Int×Int×Circ×Unit)→Option (((List Item)×Int×Int×Circ×Unit)⊕((Unit)⊕(Bool×Unit))):=fun (v,v12,v13,c,_)=>
 bif decide (v13<v12) then match getI v v13 with|some x =>(match qbk x.Branch c.Moves x.ID with|some (r14,r15,r16) =>let k (v17:Bool):Option (((List Item)×Int×Int×Circ×Unit)⊕((Unit)⊕(Bool×Unit))):=bif v17 then some (.inr (.inr (false,()))) else some (.inl (v,v12,wr .i64 (v13+1),c,()));bif !(r16==0) then k true else k (!(zba r14 x.Custody))|none =>none)|none =>none else some (.inr (.inl (())))
def qs (c:Circ):Option Bool:=
 let k (v:Bool):Option Bool:=bif v then some false else match zae zazy (c.Items,(c.Items.length:Int),0,c,()) with|some (.inl (c7,_)) =>(match zae zajn (c7.Moves,(c7.Moves.length:Int),0,c7,()) with|some (.inl (c11,_)) =>(match zae zajo (c11.Items,(c11.Items.length:Int),0,c11,()) with|some (.inl (_)) =>some true|some (.inr (v18,_)) =>some v18|none =>none)|some (.inr (v19,_)) =>some v19|none =>none)|some (.inr (v20,_)) =>some v20|none =>none;bif decide (64<(c.Items.length:Int)) then k true else k (decide (2000<(c.Moves.length:Int)))
def qb5 (p:Patron):Option Int:=
 let k17 (v:Bool):Option Int:=let k16 (v1:Bool):Option Int:=let k15 (v2:Bool):Option Int:=let k14 (v13:Int):Option Int:=some v13;bif v2 then k14 1 else let k12 (v3:Bool):Option Int:=bif v3 then k14 2 else let k10 (v5:Bool):Option Int:=let k (v8:Bool):Option Int:=bif v8 then k14 3 else bif decide (200<(p.Name.length:Int)) then k14 4 else some 0;bif v5 then k true else match qef p.Name with|some r7 =>k (!(r7==p.Name))|none =>none;bif p.Name==([]) then k10 true else match qde p.Name with|some r4 =>k10 (!r4)|none =>none;bif decide (p.Until<0) then k12 true else k12 (decide (109572<p.Until));bif v1 then k15 true else k15 (decide (4<p.Branch));bif v then k16 true else k16 (decide (p.Branch<1));bif decide (p.Kind<1) then k17 true else k17 (decide (9<p.Kind))
def zai1:(Int×(List Patron)×Int×Int×Unit)→Option ((Int×(List Patron)×Int×Int×Unit)⊕((Unit)⊕(Int×Unit))):=fun (last,v,v1,v2,_)=>
 bif decide (v2<v1) then match getI v v2 with|some x =>let k6 (v3:Bool):Option ((Int×(List Patron)×Int×Int×Unit)⊕((Unit)⊕(Int×Unit))):=let k (v4:Int):Option ((Int×(List Patron)×Int×Int×Unit)⊕((Unit)⊕(Int×Unit))):=some (.inr (.inr (v4,())));bif v3 then k 2 else bif decide (x.ID≤last) then k 7 else match qb5 x with|some r5 =>bif !(r5==0) then some (.inr (.inr (r5,()))) else some (.inl (x.ID,v,v1,wr .i64 (v2+1),()))|none =>none;bif decide (x.ID<1) then k6 true else k6 (decide (9999<x.ID))|none =>none else some (.inr (.inl (())))
def qbb (l:List Patron):Option Int:=
 bif decide (32<(l.length:Int)) then some 13 else match zae zai1 (0,l,(l.length:Int),0,()) with|some (.inl (_)) =>some 0|some (.inr (v,_)) =>some v|none =>none
def qe1 (n:Int):Option Bool:=
 let k (v:Bool):Option Bool:=some v;bif decide (1≤n) then k (decide (n≤9999)) else k false
def qdz (n:Int):Option Bool:=
 let k (v:Bool):Option Bool:=some v;bif decide (0≤n) then k (decide (n≤109572)) else k false
def zkn:((List Loan)×(List Loan)×Int×Int×Unit)→Option (((List Loan)×(List Loan)×Int×Int×Unit)⊕((Unit)⊕(Int×Unit))):=fun (l,v,v1,v2,_)=>
 bif decide (v2<v1) then match getI v v2 with|some x =>let k25 (v4:Bool):Option (((List Loan)×(List Loan)×Int×Int×Unit)⊕((Unit)⊕(Int×Unit))):=let k24 (v23:Int):Option (((List Loan)×(List Loan)×Int×Int×Unit)⊕((Unit)⊕(Int×Unit))):=some (.inr (.inr (v23,())));bif v4 then k24 7 else match qe1 x.Item with|some r5 =>(let k22 (v8:Bool):Option (((List Loan)×(List Loan)×Int×Int×Unit)⊕((Unit)⊕(Int×Unit))):=let k21 (v11:Bool):Option (((List Loan)×(List Loan)×Int×Int×Unit)⊕((Unit)⊕(Int×Unit))):=let k20 (v14:Bool):Option (((List Loan)×(List Loan)×Int×Int×Unit)⊕((Unit)⊕(Int×Unit))):=let k19 (v15:Bool):Option (((List Loan)×(List Loan)×Int×Int×Unit)⊕((Unit)⊕(Int×Unit))):=let k18 (v16:Bool):Option (((List Loan)×(List Loan)×Int×Int×Unit)⊕((Unit)⊕(Int×Unit))):=let k (v17:Bool):Option (((List Loan)×(List Loan)×Int×Int×Unit)⊕((Unit)⊕(Int×Unit))):=bif v17 then k24 2 else some (.inl (l,v,v1,wr .i64 (v2+1),()));bif v16 then k true else k (decide (10<x.Renewals));bif v15 then k18 true else k18 (decide (x.Renewals<0));bif v14 then k19 true else k19 (decide (x.Due<x.Out));bif v11 then k20 true else match qdz x.Due with|some r13 =>k20 (!r13)|none =>none;bif v8 then k21 true else match qdz x.Out with|some r10 =>k21 (!r10)|none =>none;bif !r5 then k22 true else match qe1 x.Patron with|some r7 =>k22 (!r7)|none =>none)|none =>none;bif decide (0<v2) then match getI l (wr .i64 (v2-1)) with|some x3 =>k25 (decide (x.Item≤x3.Item))|none =>none else k25 false|none =>none else some (.inr (.inl (())))
def qbd (l:List Loan):Option Int:=
 bif decide (64<(l.length:Int)) then some 13 else match zae zkn (l,l,(l.length:Int),0,()) with|some (.inl (_)) =>some 0|some (.inr (v,_)) =>some v|none =>none
def qb9 (n:Int) (low:Int) (high:Int):Option Bool:=
 let k (v:Bool):Option Bool:=some v;bif decide (low≤n) then k (decide (n≤high)) else k false
def qeu (n:Int):Option Bool:=
 match qb9 n 0 109572 with|some r1 =>some r1|none =>none
def qfd (h:Hold):Option Int:=
 match qb9 h.ID 1 99999 with|some r1 =>(let k41 (v:Bool):Option Int:=let k40 (v6:Bool):Option Int:=let k39 (v9:Bool):Option Int:=let k38 (v37:Int):Option Int:=some v37;bif v9 then k38 2 else match qb9 h.Pickup 1 4 with|some r11 =>(let k36 (v14:Bool):Option Int:=let k35 (v17:Bool):Option Int:=let k34 (v20:Bool):Option Int:=let k33 (v23:Bool):Option Int:=let k32 (v26:Bool):Option Int:=bif v26 then k38 2 else match qb9 h.State 1 3 with|some r28 =>bif !r28 then k38 1 else let k (v29:Bool):Option Int:=bif v29 then k38 12 else some 0;bif !((decide (0<h.Got))==(!(h.State==1))) then k true else k (!((decide (0<h.Until))==(h.State==3)))|none =>none;bif v23 then k32 true else match qb9 h.Rank 0 9 with|some r25 =>k32 (!r25)|none =>none;bif v20 then k33 true else match qeu h.Asleep with|some r22 =>k33 (!r22)|none =>none;bif v17 then k34 true else match qeu h.Until with|some r19 =>k34 (!r19)|none =>none;bif v14 then k35 true else match qb9 h.Got 0 9999 with|some r16 =>k35 (!r16)|none =>none;bif !r11 then k36 true else match qeu h.Placed with|some r13 =>k36 (!r13)|none =>none)|none =>none;bif v6 then k39 true else match qb9 h.Item 0 9999 with|some r8 =>k39 (!r8)|none =>none;bif v then k40 true else match qb9 h.Record 1 9999 with|some r5 =>k40 (!r5)|none =>none;bif !r1 then k41 true else match qb9 h.Patron 1 9999 with|some r3 =>k41 (!r3)|none =>none)|none =>none
def qcm (a:Hold) (b:Hold):Option Bool:=
 let k (v:Bool):Option Bool:=some v;bif a.Patron==b.Patron then k (a.Record==b.Record) else k false
def zarp {γ0:Type} (p:γ0→Hold→Hold→Option Bool):((List Hold)×γ0×Int×Int×Int×Int×Int×Unit)→Option (((List Hold)×γ0×Int×Int×Int×Int×Int×Unit)⊕(((List Hold)×γ0×Int×Int×Unit)⊕(Bool×Unit))):=fun (l,g,i,v,v2,v3,v4,_)=>
 bif decide (v4<v3) then match getI l v4 with|some x =>(match getI l i with|some x5 =>(match p g x x5 with|some r =>bif r then some (.inr (.inr (true,()))) else some (.inl (l,g,i,v,v2,v3,wr .i64 (v4+1),()))|none =>none)|none =>none)|none =>none else some (.inr (.inl (l,g,v,v2,())))
def zaro {γ0:Type} (p:γ0→Hold→Hold→Option Bool):((List Hold)×γ0×Int×Int×Unit)→Option (((List Hold)×γ0×Int×Int×Unit)⊕((Unit)⊕(Bool×Unit))):=fun (l,g,v,v1,_)=>
 bif decide (v1<v) then match zae (zarp p) (l,g,v1,v,v1,v1,0,()) with|some (.inl (l6,g7,v8,v9,_)) =>some (.inl (l6,g7,v8,wr .i64 (v9+1),()))|some (.inr (v10,_)) =>some (.inr (.inr (v10,())))|none =>none else some (.inr (.inl (())))
def qd {γ0:Type} (p:γ0→Hold→Hold→Option Bool) (l:List Hold) (g:γ0):Option Bool:=
 match zae (zaro p) (l,g,(l.length:Int),0,()) with|some (.inl (_)) =>some false|some (.inr (v,_)) =>some v|none =>none
def qds (a:Hold) (b:Hold):Option Bool:=
 let k (v:Bool):Option Bool:=some v;bif a.Got==b.Got then k (decide (0<a.Got)) else k false
def zazq:((List Hold)×(List Hold)×Int×Int×Unit)→Option (((List Hold)×(List Hold)×Int×Int×Unit)⊕(((List Hold)×Unit)⊕(Int×Unit))):=fun (l,v,v1,v2,_)=>
 bif decide (v2<v1) then match getI v v2 with|some x =>let k (v4:Bool):Option (((List Hold)×(List Hold)×Int×Int×Unit)⊕(((List Hold)×Unit)⊕(Int×Unit))):=bif v4 then some (.inr (.inr (7,()))) else match qfd x with|some r5 =>bif !(r5==0) then some (.inr (.inr (r5,()))) else some (.inl (l,v,v1,wr .i64 (v2+1),()))|none =>none;bif decide (0<v2) then match getI l (wr .i64 (v2-1)) with|some x3 =>k (decide (x.ID≤x3.ID))|none =>none else k false|none =>none else some (.inr (.inl (l,())))
def qi (l:List Hold):Option Int:=
 bif decide (64<(l.length:Int)) then some 13 else match zae zazq (l,l,(l.length:Int),0,()) with|some (.inl (l6,_)) =>(match qd (fun g x0 x1=>qcm x0 x1) l6 ((),()) with|some r7 =>(bif r7 then some 7 else match qd (fun g x0 x1=>qds x0 x1) l6 ((),()) with|some r9 =>bif r9 then some 7 else some 0|none =>none)|none =>none)|some (.inr (v,_)) =>some v|none =>none
def qe7 (n:Int):Option Bool:=
 let k (v:Bool):Option Bool:=some v;bif decide (1≤n) then k (decide (n≤9999)) else k false
def qeg (n:Int):Option Bool:=
 let k (v:Bool):Option Bool:=some v;bif decide (0≤n) then k (decide (n≤109572)) else k false
def qcd (x:Charge):Option Int:=
 let k22 (v:Bool):Option Int:=let k21 (v2:Bool):Option Int:=let k20 (v5:Bool):Option Int:=let k19 (v8:Bool):Option Int:=let k18 (v17:Int):Option Int:=some v17;bif v8 then k18 2 else let k16 (v9:Bool):Option Int:=bif v9 then k18 1 else let k14 (v10:Bool):Option Int:=let k13 (v11:Bool):Option Int:=let k (v12:Bool):Option Int:=bif v12 then k18 2 else some 0;bif v11 then k true else k (decide (x.Amount≤x.Paid));bif v10 then k13 true else k13 (decide (x.Paid<0));bif decide (x.Amount<1) then k14 true else k14 (decide (100000000<x.Amount));bif decide (x.Kind<1) then k16 true else k16 (decide (3<x.Kind));bif v5 then k19 true else match qeg x.Day with|some r7 =>k19 (!r7)|none =>none;bif v2 then k20 true else match qe7 x.Item with|some r4 =>k20 (!r4)|none =>none;bif v then k21 true else match qe7 x.Patron with|some r1 =>k21 (!r1)|none =>none;bif decide (x.ID<1) then k22 true else k22 (decide (99999<x.ID))
def zai2:((List Charge)×(List Charge)×Int×Int×Unit)→Option (((List Charge)×(List Charge)×Int×Int×Unit)⊕((Unit)⊕(Int×Unit))):=fun (l,v,v1,v2,_)=>
 bif decide (v2<v1) then match getI v v2 with|some x =>let k (v4:Bool):Option (((List Charge)×(List Charge)×Int×Int×Unit)⊕((Unit)⊕(Int×Unit))):=bif v4 then some (.inr (.inr (7,()))) else match qcd x with|some r5 =>bif !(r5==0) then some (.inr (.inr (r5,()))) else some (.inl (l,v,v1,wr .i64 (v2+1),()))|none =>none;bif decide (0<v2) then match getI l (wr .i64 (v2-1)) with|some x3 =>k (decide (x.ID≤x3.ID))|none =>none else k false|none =>none else some (.inr (.inl (())))
def qbe (l:List Charge):Option Int:=
 bif decide (128<(l.length:Int)) then some 13 else match zae zai2 (l,l,(l.length:Int),0,()) with|some (.inl (_)) =>some 0|some (.inr (v,_)) =>some v|none =>none
def qb1 (n:Int) (least:Int) (most:Int):Option Bool:=
 let k (v:Bool):Option Bool:=some v;bif decide (least≤n) then k (decide (n≤most)) else k false
def qe5 (r:Rule):Option Bool:=
 match qb1 r.Patron 0 9 with|some r2 =>let k48 (v:Bool):Option Bool:=let k47 (v7:Bool):Option Bool:=let k46 (v10:Bool):Option Bool:=let k45 (v13:Bool):Option Bool:=let k44 (v16:Bool):Option Bool:=let k43 (v19:Bool):Option Bool:=let k42 (v22:Bool):Option Bool:=let k41 (v25:Bool):Option Bool:=let k40 (v28:Bool):Option Bool:=let k39 (v31:Bool):Option Bool:=let k38 (v34:Bool):Option Bool:=let k (v37:Bool):Option Bool:=some v37;bif v34 then match qb1 r.Rank 0 9 with|some r36 =>k r36|none =>none else k false;bif v31 then match qb1 r.Fixed 0 109572 with|some r33 =>k38 r33|none =>none else k38 false;bif v28 then match qb1 r.Recall 1 60 with|some r30 =>k39 r30|none =>none else k39 false;bif v25 then match qb1 r.Shelf 1 60 with|some r27 =>k40 r27|none =>none else k40 false;bif v22 then match qb1 r.Loans 0 99 with|some r24 =>k41 r24|none =>none else k41 false;bif v19 then match qb1 r.MaxFine 0 100000000 with|some r21 =>k42 r21|none =>none else k42 false;bif v16 then match qb1 r.Grace 0 30 with|some r18 =>k43 r18|none =>none else k43 false;bif v13 then match qb1 r.Fine 0 1000 with|some r15 =>k44 r15|none =>none else k44 false;bif v10 then match qb1 r.Renewals 0 10 with|some r12 =>k45 r12|none =>none else k45 false;bif v7 then match qb1 r.Days 0 365 with|some r9 =>k46 r9|none =>none else k46 false;bif v then match qb1 r.Branch 0 4 with|some r6 =>k47 r6|none =>none else k47 false;bif r2 then match qb1 r.Item 0 9 with|some r4 =>k48 r4|none =>none else k48 false|none =>none
def qcp (o:Rule) (v:Rule):Option Bool:=
 let k3 (v1:Bool):Option Bool:=let k (v2:Bool):Option Bool:=some v2;bif v1 then k (o.Branch==v.Branch) else k false;bif o.Patron==v.Patron then k3 (o.Item==v.Item) else k3 false
def zait {γ0:Type} (p:γ0→Rule→Option Bool):((List Rule)×γ0×Int×Int×Unit)→Option (((List Rule)×γ0×Int×Int×Unit)⊕((Unit)⊕(Int×Unit))):=fun (s,g,v,v1,_)=>
 bif decide (v1<v) then match getI s v1 with|some x =>(match p g x with|some r =>bif r then some (.inr (.inr (v1,()))) else some (.inl (s,g,v,wr .i64 (v1+1),()))|none =>none)|none =>none else some (.inr (.inl (())))
def qa7 {γ0:Type} (p:γ0→Rule→Option Bool) (s:List Rule) (g:γ0):Option Int:=
 match zae (zait p) (s,g,(s.length:Int),0,()) with|some (.inl (_)) =>some (-1)|some (.inr (v,_)) =>some v|none =>none
def qe2 {γ0:Type} (p:γ0→Rule→Option Bool) (s:List Rule) (g:γ0):Option Bool:=
 match qa7 p s g with|some r1 =>some (decide (0≤r1))|none =>none
def zaz1:((List Rule)×(List Rule)×Int×Int×Unit)→Option (((List Rule)×(List Rule)×Int×Int×Unit)⊕((Unit)⊕(Int×Unit))):=fun (l,v,v1,v2,_)=>
 bif decide (v2<v1) then match getI v v2 with|some x =>(match qe5 x with|some r3 =>bif !r3 then some (.inr (.inr (2,()))) else bif decide (0≤(0:Int))&&(decide ((0:Int)≤v2)&&decide (v2≤(l.length:Int))) then match qe2 (fun g x0=>qcp x0 g.2.1) ((l.take v2.toNat).drop (0:Int).toNat) ((),(x,())) with|some r5 =>bif r5 then some (.inr (.inr (7,()))) else some (.inl (l,v,v1,wr .i64 (v2+1),()))|none =>none else none|none =>none)|none =>none else some (.inr (.inl (())))
def qx (l:List Rule):Option Int:=
 bif decide (32<(l.length:Int)) then some 13 else match zae zaz1 (l,l,(l.length:Int),0,()) with|some (.inl (_)) =>some 0|some (.inr (v,_)) =>some v|none =>none
def qc6 (d:Int):Option Bool:=
 let k (v:Bool):Option Bool:=some v;bif decide (0≤d) then k (decide (d≤109572)) else k false
def qc2 (d:Int):Option Bool:=
 match qc6 d with|some r1 =>some (!r1)|none =>none
def zaiu {γ0:Type} (p:γ0→Int→Option Bool):((List Int)×γ0×Int×Int×Unit)→Option (((List Int)×γ0×Int×Int×Unit)⊕((Unit)⊕(Int×Unit))):=fun (s,g,v,v1,_)=>
 bif decide (v1<v) then match getI s v1 with|some x =>(match p g x with|some r =>bif r then some (.inr (.inr (v1,()))) else some (.inl (s,g,v,wr .i64 (v1+1),()))|none =>none)|none =>none else some (.inr (.inl (())))
def qa8 {γ0:Type} (p:γ0→Int→Option Bool) (s:List Int) (g:γ0):Option Int:=
 match zae (zaiu p) (s,g,(s.length:Int),0,()) with|some (.inl (_)) =>some (-1)|some (.inr (v,_)) =>some v|none =>none
def qe3 {γ0:Type} (p:γ0→Int→Option Bool) (s:List Int) (g:γ0):Option Bool:=
 match qa8 p s g with|some r1 =>some (decide (0≤r1))|none =>none
def zaz0:((List Int)×Int×Int×Calendar×Unit)→Option (((List Int)×Int×Int×Calendar×Unit)⊕((Unit)⊕(Int×Unit))):=fun (v,v4,v5,c,_)=>
 bif decide (v5<v4) then match getI v v5 with|some x =>let k (v7:Bool):Option (((List Int)×Int×Int×Calendar×Unit)⊕((Unit)⊕(Int×Unit))):=bif v7 then some (.inr (.inr (7,()))) else some (.inl (v,v4,wr .i64 (v5+1),c,()));bif decide (0<v5) then match getI c.Closed (wr .i64 (v5-1)) with|some x6 =>k (decide (x≤x6))|none =>none else k false|none =>none else some (.inr (.inl (())))
def qv (c:Calendar):Option Int:=
 let k9 (v:Bool):Option Int:=let k (v3:Int):Option Int:=some v3;bif v then k 1 else bif decide (64<(c.Closed.length:Int)) then k 13 else match qe3 (fun g x0=>qc2 x0) c.Closed ((),()) with|some r1 =>(bif r1 then k 2 else match zae zaz0 (c.Closed,(c.Closed.length:Int),0,c,()) with|some (.inl (_)) =>some 0|some (.inr (v8,_)) =>some v8|none =>none)|none =>none;bif decide (c.Week<0) then k9 true else k9 (decide (127≤c.Week))
def zazx:((V4 Calendar)×Int×Circ×Unit)→Option (((V4 Calendar)×Int×Circ×Unit)⊕((Circ×Unit)⊕(Bool×Unit))):=fun (v,v13,c,_)=>
 bif decide (v13<4) then let k (v14:Int) (v15:List Int):Option (((V4 Calendar)×Int×Circ×Unit)⊕((Circ×Unit)⊕(Bool×Unit))):=match qv (⟨v14,v15⟩:Calendar) with|some r16 =>bif !(r16==0) then some (.inr (.inr (false,()))) else some (.inl (v,wr .i64 (v13+1),c,()))|none =>none;bif v13==0 then k v.x0.Week v.x0.Closed else bif v13==1 then k v.x1.Week v.x1.Closed else bif v13==2 then k v.x2.Week v.x2.Closed else bif v13==3 then k v.x3.Week v.x3.Closed else none else some (.inr (.inl (c,())))
def zajl:((List Hold)×Int×Int×Circ×Unit)→Option (((List Hold)×Int×Int×Circ×Unit)⊕((Circ×Unit)⊕(Bool×Unit))):=fun (v,v23,v24,c,_)=>
 bif decide (v24<v23) then match getI v v24 with|some x =>bif decide (c.NextHold≤x.ID) then some (.inr (.inr (false,()))) else some (.inl (v,v23,wr .i64 (v24+1),c,()))|none =>none else some (.inr (.inl (c,())))
def zajm:((List Charge)×Int×Int×Circ×Unit)→Option (((List Charge)×Int×Int×Circ×Unit)⊕((Unit)⊕(Bool×Unit))):=fun (v,v26,v27,c,_)=>
 bif decide (v27<v26) then match getI v v27 with|some x =>bif decide (c.NextCharge≤x.ID) then some (.inr (.inr (false,()))) else some (.inl (v,v26,wr .i64 (v27+1),c,()))|none =>none else some (.inr (.inl (())))
def qr (c:Circ):Option Bool:=
 match qbb c.Patrons with|some r1 =>(let k34 (v:Bool):Option Bool:=let k33 (v6:Bool):Option Bool:=let k32 (v9:Bool):Option Bool:=let k31 (v12:Bool):Option Bool:=bif v12 then some false else match zae zazx (c.Cals,0,c,()) with|some (.inl (c17,_)) =>(match qca c17.NextHold 1 100000 with|some r19 =>(let k (v22:Bool):Option Bool:=bif v22 then some false else match zae zajl (c17.Holds,(c17.Holds.length:Int),0,c17,()) with|some (.inl (c25,_)) =>(match zae zajm (c25.Charges,(c25.Charges.length:Int),0,c25,()) with|some (.inl (_)) =>some true|some (.inr (v28,_)) =>some v28|none =>none)|some (.inr (v29,_)) =>some v29|none =>none;bif !r19 then k true else match qca c17.NextCharge 1 100000 with|some r21 =>k (!r21)|none =>none)|none =>none)|some (.inr (v30,_)) =>some v30|none =>none;bif v9 then k31 true else match qx c.Rules with|some r11 =>k31 (!(r11==0))|none =>none;bif v6 then k32 true else match qbe c.Charges with|some r8 =>k32 (!(r8==0))|none =>none;bif v then k33 true else match qi c.Holds with|some r5 =>k33 (!(r5==0))|none =>none;bif !(r1==0) then k34 true else match qbd c.Loans with|some r3 =>k34 (!(r3==0))|none =>none)|none =>none
def qc3 (p:Patron) (v:Int):Option Bool:=
 some (p.ID==v)
def zup {γ0:Type} (p:γ0→Patron→Option Bool):((List Patron)×γ0×Int×Int×Unit)→Option (((List Patron)×γ0×Int×Int×Unit)⊕((Unit)⊕(Int×Unit))):=fun (s,g,v,v1,_)=>
 bif decide (v1<v) then match getI s v1 with|some x =>(match p g x with|some r =>bif r then some (.inr (.inr (v1,()))) else some (.inl (s,g,v,wr .i64 (v1+1),()))|none =>none)|none =>none else some (.inr (.inl (())))
def qo {γ0:Type} (p:γ0→Patron→Option Bool) (s:List Patron) (g:γ0):Option Int:=
 match zae (zup p) (s,g,(s.length:Int),0,()) with|some (.inl (_)) =>some (-1)|some (.inr (v,_)) =>some v|none =>none
def qb2 (l:List Patron) (vid:Int):Option Int:=
 match qo (fun g x0=>qc3 x0 g.2.1) l ((),(vid,())) with|some r1 =>some r1|none =>none
def qcn (l:List Patron) (vid:Int):Option (Patron×Bool):=
 match qb2 l vid with|some r1 =>(bif decide (r1<0) then some ((⟨0,0,0,0,false,[]⟩:Patron),false) else match getI l r1 with|some x =>some (x,true)|none =>none)|none =>none
def qcg (vid:Int) (v:Circ):Option Bool:=
 match qcn v.Patrons vid with|some (r1,r2) =>some r2|none =>none
def zazn:((List Loan)×Int×Int×Circ×Unit)→Option (((List Loan)×Int×Int×Circ×Unit)⊕((Circ×Unit)⊕(Bool×Unit))):=fun (v,v1,v2,c,_)=>
 bif decide (v2<v1) then match getI v v2 with|some x =>(match qcg x.Patron c with|some r3 =>(let k (v6:Bool):Option (((List Loan)×Int×Int×Circ×Unit)⊕((Circ×Unit)⊕(Bool×Unit))):=bif v6 then some (.inr (.inr (false,()))) else some (.inl (v,v1,wr .i64 (v2+1),c,()));bif !r3 then k true else match qaa c x.Item with|some r5 =>k (decide (r5<0))|none =>none)|none =>none)|none =>none else some (.inr (.inl (c,())))
def zazo:((List Hold)×Int×Int×Circ×Unit)→Option (((List Hold)×Int×Int×Circ×Unit)⊕((Circ×Unit)⊕(Bool×Unit))):=fun (v,v8,v9,c,_)=>
 bif decide (v9<v8) then match getI v v9 with|some x =>(match qcg x.Patron c with|some r10 =>bif !r10 then some (.inr (.inr (false,()))) else some (.inl (v,v8,wr .i64 (v9+1),c,()))|none =>none)|none =>none else some (.inr (.inl (c,())))
def zajj:((List Charge)×Int×Int×Circ×Unit)→Option (((List Charge)×Int×Int×Circ×Unit)⊕((Unit)⊕(Bool×Unit))):=fun (v,v12,v13,c,_)=>
 bif decide (v13<v12) then match getI v v13 with|some x =>(match qcg x.Patron c with|some r14 =>bif !r14 then some (.inr (.inr (false,()))) else some (.inl (v,v12,wr .i64 (v13+1),c,()))|none =>none)|none =>none else some (.inr (.inl (())))
def qg (c:Circ):Option Bool:=
 match zae zazn (c.Loans,(c.Loans.length:Int),0,c,()) with|some (.inl (c7,_)) =>(match zae zazo (c7.Holds,(c7.Holds.length:Int),0,c7,()) with|some (.inl (c11,_)) =>(match zae zajj (c11.Charges,(c11.Charges.length:Int),0,c11,()) with|some (.inl (_)) =>some true|some (.inr (v,_)) =>some v|none =>none)|some (.inr (v15,_)) =>some v15|none =>none)|some (.inr (v16,_)) =>some v16|none =>none
def qab (item:Int):Option (Int×Unit):=
 some (item,())
def qce (n:Loan) (v:Int):Option Bool:=
 some (n.Item==v)
def zun {γ0:Type} (p:γ0→Loan→Option Bool):((List Loan)×γ0×Int×Int×Unit)→Option (((List Loan)×γ0×Int×Int×Unit)⊕((Unit)⊕(Int×Unit))):=fun (s,g,v,v1,_)=>
 bif decide (v1<v) then match getI s v1 with|some x =>(match p g x with|some r =>bif r then some (.inr (.inr (v1,()))) else some (.inl (s,g,v,wr .i64 (v1+1),()))|none =>none)|none =>none else some (.inr (.inl (())))
def qk {γ0:Type} (p:γ0→Loan→Option Bool) (s:List Loan) (g:γ0):Option Int:=
 match zae (zun p) (s,g,(s.length:Int),0,()) with|some (.inl (_)) =>some (-1)|some (.inr (v,_)) =>some v|none =>none
def qbj {γ0:Type} (p:γ0→Loan→Option Bool) (l:List Loan) (g:γ0):Option (Loan×Int):=
 match qk p l g with|some r1 =>(bif decide (r1<0) then some ((⟨0,0,0,0,0,false⟩:Loan),(-1)) else match getI l r1 with|some x =>some (x,r1)|none =>none)|none =>none
def qcz (l:List Loan) (item:Int):Option (Loan×Bool):=
 match qab item with|some r1 =>(match qbj (fun g x0=>qce x0 g.2.1) l ((),(r1.1,())) with|some (r3,r4) =>some (r3,decide (0≤r4))|none =>none)|none =>none
def zai5:((List Item)×Int×Int×Circ×Unit)→Option (((List Item)×Int×Int×Circ×Unit)⊕((Unit)⊕(Bool×Unit))):=fun (v,v1,v2,c,_)=>
 bif decide (v2<v1) then match getI v v2 with|some x =>(match qcz c.Loans x.ID with|some (r3,r4) =>let k10 (v5:Bool):Option (((List Item)×Int×Int×Circ×Unit)⊕((Unit)⊕(Bool×Unit))):=let k9 (v6:Bool):Option (((List Item)×Int×Int×Circ×Unit)⊕((Unit)⊕(Bool×Unit))):=let k (v8:Bool):Option (((List Item)×Int×Int×Circ×Unit)⊕((Unit)⊕(Bool×Unit))):=bif v8 then some (.inr (.inr (false,()))) else some (.inl (v,v1,wr .i64 (v2+1),c,()));bif !(r4==v6) then k true else bif r4 then k (!(r3.Patron==x.Custody.Who)) else k false;bif v5 then k9 true else k9 (x.Custody.State==10);bif x.Custody.State==4 then k10 true else k10 (x.Custody.State==9)|none =>none)|none =>none else some (.inr (.inl (())))
def qbp (c:Circ):Option Bool:=
 match zae zai5 (c.Items,(c.Items.length:Int),0,c,()) with|some (.inl (_)) =>some true|some (.inr (v,_)) =>some v|none =>none
def qcw (h:Hold) (v:Int):Option Bool:=
 some (h.Got==v)
def zl1 {γ0:Type} (p:γ0→Hold→Option Bool):((List Hold)×γ0×Int×Int×Unit)→Option (((List Hold)×γ0×Int×Int×Unit)⊕((Unit)⊕(Int×Unit))):=fun (s,g,v,v1,_)=>
 bif decide (v1<v) then match getI s v1 with|some x =>(match p g x with|some r =>bif r then some (.inr (.inr (v1,()))) else some (.inl (s,g,v,wr .i64 (v1+1),()))|none =>none)|none =>none else some (.inr (.inl (())))
def qb {γ0:Type} (p:γ0→Hold→Option Bool) (s:List Hold) (g:γ0):Option Int:=
 match zae (zl1 p) (s,g,(s.length:Int),0,()) with|some (.inl (_)) =>some (-1)|some (.inr (v,_)) =>some v|none =>none
def qbc (c:Circ) (item:Int):Option (Hold×Bool):=
 match qb (fun g x0=>qcw x0 g.2.1) c.Holds ((),(item,())) with|some r1 =>(bif decide (r1<0) then some ((⟨0,0,0,0,0,0,0,0,0,0,0⟩:Hold),false) else match getI c.Holds r1 with|some x =>some (x,true)|none =>none)|none =>none
def zaiv:((List Hold)×Int×Int×Circ×Unit)→Option (((List Hold)×Int×Int×Circ×Unit)⊕((Circ×Unit)⊕(Bool×Unit))):=fun (v,v1,v2,c,_)=>
 bif decide (v2<v1) then match getI v v2 with|some x =>(bif x.State==1 then some (.inl (v,v1,wr .i64 (v2+1),c,())) else match qaa c x.Got with|some r3 =>(let k9 (v5:Bool):Option (((List Hold)×Int×Int×Circ×Unit)⊕((Circ×Unit)⊕(Bool×Unit))):=bif v5 then some (.inr (.inr (false,()))) else match getI c.Items r3 with|some x6 =>let k (want:Int) (want7:Int) (want8:Int):Option (((List Hold)×Int×Int×Circ×Unit)⊕((Circ×Unit)⊕(Bool×Unit))):=bif !(zba x6.Custody (⟨want,want7,x.Patron,want8⟩:Custody)) then some (.inr (.inr (false,()))) else some (.inl (v,v1,wr .i64 (v2+1),c,()));bif x.State==2 then k 6 x6.Custody.Branch x.Pickup else k 5 x.Pickup 0|none =>none;bif decide (r3<0) then k9 true else match getI c.Items r3 with|some x4 =>k9 (!(x4.Record==x.Record))|none =>none)|none =>none)|none =>none else some (.inr (.inl (c,())))
def z6u:((List Item)×Int×Int×Circ×Unit)→Option (((List Item)×Int×Int×Circ×Unit)⊕((Unit)⊕(Bool×Unit))):=fun (v,v11,v12,c,_)=>
 bif decide (v12<v11) then match getI v v12 with|some x =>(match qbc c x.ID with|some (r13,r14) =>let k (v16:Bool):Option (((List Item)×Int×Int×Circ×Unit)⊕((Unit)⊕(Bool×Unit))):=bif v16 then some (.inr (.inr (false,()))) else some (.inl (v,v11,wr .i64 (v12+1),c,()));bif x.Custody.State==5 then bif !r14 then k true else k (!(r13.State==3)) else k false|none =>none)|none =>none else some (.inr (.inl (())))
def qag (c:Circ):Option Bool:=
 match zae zaiv (c.Holds,(c.Holds.length:Int),0,c,()) with|some (.inl (c10,_)) =>(match zae z6u (c10.Items,(c10.Items.length:Int),0,c10,()) with|some (.inl (_)) =>some true|some (.inr (v,_)) =>some v|none =>none)|some (.inr (v17,_)) =>some v17|none =>none
def qew (c:Circ):Option Bool:=
 match qca c.Today 0 109572 with|some r1 =>let k19 (v:Bool):Option Bool:=let k18 (v6:Bool):Option Bool:=let k17 (v9:Bool):Option Bool:=let k16 (v12:Bool):Option Bool:=let k (v15:Bool):Option Bool:=some v15;bif v12 then match qag c with|some r14 =>k r14|none =>none else k false;bif v9 then match qbp c with|some r11 =>k16 r11|none =>none else k16 false;bif v6 then match qg c with|some r8 =>k17 r8|none =>none else k17 false;bif v then match qr c with|some r5 =>k18 r5|none =>none else k18 false;bif r1 then match qs c with|some r3 =>k19 r3|none =>none else k19 false|none =>none
def qa2 (c:Circ) (x:Item):Option (Circ×Int):=
 match qaa c x.ID with|some r1 =>(bif decide (0≤r1) then some ((⟨0,[],[],[],[],[],[],⟨⟨0,[]⟩,⟨0,[]⟩,⟨0,[]⟩,⟨0,[]⟩⟩,[],0,0,false⟩:Circ),7) else bif decide (64≤(c.Items.length:Int)) then some ((⟨0,[],[],[],[],[],[],⟨⟨0,[]⟩,⟨0,[]⟩,⟨0,[]⟩,⟨0,[]⟩⟩,[],0,0,false⟩:Circ),13) else match qea x.Branch with|some r3 =>(match qe (fun g x0=>qc5 x0 g.2.1) c.Items ((),(x,())) with|some r5 =>let k (i:Int):Option (Circ×Int):=match qco c.Items with|some l =>(match qd5 l i ([(⟨x.ID,x.Record,x.Branch,x.Kind,x.Price,x.Call,r3⟩:Item)]) with|some l8 =>(match qew (⟨c.Today,l8,c.Patrons,c.Loans,c.Holds,c.Charges,c.Rules,c.Cals,c.Moves,c.NextHold,c.NextCharge,c.Local⟩:Circ) with|some r10 =>bif !r10 then some ((⟨0,[],[],[],[],[],[],⟨⟨0,[]⟩,⟨0,[]⟩,⟨0,[]⟩,⟨0,[]⟩⟩,[],0,0,false⟩:Circ),1) else some ((⟨c.Today,l8,c.Patrons,c.Loans,c.Holds,c.Charges,c.Rules,c.Cals,c.Moves,c.NextHold,c.NextCharge,c.Local⟩:Circ),0)|none =>none)|none =>none)|none =>none;bif decide (r5<0) then k (c.Items.length:Int) else k r5|none =>none)|none =>none)|none =>none
def qc8 (x:Patron) (v:Patron):Option Bool:=
 some (decide (v.ID<x.ID))
def qd3 (s:List Patron):Option (List Patron):=
 bif decide (([]:List Patron).length+s.length≤LIM) then some (([])++s) else none
def qd8 (l:List Patron):Option ((List Patron)×Int):=
 match qbb l with|some r1 =>bif !(r1==0) then some ([],r1) else some (l,0)|none =>none
def qb4 (l:List Patron) (p:Patron):Option ((List Patron)×Int):=
 match qb2 l p.ID with|some r1 =>(bif decide (0≤r1) then some ([],7) else match qo (fun g x0=>qc8 x0 g.2.1) l ((),(p,())) with|some r3 =>let k (i:Int):Option ((List Patron)×Int):=match qd3 l with|some l5 =>(match qd2 l5 i ([p]) with|some l7 =>(match qd8 l7 with|some (r9,r10) =>some (r9,r10)|none =>none)|none =>none)|none =>none;bif decide (r3<0) then k (l.length:Int) else k r3|none =>none)|none =>none
def qdr (c:Circ) (p:Patron):Option (Circ×Int):=
 match qb4 c.Patrons p with|some (r1,r2) =>bif !(r2==0) then some ((⟨0,[],[],[],[],[],[],⟨⟨0,[]⟩,⟨0,[]⟩,⟨0,[]⟩,⟨0,[]⟩⟩,[],0,0,false⟩:Circ),r2) else some ((⟨c.Today,c.Items,r1,c.Loans,c.Holds,c.Charges,c.Rules,c.Cals,c.Moves,c.NextHold,c.NextCharge,c.Local⟩:Circ),0)|none =>none
def qed:Option Circ:=
 match qeh 100 with|some r1 =>(match qa2 (⟨r1.Today,r1.Items,r1.Patrons,r1.Loans,r1.Holds,r1.Charges,[(⟨0,0,0,14,1,10,0,500,2,5,7,0,0⟩:Rule)],r1.Cals,r1.Moves,r1.NextHold,r1.NextCharge,r1.Local⟩:Circ) (⟨1,5,1,1,2000,[],⟨0,0,0,0⟩⟩:Item) with|some (r3,r4) =>(match qdr r3 (⟨7,1,1,5000,false,[65,110,110]⟩:Patron) with|some (r6,r7) =>(match qdr r6 (⟨8,1,1,5000,false,[66,111,98]⟩:Patron) with|some (r9,r10) =>some r9|none =>none)|none =>none)|none =>none)|none =>none
def qcb (c:Circ):Option Circ_desk:=
 some (⟨c,0⟩:Circ_desk)
def qt (e:Int) (d:Circ_desk):Option (Unit×Circ_desk):=
 let k (v:Int):Option (Unit×Circ_desk):=some ((),(⟨d.c,v⟩:Circ_desk));bif d.err==0 then k e else k d.err
def qdp (vid:Int) (d:Circ_desk):Option (Int×Circ_desk):=
 match qaa d.c vid with|some r1 =>let k (v3:Circ_desk):Option (Int×Circ_desk):=some (r1,v3);bif decide (r1<0) then match qt 9 d with|some (_,v) =>k v|none =>none else k d|none =>none
def qdj (s:List Move):Option (List Move):=
 bif decide (([]:List Move).length+s.length≤LIM) then some (([])++s) else none
def qbg (i:Int) (kind:Int) (branch:Int) (who:Int) (d:Circ_desk):Option (Unit×Circ_desk):=
 bif !(d.err==0) then some ((),d) else match getI d.c.Items i with|some x =>(match getI d.c.Items i with|some x1 =>(match qeb x1.Custody (⟨d.c.Today,x.ID,kind,branch,who⟩:Move) with|some (r2,r3) =>let k10 (v:Bool):Option (Unit×Circ_desk):=let k (e:Int):Option (Unit×Circ_desk):=bif !(e==0) then match qt e d with|some (_,v5) =>some ((),v5)|none =>none else match qco d.c.Items with|some l =>(match getI l i with|some _ =>(match l[i.toNat]? with|some x7 =>(match qdj d.c.Moves with|some l9 =>bif decide (l9.length+([(⟨d.c.Today,x.ID,kind,branch,who⟩:Move)]:List Move).length≤LIM) then some ((),(⟨⟨d.c.Today,l.set i.toNat (⟨x7.ID,x7.Record,x7.Branch,x7.Kind,x7.Price,x7.Call,r2⟩:Item),d.c.Patrons,d.c.Loans,d.c.Holds,d.c.Charges,d.c.Rules,d.c.Cals,l9++([(⟨d.c.Today,x.ID,kind,branch,who⟩:Move)]:List Move),d.c.NextHold,d.c.NextCharge,d.c.Local⟩,d.err⟩:Circ_desk)) else none|none =>none)|none =>none)|none =>none)|none =>none;bif v then k 13 else k r3;bif r3==0 then k10 (decide (2000≤(d.c.Moves.length:Int))) else k10 false|none =>none)|none =>none)|none =>none
def qb6 (a:Hold) (b:Hold):Option Int:=
 some (wr .i64 (b.Rank-a.Rank))
def zazw {γ0:Type} (p:γ0→Hold→Hold→Option Int):(Int×Int×γ0×Int×Int×(List Hold)×Unit)→Option ((Int×Int×γ0×Int×Int×(List Hold)×Unit)⊕((Int×Int×γ0×Int×(List Hold)×Unit))):=fun (a,b,g,i,j,l,_)=>
 let k (v:Bool):Option ((Int×Int×γ0×Int×Int×(List Hold)×Unit)⊕((Int×Int×γ0×Int×(List Hold)×Unit))):=bif v then match getI l (wr .i64 (j-1)) with|some _ =>(match l[(wr .i64 (j-1)).toNat]? with|some x2 =>(match getI l j with|some _ =>(match l[j.toNat]? with|some x3 =>(match getI l j with|some _ =>(match l[j.toNat]? with|some x4 =>(match getI (l.set j.toNat x2) (wr .i64 (j-1)) with|some _ =>(match (l.set j.toNat x2)[(wr .i64 (j-1)).toNat]? with|some x5 =>some (.inl (a,b,g,i,wr .i64 (j-1),(l.set j.toNat x2).set (wr .i64 (j-1)).toNat x3,()))|none =>none)|none =>none)|none =>none)|none =>none)|none =>none)|none =>none)|none =>none)|none =>none else some (.inr ((a,b,g,i,l,())));bif decide (a<j) then match getI l j with|some _ =>(match l[j.toNat]? with|some x =>(match getI l (wr .i64 (j-1)) with|some _ =>(match l[(wr .i64 (j-1)).toNat]? with|some x1 =>(match p g x x1 with|some r =>k (decide (r<0))|none =>none)|none =>none)|none =>none)|none =>none)|none =>none else k false
def zazv {γ0:Type} (p:γ0→Hold→Hold→Option Int):(Int×Int×γ0×Int×(List Hold)×Unit)→Option ((Int×Int×γ0×Int×(List Hold)×Unit)⊕(((List Hold)×Unit))):=fun (a,b,g,i,l,_)=>
 bif decide (i<b) then match zae (zazw p) (a,b,g,i,i,l,()) with|some ((a6,b7,g8,i9,l10,_)) =>some (.inl (a6,b7,g8,wr .i64 (i9+1),l10,()))|none =>none else some (.inr ((l,())))
def qq {γ0:Type} (p:γ0→Hold→Hold→Option Int) (data:List Hold) (a:Int) (b:Int) (g:γ0):Option (List Hold):=
 match zae (zazv p) (a,b,g,wr .i64 (a+1),data,()) with|some ((l,_)) =>some l|none =>none
def zazs {γ0:Type} (p:γ0→Hold→Hold→Option Int):(Int×γ0×Int×Int×Int×(List Hold)×Unit)→Option ((Int×γ0×Int×Int×Int×(List Hold)×Unit)⊕((Int×γ0×Int×Int×(List Hold)×Unit))):=fun (n,g,blockSize,a,b,l,_)=>
 bif decide (b≤n) then match qq p l a b g with|some l1 =>some (.inl (n,g,blockSize,b,wr .i64 (b+blockSize),l1,()))|none =>none else some (.inr ((n,g,blockSize,a,l,())))
def zazu {γ0:Type} (p:γ0→Hold→Hold→Option Int):(Int×γ0×Int×Int×Int×(List Hold)×Unit)→Option ((Int×γ0×Int×Int×Int×(List Hold)×Unit)⊕((Int×γ0×Int×Int×(List Hold)×Unit))):=fun (n,g,blockSize,a,b,l,_)=>
 bif decide (b≤n) then match qc0 p l a (wr .i64 (a+blockSize)) b g with|some l5 =>some (.inl (n,g,blockSize,b,wr .i64 (b+(wr .i64 (2*blockSize))),l5,()))|none =>none else some (.inr ((n,g,blockSize,a,l,())))
def zazt {γ0:Type} (p:γ0→Hold→Hold→Option Int):(Int×γ0×Int×(List Hold)×Unit)→Option ((Int×γ0×Int×(List Hold)×Unit)⊕(((List Hold)×Unit))):=fun (n,g,blockSize,l,_)=>
 bif decide (blockSize<n) then match zae (zazu p) (n,g,blockSize,0,wr .i64 (2*blockSize),l,()) with|some ((n6,g7,blockSize8,a,l9,_)) =>let k (l11:List Hold):Option ((Int×γ0×Int×(List Hold)×Unit)⊕(((List Hold)×Unit))):=some (.inl (n6,g7,wr .i64 (blockSize8*2),l11,()));bif decide (wr .i64 (a+blockSize8)<n6) then match qc0 p l9 a (wr .i64 (a+blockSize8)) n6 g7 with|some l10 =>k l10|none =>none else k l9|none =>none else some (.inr ((l,())))
def qp {γ0:Type} (p:γ0→Hold→Hold→Option Int) (data:List Hold) (n:Int) (g:γ0):Option (List Hold):=
 match zae (zazs p) (n,g,20,0,20,data,()) with|some ((n2,g3,blockSize,a,l,_)) =>(match qq p l a n2 g3 with|some l4 =>(match zae (zazt p) (n2,g3,blockSize,l4,()) with|some ((l12,_)) =>some l12|none =>none)|none =>none)|none =>none
def qd1 {γ0:Type} (p:γ0→Hold→Hold→Option Int) (x:List Hold) (g:γ0):Option (List Hold):=
 match qp p x (x.length:Int) g with|some l =>some l|none =>none
def zazp:(Int×Int×(List Hold)×Int×Int×(List Hold)×Unit)→Option ((Int×Int×(List Hold)×Int×Int×(List Hold)×Unit)⊕(((List Hold)×Unit))):=fun (record,day,v,v1,v2,l,_)=>
 bif decide (v2<v1) then match getI v v2 with|some x =>let k5 (v3:Bool):Option ((Int×Int×(List Hold)×Int×Int×(List Hold)×Unit)⊕(((List Hold)×Unit))):=let k (v4:Bool):Option ((Int×Int×(List Hold)×Int×Int×(List Hold)×Unit)⊕(((List Hold)×Unit))):=bif v4 then bif decide (l.length+([x]:List Hold).length≤LIM) then some (.inl (record,day,v,v1,wr .i64 (v2+1),l++([x]:List Hold),())) else none else some (.inl (record,day,v,v1,wr .i64 (v2+1),l,()));bif v3 then k (decide (x.Asleep≤day)) else k false;bif x.Record==record then k5 (x.State==1) else k5 false|none =>none else some (.inr ((l,())))
def qh (l:List Hold) (record:Int) (day:Int):Option (List Hold):=
 match zae zazp (record,day,l,(l.length:Int),0,([]:List Hold),()) with|some ((l6,_)) =>(match qd1 (fun g x0 x1=>qb6 x0 x1) l6 ((),()) with|some l7 =>some l7|none =>none)|none =>none
def zai3:(Int×Bool×Int×(List Hold)×Int×Int×Item×Unit)→Option ((Int×Bool×Int×(List Hold)×Int×Int×Item×Unit)⊕((Int×Unit)⊕(Int×Unit))):=fun (branch,vlocal,first,v,v2,v3,x,_)=>
 bif decide (v3<v2) then match getI v v3 with|some x4 =>let k9 (v5:Bool):Option ((Int×Bool×Int×(List Hold)×Int×Int×Item×Unit)⊕((Int×Unit)⊕(Int×Unit))):=bif v5 then some (.inl (branch,vlocal,first,v,v2,wr .i64 (v3+1),x,())) else let k8 (v6:Bool):Option ((Int×Bool×Int×(List Hold)×Int×Int×Item×Unit)⊕((Int×Unit)⊕(Int×Unit))):=bif v6 then some (.inr (.inr (x4.ID,()))) else let k (first7:Int):Option ((Int×Bool×Int×(List Hold)×Int×Int×Item×Unit)⊕((Int×Unit)⊕(Int×Unit))):=some (.inl (branch,vlocal,first7,v,v2,wr .i64 (v3+1),x,()));bif first==0 then k x4.ID else k first;bif !vlocal then k8 true else k8 (x4.Pickup==branch);bif !(x4.Item==0) then k9 (!(x4.Item==x.ID)) else k9 false|none =>none else some (.inr (.inl (first,())))
def qbi (l:List Hold) (x:Item) (branch:Int) (day:Int) (vlocal:Bool):Option Int:=
 match qh l x.Record day with|some r1 =>(match zae zai3 (branch,vlocal,0,r1,(r1.length:Int),0,x,()) with|some (.inl (first,_)) =>some first|some (.inr (v,_)) =>some v|none =>none)|none =>none
def qdg (c:Circ) (x:Item):Option Int:=
 match qbi c.Holds x x.Custody.Branch c.Today c.Local with|some r1 =>some r1|none =>none
def qee (h:Hold) (v:Int):Option Bool:=
 some (h.ID==v)
def qbf (l:List Hold) (vid:Int):Option Int:=
 match qb (fun g x0=>qee x0 g.2.1) l ((),(vid,())) with|some r1 =>some r1|none =>none
def qd0 (l:List Hold) (vid:Int):Option (Hold×Bool):=
 match qbf l vid with|some r1 =>bif decide (0≤r1) then match getI l r1 with|some x =>some (x,true)|none =>none else some ((⟨0,0,0,0,0,0,0,0,0,0,0⟩:Hold),false)|none =>none
def qdq (i:Int) (kind:Int) (d:Circ_desk):Option (Unit×Circ_desk):=
 let k (v1:Circ_desk):Option (Unit×Circ_desk):=some ((),v1);bif d.err==0 then match getI d.c.Items i with|some x =>(match qbg i kind x.Custody.Branch 0 d with|some (_,v) =>k v|none =>none)|none =>none else k d
def qem (key:Int) (n:Int):Option Bool:=
 let k (v:Bool):Option Bool:=some v;bif key==0 then k true else k (key==n)
def qb7 (r:Rule) (patron:Int) (item:Int) (branch:Int):Option Bool:=
 match qem r.Patron patron with|some r2 =>let k8 (v:Bool):Option Bool:=let k (v7:Bool):Option Bool:=some v7;bif v then match qem r.Branch branch with|some r6 =>k r6|none =>none else k false;bif r2 then match qem r.Item item with|some r4 =>k8 r4|none =>none else k8 false|none =>none
def zh0:(Int×Int×Int×(List Int)×Unit)→Option ((Int×Int×Int×(List Int)×Unit)⊕((Int×Unit))):=fun (n,v,v1,l,_)=>
 bif decide (v1<v) then match getI l v1 with|some _ =>(match l[v1.toNat]? with|some x =>let k (n2:Int):Option ((Int×Int×Int×(List Int)×Unit)⊕((Int×Unit))):=some (.inl (n2,v,wr .i64 (v1+1),l,()));bif !(x==0) then k (wr .i64 ((wr .i64 (n*2))+1)) else k (wr .i64 (n*2))|none =>none)|none =>none else some (.inr ((n,())))
def qbh (r:Rule):Option Int:=
 match zae zh0 (0,(([r.Patron,r.Item,r.Branch]).length:Int),0,[r.Patron,r.Item,r.Branch],()) with|some ((n,_)) =>some n|none =>none
def zkl:((List Rule)×Int×Int×Int×Int×(List Rule)×Int×Int×Unit)→Option (((List Rule)×Int×Int×Int×Int×(List Rule)×Int×Int×Unit)⊕((Int×Unit))):=fun (l,patron,item,branch,vat,v,v1,v2,_)=>
 bif decide (v2<v1) then match getI v v2 with|some x =>(match qb7 x patron item branch with|some r3 =>let k12 (v10:Bool):Option (((List Rule)×Int×Int×Int×Int×(List Rule)×Int×Int×Unit)⊕((Int×Unit))):=let k (vat11:Int):Option (((List Rule)×Int×Int×Int×Int×(List Rule)×Int×Int×Unit)⊕((Int×Unit))):=some (.inl (l,patron,item,branch,vat11,v,v1,wr .i64 (v2+1),()));bif v10 then k v2 else k vat;bif r3 then bif decide (vat<0) then k12 true else match qbh x with|some r5 =>(match getI l vat with|some x6 =>(match qbh x6 with|some r8 =>k12 (decide (r8<r5))|none =>none)|none =>none)|none =>none else k12 false|none =>none)|none =>none else some (.inr ((vat,())))
def qat (l:List Rule) (patron:Int) (item:Int) (branch:Int):Option Int:=
 match zae zkl (l,patron,item,branch,(-1),l,(l.length:Int),0,()) with|some ((vat,_)) =>some vat|none =>none
def qdb (l:List Rule) (patron:Int) (item:Int) (branch:Int):Option (Rule×Bool):=
 match qat l patron item branch with|some r1 =>(bif decide (r1<0) then some ((⟨0,0,0,0,0,0,0,0,0,0,0,0,0⟩:Rule),false) else match getI l r1 with|some x =>some (x,true)|none =>none)|none =>none
def qb8 (c:Circ) (vid:Int) (x:Item):Option (Rule×Bool):=
 match qcn c.Patrons vid with|some (r1,r2) =>(bif !r2 then some ((⟨0,0,0,0,0,0,0,0,0,0,0,0,0⟩:Rule),false) else match qdb c.Rules r1.Kind x.Kind x.Branch with|some (r4,r5) =>some (r4,r5)|none =>none)|none =>none
def qcj (c:Circ) (branch:Int):Option Calendar:=
 match qca branch 1 4 with|some r1 =>bif !r1 then some (⟨0,[]⟩:Calendar) else let k (v:Int) (v2:List Int):Option Calendar:=some (⟨v,v2⟩:Calendar);bif (wr .i64 (branch-1))==0 then k c.Cals.x0.Week c.Cals.x0.Closed else bif (wr .i64 (branch-1))==1 then k c.Cals.x1.Week c.Cals.x1.Closed else bif (wr .i64 (branch-1))==2 then k c.Cals.x2.Week c.Cals.x2.Closed else bif (wr .i64 (branch-1))==3 then k c.Cals.x3.Week c.Cals.x3.Closed else none|none =>none
def qe6 (x:Int):Option Bool:=
 some (!(x==x))
def qe8 (x:Int) (y:Int):Option Bool:=
 match qe6 x with|some r1 =>let k5 (v:Bool):Option Bool:=let k (v4:Bool):Option Bool:=some v4;bif v then k true else k (decide (x<y));bif r1 then match qe6 y with|some r3 =>k5 (!r3)|none =>none else k5 false|none =>none
def qej (x:Int):Option Bool:=
 some (!(x==x))
def znd:((List Int)×Int×Int×Int×Int×Unit)→Option (((List Int)×Int×Int×Int×Int×Unit)⊕(((List Int)×Int×Int×Int×Unit))):=fun (x,target,n,i,j,_)=>
 bif decide (i<j) then match getI x (wr .i64 ((wr .u64 (wr .i64 (i+j))).fdiv (2 ^ 1))) with|some x1 =>(match qe8 x1 target with|some r2 =>let k (i3:Int) (j4:Int):Option (((List Int)×Int×Int×Int×Int×Unit)⊕(((List Int)×Int×Int×Int×Unit))):=some (.inl (x,target,n,i3,j4,()));bif r2 then k (wr .i64 ((wr .i64 ((wr .u64 (wr .i64 (i+j))).fdiv (2 ^ 1)))+1)) j else k i (wr .i64 ((wr .u64 (wr .i64 (i+j))).fdiv (2 ^ 1)))|none =>none)|none =>none else some (.inr ((x,target,n,i,())))
def qay (x:List Int) (target:Int):Option (Int×Bool):=
 match zae znd (x,target,(x.length:Int),0,(x.length:Int),()) with|some ((x5,target6,n,i,_)) =>let k (v13:Bool):Option (Int×Bool):=some (i,v13);bif decide (i<n) then match getI x5 i with|some x7 =>(bif x7==target6 then k true else match getI x5 i with|some x8 =>(match qej x8 with|some r9 =>bif r9 then match qej target6 with|some r11 =>k r11|none =>none else k false|none =>none)|none =>none)|none =>none else k false|none =>none
def z6x:(Int×Calendar×(V7 Bool)×(V7 Bool)×Unit)→Option ((Int×Calendar×(V7 Bool)×(V7 Bool)×Unit)⊕(((V7 Bool)×(V7 Bool)×Unit))):=fun (v,c,v1,vopen,_)=>
 bif decide (v<7) then bif decide (v<0) then none else bif v==0 then some (.inl (wr .i64 (v+1),c,v1,(⟨(wr .i64 (BitVec.ofInt 64 (c.Week.fdiv (2 ^ (min v.toNat 64))) &&& BitVec.ofInt 64 1).toNat)==0,vopen.x1,vopen.x2,vopen.x3,vopen.x4,vopen.x5,vopen.x6⟩:V7 Bool),())) else bif v==1 then some (.inl (wr .i64 (v+1),c,v1,(⟨vopen.x0,(wr .i64 (BitVec.ofInt 64 (c.Week.fdiv (2 ^ (min v.toNat 64))) &&& BitVec.ofInt 64 1).toNat)==0,vopen.x2,vopen.x3,vopen.x4,vopen.x5,vopen.x6⟩:V7 Bool),())) else bif v==2 then some (.inl (wr .i64 (v+1),c,v1,(⟨vopen.x0,vopen.x1,(wr .i64 (BitVec.ofInt 64 (c.Week.fdiv (2 ^ (min v.toNat 64))) &&& BitVec.ofInt 64 1).toNat)==0,vopen.x3,vopen.x4,vopen.x5,vopen.x6⟩:V7 Bool),())) else bif v==3 then some (.inl (wr .i64 (v+1),c,v1,(⟨vopen.x0,vopen.x1,vopen.x2,(wr .i64 (BitVec.ofInt 64 (c.Week.fdiv (2 ^ (min v.toNat 64))) &&& BitVec.ofInt 64 1).toNat)==0,vopen.x4,vopen.x5,vopen.x6⟩:V7 Bool),())) else bif v==4 then some (.inl (wr .i64 (v+1),c,v1,(⟨vopen.x0,vopen.x1,vopen.x2,vopen.x3,(wr .i64 (BitVec.ofInt 64 (c.Week.fdiv (2 ^ (min v.toNat 64))) &&& BitVec.ofInt 64 1).toNat)==0,vopen.x5,vopen.x6⟩:V7 Bool),())) else bif v==5 then some (.inl (wr .i64 (v+1),c,v1,(⟨vopen.x0,vopen.x1,vopen.x2,vopen.x3,vopen.x4,(wr .i64 (BitVec.ofInt 64 (c.Week.fdiv (2 ^ (min v.toNat 64))) &&& BitVec.ofInt 64 1).toNat)==0,vopen.x6⟩:V7 Bool),())) else bif v==6 then some (.inl (wr .i64 (v+1),c,v1,(⟨vopen.x0,vopen.x1,vopen.x2,vopen.x3,vopen.x4,vopen.x5,(wr .i64 (BitVec.ofInt 64 (c.Week.fdiv (2 ^ (min v.toNat 64))) &&& BitVec.ofInt 64 1).toNat)==0⟩:V7 Bool),())) else none else some (.inr ((v1,vopen,())))
def qas (c:Calendar):Option (V7 Bool):=
 match zae z6x (0,c,(⟨false,false,false,false,false,false,false⟩:V7 Bool),(⟨false,false,false,false,false,false,false⟩:V7 Bool),()) with|some ((v,vopen,_)) =>some vopen|none =>none
def qfu (day:Int):Option Bool:=
 let k (v:Bool):Option Bool:=some v;bif decide (0≤day) then k (decide (day≤109572)) else k false
def qc9 (day:Int):Option Int:=
 match qfu day with|some r1 =>bif !r1 then some (-1) else some (day.tmod 7)|none =>none
def qcc (c:Calendar) (day:Int):Option Bool:=
 match qc6 day with|some r1 =>(bif !r1 then some false else match qay c.Closed day with|some (r3,r4) =>let k (v9:Bool):Option Bool:=some v9;bif !r4 then match qas c with|some r6 =>(match qc9 day with|some r8 =>bif r8==0 then k r6.x0 else bif r8==1 then k r6.x1 else bif r8==2 then k r6.x2 else bif r8==3 then k r6.x3 else bif r8==4 then k r6.x4 else bif r8==5 then k r6.x5 else bif r8==6 then k r6.x6 else none|none =>none)|none =>none else k false|none =>none)|none =>none
def zsc:(Int×Calendar×Unit)→Option ((Int×Calendar×Unit)⊕((Unit)⊕(Int×Int×Unit))):=fun (d,c,_)=>
 bif decide (d≤109572) then match qcc c d with|some r1 =>bif r1 then some (.inr (.inr (d,0,()))) else some (.inl (wr .i64 (d+1),c,()))|none =>none else some (.inr (.inl (())))
def qa1 (c:Calendar) (day:Int):Option (Int×Int):=
 match zae zsc ((if day<0 then 0 else day),c,()) with|some (.inl (_)) =>some (0,2)|some (.inr (v,v2,_)) =>some (v,v2)|none =>none
def zm3:(Int×Int×Int×Calendar×Unit)→Option ((Int×Int×Int×Calendar×Unit)⊕((Int×Unit)⊕(Int×Int×Unit))):=fun (d,v,v5,c,_)=>
 bif decide (v5<v) then match qa1 c (wr .i64 (d+1)) with|some (r6,r7) =>bif !(r7==0) then some (.inr (.inr (0,r7,()))) else some (.inl (r6,v,wr .i64 (v5+1),c,()))|none =>none else some (.inr (.inl (d,())))
def qa0 (c:Calendar) (day:Int) (n:Int):Option (Int×Int):=
 let k (v:Bool):Option (Int×Int):=bif v then some (0,1) else match qc6 day with|some r1 =>(bif !r1 then some (0,2) else bif n==0 then match qa1 c day with|some (r3,r4) =>some (r3,r4)|none =>none else match zae zm3 (day,n,0,c,()) with|some (.inl (d,_)) =>some (d,0)|some (.inr (v8,v9,_)) =>some (v8,v9)|none =>none)|none =>none;bif decide (n<0) then k true else k (decide (1000<n))
def qek (branch:Int) (n:Int) (d:Circ_desk):Option (Int×Circ_desk):=
 match qcj d.c branch with|some r1 =>(match qa0 r1 d.c.Today n with|some (r3,r4) =>let k (v6:Circ_desk):Option (Int×Circ_desk):=some (r3,v6);bif !(r4==0) then match qt r4 d with|some (_,v) =>k v|none =>none else k d|none =>none)|none =>none
def qcq (o:Hold) (v:Int) (v1:Int):Option Bool:=
 let k (v2:Bool):Option Bool:=some v2;bif o.Got==v then k (!(o.ID==v1)) else k false
def qct {γ0:Type} (p:γ0→Hold→Option Bool) (s:List Hold) (g:γ0):Option Bool:=
 match qb p s g with|some r1 =>some (decide (0≤r1))|none =>none
def qdl (s:List Hold):Option (List Hold):=
 bif decide (([]:List Hold).length+s.length≤LIM) then some (([])++s) else none
def qez (l:List Hold) (i:Int) (h:Hold):Option (List Hold):=
 match qdl l with|some l1 =>(match getI l1 i with|some _ =>(match l1[i.toNat]? with|some x =>some (l1.set i.toNat h)|none =>none)|none =>none)|none =>none
def qav (l:List Hold) (vid:Int) (item:Int) (state:Int) (vuntil:Int):Option ((List Hold)×Int):=
 match qbf l vid with|some r1 =>bif decide (r1<0) then some ([],9) else let k18 (v:Bool):Option ((List Hold)×Int):=match qb9 item 1 9999 with|some r5 =>let k17 (v8:Bool):Option ((List Hold)×Int):=bif v8 then some ([],1) else match getI l r1 with|some x =>let k16 (v11:Bool):Option ((List Hold)×Int):=bif v11 then some ([],12) else match qct (fun g x0=>qcq x0 g.2.1 g.2.2.1) l ((),(item,vid,())) with|some r13 =>(bif r13 then some ([],7) else match qez l r1 (⟨x.ID,x.Patron,x.Record,x.Item,x.Pickup,x.Placed,state,item,vuntil,x.Asleep,x.Rank⟩:Hold) with|some r15 =>some (r15,0)|none =>none)|none =>none;bif !(x.State==1) then let k (v9:Bool):Option ((List Hold)×Int):=bif v9 then k16 true else k16 (!(state==3));bif !(x.State==2) then k true else k (!(x.Got==item)) else k16 false|none =>none;bif !r5 then k17 true else bif !v then bif !(state==2) then k17 true else k17 (!(vuntil==0)) else k17 false|none =>none;bif state==3 then match qb9 vuntil 1 109572 with|some r3 =>k18 r3|none =>none else k18 false|none =>none
def qcl (l:List Hold) (e:Int) (d:Circ_desk):Option (Unit×Circ_desk):=
 let k3 (v1:Circ_desk):Option (Unit×Circ_desk):=let k (v2:List Hold):Option (Unit×Circ_desk):=some ((),(⟨⟨v1.c.Today,v1.c.Items,v1.c.Patrons,v1.c.Loans,v2,v1.c.Charges,v1.c.Rules,v1.c.Cals,v1.c.Moves,v1.c.NextHold,v1.c.NextCharge,v1.c.Local⟩,v1.err⟩:Circ_desk));bif v1.err==0 then k l else k v1.c.Holds;bif !(e==0) then match qt e d with|some (_,v) =>k3 v|none =>none else k3 d
def qdn (i:Int) (h:Hold) (d:Circ_desk):Option (Unit×Circ_desk):=
 bif !(d.err==0) then some ((),d) else match getI d.c.Items i with|some x =>(match qb8 d.c h.Patron x with|some (r1,r2) =>let k13 (days:Int):Option (Unit×Circ_desk):=match qbg i 5 x.Custody.Branch h.Patron d with|some (_,v) =>(match qek x.Custody.Branch days v with|some (r5,v6) =>let k (v12:Circ_desk):Option (Unit×Circ_desk):=some ((),v12);bif v6.err==0 then match qav v6.c.Holds h.ID x.ID 3 r5 with|some (r8,r9) =>(match qcl r8 r9 v6 with|some (_,v11) =>k v11|none =>none)|none =>none else k v6|none =>none)|none =>none;bif r2 then k13 r1.Shelf else k13 7|none =>none)|none =>none
def qc1 (i:Int) (d:Circ_desk):Option (Unit×Circ_desk):=
 bif !(d.err==0) then some ((),d) else match getI d.c.Items i with|some x =>(match qdg d.c x with|some r1 =>(match qd0 d.c.Holds r1 with|some (r3,r4) =>let k25 (v:Bool):Option (Unit×Circ_desk):=let k24 (v23:Circ_desk):Option (Unit×Circ_desk):=some ((),v23);bif v then match qbg i 6 x.Branch 0 d with|some (_,v6) =>k24 v6|none =>none else let k (v7:Bool):Option (Unit×Circ_desk):=bif v7 then match qdq i 2 d with|some (_,v9) =>k24 v9|none =>none else bif !r4 then k24 d else bif r3.Pickup==x.Custody.Branch then match qdn i r3 d with|some (_,v11) =>k24 v11|none =>none else match qbg i 6 r3.Pickup r3.Patron d with|some (_,v13) =>bif v13.err==0 then match qav v13.c.Holds r1 x.ID 2 0 with|some (r15,r16) =>(match qcl r15 r16 v13 with|some (_,v18) =>k24 v18|none =>none)|none =>none else k24 v13|none =>none;bif !r4 then k (!(x.Custody.State==3)) else k false;bif !r4 then k25 (!(x.Branch==x.Custody.Branch)) else k25 false|none =>none)|none =>none)|none =>none
def q9 (d:Circ_desk):Option ((Circ×Int)×Circ_desk):=
 bif !(d.err==0) then some (((⟨0,[],[],[],[],[],[],⟨⟨0,[]⟩,⟨0,[]⟩,⟨0,[]⟩,⟨0,[]⟩⟩,[],0,0,false⟩:Circ),d.err),d) else some ((d.c,0),d)
def qdt (c:Circ) (item:Int) (branch:Int):Option (Circ×Int):=
 match qcb c with|some d =>(match qdp item d with|some (r2,v) =>let k (v7:Circ_desk):Option (Circ×Int):=match q9 v7 with|some ((r9,r10),v11) =>some (r9,r10)|none =>none;bif decide (0≤r2) then match qbg r2 1 branch 0 v with|some (_,v4) =>(match qc1 r2 v4 with|some (_,v6) =>k v6|none =>none)|none =>none else k v|none =>none)|none =>none
def znb:(Int×Int×(List Charge)×Int×Int×Unit)→Option ((Int×Int×(List Charge)×Int×Int×Unit)⊕((Int×Unit))):=fun (patron,vsum,v,v1,v2,_)=>
 bif decide (v2<v1) then match getI v v2 with|some x =>let k (vsum3:Int):Option ((Int×Int×(List Charge)×Int×Int×Unit)⊕((Int×Unit))):=some (.inl (patron,vsum3,v,v1,wr .i64 (v2+1),()));bif x.Patron==patron then k (wr .i64 (vsum+(wr .i64 (x.Amount-x.Paid)))) else k vsum|none =>none else some (.inr ((vsum,())))
def qaw (l:List Charge) (patron:Int):Option Int:=
 match zae znb (patron,0,l,(l.length:Int),0,()) with|some ((vsum,_)) =>some vsum|none =>none
def z0g:(Int×(List Loan)×Int×Int×(List Loan)×Unit)→Option ((Int×(List Loan)×Int×Int×(List Loan)×Unit)⊕(((List Loan)×Unit))):=fun (patron,v,v1,v2,l,_)=>
 bif decide (v2<v1) then match getI v v2 with|some x =>bif x.Patron==patron then bif decide (l.length+([x]:List Loan).length≤LIM) then some (.inl (patron,v,v1,wr .i64 (v2+1),l++([x]:List Loan),())) else none else some (.inl (patron,v,v1,wr .i64 (v2+1),l,()))|none =>none else some (.inr ((l,())))
def q8 (l:List Loan) (patron:Int):Option (List Loan):=
 match zae z0g (patron,l,(l.length:Int),0,([]:List Loan),()) with|some ((l3,_)) =>some l3|none =>none
def zm7:(Int×Int×(List Loan)×Int×Int×Unit)→Option ((Int×Int×(List Loan)×Int×Int×Unit)⊕((Int×Unit))):=fun (day,n,v,v2,v3,_)=>
 bif decide (v3<v2) then match getI v v3 with|some x =>let k (n4:Int):Option ((Int×Int×(List Loan)×Int×Int×Unit)⊕((Int×Unit))):=some (.inl (day,n4,v,v2,wr .i64 (v3+1),()));bif decide (x.Due<day) then k (wr .i64 (n+1)) else k n|none =>none else some (.inr ((n,())))
def qam (l:List Loan) (patron:Int) (day:Int):Option Int:=
 match q8 l patron with|some r1 =>(match zae zm7 (day,0,r1,(r1.length:Int),0,()) with|some ((n,_)) =>some n|none =>none)|none =>none
def z60:(Int×Int×(List Int)×(List Bool)×Unit)→Option ((Int×Int×(List Int)×(List Bool)×Unit)⊕(((List Int)×Unit))):=fun (v,v1,l,l2,_)=>
 bif decide (v1<v) then match getI l2 v1 with|some _ =>(match l2[v1.toNat]? with|some x =>bif x then bif decide (l.length+([wr .i64 (v1+1)]:List Int).length≤LIM) then some (.inl (v,wr .i64 (v1+1),l++([wr .i64 (v1+1)]:List Int),l2,())) else none else some (.inl (v,wr .i64 (v1+1),l,l2,()))|none =>none)|none =>none else some (.inr ((l,())))
def qba (p:Patron) (day:Int) (owed:Int) (late:Int):Option (List Int):=
 match zae z60 ((([p.Stopped,decide (p.Until<day),decide (1000<owed),decide (2<late)]).length:Int),0,([]:List Int),[p.Stopped,decide (p.Until<day),decide (1000<owed),decide (2<late)],()) with|some ((l,_)) =>some l|none =>none
def qda (c:Circ) (p:Patron):Option Bool:=
 match qaw c.Charges p.ID with|some r1 =>(match qam c.Loans p.ID c.Today with|some r3 =>(match qba p c.Today r1 r3 with|some r5 =>some (decide (0<(r5.length:Int)))|none =>none)|none =>none)|none =>none
def zsd:(Int×Calendar×Unit)→Option ((Int×Calendar×Unit)⊕((Unit)⊕(Int×Int×Unit))):=fun (d,c,_)=>
 bif decide (0≤d) then match qcc c d with|some r1 =>bif r1 then some (.inr (.inr (d,0,()))) else some (.inl (wr .i64 (d-1),c,()))|none =>none else some (.inr (.inl (())))
def qbr (c:Calendar) (day:Int):Option (Int×Int):=
 match zae zsd ((if 109572<day then 109572 else day),c,()) with|some (.inl (_)) =>some (0,2)|some (.inr (v,v2,_)) =>some (v,v2)|none =>none
def qcx (r:Rule) (c:Calendar) (day:Int) (vuntil:Int):Option (Int×Int):=
 match qb1 day 0 109572 with|some r2 =>(let k17 (v:Bool):Option (Int×Int):=bif v then some (0,2) else let k16 (last:Int):Option (Int×Int):=let k15 (v5:Bool):Option (Int×Int):=bif v5 then some (0,15) else match qa1 c (if last<wr .i64 (day+r.Days) then last else wr .i64 (day+r.Days)) with|some (r7,r8) =>let k14 (v9:Bool):Option (Int×Int):=bif v9 then some (r7,0) else match qbr c last with|some (r11,r12) =>let k (v13:Bool):Option (Int×Int):=bif v13 then some (0,15) else some (r11,0);bif !(r12==0) then k true else k (decide (r11≤day))|none =>none;bif r8==0 then k14 (decide (r7≤last)) else k14 false|none =>none;bif r.Days==0 then k15 true else k15 (decide (last≤day));bif decide (0<r.Fixed) then k16 (if r.Fixed<vuntil then r.Fixed else vuntil) else k16 vuntil;bif !r2 then k17 true else match qb1 vuntil 0 109572 with|some r4 =>k17 (!r4)|none =>none)|none =>none
def qeo (c:Circ) (x:Item) (p:Patron) (branch:Int):Option (Int×Int):=
 let k26 (v:Bool):Option (Int×Int):=let k4 (v3:Int):Option (Int×Int):=some (0,v3);bif v then k4 12 else bif !(x.Custody.Branch==branch) then k4 1 else let k (v1:Bool):Option (Int×Int):=bif v1 then k4 16 else let k25 (_:Unit):Option (Int×Int):=match qda c p with|some r12 =>(bif r12 then some (0,14) else match qb8 c p.ID x with|some (r14,r15) =>(let k24 (v18:Bool):Option (Int×Int):=bif v18 then some (0,15) else match qcj c branch with|some r20 =>(match qcx r14 r20 c.Today p.Until with|some (r22,r23) =>some (r22,r23)|none =>none)|none =>none;bif !r15 then k24 true else match q8 c.Loans p.ID with|some r17 =>k24 (decide (r14.Loans≤(r17.length:Int)))|none =>none)|none =>none)|none =>none;bif x.Custody.State==3 then match qdg c x with|some r5 =>(match qd0 c.Holds r5 with|some (r7,r8) =>let k10 (v9:Bool):Option (Int×Int):=bif v9 then some (0,16) else k25 ();bif r8 then k10 (!(r7.Patron==p.ID)) else k10 false|none =>none)|none =>none else k25 ();bif x.Custody.State==5 then k (!(x.Custody.Who==p.ID)) else k false;bif !(x.Custody.State==3) then k26 (!(x.Custody.State==5)) else k26 false
def qcs (x:Loan) (v:Loan):Option Bool:=
 some (decide (v.Item<x.Item))
def qdk (s:List Loan):Option (List Loan):=
 bif decide (([]:List Loan).length+s.length≤LIM) then some (([])++s) else none
def qcf (l:List Loan):Option ((List Loan)×Int):=
 match qbd l with|some r1 =>bif !(r1==0) then some ([],r1) else some (l,0)|none =>none
def qb0 (l:List Loan) (n:Loan):Option ((List Loan)×Int):=
 match qab n.Item with|some r1 =>(match qbj (fun g x0=>qce x0 g.2.1) l ((),(r1.1,())) with|some (r3,r4) =>(bif decide (0≤r4) then some ([],7) else match qbj (fun g x0=>qcs x0 g.2.1) l ((),(n,())) with|some (r6,r7) =>let k (i:Int):Option ((List Loan)×Int):=match qdk l with|some l9 =>(match qd4 l9 i ([n]) with|some l11 =>(match qcf l11 with|some (r13,r14) =>some (r13,r14)|none =>none)|none =>none)|none =>none;bif decide (r7<0) then k (l.length:Int) else k r7|none =>none)|none =>none)|none =>none
def qck (l:List Loan) (e:Int) (d:Circ_desk):Option (Unit×Circ_desk):=
 let k3 (v1:Circ_desk):Option (Unit×Circ_desk):=let k (v2:List Loan):Option (Unit×Circ_desk):=some ((),(⟨⟨v1.c.Today,v1.c.Items,v1.c.Patrons,v2,v1.c.Holds,v1.c.Charges,v1.c.Rules,v1.c.Cals,v1.c.Moves,v1.c.NextHold,v1.c.NextCharge,v1.c.Local⟩,v1.err⟩:Circ_desk));bif v1.err==0 then k l else k v1.c.Loans;bif !(e==0) then match qt e d with|some (_,v) =>k3 v|none =>none else k3 d
def qep (l:List Hold) (vid:Int):Option ((List Hold)×Hold×Int):=
 match qbf l vid with|some r1 =>(bif decide (r1<0) then some ([],(⟨0,0,0,0,0,0,0,0,0,0,0⟩:Hold),9) else match qdl l with|some l3 =>(match qd7 l3 r1 (wr .i64 (r1+1)) with|some l5 =>(match getI l r1 with|some x =>some (l5,x,0)|none =>none)|none =>none)|none =>none)|none =>none
def qe4 (vid:Int) (d:Circ_desk):Option (Unit×Circ_desk):=
 let k (v5:Circ_desk):Option (Unit×Circ_desk):=some ((),v5);bif d.err==0 then match qep d.c.Holds vid with|some (r1,r2,r3) =>(match qcl r1 r3 d with|some (_,v) =>k v|none =>none)|none =>none else k d
def qa9 (n:Int) (d:Circ_desk):Option ((Circ×Int×Int)×Circ_desk):=
 bif !(d.err==0) then some (((⟨0,[],[],[],[],[],[],⟨⟨0,[]⟩,⟨0,[]⟩,⟨0,[]⟩,⟨0,[]⟩⟩,[],0,0,false⟩:Circ),0,d.err),d) else some ((d.c,n,0),d)
def qch (h:Hold) (x:Item):Option Bool:=
 let k (v1:Bool):Option Bool:=some v1;bif h.Record==x.Record then bif h.Item==0 then k true else k (h.Item==x.ID) else k false
def qdd (h:Hold) (v:Int) (v1:Item):Option Bool:=
 let k5 (v2:Bool):Option Bool:=let k (v4:Bool):Option Bool:=some v4;bif v2 then match qch h v1 with|some r3 =>k r3|none =>none else k false;bif h.Patron==v then k5 (h.State==1) else k5 false
def qbm (c:Circ) (item:Int) (vid:Int) (branch:Int):Option (Circ×Int×Int):=
 match qcb c with|some d =>(match qdp item d with|some (r2,v) =>(match qcn c.Patrons vid with|some (r4,r5) =>let k40 (v8:Circ_desk):Option (Circ×Int×Int):=bif !(v8.err==0) then some ((⟨0,[],[],[],[],[],[],⟨⟨0,[]⟩,⟨0,[]⟩,⟨0,[]⟩,⟨0,[]⟩⟩,[],0,0,false⟩:Circ),0,v8.err) else match getI c.Items r2 with|some x =>(match qeo c x r4 branch with|some (r10,r11) =>(bif !(r11==0) then some ((⟨0,[],[],[],[],[],[],⟨⟨0,[]⟩,⟨0,[]⟩,⟨0,[]⟩,⟨0,[]⟩⟩,[],0,0,false⟩:Circ),0,r11) else match qbg r2 3 branch vid v8 with|some (_,v13) =>(match qb0 c.Loans (⟨item,vid,c.Today,r10,0,false⟩:Loan) with|some (r15,r16) =>(match qck r15 r16 v13 with|some (_,v18) =>(match qbc c item with|some (r20,r21) =>(bif r21 then match qe4 r20.ID v18 with|some (_,v23) =>(match qa9 r10 v23 with|some ((r25,r26,r27),v28) =>some (r25,r26,r27)|none =>none)|none =>none else match qb (fun g x0=>qdd x0 g.2.1 g.2.2.1) c.Holds ((),(vid,x,())) with|some r30 =>let k (v34:Circ_desk):Option (Circ×Int×Int):=match qa9 r10 v34 with|some ((r36,r37,r38),v39) =>some (r36,r37,r38)|none =>none;bif decide (0≤r30) then match getI c.Holds r30 with|some x31 =>(match qe4 x31.ID v18 with|some (_,v33) =>k v33|none =>none)|none =>none else k v18|none =>none)|none =>none)|none =>none)|none =>none)|none =>none)|none =>none)|none =>none;bif !r5 then match qt 9 v with|some (_,v7) =>k40 v7|none =>none else k40 v|none =>none)|none =>none)|none =>none
def qeq (x:Item) (record:Int):Option Bool:=
 let k (v:Bool):Option Bool:=some v;bif x.Record==record then k (!(x.Custody.State==12)) else k false
def qc4 (x:Item) (v:Hold):Option Bool:=
 match qeq x v.Record with|some r1 =>let k (v4:Bool):Option Bool:=some v4;bif r1 then match qch v x with|some r3 =>k r3|none =>none else k false|none =>none
def zazz:(Int×(List Loan)×Int×Int×Circ×Hold×Item×Unit)→Option ((Int×(List Loan)×Int×Int×Circ×Hold×Item×Unit)⊕((Int×Circ×Item×Unit)⊕(Int×Item×Unit))):=fun (first,v,v6,v7,c,h,v8,_)=>
 bif decide (v7<v6) then match getI v v7 with|some x =>(match qaa c x.Item with|some r9 =>let k (v11:Bool):Option ((Int×(List Loan)×Int×Int×Circ×Hold×Item×Unit)⊕((Int×Circ×Item×Unit)⊕(Int×Item×Unit))):=bif v11 then some (.inr (.inr (12,(⟨0,0,0,0,0,[],⟨0,0,0,0⟩⟩:Item),()))) else some (.inl (first,v,v6,wr .i64 (v7+1),c,h,v8,()));bif decide (0≤r9) then match getI c.Items r9 with|some x10 =>k (x10.Record==h.Record)|none =>none else k false|none =>none)|none =>none else some (.inr (.inl (first,c,v8,())))
def qu (c:Circ) (p:Patron) (h:Hold):Option (Item×Int):=
 match qe (fun g x0=>qc4 x0 g.2.1) c.Items ((),(h,())) with|some r1 =>bif decide (r1<0) then some ((⟨0,0,0,0,0,[],⟨0,0,0,0⟩⟩:Item),9) else let k (v:Bool):Option (Item×Int):=bif v then some ((⟨0,0,0,0,0,[],⟨0,0,0,0⟩⟩:Item),2) else match qda c p with|some r3 =>(bif r3 then some ((⟨0,0,0,0,0,[],⟨0,0,0,0⟩⟩:Item),14) else match q8 c.Loans p.ID with|some r5 =>(match zae zazz (r1,r5,(r5.length:Int),0,c,h,(⟨0,0,0,0,0,[],⟨0,0,0,0⟩⟩:Item),()) with|some (.inl (first,c12,v13,_)) =>(bif decide (99999<c12.NextHold) then some ((⟨0,0,0,0,0,[],⟨0,0,0,0⟩⟩:Item),13) else match getI c12.Items first with|some x =>some (x,0)|none =>none)|some (.inr (v14,v15,_)) =>some (v15,v14)|none =>none)|none =>none)|none =>none;bif decide (h.Pickup<1) then k true else k (decide (4<h.Pickup))|none =>none
def qev (l:List Hold) (h:Hold):Option ((List Hold)×Int):=
 let k5 (v:Bool):Option ((List Hold)×Int):=let k (v1:Bool):Option ((List Hold)×Int):=bif v1 then some ([],12) else match qdl l with|some l2 =>bif decide (l2.length+([h]:List Hold).length≤LIM) then match qi (l2++([h]:List Hold)) with|some r4 =>bif !(r4==0) then some ([],r4) else some (l2++([h]:List Hold),0)|none =>none else none|none =>none;bif v then k true else k (!(h.Until==0));bif !(h.State==1) then k5 true else k5 (!(h.Got==0))
def zai6:(Int×Int×Int×Circ_desk×Unit)→Option ((Int×Int×Int×Circ_desk×Unit)⊕((Circ_desk×Unit)⊕(Circ_desk×Unit))):=fun (record,v,v1,d,_)=>
 bif decide (v1<v) then bif !(d.err==0) then some (.inr (.inr (d,()))) else match getI d.c.Items v1 with|some x =>let k9 (v2:Bool):Option ((Int×Int×Int×Circ_desk×Unit)⊕((Circ_desk×Unit)⊕(Circ_desk×Unit))):=let k8 (v4:Bool):Option ((Int×Int×Int×Circ_desk×Unit)⊕((Circ_desk×Unit)⊕(Circ_desk×Unit))):=let k (v7:Circ_desk):Option ((Int×Int×Int×Circ_desk×Unit)⊕((Circ_desk×Unit)⊕(Circ_desk×Unit))):=some (.inl (record,v,wr .i64 (v1+1),v7,()));bif v4 then match qc1 v1 d with|some (_,v6) =>k v6|none =>none else k d;bif v2 then match qdg d.c x with|some r3 =>k8 (!(r3==0))|none =>none else k8 false;bif x.Record==record then k9 (x.Custody.State==3) else k9 false|none =>none else some (.inr (.inl (d,())))
def qbq (record:Int) (d:Circ_desk):Option (Unit×Circ_desk):=
 match zae zai6 (record,(d.c.Items.length:Int),0,d,()) with|some (.inl (d10,_)) =>some ((),d10)|some (.inr (d11,_)) =>some ((),d11)|none =>none
def qey (c:Circ) (vid:Int) (record:Int) (item:Int) (pickup:Int):Option (Circ×Int×Int):=
 match qcn c.Patrons vid with|some (r1,r2) =>(bif !r2 then some ((⟨0,[],[],[],[],[],[],⟨⟨0,[]⟩,⟨0,[]⟩,⟨0,[]⟩,⟨0,[]⟩⟩,[],0,0,false⟩:Circ),0,9) else match qu c r1 (⟨c.NextHold,vid,record,item,pickup,c.Today,1,0,0,0,0⟩:Hold) with|some (r4,r5) =>(bif !(r5==0) then some ((⟨0,[],[],[],[],[],[],⟨⟨0,[]⟩,⟨0,[]⟩,⟨0,[]⟩,⟨0,[]⟩⟩,[],0,0,false⟩:Circ),0,r5) else match qb8 c vid r4 with|some (r7,r8) =>let k (h:Int):Option (Circ×Int×Int):=match qcb c with|some d =>(match qev c.Holds (⟨c.NextHold,vid,record,item,pickup,c.Today,1,0,0,0,h⟩:Hold) with|some (r11,r12) =>(match qcl r11 r12 d with|some (_,v) =>(match qbq record (⟨⟨v.c.Today,v.c.Items,v.c.Patrons,v.c.Loans,v.c.Holds,v.c.Charges,v.c.Rules,v.c.Cals,v.c.Moves,wr .i64 (v.c.NextHold+1),v.c.NextCharge,v.c.Local⟩,v.err⟩:Circ_desk) with|some (_,v15) =>(match qa9 c.NextHold v15 with|some ((r17,r18,r19),v20) =>some (r17,r18,r19)|none =>none)|none =>none)|none =>none)|none =>none)|none =>none;bif r8 then k r7.Rank else k 0|none =>none)|none =>none)|none =>none
def qcr (h:Hold) (v:Circ) (v1:Item):Option Bool:=
 let k5 (v2:Bool):Option Bool:=let k (v4:Bool):Option Bool:=some v4;bif v2 then match qch h v1 with|some r3 =>k r3|none =>none else k false;bif h.State==1 then k5 (decide (h.Asleep≤v.Today)) else k5 false
def qec (r:Rule) (c:Calendar) (n:Loan) (day:Int) (vuntil:Int):Option (Int×Int):=
 let k (v:Bool):Option (Int×Int):=bif v then some (0,15) else match qcx r c day vuntil with|some (r2,r3) =>bif !(r3==0) then some (0,r3) else bif decide (r2≤n.Due) then some (0,15) else some (r2,0)|none =>none;bif decide (r.Renewals≤n.Renewals) then k true else k n.Recalled
def qdo (l:List Loan) (i:Int) (x:Loan):Option (List Loan):=
 match qdk l with|some l1 =>(match getI l1 i with|some _ =>(match l1[i.toNat]? with|some x2 =>some (l1.set i.toNat x)|none =>none)|none =>none)|none =>none
def qft (l:List Loan) (item:Int) (due:Int):Option ((List Loan)×Int):=
 match qab item with|some r1 =>(match qbj (fun g x0=>qce x0 g.2.1) l ((),(r1.1,())) with|some (r3,r4) =>(let k (v:Int):Option ((List Loan)×Int):=some ([],v);bif decide (r4<0) then k 9 else bif r3.Recalled then k 12 else match qdo l r4 (⟨r3.Item,r3.Patron,r3.Out,due,wr .i64 (r3.Renewals+1),r3.Recalled⟩:Loan) with|some r6 =>(match qcf r6 with|some (r8,r9) =>some (r8,r9)|none =>none)|none =>none)|none =>none)|none =>none
def qbv (c:Circ) (item:Int):Option (Circ×Int×Int):=
 match qcz c.Loans item with|some (r1,r2) =>(match qaa c item with|some r4 =>let k (v:Bool):Option (Circ×Int×Int):=bif v then some ((⟨0,[],[],[],[],[],[],⟨⟨0,[]⟩,⟨0,[]⟩,⟨0,[]⟩,⟨0,[]⟩⟩,[],0,0,false⟩:Circ),0,9) else match getI c.Items r4 with|some x =>(bif !(x.Custody.State==4) then some ((⟨0,[],[],[],[],[],[],⟨⟨0,[]⟩,⟨0,[]⟩,⟨0,[]⟩,⟨0,[]⟩⟩,[],0,0,false⟩:Circ),0,12) else match qcn c.Patrons r1.Patron with|some (r6,r7) =>(match qda c r6 with|some r9 =>(bif r9 then some ((⟨0,[],[],[],[],[],[],⟨⟨0,[]⟩,⟨0,[]⟩,⟨0,[]⟩,⟨0,[]⟩⟩,[],0,0,false⟩:Circ),0,14) else match qct (fun g x0=>qcr x0 g.2.1 g.2.2.1) c.Holds ((),(c,x,())) with|some r11 =>(bif r11 then some ((⟨0,[],[],[],[],[],[],⟨⟨0,[]⟩,⟨0,[]⟩,⟨0,[]⟩,⟨0,[]⟩⟩,[],0,0,false⟩:Circ),0,16) else match qb8 c r6.ID x with|some (r13,r14) =>(bif !r14 then some ((⟨0,[],[],[],[],[],[],⟨⟨0,[]⟩,⟨0,[]⟩,⟨0,[]⟩,⟨0,[]⟩⟩,[],0,0,false⟩:Circ),0,15) else match qcj c x.Custody.Branch with|some r16 =>(match qec r13 r16 r1 c.Today r6.Until with|some (r18,r19) =>(bif !(r19==0) then some ((⟨0,[],[],[],[],[],[],⟨⟨0,[]⟩,⟨0,[]⟩,⟨0,[]⟩,⟨0,[]⟩⟩,[],0,0,false⟩:Circ),0,r19) else match qcb c with|some d =>(match qft c.Loans item r18 with|some (r22,r23) =>(match qck r22 r23 d with|some (_,v25) =>(match qa9 r18 v25 with|some ((r27,r28,r29),v30) =>some (r27,r28,r29)|none =>none)|none =>none)|none =>none)|none =>none)|none =>none)|none =>none)|none =>none)|none =>none)|none =>none)|none =>none)|none =>none;bif !r2 then k true else k (decide (r4<0))|none =>none)|none =>none
def zkm:(Bool×(List Item)×Int×Int×Circ×Hold×Loan×Item×Unit)→Option ((Bool×(List Item)×Int×Int×Circ×Hold×Loan×Item×Unit)⊕((Bool×Loan×Item×Unit))):=fun (ok,v,v1,v2,c,h,best,vat,_)=>
 bif decide (v2<v1) then match getI v v2 with|some x =>(let k16 (v4:Bool):Option ((Bool×(List Item)×Int×Int×Circ×Hold×Loan×Item×Unit)⊕((Bool×Loan×Item×Unit))):=bif v4 then some (.inl (ok,v,v1,wr .i64 (v2+1),c,h,best,vat,())) else match qcz c.Loans x.ID with|some (r6,r7) =>let k15 (v8:Bool):Option ((Bool×(List Item)×Int×Int×Circ×Hold×Loan×Item×Unit)⊕((Bool×Loan×Item×Unit))):=let k14 (v10:Bool):Option ((Bool×(List Item)×Int×Int×Circ×Hold×Loan×Item×Unit)⊕((Bool×Loan×Item×Unit))):=let k (ok11:Bool) (best12:Loan) (vat13:Item):Option ((Bool×(List Item)×Int×Int×Circ×Hold×Loan×Item×Unit)⊕((Bool×Loan×Item×Unit))):=some (.inl (ok11,v,v1,wr .i64 (v2+1),c,h,best12,vat13,()));bif v10 then k true r6 x else k ok best vat;bif v8 then bif !ok then k14 true else k14 (decide (r6.Due<best.Due)) else k14 false;bif r7 then k15 (!r6.Recalled) else k15 false|none =>none;bif !(x.Custody.State==4) then k16 true else match qch h x with|some r3 =>k16 (!r3)|none =>none)|none =>none else some (.inr ((ok,best,vat,())))
def qaz (c:Circ) (h:Hold):Option (Loan×Item×Bool):=
 match zae zkm (false,c.Items,(c.Items.length:Int),0,c,h,(⟨0,0,0,0,0,false⟩:Loan),(⟨0,0,0,0,0,[],⟨0,0,0,0⟩⟩:Item),()) with|some ((ok,best,vat,_)) =>some (best,vat,ok)|none =>none
def qfs (l:List Loan) (item:Int) (due:Int):Option ((List Loan)×Int):=
 match qab item with|some r1 =>(match qbj (fun g x0=>qce x0 g.2.1) l ((),(r1.1,())) with|some (r3,r4) =>(let k (v7:Int):Option ((List Loan)×Int):=some ([],v7);bif decide (r4<0) then k 9 else bif r3.Recalled then k 12 else match qdz due with|some r6 =>(bif !r6 then k 2 else match qdo l r4 (⟨r3.Item,r3.Patron,r3.Out,(if (if due<r3.Due then due else r3.Due)<r3.Out then r3.Out else (if due<r3.Due then due else r3.Due)),r3.Renewals,true⟩:Loan) with|some r9 =>some (r9,0)|none =>none)|none =>none)|none =>none)|none =>none
def qer (c:Circ) (vid:Int):Option (Circ×Int×Int):=
 match qd0 c.Holds vid with|some (r1,r2) =>(bif !r2 then some ((⟨0,[],[],[],[],[],[],⟨⟨0,[]⟩,⟨0,[]⟩,⟨0,[]⟩,⟨0,[]⟩⟩,[],0,0,false⟩:Circ),0,9) else bif !(r1.State==1) then some ((⟨0,[],[],[],[],[],[],⟨⟨0,[]⟩,⟨0,[]⟩,⟨0,[]⟩,⟨0,[]⟩⟩,[],0,0,false⟩:Circ),0,12) else match qaz c r1 with|some (r4,r5,r6) =>(bif !r6 then some ((⟨0,[],[],[],[],[],[],⟨⟨0,[]⟩,⟨0,[]⟩,⟨0,[]⟩,⟨0,[]⟩⟩,[],0,0,false⟩:Circ),0,9) else match qb8 c r4.Patron r5 with|some (r8,r9) =>(bif !r9 then some ((⟨0,[],[],[],[],[],[],⟨⟨0,[]⟩,⟨0,[]⟩,⟨0,[]⟩,⟨0,[]⟩⟩,[],0,0,false⟩:Circ),0,15) else match qcb c with|some d =>(match qek r5.Custody.Branch r8.Recall d with|some (r12,v) =>let k (v18:Circ_desk):Option (Circ×Int×Int):=match qa9 r5.ID v18 with|some ((r20,r21,r22),v23) =>some (r20,r21,r22)|none =>none;bif v.err==0 then match qfs c.Loans r5.ID r12 with|some (r14,r15) =>(match qck r14 r15 v with|some (_,v17) =>k v17|none =>none)|none =>none else k v|none =>none)|none =>none)|none =>none)|none =>none)|none =>none
def qfk (l:List Loan) (i:Int):Option (List Loan):=
 match qdk l with|some l1 =>(match qd6 l1 i (wr .i64 (i+1)) with|some l3 =>some l3|none =>none)|none =>none
def qex (l:List Loan) (item:Int):Option ((List Loan)×Loan×Int):=
 match qab item with|some r1 =>(match qbj (fun g x0=>qce x0 g.2.1) l ((),(r1.1,())) with|some (r3,r4) =>(bif decide (r4<0) then some ([],(⟨0,0,0,0,0,false⟩:Loan),9) else match qfk l r4 with|some r6 =>some (r6,r3,0)|none =>none)|none =>none)|none =>none
def qen (day:Int) (weekday:Int):Option Int:=
 match qc9 0 with|some r1 =>bif decide (day<(wr .i64 ((wr .i64 (weekday-r1))+7)).tmod 7) then some 0 else some (wr .i64 ((wr .i64 ((wr .i64 (day-((wr .i64 ((wr .i64 (weekday-r1))+7)).tmod 7))).tdiv 7))+1))|none =>none
def zaiw:(Int×Int×Int×(V7 Bool)×Int×Calendar×(V7 Bool)×Unit)→Option ((Int×Int×Int×(V7 Bool)×Int×Calendar×(V7 Bool)×Unit)⊕((Int×Int×Int×Calendar×(V7 Bool)×Unit))):=fun (vfrom,vto,n,v,v2,c,vopen,_)=>
 bif decide (v2<7) then let k8 (v3:Bool):Option ((Int×Int×Int×(V7 Bool)×Int×Calendar×(V7 Bool)×Unit)⊕((Int×Int×Int×Calendar×(V7 Bool)×Unit))):=let k (n7:Int):Option ((Int×Int×Int×(V7 Bool)×Int×Calendar×(V7 Bool)×Unit)⊕((Int×Int×Int×Calendar×(V7 Bool)×Unit))):=some (.inl (vfrom,vto,n7,v,wr .i64 (v2+1),c,vopen,()));bif v3 then match qen vto v2 with|some r4 =>(match qen (wr .i64 (vfrom-1)) v2 with|some r6 =>k (wr .i64 (n+(wr .i64 (r4-r6))))|none =>none)|none =>none else k n;bif v2==0 then k8 v.x0 else bif v2==1 then k8 v.x1 else bif v2==2 then k8 v.x2 else bif v2==3 then k8 v.x3 else bif v2==4 then k8 v.x4 else bif v2==5 then k8 v.x5 else bif v2==6 then k8 v.x6 else none else some (.inr ((vfrom,vto,n,c,vopen,())))
def z6v:(Int×Int×Int×(List Int)×Int×Int×(V7 Bool)×Unit)→Option ((Int×Int×Int×(List Int)×Int×Int×(V7 Bool)×Unit)⊕((Int×Unit))):=fun (vfrom,vto,n,v,v12,v13,vopen,_)=>
 bif decide (v13<v12) then match getI v v13 with|some x =>let k20 (v14:Bool):Option ((Int×Int×Int×(List Int)×Int×Int×(V7 Bool)×Unit)⊕((Int×Unit))):=let k19 (v17:Bool):Option ((Int×Int×Int×(List Int)×Int×Int×(V7 Bool)×Unit)⊕((Int×Unit))):=let k (n18:Int):Option ((Int×Int×Int×(List Int)×Int×Int×(V7 Bool)×Unit)⊕((Int×Unit))):=some (.inl (vfrom,vto,n18,v,v12,wr .i64 (v13+1),vopen,()));bif v17 then k (wr .i64 (n-1)) else k n;bif v14 then match qc9 x with|some r15 =>bif r15==0 then k19 vopen.x0 else bif r15==1 then k19 vopen.x1 else bif r15==2 then k19 vopen.x2 else bif r15==3 then k19 vopen.x3 else bif r15==4 then k19 vopen.x4 else bif r15==5 then k19 vopen.x5 else bif r15==6 then k19 vopen.x6 else none|none =>none else k19 false;bif decide (vfrom≤x) then k20 (decide (x≤vto)) else k20 false|none =>none else some (.inr ((n,())))
def qah (c:Calendar) (vfrom:Int) (vto:Int):Option Int:=
 bif decide ((if 109572<vto then 109572 else vto)<(if vfrom<0 then 0 else vfrom)) then some 0 else match qas c with|some r1 =>(match zae zaiw ((if vfrom<0 then 0 else vfrom),(if 109572<vto then 109572 else vto),0,r1,0,c,r1,()) with|some ((vfrom9,vto10,n,c11,vopen,_)) =>(match zae z6v (vfrom9,vto10,n,c11.Closed,(c11.Closed.length:Int),0,vopen,()) with|some ((n21,_)) =>some n21|none =>none)|none =>none)|none =>none
def qfx (r:Rule) (c:Calendar) (due:Int) (back:Int):Option Int:=
 match qv c with|some r2 =>(let k10 (v:Bool):Option Int:=let k (v7:Bool):Option Int:=bif v7 then some 0 else match qah c (wr .i64 (due+1)) back with|some r9 =>bif decide (r9≤r.Grace) then some 0 else some (if r.MaxFine<wr .i64 (r9*r.Fine) then r.MaxFine else wr .i64 (r9*r.Fine))|none =>none;bif v then k true else match qeg back with|some r6 =>k (!r6)|none =>none;bif !(r2==0) then k10 true else match qeg due with|some r4 =>k10 (!r4)|none =>none)|none =>none
def qdi (l:List Charge) (c:Charge):Option ((List Charge)×Int):=
 bif decide (l.length≤LIM) then bif decide (l.length+([c]:List Charge).length≤LIM) then match qbe (l++([c]:List Charge)) with|some r1 =>bif !(r1==0) then some ([],r1) else some (l++([c]:List Charge),0)|none =>none else none else none
def qfl (vid:Int) (item:Int) (kind:Int) (amount:Int) (d:Circ_desk):Option (Unit×Circ_desk):=
 bif !(d.err==0) then some ((),d) else bif decide (99999<d.c.NextCharge) then match qt 13 d with|some (_,v) =>some ((),v)|none =>none else match qdi d.c.Charges (⟨d.c.NextCharge,vid,item,d.c.Today,kind,amount,0⟩:Charge) with|some (r2,r3) =>bif !(r3==0) then match qt r3 d with|some (_,v5) =>some ((),v5)|none =>none else some ((),(⟨⟨d.c.Today,d.c.Items,d.c.Patrons,d.c.Loans,d.c.Holds,r2,d.c.Rules,d.c.Cals,d.c.Moves,d.c.NextHold,wr .i64 (d.c.NextCharge+1),d.c.Local⟩,d.err⟩:Circ_desk))|none =>none
def qc7 (x:Charge) (v:Int) (v1:Int) (v2:Int):Option Bool:=
 let k6 (v3:Bool):Option Bool:=let k (v5:Bool):Option Bool:=some v5;bif v3 then bif v2==0 then k true else k (x.Kind==v2) else k false;bif x.Patron==v then k6 (x.Item==v1) else k6 false
def zais {γ0:Type} (p:γ0→Charge→Option Bool):(γ0×Int×Int×(List Charge)×Int×Int×(List Charge)×Unit)→Option ((γ0×Int×Int×(List Charge)×Int×Int×(List Charge)×Unit)⊕((Int×Int×(List Charge)×Unit))):=fun (g,paid,n,v,v1,v2,l,_)=>
 bif decide (v2<v1) then match getI v v2 with|some x =>(match p g x with|some r =>bif r then some (.inl (g,wr .i64 (paid+x.Paid),wr .i64 (n+1),v,v1,wr .i64 (v2+1),l,())) else bif decide (l.length+([x]:List Charge).length≤LIM) then some (.inl (g,paid,n,v,v1,wr .i64 (v2+1),l++([x]:List Charge),())) else none|none =>none)|none =>none else some (.inr ((paid,n,l,())))
def qa3 {γ0:Type} (p:γ0→Charge→Option Bool) (l:List Charge) (g:γ0):Option ((List Charge)×Int×Int):=
 match zae (zais p) (g,0,0,l,(l.length:Int),0,([]:List Charge),()) with|some ((paid,n,l3,_)) =>some (l3,paid,n)|none =>none
def qb3 (l:List Charge) (patron:Int) (item:Int) (kind:Int):Option ((List Charge)×Int):=
 match qa3 (fun g x0=>qc7 x0 g.2.1 g.2.2.1 g.2.2.2.1) l ((),(patron,item,kind,())) with|some (r1,r2,r3) =>some (r1,r2)|none =>none
def qfj (i:Int) (branch:Int) (d:Circ_desk):Option (Unit×Circ_desk):=
 match getI d.c.Items i with|some x =>(match qbg i 4 branch 0 d with|some (_,v) =>(bif !(v.err==0) then some ((),v) else match qex v.c.Loans x.ID with|some (r2,r3,r4) =>(match qck r2 r4 v with|some (_,v6) =>(match qb8 v6.c r3.Patron x with|some (r8,r9) =>let k (v17:Circ_desk):Option (Unit×Circ_desk):=match qb3 v17.c.Charges r3.Patron x.ID 2 with|some (r19,r20) =>some ((),(⟨⟨v17.c.Today,v17.c.Items,v17.c.Patrons,v17.c.Loans,v17.c.Holds,r19,v17.c.Rules,v17.c.Cals,v17.c.Moves,v17.c.NextHold,v17.c.NextCharge,v17.c.Local⟩,v17.err⟩:Circ_desk))|none =>none;bif r9 then match qcj v6.c branch with|some r11 =>(match qfx r8 r11 r3.Due v6.c.Today with|some r13 =>bif !(r13==0) then match qfl r3.Patron x.ID 1 r13 v6 with|some (_,v15) =>k v15|none =>none else k v6|none =>none)|none =>none else k v6|none =>none)|none =>none)|none =>none)|none =>none)|none =>none
def qfg (c:Circ) (item:Int) (branch:Int):Option (Circ×Int×Int):=
 match qcb c with|some d =>(match qdp item d with|some (r2,v) =>(bif decide (r2<0) then match qa9 0 v with|some ((r4,r5,r6),v7) =>some (r4,r5,r6)|none =>none else match getI c.Items r2 with|some x =>let k43 (v9:Bool):Option (Circ×Int×Int):=let k42 (v23:Circ_desk):Option (Circ×Int×Int):=match qbc v23.c item with|some (r25,r26) =>let k41 (v27:Bool):Option (Circ×Int×Int):=let k (v32:Circ_desk):Option (Circ×Int×Int):=match qbc v32.c item with|some (r34,r35) =>(match qa9 r34.ID v32 with|some ((r37,r38,r39),v40) =>some (r37,r38,r39)|none =>none)|none =>none;bif v27 then match qdn r2 r25 v23 with|some (_,v29) =>k v29|none =>none else match qc1 r2 v23 with|some (_,v31) =>k v31|none =>none;bif r26 then k41 (r25.State==2) else k41 false|none =>none;bif v9 then match qfj r2 branch v with|some (_,v11) =>k42 v11|none =>none else bif x.Custody.State==8 then match qbg r2 4 branch 0 v with|some (_,v13) =>k42 v13|none =>none else bif x.Custody.State==11 then match qbg r2 14 branch 0 v with|some (_,v15) =>k42 v15|none =>none else bif x.Custody.State==6 then match qbg r2 7 branch 0 v with|some (_,v17) =>k42 v17|none =>none else match qt 12 v with|some (_,v19) =>k42 v19|none =>none;bif x.Custody.State==4 then k43 (x.Custody.State==4) else bif x.Custody.State==9 then k43 (x.Custody.State==9) else k43 (x.Custody.State==10)|none =>none)|none =>none)|none =>none
def qfb:Option Bool:=
 match qed with|some r1 =>(match qdt r1 1 1 with|some (r3,r4) =>let k85 (v:Bool):Option Bool:=let k84 (v5:Bool):Option Bool:=bif v5 then some false else match qbm r3 1 7 1 with|some (r7,r8,r9) =>(match qbm r7 1 8 1 with|some (r11,r12,r13) =>let k83 (v14:Bool):Option Bool:=let k82 (v15:Bool):Option Bool:=bif v15 then some false else match qey r7 8 5 0 1 with|some (r17,r18,r19) =>(match qbv r17 1 with|some (r21,r22,r23) =>(match qer r17 r18 with|some (r25,r26,r27) =>let k81 (v28:Bool):Option Bool:=let k80 (v29:Bool):Option Bool:=let k79 (v30:Bool):Option Bool:=let k78 (v31:Bool):Option Bool:=let k77 (v32:Bool):Option Bool:=let k76 (v34:Bool):Option Bool:=bif v34 then some false else match qfg r25 1 1 with|some (r36,r37,r38) =>(match qbm r36 1 7 1 with|some (r40,r41,r42) =>(match qbm r36 1 8 1 with|some (r44,r45,r46) =>let k75 (v47:Bool):Option Bool:=let k74 (v48:Bool):Option Bool:=let k73 (v50:Bool):Option Bool:=let k72 (v51:Bool):Option Bool:=let k71 (v52:Bool):Option Bool:=let k70 (v53:Bool):Option Bool:=let k69 (v56:Bool):Option Bool:=bif v56 then some false else match qfg (⟨116,r7.Items,r7.Patrons,r7.Loans,r7.Holds,r7.Charges,r7.Rules,r7.Cals,r7.Moves,r7.NextHold,r7.NextCharge,r7.Local⟩:Circ) 1 1 with|some (r58,r59,r60) =>let k68 (v61:Bool):Option Bool:=let k67 (v64:Bool):Option Bool:=let k (v66:Bool):Option Bool:=some v66;bif v64 then match getI r58.Items 0 with|some x65 =>k (x65.Custody.State==3)|none =>none else k false;bif v61 then match qaw r58.Charges 7 with|some r63 =>k67 (r63==20)|none =>none else k67 false;bif r60==0 then k68 (r59==0) else k68 false|none =>none;bif v53 then k69 true else match qew r44 with|some r55 =>k69 (!r55)|none =>none;bif v52 then k70 true else k70 (!((r44.Holds.length:Int)==0));bif v51 then k71 true else k71 (!(r46==0));bif v50 then k72 true else k72 (!(r42==16));bif v48 then k73 true else match getI r36.Holds 0 with|some x49 =>k73 (!(x49.Until==105))|none =>none;bif v47 then k74 true else k74 (!((r36.Holds.length:Int)==1));bif !(r38==0) then k75 true else k75 (!(r37==1))|none =>none)|none =>none)|none =>none;bif v32 then k76 true else match getI r25.Loans 0 with|some x33 =>k76 (!(x33.Due==107))|none =>none;bif v31 then k77 true else k77 (!((r25.Loans.length:Int)==1));bif v30 then k78 true else k78 (!(r26==1));bif v29 then k79 true else k79 (!(r27==0));bif v28 then k80 true else k80 (!(r23==16));bif !(r19==0) then k81 true else k81 (!(r18==1))|none =>none)|none =>none)|none =>none;bif v14 then k82 true else k82 (!(r13==12));bif !(r9==0) then k83 true else k83 (!(r8==114))|none =>none)|none =>none;bif v then k84 true else match getI r3.Items 0 with|some x =>k84 (!(x.Custody.State==3))|none =>none;bif !(r4==0) then k85 true else k85 (!((r3.Items.length:Int)==1))|none =>none)|none =>none
def znh:((List Charge)×Int×Int×Int×Unit)→Option (((List Charge)×Int×Int×Int×Unit)⊕((Int×Unit))):=fun (l,patron,n,i,_)=>
 bif decide (i<(l.length:Int)) then match getI l i with|some x =>let k (n3:Int):Option (((List Charge)×Int×Int×Int×Unit)⊕((Int×Unit))):=some (.inl (l,patron,n3,wr .i64 (i+1),()));bif x.Patron==patron then match getI l i with|some x1 =>(match getI l i with|some x2 =>k (wr .i64 ((wr .i64 (n+x1.Amount))-x2.Paid))|none =>none)|none =>none else k n|none =>none else some (.inr ((n,())))
def qbz (l:List Charge) (patron:Int):Option Int:=
 match zae znh (l,patron,0,0,()) with|some ((n,_)) =>some n|none =>none
def zng:((List Loan)×Int×Int×Int×Int×Unit)→Option (((List Loan)×Int×Int×Int×Int×Unit)⊕((Int×Unit))):=fun (l,patron,day,k,i,_)=>
 bif decide (i<(l.length:Int)) then match getI l i with|some x =>let k4 (v:Bool):Option (((List Loan)×Int×Int×Int×Int×Unit)⊕((Int×Unit))):=let k3 (k2:Int):Option (((List Loan)×Int×Int×Int×Int×Unit)⊕((Int×Unit))):=some (.inl (l,patron,day,k2,wr .i64 (i+1),()));bif v then k3 (wr .i64 (k+1)) else k3 k;bif x.Patron==patron then match getI l i with|some x1 =>k4 (decide (x1.Due<day))|none =>none else k4 false|none =>none else some (.inr ((k,())))
def qby (l:List Loan) (patron:Int) (day:Int):Option Int:=
 match zae zng (l,patron,day,0,0,()) with|some ((k,_)) =>some k|none =>none
def qfr (p:Patron) (day:Int) (owed:Int) (late:Int):Option (List Int):=
 bif p.Stopped then bif decide (([]:List Int).length+([1]:List Int).length≤LIM) then bif decide (p.Until<day) then bif decide ((([])++([1]:List Int)).length+([2]:List Int).length≤LIM) then bif decide (1000<owed) then bif decide (((([])++([1]:List Int))++([2]:List Int)).length+([3]:List Int).length≤LIM) then bif decide (2<late) then bif decide ((((([])++([1]:List Int))++([2]:List Int))++([3]:List Int)).length+([4]:List Int).length≤LIM) then some ((((([])++([1]:List Int))++([2]:List Int))++([3]:List Int))++([4]:List Int)) else none else some (((([])++([1]:List Int))++([2]:List Int))++([3]:List Int)) else none else bif decide (2<late) then bif decide (((([])++([1]:List Int))++([2]:List Int)).length+([4]:List Int).length≤LIM) then some (((([])++([1]:List Int))++([2]:List Int))++([4]:List Int)) else none else some ((([])++([1]:List Int))++([2]:List Int)) else none else bif decide (1000<owed) then bif decide ((([])++([1]:List Int)).length+([3]:List Int).length≤LIM) then bif decide (2<late) then bif decide (((([])++([1]:List Int))++([3]:List Int)).length+([4]:List Int).length≤LIM) then some (((([])++([1]:List Int))++([3]:List Int))++([4]:List Int)) else none else some ((([])++([1]:List Int))++([3]:List Int)) else none else bif decide (2<late) then bif decide ((([])++([1]:List Int)).length+([4]:List Int).length≤LIM) then some ((([])++([1]:List Int))++([4]:List Int)) else none else some (([])++([1]:List Int)) else none else bif decide (p.Until<day) then bif decide (([]:List Int).length+([2]:List Int).length≤LIM) then bif decide (1000<owed) then bif decide ((([])++([2]:List Int)).length+([3]:List Int).length≤LIM) then bif decide (2<late) then bif decide (((([])++([2]:List Int))++([3]:List Int)).length+([4]:List Int).length≤LIM) then some (((([])++([2]:List Int))++([3]:List Int))++([4]:List Int)) else none else some ((([])++([2]:List Int))++([3]:List Int)) else none else bif decide (2<late) then bif decide ((([])++([2]:List Int)).length+([4]:List Int).length≤LIM) then some ((([])++([2]:List Int))++([4]:List Int)) else none else some (([])++([2]:List Int)) else none else bif decide (1000<owed) then bif decide (([]:List Int).length+([3]:List Int).length≤LIM) then bif decide (2<late) then bif decide ((([])++([3]:List Int)).length+([4]:List Int).length≤LIM) then some ((([])++([3]:List Int))++([4]:List Int)) else none else some (([])++([3]:List Int)) else none else bif decide (2<late) then bif decide (([]:List Int).length+([4]:List Int).length≤LIM) then some (([])++([4]:List Int)) else none else some ([])
def qe9 (c:Circ) (patron:Int):Option Bool:=
 match qbo c.Patrons patron with|some (r1,r2) =>(match qbz c.Charges patron with|some r4 =>(match qby c.Loans patron c.Today with|some r6 =>(match qfr r1 c.Today r4 r6 with|some r8 =>some (decide (0<(r8.length:Int)))|none =>none)|none =>none)|none =>none)|none =>none
def qdy (h:Hold) (x:Item):Option Bool:=
 let k (v1:Bool):Option Bool:=some v1;bif h.Record==x.Record then bif h.Item==0 then k true else k (h.Item==x.ID) else k false
def qfh (r:Rule) (patron:Int) (item:Int) (branch:Int):Option Bool:=
 let k6 (v:Bool):Option Bool:=let k5 (v2:Bool):Option Bool:=let k (v4:Bool):Option Bool:=some v4;bif v2 then bif r.Branch==0 then k true else k (r.Branch==branch) else k false;bif v then bif r.Item==0 then k5 true else k5 (r.Item==item) else k5 false;bif r.Patron==0 then k6 true else k6 (r.Patron==patron)
def qet (r:Rule):Option Int:=
 let k4 (n:Int):Option Int:=let k3 (n1:Int):Option Int:=let k (n2:Int):Option Int:=some n2;bif !(r.Branch==0) then k (wr .i64 (n1+1)) else k n1;bif !(r.Item==0) then k3 (wr .i64 (n+2)) else k3 n;bif !(r.Patron==0) then k4 4 else k4 0
def zkq:((List Rule)×Int×Int×Int×Int×Int×Unit)→Option (((List Rule)×Int×Int×Int×Int×Int×Unit)⊕((Int×Unit))):=fun (l,patron,item,branch,best,i,_)=>
 bif decide (i<(l.length:Int)) then match getI l i with|some x =>(match qfh x patron item branch with|some r1 =>let k10 (v8:Bool):Option (((List Rule)×Int×Int×Int×Int×Int×Unit)⊕((Int×Unit))):=let k (best9:Int):Option (((List Rule)×Int×Int×Int×Int×Int×Unit)⊕((Int×Unit))):=some (.inl (l,patron,item,branch,best9,wr .i64 (i+1),()));bif v8 then k i else k best;bif r1 then bif decide (best<0) then k10 true else match getI l i with|some x2 =>(match qet x2 with|some r4 =>(match getI l best with|some x5 =>(match qet x5 with|some r7 =>k10 (decide (r7<r4))|none =>none)|none =>none)|none =>none)|none =>none else k10 false|none =>none)|none =>none else some (.inr ((best,())))
def qbx (l:List Rule) (patron:Int) (item:Int) (branch:Int):Option Int:=
 match zae zkq (l,patron,item,branch,(-1),0,()) with|some ((best,_)) =>some best|none =>none
def qfy (l:List Rule) (patron:Int) (item:Int) (branch:Int):Option (Rule×Bool):=
 match qbx l patron item branch with|some r1 =>(bif decide (r1<0) then some ((⟨0,0,0,0,0,0,0,0,0,0,0,0,0⟩:Rule),false) else match getI l r1 with|some x =>some (x,true)|none =>none)|none =>none
def qdx (c:Circ) (patron:Int) (x:Item):Option (Rule×Bool):=
 match qbo c.Patrons patron with|some (r1,r2) =>(bif !r2 then some ((⟨0,0,0,0,0,0,0,0,0,0,0,0,0⟩:Rule),false) else match qfy c.Rules r1.Kind x.Kind x.Branch with|some (r4,r5) =>some (r4,r5)|none =>none)|none =>none
def qm (c:Circ) (branch:Int):Option Calendar:=
 let k (v:Int) (v1:List Int):Option Calendar:=some (⟨v,v1⟩:Calendar);bif (wr .i64 (branch-1))==0 then k c.Cals.x0.Week c.Cals.x0.Closed else bif (wr .i64 (branch-1))==1 then k c.Cals.x1.Week c.Cals.x1.Closed else bif (wr .i64 (branch-1))==2 then k c.Cals.x2.Week c.Cals.x2.Closed else bif (wr .i64 (branch-1))==3 then k c.Cals.x3.Week c.Cals.x3.Closed else none
def qf0 (day:Int):Option Bool:=
 let k (v:Bool):Option Bool:=some v;bif decide (0≤day) then k (decide (day≤109572)) else k false
def qfa (day:Int):Option Int:=
 match qf0 day with|some r1 =>bif !r1 then some (-1) else some (day.tmod 7)|none =>none
def z0x:(Int×Int×Int×Int×Calendar×Unit)→Option ((Int×Int×Int×Int×Calendar×Unit)⊕((Int×Int×Calendar×Unit))):=fun (day,bit,w,i,c,_)=>
 bif decide (i<w) then some (.inl (day,wr .i64 (bit.tdiv 2),w,wr .i64 (i+1),c,())) else some (.inr ((day,bit,c,())))
def zk1:(Int×Int×Calendar×Unit)→Option ((Int×Int×Calendar×Unit)⊕((Unit)⊕(Bool×Unit))):=fun (day,i,c,_)=>
 bif decide (i<(c.Closed.length:Int)) then match getI c.Closed i with|some x =>bif x==day then some (.inr (.inr (false,()))) else some (.inl (day,wr .i64 (i+1),c,()))|none =>none else some (.inr (.inl (())))
def qz (c:Calendar) (day:Int):Option Bool:=
 let k (v:Bool):Option Bool:=bif v then some false else match qfa day with|some r1 =>(match zae z0x (day,c.Week,r1,0,c,()) with|some ((day2,bit,c3,_)) =>(bif (bit.tmod 2)==1 then some false else match zae zk1 (day2,0,c3,()) with|some (.inl (_)) =>some true|some (.inr (v4,_)) =>some v4|none =>none)|none =>none)|none =>none;bif decide (day<0) then k true else k (decide (109572<day))
def zgz:(Int×Calendar×Unit)→Option ((Int×Calendar×Unit)⊕((Unit)⊕(Int×Int×Unit))):=fun (d,c,_)=>
 bif decide (d≤109572) then match qz c d with|some r1 =>bif r1 then some (.inr (.inr (d,0,()))) else some (.inl (wr .i64 (d+1),c,()))|none =>none else some (.inr (.inl (())))
def qa6 (c:Calendar) (day:Int):Option (Int×Int):=
 match zae zgz ((if day<0 then 0 else day),c,()) with|some (.inl (_)) =>some (0,2)|some (.inr (v,v2,_)) =>some (v,v2)|none =>none
def znf:(Int×Calendar×Unit)→Option ((Int×Calendar×Unit)⊕((Unit)⊕(Int×Int×Unit))):=fun (d,c,_)=>
 bif decide (0≤d) then match qz c d with|some r1 =>bif r1 then some (.inr (.inr (d,0,()))) else some (.inl (wr .i64 (d-1),c,()))|none =>none else some (.inr (.inl (())))
def qbu (c:Calendar) (day:Int):Option (Int×Int):=
 match zae znf ((if 109572<day then 109572 else day),c,()) with|some (.inl (_)) =>some (0,2)|some (.inr (v,v2,_)) =>some (v,v2)|none =>none
def qfz (r:Rule) (c:Calendar) (day:Int) (vuntil:Int):Option (Int×Int):=
 match qau day 0 109572 with|some r2 =>(let k16 (v:Bool):Option (Int×Int):=bif v then some (0,2) else bif r.Days==0 then some (0,15) else let k15 (last:Int):Option (Int×Int):=bif decide (last≤day) then some (0,15) else match qa6 c (if last<wr .i64 (day+r.Days) then last else wr .i64 (day+r.Days)) with|some (r6,r7) =>let k14 (v8:Bool):Option (Int×Int):=let k13 (d:Int) (e:Int):Option (Int×Int):=let k (v12:Bool):Option (Int×Int):=bif v12 then some (0,15) else some (d,0);bif !(e==0) then k true else k (decide (d≤day));bif v8 then match qbu c last with|some (r10,r11) =>k13 r10 r11|none =>none else k13 r6 r7;bif !(r7==0) then k14 true else k14 (decide (last<r6))|none =>none;bif decide (0<r.Fixed) then k15 (if r.Fixed<vuntil then r.Fixed else vuntil) else k15 vuntil;bif !r2 then k16 true else match qau vuntil 0 109572 with|some r4 =>k16 (!r4)|none =>none)|none =>none
def qff (r:Rule) (c:Calendar) (n:Loan) (day:Int) (vuntil:Int):Option (Int×Int):=
 let k (v:Bool):Option (Int×Int):=bif v then some (0,15) else match qfz r c day vuntil with|some (r2,r3) =>bif !(r3==0) then some (0,r3) else bif decide (r2≤n.Due) then some (0,15) else some (r2,0)|none =>none;bif decide (r.Renewals≤n.Renewals) then k true else k n.Recalled
def qfq (l:List Loan):Option ((List Loan)×Int):=
 match qak l with|some r1 =>bif !(r1==0) then some ([],r1) else some (l,0)|none =>none
def qfe (l:List Loan) (item:Int) (due:Int):Option ((List Loan)×Int):=
 match qaf l item with|some r1 =>(bif decide (r1<0) then some ([],9) else match getI l r1 with|some x =>bif x.Recalled then some ([],12) else bif decide (([]:List Loan).length+l.length≤LIM) then match getI (([])++l) r1 with|some _ =>(match (([])++l)[r1.toNat]? with|some x2 =>(match getI l r1 with|some x3 =>(match getI ((([])++l).set r1.toNat (⟨x2.Item,x2.Patron,x2.Out,due,x2.Renewals,x2.Recalled⟩:Loan)) r1 with|some _ =>(match ((([])++l).set r1.toNat (⟨x2.Item,x2.Patron,x2.Out,due,x2.Renewals,x2.Recalled⟩:Loan))[r1.toNat]? with|some x4 =>(match qfq (((([])++l).set r1.toNat (⟨x2.Item,x2.Patron,x2.Out,due,x2.Renewals,x2.Recalled⟩:Loan)).set r1.toNat (⟨x4.Item,x4.Patron,x4.Out,x4.Due,wr .i64 (x3.Renewals+1),x4.Recalled⟩:Loan)) with|some (r6,r7) =>some (r6,r7)|none =>none)|none =>none)|none =>none)|none =>none)|none =>none)|none =>none else none|none =>none)|none =>none
def zfp:(Int×Int×Circ×Circ×Loan×Item×Unit)→Option ((Int×Int×Circ×Circ×Loan×Item×Unit)⊕((Int×Circ×Circ×Loan×Item×Unit)⊕(Int×Int×Circ×Unit))):=fun (item,i,c,v,n,x,_)=>
 bif decide (i<(c.Holds.length:Int)) then match getI c.Holds i with|some x7 =>let k11 (v8:Bool):Option ((Int×Int×Circ×Circ×Loan×Item×Unit)⊕((Int×Circ×Circ×Loan×Item×Unit)⊕(Int×Int×Circ×Unit))):=let k (v10:Bool):Option ((Int×Int×Circ×Circ×Loan×Item×Unit)⊕((Int×Circ×Circ×Loan×Item×Unit)⊕(Int×Int×Circ×Unit))):=bif v10 then some (.inr (.inr (0,16,(⟨0,[],[],[],[],[],[],⟨⟨0,[]⟩,⟨0,[]⟩,⟨0,[]⟩,⟨0,[]⟩⟩,[],0,0,false⟩:Circ),()))) else some (.inl (item,wr .i64 (i+1),c,v,n,x,()));bif v8 then match qdy x7 x with|some r9 =>k r9|none =>none else k false;bif x7.State==1 then k11 (decide (x7.Asleep≤c.Today)) else k11 false|none =>none else some (.inr (.inl (item,c,v,n,x,())))
def qbw (c:Circ) (item:Int):Option (Circ×Int×Int):=
 match qci c.Loans item with|some (r1,r2) =>(bif !r2 then some ((⟨0,[],[],[],[],[],[],⟨⟨0,[]⟩,⟨0,[]⟩,⟨0,[]⟩,⟨0,[]⟩⟩,[],0,0,false⟩:Circ),0,9) else match qn c item with|some r4 =>(match getI c.Items r4 with|some x =>(bif !(x.Custody.State==4) then some ((⟨0,[],[],[],[],[],[],⟨⟨0,[]⟩,⟨0,[]⟩,⟨0,[]⟩,⟨0,[]⟩⟩,[],0,0,false⟩:Circ),0,12) else match qe9 c r1.Patron with|some r6 =>(bif r6 then some ((⟨0,[],[],[],[],[],[],⟨⟨0,[]⟩,⟨0,[]⟩,⟨0,[]⟩,⟨0,[]⟩⟩,[],0,0,false⟩:Circ),0,14) else match zae zfp (item,0,c,(⟨0,[],[],[],[],[],[],⟨⟨0,[]⟩,⟨0,[]⟩,⟨0,[]⟩,⟨0,[]⟩⟩,[],0,0,false⟩:Circ),r1,x,()) with|some (.inl (item12,c13,v,n,x14,_)) =>(match qdx c13 n.Patron x14 with|some (r16,r17) =>(bif !r17 then some ((⟨0,[],[],[],[],[],[],⟨⟨0,[]⟩,⟨0,[]⟩,⟨0,[]⟩,⟨0,[]⟩⟩,[],0,0,false⟩:Circ),0,15) else match qbo c13.Patrons n.Patron with|some (r19,r20) =>(match qm c13 x14.Custody.Branch with|some r22 =>(match qff r16 r22 n c13.Today r19.Until with|some (r24,r25) =>(bif !(r25==0) then some ((⟨0,[],[],[],[],[],[],⟨⟨0,[]⟩,⟨0,[]⟩,⟨0,[]⟩,⟨0,[]⟩⟩,[],0,0,false⟩:Circ),0,r25) else match qfe c13.Loans item12 r24 with|some (r27,r28) =>bif !(r28==0) then some ((⟨0,[],[],[],[],[],[],⟨⟨0,[]⟩,⟨0,[]⟩,⟨0,[]⟩,⟨0,[]⟩⟩,[],0,0,false⟩:Circ),0,r28) else some ((⟨c13.Today,c13.Items,c13.Patrons,r27,c13.Holds,c13.Charges,c13.Rules,c13.Cals,c13.Moves,c13.NextHold,c13.NextCharge,c13.Local⟩:Circ),r24,0)|none =>none)|none =>none)|none =>none)|none =>none)|none =>none)|some (.inr (v29,v30,v31,_)) =>some (v31,v29,v30)|none =>none)|none =>none)|none =>none)|none =>none)|none =>none
def zne:((List Hold)×Int×Int×Hold×Unit)→Option (((List Hold)×Int×Int×Hold×Unit)⊕((Hold×Unit)⊕(Bool×Hold×Unit))):=fun (l,vid,i,v,_)=>
 bif decide (i<(l.length:Int)) then match getI l i with|some x =>bif x.ID==vid then match getI l i with|some x1 =>some (.inr (.inr (true,x1,())))|none =>none else some (.inl (l,vid,wr .i64 (i+1),v,()))|none =>none else some (.inr (.inl (v,())))
def qbn (l:List Hold) (vid:Int):Option (Hold×Bool):=
 match zae zne (l,vid,0,(⟨0,0,0,0,0,0,0,0,0,0,0⟩:Hold),()) with|some (.inl (v,_)) =>some ((⟨0,0,0,0,0,0,0,0,0,0,0⟩:Hold),false)|some (.inr (v2,v3,_)) =>some (v3,v2)|none =>none
def zko:(Int×Int×Int×Calendar×Unit)→Option ((Int×Int×Int×Calendar×Unit)⊕((Int×Unit)⊕(Int×Int×Unit))):=fun (n,d,i,c,_)=>
 bif decide (i<n) then match qa6 c (wr .i64 (d+1)) with|some (r4,r5) =>bif !(r5==0) then some (.inr (.inr (0,r5,()))) else some (.inl (n,r4,wr .i64 (i+1),c,()))|none =>none else some (.inr (.inl (d,())))
def qbl (c:Calendar) (day:Int) (n:Int):Option (Int×Int):=
 let k8 (v:Bool):Option (Int×Int):=bif v then some (0,1) else let k (v1:Bool):Option (Int×Int):=bif v1 then some (0,2) else bif n==0 then match qa6 c day with|some (r2,r3) =>some (r2,r3)|none =>none else match zae zko (n,day,0,c,()) with|some (.inl (d,_)) =>some (d,0)|some (.inr (v6,v7,_)) =>some (v6,v7)|none =>none;bif decide (day<0) then k true else k (decide (109572<day));bif decide (n<0) then k8 true else k8 (decide (1000<n))
def qfc (l:List Loan) (item:Int) (due:Int):Option ((List Loan)×Int):=
 match qaf l item with|some r1 =>(bif decide (r1<0) then some ([],9) else match getI l r1 with|some x =>bif x.Recalled then some ([],12) else let k12 (v:Bool):Option ((List Loan)×Int):=bif v then some ([],2) else bif decide (([]:List Loan).length+l.length≤LIM) then match getI (([])++l) r1 with|some _ =>(match (([])++l)[r1.toNat]? with|some x2 =>(match getI l r1 with|some x3 =>let k11 (l5:List Loan):Option ((List Loan)×Int):=match getI l5 r1 with|some _ =>(match l5[r1.toNat]? with|some x6 =>(match getI l r1 with|some x7 =>let k (l10:List Loan):Option ((List Loan)×Int):=some (l10,0);bif decide (x6.Due<x7.Out) then match getI l r1 with|some x8 =>(match getI l5 r1 with|some _ =>(match l5[r1.toNat]? with|some x9 =>k (l5.set r1.toNat (⟨x9.Item,x9.Patron,x9.Out,x8.Out,x9.Renewals,x9.Recalled⟩:Loan))|none =>none)|none =>none)|none =>none else k l5|none =>none)|none =>none)|none =>none;bif decide (due<x3.Due) then match getI ((([])++l).set r1.toNat (⟨x2.Item,x2.Patron,x2.Out,x2.Due,x2.Renewals,true⟩:Loan)) r1 with|some _ =>(match ((([])++l).set r1.toNat (⟨x2.Item,x2.Patron,x2.Out,x2.Due,x2.Renewals,true⟩:Loan))[r1.toNat]? with|some x4 =>k11 (((([])++l).set r1.toNat (⟨x2.Item,x2.Patron,x2.Out,x2.Due,x2.Renewals,true⟩:Loan)).set r1.toNat (⟨x4.Item,x4.Patron,x4.Out,due,x4.Renewals,x4.Recalled⟩:Loan))|none =>none)|none =>none else k11 ((([])++l).set r1.toNat (⟨x2.Item,x2.Patron,x2.Out,x2.Due,x2.Renewals,true⟩:Loan))|none =>none)|none =>none)|none =>none else none;bif decide (due<0) then k12 true else k12 (decide (109572<due))|none =>none)|none =>none
def zkp:(Int×Circ×Circ×Hold×Loan×Unit)→Option ((Int×Circ×Circ×Hold×Loan×Unit)⊕((Circ×Circ×Loan×Unit))):=fun (i,c,v,h,best,_)=>
 bif decide (i<(c.Items.length:Int)) then match getI c.Items i with|some x =>(match qci c.Loans x.ID with|some (r3,r4) =>let k16 (v5:Bool):Option ((Int×Circ×Circ×Hold×Loan×Unit)⊕((Circ×Circ×Loan×Unit))):=let k15 (v8:Bool):Option ((Int×Circ×Circ×Hold×Loan×Unit)⊕((Circ×Circ×Loan×Unit))):=let k14 (v9:Bool):Option ((Int×Circ×Circ×Hold×Loan×Unit)⊕((Circ×Circ×Loan×Unit))):=let k13 (v11:Bool):Option ((Int×Circ×Circ×Hold×Loan×Unit)⊕((Circ×Circ×Loan×Unit))):=let k (best12:Loan):Option ((Int×Circ×Circ×Hold×Loan×Unit)⊕((Circ×Circ×Loan×Unit))):=some (.inl (wr .i64 (i+1),c,v,h,best12,()));bif v11 then k r3 else k best;bif v9 then bif best.Item==0 then k13 true else k13 (decide (r3.Due<best.Due)) else k13 false;bif v8 then k14 (!r3.Recalled) else k14 false;bif v5 then match qdy h x with|some r7 =>k15 r7|none =>none else k15 false;bif r4 then k16 (x.Custody.State==4) else k16 false|none =>none)|none =>none else some (.inr ((c,v,best,())))
def qbt (c:Circ) (vid:Int):Option (Circ×Int×Int):=
 match qbn c.Holds vid with|some (r1,r2) =>(bif !r2 then some ((⟨0,[],[],[],[],[],[],⟨⟨0,[]⟩,⟨0,[]⟩,⟨0,[]⟩,⟨0,[]⟩⟩,[],0,0,false⟩:Circ),0,9) else bif !(r1.State==1) then some ((⟨0,[],[],[],[],[],[],⟨⟨0,[]⟩,⟨0,[]⟩,⟨0,[]⟩,⟨0,[]⟩⟩,[],0,0,false⟩:Circ),0,12) else match zae zkp (0,c,(⟨0,[],[],[],[],[],[],⟨⟨0,[]⟩,⟨0,[]⟩,⟨0,[]⟩,⟨0,[]⟩⟩,[],0,0,false⟩:Circ),r1,(⟨0,0,0,0,0,false⟩:Loan),()) with|some ((c17,v,best,_)) =>(bif best.Item==0 then some ((⟨0,[],[],[],[],[],[],⟨⟨0,[]⟩,⟨0,[]⟩,⟨0,[]⟩,⟨0,[]⟩⟩,[],0,0,false⟩:Circ),0,9) else match qn c17 best.Item with|some r19 =>(match getI c17.Items r19 with|some x =>(match qdx c17 best.Patron x with|some (r21,r22) =>(bif !r22 then some ((⟨0,[],[],[],[],[],[],⟨⟨0,[]⟩,⟨0,[]⟩,⟨0,[]⟩,⟨0,[]⟩⟩,[],0,0,false⟩:Circ),0,15) else match qm c17 x.Custody.Branch with|some r24 =>(match qbl r24 c17.Today r21.Recall with|some (r26,r27) =>(bif !(r27==0) then some ((⟨0,[],[],[],[],[],[],⟨⟨0,[]⟩,⟨0,[]⟩,⟨0,[]⟩,⟨0,[]⟩⟩,[],0,0,false⟩:Circ),0,r27) else match qfc c17.Loans best.Item r26 with|some (r29,r30) =>bif !(r30==0) then some ((⟨0,[],[],[],[],[],[],⟨⟨0,[]⟩,⟨0,[]⟩,⟨0,[]⟩,⟨0,[]⟩⟩,[],0,0,false⟩:Circ),0,r30) else some ((⟨c17.Today,c17.Items,c17.Patrons,r29,c17.Holds,c17.Charges,c17.Rules,c17.Cals,c17.Moves,c17.NextHold,c17.NextCharge,c17.Local⟩:Circ),best.Item,0)|none =>none)|none =>none)|none =>none)|none =>none)|none =>none)|none =>none)|none =>none)|none =>none
def zd4:(Int×Int×Circ×Circ×Unit)→Option ((Int×Int×Circ×Circ×Unit)⊕((Int×Circ×Circ×Unit)⊕(Bool×Unit))):=fun (i,k,a,b,_)=>
 let k17 (v:Int) (v9:List Int):Option ((Int×Int×Circ×Circ×Unit)⊕((Int×Circ×Circ×Unit)⊕(Bool×Unit))):=bif decide (k<(v9.length:Int)) then let k16 (v10:Int) (v11:List Int):Option ((Int×Int×Circ×Circ×Unit)⊕((Int×Circ×Circ×Unit)⊕(Bool×Unit))):=match getI v11 k with|some x =>let k15 (v12:Int) (v13:List Int):Option ((Int×Int×Circ×Circ×Unit)⊕((Int×Circ×Circ×Unit)⊕(Bool×Unit))):=match getI v13 k with|some x14 =>bif !(x==x14) then some (.inr (.inr (false,()))) else some (.inl (i,wr .i64 (k+1),a,b,()))|none =>none;bif i==0 then k15 b.Cals.x0.Week b.Cals.x0.Closed else bif i==1 then k15 b.Cals.x1.Week b.Cals.x1.Closed else bif i==2 then k15 b.Cals.x2.Week b.Cals.x2.Closed else bif i==3 then k15 b.Cals.x3.Week b.Cals.x3.Closed else none|none =>none;bif i==0 then k16 a.Cals.x0.Week a.Cals.x0.Closed else bif i==1 then k16 a.Cals.x1.Week a.Cals.x1.Closed else bif i==2 then k16 a.Cals.x2.Week a.Cals.x2.Closed else bif i==3 then k16 a.Cals.x3.Week a.Cals.x3.Closed else none else some (.inr (.inl (i,a,b,())));bif i==0 then k17 a.Cals.x0.Week a.Cals.x0.Closed else bif i==1 then k17 a.Cals.x1.Week a.Cals.x1.Closed else bif i==2 then k17 a.Cals.x2.Week a.Cals.x2.Closed else bif i==3 then k17 a.Cals.x3.Week a.Cals.x3.Closed else none
def zif:(Int×Circ×Circ×Unit)→Option ((Int×Circ×Circ×Unit)⊕((Unit)⊕(Bool×Unit))):=fun (i,a,b,_)=>
 bif decide (i<4) then let k24 (v:Int) (v1:List Int):Option ((Int×Circ×Circ×Unit)⊕((Unit)⊕(Bool×Unit))):=let k23 (v2:Int) (v3:List Int):Option ((Int×Circ×Circ×Unit)⊕((Unit)⊕(Bool×Unit))):=let k22 (v8:Bool):Option ((Int×Circ×Circ×Unit)⊕((Unit)⊕(Bool×Unit))):=bif v8 then some (.inr (.inr (false,()))) else match zae zd4 (i,0,a,b,()) with|some (.inl (i18,a19,b20,_)) =>some (.inl (wr .i64 (i18+1),a19,b20,()))|some (.inr (v21,_)) =>some (.inr (.inr (v21,())))|none =>none;bif !(v==v2) then k22 true else let k (v4:Int) (v5:List Int):Option ((Int×Circ×Circ×Unit)⊕((Unit)⊕(Bool×Unit))):=bif i==0 then k22 (!((v5.length:Int)==(b.Cals.x0.Closed.length:Int))) else bif i==1 then k22 (!((v5.length:Int)==(b.Cals.x1.Closed.length:Int))) else bif i==2 then k22 (!((v5.length:Int)==(b.Cals.x2.Closed.length:Int))) else bif i==3 then k22 (!((v5.length:Int)==(b.Cals.x3.Closed.length:Int))) else none;bif i==0 then k a.Cals.x0.Week a.Cals.x0.Closed else bif i==1 then k a.Cals.x1.Week a.Cals.x1.Closed else bif i==2 then k a.Cals.x2.Week a.Cals.x2.Closed else bif i==3 then k a.Cals.x3.Week a.Cals.x3.Closed else none;bif i==0 then k23 b.Cals.x0.Week b.Cals.x0.Closed else bif i==1 then k23 b.Cals.x1.Week b.Cals.x1.Closed else bif i==2 then k23 b.Cals.x2.Week b.Cals.x2.Closed else bif i==3 then k23 b.Cals.x3.Week b.Cals.x3.Closed else none;bif i==0 then k24 a.Cals.x0.Week a.Cals.x0.Closed else bif i==1 then k24 a.Cals.x1.Week a.Cals.x1.Closed else bif i==2 then k24 a.Cals.x2.Week a.Cals.x2.Closed else bif i==3 then k24 a.Cals.x3.Week a.Cals.x3.Closed else none else some (.inr (.inl (())))
def qw (a:Circ) (b:Circ):Option Bool:=
 match zae zif (0,a,b,()) with|some (.inl (_)) =>some true|some (.inr (v,_)) =>some v|none =>none
def zuk:(Int×Circ×Circ×Unit)→Option ((Int×Circ×Circ×Unit)⊕((Circ×Circ×Unit)⊕(Bool×Unit))):=fun (i,a,b,_)=>
 bif decide (i<(a.Items.length:Int)) then match getI a.Items i with|some x =>(match getI b.Items i with|some x10 =>bif !(zom x x10) then some (.inr (.inr (false,()))) else some (.inl (wr .i64 (i+1),a,b,()))|none =>none)|none =>none else some (.inr (.inl (a,b,())))
def zkr:(Int×Circ×Circ×Unit)→Option ((Int×Circ×Circ×Unit)⊕((Circ×Circ×Unit)⊕(Bool×Unit))):=fun (i,a,b,_)=>
 bif decide (i<(a.Patrons.length:Int)) then match getI a.Patrons i with|some x =>(match getI b.Patrons i with|some x13 =>bif !(zhf x x13) then some (.inr (.inr (false,()))) else some (.inl (wr .i64 (i+1),a,b,()))|none =>none)|none =>none else some (.inr (.inl (a,b,())))
def zks:(Int×Circ×Circ×Unit)→Option ((Int×Circ×Circ×Unit)⊕((Circ×Circ×Unit)⊕(Bool×Unit))):=fun (i,a,b,_)=>
 bif decide (i<(a.Loans.length:Int)) then match getI a.Loans i with|some x =>(match getI b.Loans i with|some x16 =>bif !(zoo x x16) then some (.inr (.inr (false,()))) else some (.inl (wr .i64 (i+1),a,b,()))|none =>none)|none =>none else some (.inr (.inl (a,b,())))
def zkt:(Int×Circ×Circ×Unit)→Option ((Int×Circ×Circ×Unit)⊕((Circ×Circ×Unit)⊕(Bool×Unit))):=fun (i,a,b,_)=>
 bif decide (i<(a.Holds.length:Int)) then match getI a.Holds i with|some x =>(match getI b.Holds i with|some x19 =>bif !(zok x x19) then some (.inr (.inr (false,()))) else some (.inl (wr .i64 (i+1),a,b,()))|none =>none)|none =>none else some (.inr (.inl (a,b,())))
def zku:(Int×Circ×Circ×Unit)→Option ((Int×Circ×Circ×Unit)⊕((Circ×Circ×Unit)⊕(Bool×Unit))):=fun (i,a,b,_)=>
 bif decide (i<(a.Charges.length:Int)) then match getI a.Charges i with|some x =>(match getI b.Charges i with|some x22 =>bif !(zhe x x22) then some (.inr (.inr (false,()))) else some (.inl (wr .i64 (i+1),a,b,()))|none =>none)|none =>none else some (.inr (.inl (a,b,())))
def zkv:(Int×Circ×Circ×Unit)→Option ((Int×Circ×Circ×Unit)⊕((Circ×Circ×Unit)⊕(Bool×Unit))):=fun (i,a,b,_)=>
 bif decide (i<(a.Rules.length:Int)) then match getI a.Rules i with|some x =>(match getI b.Rules i with|some x25 =>bif !(zos x x25) then some (.inr (.inr (false,()))) else some (.inl (wr .i64 (i+1),a,b,()))|none =>none)|none =>none else some (.inr (.inl (a,b,())))
def zkw:(Int×Circ×Circ×Unit)→Option ((Int×Circ×Circ×Unit)⊕((Circ×Circ×Unit)⊕(Bool×Unit))):=fun (i,a,b,_)=>
 bif decide (i<(a.Moves.length:Int)) then match getI a.Moves i with|some x =>(match getI b.Moves i with|some x28 =>bif !(zoq x x28) then some (.inr (.inr (false,()))) else some (.inl (wr .i64 (i+1),a,b,()))|none =>none)|none =>none else some (.inr (.inl (a,b,())))
def qc (a:Circ) (b:Circ):Option Bool:=
 let k47 (v:Bool):Option Bool:=let k46 (v1:Bool):Option Bool:=let k45 (v2:Bool):Option Bool:=let k44 (v3:Bool):Option Bool:=bif v3 then some false else let k43 (v4:Bool):Option Bool:=let k42 (v5:Bool):Option Bool:=let k41 (v6:Bool):Option Bool:=let k40 (v7:Bool):Option Bool:=let k39 (v8:Bool):Option Bool:=let k (v9:Bool):Option Bool:=bif v9 then some false else match zae zuk (0,a,b,()) with|some (.inl (a11,b12,_)) =>(match zae zkr (0,a11,b12,()) with|some (.inl (a14,b15,_)) =>(match zae zks (0,a14,b15,()) with|some (.inl (a17,b18,_)) =>(match zae zkt (0,a17,b18,()) with|some (.inl (a20,b21,_)) =>(match zae zku (0,a20,b21,()) with|some (.inl (a23,b24,_)) =>(match zae zkv (0,a23,b24,()) with|some (.inl (a26,b27,_)) =>(match zae zkw (0,a26,b27,()) with|some (.inl (a29,b30,_)) =>(match qw a29 b30 with|some r31 =>some r31|none =>none)|some (.inr (v32,_)) =>some v32|none =>none)|some (.inr (v33,_)) =>some v33|none =>none)|some (.inr (v34,_)) =>some v34|none =>none)|some (.inr (v35,_)) =>some v35|none =>none)|some (.inr (v36,_)) =>some v36|none =>none)|some (.inr (v37,_)) =>some v37|none =>none)|some (.inr (v38,_)) =>some v38|none =>none;bif v8 then k true else k (!((a.Moves.length:Int)==(b.Moves.length:Int)));bif v7 then k39 true else k39 (!((a.Rules.length:Int)==(b.Rules.length:Int)));bif v6 then k40 true else k40 (!((a.Charges.length:Int)==(b.Charges.length:Int)));bif v5 then k41 true else k41 (!((a.Holds.length:Int)==(b.Holds.length:Int)));bif v4 then k42 true else k42 (!((a.Loans.length:Int)==(b.Loans.length:Int)));bif !((a.Items.length:Int)==(b.Items.length:Int)) then k43 true else k43 (!((a.Patrons.length:Int)==(b.Patrons.length:Int)));bif v2 then k44 true else k44 (!(a.Local==b.Local));bif v1 then k45 true else k45 (!(a.NextCharge==b.NextCharge));bif v then k46 true else k46 (!(a.NextHold==b.NextHold));bif !(a.Today==b.Today) then k47 true else k47 (!(a.Cals.x0.Week==b.Cals.x0.Week))
def qdm (c:Circ) (item:Int) (vid:Int):Option Bool:=
 match qfw c with|some r1 =>(bif !r1 then match qfb with|some r3 =>some r3|none =>none else match qbv c item with|some (r5,r6,r7) =>(match qbw c item with|some (r9,r10,r11) =>(match qer c vid with|some (r13,r14,r15) =>(match qbt c vid with|some (r17,r18,r19) =>(match qfb with|some r21 =>let k35 (v:Bool):Option Bool:=let k34 (v24:Bool):Option Bool:=let k33 (v25:Bool):Option Bool:=let k32 (v28:Bool):Option Bool:=let k31 (v29:Bool):Option Bool:=let k (v30:Bool):Option Bool:=some v30;bif v29 then k (r15==r19) else k false;bif v28 then k31 (r14==r18) else k31 false;bif v25 then match qc r13 r17 with|some r27 =>k32 r27|none =>none else k32 false;bif v24 then k33 (r7==r11) else k33 false;bif v then k34 (r6==r10) else k34 false;bif r21 then match qc r5 r9 with|some r23 =>k35 r23|none =>none else k35 false|none =>none)|none =>none)|none =>none)|none =>none)|none =>none)|none =>none
end Go.Proofs.YtdahfgialanmpaaGreatDoor
namespace Go.Proofs.YtdahfgialanmpaaGreatDoor
set_option maxRecDepth 100000
open Ev
open Go (IntKind)
open Go
theorem zp3:CCOk za0:=CCOk.iso (CCOk.cons (zak.int _) (CCOk.cons (zak.int _) (CCOk.cons (zak.int _) (CCOk.cons (zak.int _) CCOk.nil)))) (fun _=>rfl)
theorem zp5:CCOk zaz:=CCOk.iso (CCOk.cons (zak.int _) (CCOk.cons (zak.int _) (CCOk.cons (zak.int _) (CCOk.cons (zak.int _) (CCOk.cons (zak.int _) (CCOk.cons zak.str (CCOk.cons (zak.int _) (CCOk.cons (zak.int _) (CCOk.cons (zak.int _) (CCOk.cons (zak.int _) CCOk.nil)))))))))) (fun _=>rfl)
theorem zi6:CCOk zbd:=CCOk.iso (CCOk.cons (zak.int _) (CCOk.cons (zak.int _) (CCOk.cons (zak.int _) (CCOk.cons (zak.int _) (CCOk.cons zak.bool (CCOk.cons zak.str CCOk.nil)))))) (fun _=>rfl)
theorem zp6:CCOk zbg:=CCOk.iso (CCOk.cons (zak.int _) (CCOk.cons (zak.int _) (CCOk.cons (zak.int _) (CCOk.cons (zak.int _) (CCOk.cons (zak.int _) (CCOk.cons zak.bool CCOk.nil)))))) (fun _=>rfl)
theorem zp4:CCOk za3:=CCOk.iso (CCOk.cons (zak.int _) (CCOk.cons (zak.int _) (CCOk.cons (zak.int _) (CCOk.cons (zak.int _) (CCOk.cons (zak.int _) (CCOk.cons (zak.int _) (CCOk.cons (zak.int _) (CCOk.cons (zak.int _) (CCOk.cons (zak.int _) (CCOk.cons (zak.int _) (CCOk.cons (zak.int _) CCOk.nil))))))))))) (fun _=>rfl)
theorem zi5:CCOk zdv:=CCOk.iso (CCOk.cons (zak.int _) (CCOk.cons (zak.int _) (CCOk.cons (zak.int _) (CCOk.cons (zak.int _) (CCOk.cons (zak.int _) (CCOk.cons (zak.int _) (CCOk.cons (zak.int _) CCOk.nil))))))) (fun _=>rfl)
theorem zp8:CCOk zc3:=CCOk.iso (CCOk.cons (zak.int _) (CCOk.cons (zak.int _) (CCOk.cons (zak.int _) (CCOk.cons (zak.int _) (CCOk.cons (zak.int _) (CCOk.cons (zak.int _) (CCOk.cons (zak.int _) (CCOk.cons (zak.int _) (CCOk.cons (zak.int _) (CCOk.cons (zak.int _) (CCOk.cons (zak.int _) (CCOk.cons (zak.int _) (CCOk.cons (zak.int _) CCOk.nil))))))))))))) (fun _=>rfl)
theorem zn4:CCOk zat:=CCOk.iso (CCOk.cons (zak.int _) (CCOk.cons (zak.lst _) CCOk.nil)) (fun _=>rfl)
theorem zp7:CCOk zg8:=CCOk.iso (CCOk.cons (zak.int _) (CCOk.cons (zak.int _) (CCOk.cons (zak.int _) (CCOk.cons (zak.int _) (CCOk.cons (zak.int _) CCOk.nil))))) (fun _=>rfl)
theorem z2p:CCOk zah:=CCOk.iso (CCOk.cons (zak.int _) (CCOk.cons (zak.lst _) (CCOk.cons (zak.lst _) (CCOk.cons (zak.lst _) (CCOk.cons (zak.lst _) (CCOk.cons (zak.lst _) (CCOk.cons (zak.lst _) (CCOk.cons (zak.int _) (CCOk.cons (zak.lst _) (CCOk.cons (zak.int _) (CCOk.cons (zak.lst _) (CCOk.cons (zak.int _) (CCOk.cons (zak.lst _) (CCOk.cons (zak.int _) (CCOk.cons (zak.lst _) (CCOk.cons (zak.lst _) (CCOk.cons (zak.int _) (CCOk.cons (zak.int _) (CCOk.cons zak.bool CCOk.nil))))))))))))))))))) (fun _=>rfl)
theorem zlr:CCOk zau:=CCOk.iso (CCOk.cons (zak.int _) (CCOk.cons (zak.lst _) (CCOk.cons (zak.lst _) (CCOk.cons (zak.lst _) (CCOk.cons (zak.lst _) (CCOk.cons (zak.lst _) (CCOk.cons (zak.lst _) (CCOk.cons (zak.int _) (CCOk.cons (zak.lst _) (CCOk.cons (zak.int _) (CCOk.cons (zak.lst _) (CCOk.cons (zak.int _) (CCOk.cons (zak.lst _) (CCOk.cons (zak.int _) (CCOk.cons (zak.lst _) (CCOk.cons (zak.lst _) (CCOk.cons (zak.int _) (CCOk.cons (zak.int _) (CCOk.cons zak.bool (CCOk.cons (zak.int _) CCOk.nil)))))))))))))))))))) (fun _=>rfl)
theorem zdf:CCOk zck:=CCOk.iso (CCOk.cons (zak.int _) (CCOk.cons (zak.int _) CCOk.nil)) (fun _=>rfl)
theorem zh9:CCOk zee:=CCOk.iso (CCOk.cons (zak.int _) (CCOk.cons (zak.lst _) (CCOk.cons (zak.int _) (CCOk.cons (zak.lst _) (CCOk.cons (zak.int _) (CCOk.cons (zak.lst _) (CCOk.cons (zak.int _) (CCOk.cons (zak.lst _) CCOk.nil)))))))) (fun _=>rfl)
theorem zp9:CCOk zbu:=CCOk.iso (CCOk.cons zak.bool (CCOk.cons zak.bool (CCOk.cons zak.bool (CCOk.cons zak.bool (CCOk.cons zak.bool (CCOk.cons zak.bool (CCOk.cons zak.bool CCOk.nil))))))) (fun _=>rfl)
instance:CCC za0:=⟨zp3⟩
instance:CCC zaz:=⟨zp5⟩
instance:CCC zbd:=⟨zi6⟩
instance:CCC zbg:=⟨zp6⟩
instance:CCC za3:=⟨zp4⟩
instance:CCC zdv:=⟨zi5⟩
instance:CCC zc3:=⟨zp8⟩
instance:CCC zat:=⟨zn4⟩
instance:CCC zg8:=⟨zp7⟩
instance:CCC zah:=⟨z2p⟩
instance:CCC zau:=⟨zlr⟩
instance:CCC zck:=⟨zdf⟩
instance:CCC zee:=⟨zh9⟩
instance:CCC zbu:=⟨zp9⟩
end Go.Proofs.YtdahfgialanmpaaGreatDoor
namespace Go.Proofs.YtdahfgialanmpaaGreatDoor
set_option maxRecDepth 100000
open Ev
open Go (IntKind)
abbrev zg6:ZC (Circ×Unit):=Zc (Cod.agg zah) Zn
abbrev zax:ZD (Bool):=Zb
abbrev za0f {R:Type}:Sm R:=semP zg6 zax (fun a=>qa a.1)
def zaky {R:Type}:Nat→Sm R:=c0
abbrev z4z:=mkld [] [] [1,3] [1] [] (Zp 1 1 (Zs 3 Zi (Zx 1 zah Zz))) z0i (.xs 0 [1] [1] [] (Zp 1 1 (Zx 1 zah Zz)) (.r [2] [] [] (Zs 2 Zb Zz)))
abbrev z41:=mkld [] [] [1,4] [1] [] (Zp 1 1 (Zs 4 Zi (Zx 1 zah Zz))) z0j (.xs 2 [1] [1] [] (Zp 1 1 (Zx 1 zah Zz)) (.r [2] [] [] (Zs 2 Zb Zz)))
abbrev zwl:=mkld [] [] [1,5] [1] [] (Zp 1 1 (Zs 5 Zi (Zx 1 zah Zz))) zhy (.xs 4 [] [] [] Zz (.r [2] [] [] (Zs 2 Zb Zz)))
def zij {R:Type}:Lp Kd El R:=lp 14 zwl.sem (lp 9 z41.sem (lp 4 z4z.sem l0))
abbrev zafo:ZC ((List UInt8)×Int×Unit):=Zc Cod.str (Zc Zi Zn)
abbrev ze8:ZD (Int×Int):=(Cod.tup2 (Zc Zi (Zc Zi Zn)))
abbrev zu5 {R:Type}:Sm R:=semP zafo ze8 (fun a=>qaq a.1 a.2.1)
abbrev zvi:ZC ((List UInt8)×Unit):=Zc Cod.str Zn
abbrev zu4 {R:Type}:Sm R:=semP zvi zax (fun a=>qal a.1)
def zabd {R:Type}:Nat→Sm R:=cl 258 zu5 c0
abbrev zwu:=mkld [] [] [0,3] [] [] (Zs 0 Cod.str (Zs 3 Zi Zz)) zm6 (.xs 0 [] [] [] Zz (.r [2] [] [] (Zs 2 Zb Zz)))
def zrg {R:Type}:Lp Kd El R:=lp 2 zwu.sem l0
abbrev za4:ZD (Int):=Zi
abbrev zakb {R:Type}:Sm R:=semP zafo za4 (fun a=>qf a.1 a.2.1)
abbrev zb4:ZC (Int×Unit):=Zc Zi Zn
abbrev z7w {R:Type}:Sm R:=semP zb4 zax (fun a=>qaj a.1)
abbrev zajp:ZD ((List UInt8)):=Cod.str
abbrev z7r {R:Type}:Sm R:=semP zvi zajp (fun a=>qa5 a.1)
def zaa1 {R:Type}:Nat→Sm R:=cl 258 zu5 (cl 259 zakb (cl 260 z7w c0))
abbrev zwh:=mkld [] [] [0,3,4,5] [] [] (Zs 0 Cod.str (Zs 3 Cod.str (Zs 4 Zb (Zs 5 Zi Zz)))) zm4 (.x 0 [3] [] [] (Zs 3 Cod.str Zz))
def zra {R:Type}:Lp Kd El R:=lp 4 zwh.sem l0
abbrev zvj:ZC ((List Patron)×Unit):=Zc (Zl .kPatron) Zn
abbrev z71 {R:Type}:Sm R:=semP zvj za4 (fun a=>qar a.1)
def zabi {R:Type}:Nat→Sm R:=cl 174 zu4 (cl 175 z7r c0)
abbrev zwz:=mkld [] [] [0,3] [] [] (Zs 0 (Zl .kPatron) (Zs 3 Zi Zz)) zkk (.xs 0 [] [] [] Zz (.r [2] [] [] (Zs 2 Zi Zz)))
def zrl {R:Type}:Lp Kd El R:=lp 4 zwz.sem l0
abbrev zpn:ZC ((List Loan)×Unit):=Zc (Zl .kLoan) Zn
abbrev z7x {R:Type}:Sm R:=semP zpn za4 (fun a=>qak a.1)
def zabc {R:Type}:Nat→Sm R:=c0
abbrev zwt:=mkld [] [] [0,3] [] [] (Zs 0 (Zl .kLoan) (Zs 3 Zi Zz)) zkj (.xs 0 [] [] [] Zz (.r [2] [] [] (Zs 2 Zi Zz)))
def zrf {R:Type}:Lp Kd El R:=lp 4 zwt.sem l0
abbrev zat9 {R:Type}:Sm R:=semP zb4 zax (fun a=>qei a.1)
abbrev zat1 {R:Type}:Sm R:=semP zb4 zax (fun a=>qe0 a.1)
abbrev zafz:ZC (Hold×Unit):=Zc (Cod.agg za3) Zn
abbrev z9f {R:Type}:Sm R:=semP zafz za4 (fun a=>qdu a.1)
abbrev zakp:ZC ((List Hold)×Unit):=Zc (Zl .kHold) Zn
abbrev zakf {R:Type}:Sm R:=semP zakp za4 (fun a=>ql a.1)
def zak8 {R:Type}:Nat→Sm R:=cl 176 z9f c0
abbrev z5f:=mkld [] [] [0,3] [] [] (Zs 0 (Zl .kHold) (Zs 3 Zi Zz)) zuo (.xs 0 [0] [] [] (Zs 0 (Zl .kHold) Zz) (.r [2] [] [] (Zs 2 Zi Zz)))
abbrev zxv:=mkld [] [] [0,5,6] [] [] (Zs 0 (Zl .kHold) (Zs 5 Zi (Zs 6 Zi Zz))) zkz (.xs 4 [0,5] [] [] (Zs 0 (Zl .kHold) (Zs 5 Zi Zz)) (.r [2] [] [] (Zs 2 Zi Zz)))
abbrev zxu:=mkld [] [] [0,5] [] [] (Zs 0 (Zl .kHold) (Zs 5 Zi Zz)) znj (.xs 2 [] [] [] Zz (.r [2] [] [] (Zs 2 Zi Zz)))
def zil {R:Type}:Lp Kd El R:=lp 12 zxu.sem (lp 15 zxv.sem (lp 4 z5f.sem l0))
abbrev z92 {R:Type}:Sm R:=semP zb4 zax (fun a=>qfi a.1)
abbrev zafk:ZC ((List Charge)×Unit):=Zc (Zl .kCharge) Zn
abbrev z7q {R:Type}:Sm R:=semP zafk za4 (fun a=>qa4 a.1)
def zaa0 {R:Type}:Nat→Sm R:=cl 177 z92 c0
abbrev zwg:=mkld [] [] [0,3] [] [] (Zs 0 (Zl .kCharge) (Zs 3 Zi Zz)) zkf (.xs 0 [] [] [] Zz (.r [2] [] [] (Zs 2 Zi Zz)))
def zq9 {R:Type}:Lp Kd El R:=lp 4 zwg.sem l0
abbrev zpp:ZC (Int×Int×Int×Unit):=Zc Zi (Zc Zi (Zc Zi Zn))
abbrev zasg {R:Type}:Sm R:=semP zpp zax (fun a=>qau a.1 a.2.1 a.2.2.1)
abbrev zvp:ZC (Rule×Unit):=Zc (Cod.agg zc3) Zn
abbrev z84 {R:Type}:Sm R:=semP zvp zax (fun a=>qcv a.1)
abbrev zawl:ZC ((List Rule)×Unit):=Zc (Zl .kRule) Zn
abbrev zake {R:Type}:Sm R:=semP zawl za4 (fun a=>qj a.1)
def zak6 {R:Type}:Nat→Sm R:=cl 178 z84 c0
abbrev z5d:=mkld [] [] [0,3,4] [] [] (Zs 0 (Zl .kRule) (Zs 3 Zi (Zs 4 Zi Zz))) zum (.xs 2 [0,3] [] [] (Zs 0 (Zl .kRule) (Zs 3 Zi Zz)) (.r [2] [] [] (Zs 2 Zi Zz)))
abbrev z5c:=mkld [] [] [0,3] [] [] (Zs 0 (Zl .kRule) (Zs 3 Zi Zz)) z0r (.xs 0 [] [] [] Zz (.r [2] [] [] (Zs 2 Zi Zz)))
def zo5 {R:Type}:Lp Kd El R:=lp 4 z5c.sem (lp 9 z5d.sem l0)
abbrev zakq:ZC (Calendar×Unit):=Zc (Cod.agg zat) Zn
abbrev zakk {R:Type}:Sm R:=semP zakq za4 (fun a=>qy a.1)
def zalj {R:Type}:Nat→Sm R:=c0
abbrev z5u:=mkld [] [] [1,3] [1] [] (Zp 1 1 (Zs 3 Zi (Zx 1 zat Zz))) zuu (.xs 0 [1] [1] [] (Zp 1 1 (Zx 1 zat Zz)) (.r [2] [] [] (Zs 2 Zi Zz)))
abbrev zx0:=mkld [] [] [1,4] [1] [] (Zp 1 1 (Zs 4 Zi (Zx 1 zat Zz))) zk0 (.xs 2 [] [] [] Zz (.r [2] [] [] (Zs 2 Zi Zz)))
def zo8 {R:Type}:Lp Kd El R:=lp 11 zx0.sem (lp 6 z5u.sem l0)
abbrev zvl:ZC ((List Patron)×Int×Unit):=Zc (Zl .kPatron) (Zc Zi Zn)
abbrev zasj {R:Type}:Sm R:=semP zvl za4 (fun a=>qax a.1 a.2.1)
def zabm {R:Type}:Nat→Sm R:=c0
abbrev zw3:=mkld [] [] [0,1,5] [] [] (Zs 0 (Zl .kPatron) (Zs 1 Zi (Zs 5 Zi Zz))) znc (.xs 0 [] [] [] Zz (.r [4] [] [] (Zs 4 Zi Zz)))
def zrp {R:Type}:Lp Kd El R:=lp 2 zw3.sem l0
abbrev zajt:ZD (Patron×Bool):=(Cod.tup2 (Zc (Cod.agg zbd) (Zc Zb Zn)))
abbrev zlb {R:Type}:Sm R:=semP zvl zajt (fun a=>qbo a.1 a.2.1)
abbrev zaj7:ZD (Custody):=(Cod.agg za0)
abbrev z9g {R:Type}:Sm R:=semP zb4 zaj7 (fun a=>qdv a.1)
abbrev zauv {R:Type}:Sm R:=semP zb4 zax (fun a=>qfo a.1)
abbrev z1u:ZC (Custody×Unit):=Zc (Cod.agg za0) Zn
abbrev zat0 {R:Type}:Sm R:=semP z1u zax (fun a=>qdw a.1)
abbrev zawg:ZC (Move×Unit):=Zc (Cod.agg zg8) Zn
abbrev zaug {R:Type}:Sm R:=semP zawg zax (fun a=>qes a.1)
abbrev z7d:ZD ((List Int)):=(Zl .ki64)
abbrev z9c {R:Type}:Sm R:=semP zb4 z7d (fun a=>qdf a.1)
abbrev zpo:ZC (Int×Int×Unit):=Zc Zi (Zc Zi Zn)
abbrev zase {R:Type}:Sm R:=semP zpo zax (fun a=>qao a.1 a.2.1)
def zabg {R:Type}:Nat→Sm R:=cl 307 z9c c0
abbrev zwx:=mkld [] [] [0,5,6] [] [] (Zs 0 Zi (Zs 5 (Zl .ki64) (Zs 6 Zi Zz))) zm9 (.xs 0 [] [] [] Zz (.r [4] [] [] (Zs 4 Zb Zz)))
def zrj {R:Type}:Lp Kd El R:=lp 3 zwx.sem l0
abbrev zvr:ZC (Custody×Move×Unit):=Zc (Cod.agg za0) (Zc (Cod.agg zg8) Zn)
abbrev zato {R:Type}:Sm R:=semP zvr zax (fun a=>qdh a.1 a.2.1)
abbrev zau2 {R:Type}:Sm R:=semP zb4 za4 (fun a=>qfv a.1)
abbrev zyk:ZD (Custody×Int):=(Cod.tup2 (Zc (Cod.agg za0) (Zc Zi Zn)))
abbrev z86 {R:Type}:Sm R:=semP zvr zyk (fun a=>qcy a.1 a.2.1)
abbrev zafn:ZC (Int×(List Move)×Int×Unit):=Zc Zi (Zc (Zl .kMove) (Zc Zi Zn))
abbrev zajq:ZD (Custody×Int×Int):=(Cod.tup3 (Zc (Cod.agg za0) (Zc Zi (Zc Zi Zn))))
abbrev z7y {R:Type}:Sm R:=semP zafn zajq (fun a=>qan a.1 a.2.1 a.2.2.1)
def zabf {R:Type}:Nat→Sm R:=cl 85 z9g (cl 200 z86 c0)
abbrev zww:=mkld [] [] [1,2,6,9,10] [6,9] [] (Zs 1 (Zl .kMove) (Zs 2 Zi (Zp 6 6 (Zp 9 9 (Zs 10 Zi (Zx 6 za0 (Zx 9 za0 Zz))))))) zm8 (.xs 0 [6,9] [6,9] [] (Zp 6 6 (Zp 9 9 (Zx 6 za0 (Zx 9 za0 Zz)))) (.r [7,8] [6] [6] (Zp 6 6 (Zs 7 Zi (Zs 8 Zi (Zx 6 za0 Zz))))))
def zri {R:Type}:Lp Kd El R:=lp 5 zww.sem l0
abbrev ziu:ZC (Circ×Int×Unit):=Zc (Cod.agg zah) (Zc Zi Zn)
abbrev zno {R:Type}:Sm R:=semP ziu za4 (fun a=>qn a.1 a.2.1)
def zak9 {R:Type}:Nat→Sm R:=c0
abbrev z5g:=mkld [] [] [1,2,5] [2] [] (Zs 1 Zi (Zp 2 2 (Zs 5 Zi (Zx 2 zah Zz)))) z0u (.xs 0 [] [] [] Zz (.r [4] [] [] (Zs 4 Zi Zz)))
def zyb {R:Type}:Lp Kd El R:=lp 2 z5g.sem l0
abbrev z7u {R:Type}:Sm R:=semP zg6 zax (fun a=>qad a.1)
def zaa6 {R:Type}:Nat→Sm R:=cl 84 zno (cl 174 zu4 (cl 180 z7y c0))
abbrev zwn:=mkld [] [] [1,3] [1] [] (Zp 1 1 (Zs 3 Zi (Zx 1 zah Zz))) zkh (.xs 0 [1] [1] [] (Zp 1 1 (Zx 1 zah Zz)) (.r [2] [] [] (Zs 2 Zb Zz)))
abbrev zqw:=mkld [] [] [1,8] [1] [] (Zp 1 1 (Zs 8 Zi (Zx 1 zah Zz))) zgc (.xs 2 [] [] [] Zz (.r [2] [] [] (Zs 2 Zb Zz)))
def zjw {R:Type}:Lp Kd El R:=lp 15 zqw.sem (lp 4 zwn.sem l0)
abbrev z9t {R:Type}:Sm R:=semP z1u zax (fun a=>qel a.1)
abbrev zl8:ZC ((List Loan)×Int×Unit):=Zc (Zl .kLoan) (Zc Zi Zn)
abbrev zar9 {R:Type}:Sm R:=semP zl8 za4 (fun a=>qaf a.1 a.2.1)
def zaa8 {R:Type}:Nat→Sm R:=c0
abbrev zwp:=mkld [] [] [0,1,5] [] [] (Zs 0 (Zl .kLoan) (Zs 1 Zi (Zs 5 Zi Zz))) zm5 (.xs 0 [] [] [] Zz (.r [4] [] [] (Zs 4 Zi Zz)))
def zre {R:Type}:Lp Kd El R:=lp 2 zwp.sem l0
abbrev zajv:ZD (Loan×Bool):=(Cod.tup2 (Zc (Cod.agg zbg) (Zc Zb Zn)))
abbrev zpi {R:Type}:Sm R:=semP zl8 zajv (fun a=>qci a.1 a.2.1)
abbrev z7t {R:Type}:Sm R:=semP zg6 zax (fun a=>qac a.1)
def zaa5 {R:Type}:Nat→Sm R:=cl 74 zlb (cl 84 zno (cl 111 z9t (cl 122 zpi c0)))
abbrev zwm:=mkld [] [] [1,3] [1] [] (Zp 1 1 (Zs 3 Zi (Zx 1 zah Zz))) zkg (.xs 0 [1] [1] [] (Zp 1 1 (Zx 1 zah Zz)) (.r [2] [] [] (Zs 2 Zb Zz)))
abbrev zqv:=mkld [] [] [1,8] [1] [] (Zp 1 1 (Zs 8 Zi (Zx 1 zah Zz))) zhm (.xs 2 [] [] [] Zz (.r [2] [] [] (Zs 2 Zb Zz)))
def zjv {R:Type}:Lp Kd El R:=lp 10 zqv.sem (lp 2 zwm.sem l0)
abbrev zyj:ZD (Hold×Bool):=(Cod.tup2 (Zc (Cod.agg za3) (Zc Zb Zn)))
abbrev z7z {R:Type}:Sm R:=semP ziu zyj (fun a=>qap a.1 a.2.1)
def zabh {R:Type}:Nat→Sm R:=c0
abbrev zwy:=mkld [] [] [1,2,4,6] [2,4] [] (Zs 1 Zi (Zp 2 2 (Zp 4 4 (Zs 6 Zi (Zx 2 zah (Zx 4 za3 Zz)))))) zna (.xs 0 [4] [4] [] (Zp 4 4 (Zx 4 za3 Zz)) (.r [5] [4] [4] (Zp 4 4 (Zs 5 Zb (Zx 4 za3 Zz)))))
def zrk {R:Type}:Lp Kd El R:=lp 2 zwy.sem l0
abbrev z7v {R:Type}:Sm R:=semP zg6 zax (fun a=>qae a.1)
def zaa7 {R:Type}:Nat→Sm R:=cl 74 zlb (cl 84 zno (cl 105 z7z c0))
abbrev zwo:=mkld [] [] [1,3] [1] [] (Zp 1 1 (Zs 3 Zi (Zx 1 zah Zz))) zki (.xs 0 [1] [1] [] (Zp 1 1 (Zx 1 zah Zz)) (.r [2] [] [] (Zs 2 Zb Zz)))
abbrev zqx:=mkld [] [] [1,9] [1] [] (Zp 1 1 (Zs 9 Zi (Zx 1 zah Zz))) zhn (.xs 2 [] [] [] Zz (.r [2] [] [] (Zs 2 Zb Zz)))
def zjx {R:Type}:Lp Kd El R:=lp 18 zqx.sem (lp 2 zwo.sem l0)
abbrev zasc {R:Type}:Sm R:=semP zg6 zax (fun a=>qai a.1)
def zabb {R:Type}:Nat→Sm R:=cl 68 z71 (cl 69 z7x (cl 70 zakf (cl 71 z7q (cl 72 zake (cl 73 zakk (cl 74 zlb (cl 75 z7u (cl 76 z7t (cl 77 z7v c0)))))))))
abbrev zws:=mkld [] [] [1,3] [1] [] (Zp 1 1 (Zs 3 Zi (Zx 1 zah Zz))) zhz (.xs 0 [1] [1] [] (Zp 1 1 (Zx 1 zah Zz)) (.r [2] [] [] (Zs 2 Zb Zz)))
abbrev zq0:=mkld [] [] [1,4] [1] [] (Zp 1 1 (Zs 4 Zi (Zx 1 zah Zz))) zgd (.xs 2 [1] [1] [] (Zp 1 1 (Zx 1 zah Zz)) (.r [2] [] [] (Zs 2 Zb Zz)))
def zj0 {R:Type}:Lp Kd El R:=lp 11 zq0.sem (lp 6 zws.sem l0)
abbrev zau3 {R:Type}:Sm R:=semP zg6 zax (fun a=>qfw a.1)
abbrev zaj9:ZD (Circ):=(Cod.agg zah)
abbrev zat8 {R:Type}:Sm R:=semP zb4 zaj9 (fun a=>qeh a.1)
abbrev zav8:ZC (Item×Int×Unit):=Zc (Cod.agg zaz) (Zc (Cod.cptr (CC.one Zi)) Zn)
abbrev z9a {R:Type}:Sm R:=semP zav8 zax (fun a=>qdc a.1 a.2.1)
abbrev za0y:ZC ((List Item)×((Unit)×(Int×Unit))×Unit):=Zc (Zl .kItem) (Zc (Cod.fnc 181 (Zn) (Zc (Cod.cptr (CC.one Zi)) Zn)) Zn)
abbrev za0i {R:Type}:Sm R:=semP za0y za4 (fun a=>qe (fun g x0=>qdc x0 g.2.1) a.1 a.2.1)
def zak2 {R:Type}:Nat→Sm R:=cl 181 z9a c0
abbrev z47:=mkld [] [] [0,1,7,8] [] [] (Zs 0 (Zl .kItem) (Zs 1 (Cod.fnc 181 (Zn) (Zc (Cod.cptr (CC.one Zi)) Zn)) (Zs 7 Zi (Zs 8 Zi Zz)))) (zsf (fun g x0=>qdc x0 g.2.1)) (.xs 0 [] [] [] Zz (.r [4] [] [] (Zs 4 Zi Zz)))
def zx7 {R:Type}:Lp Kd El R:=lp 2 z47.sem l0
abbrev zla {R:Type}:Sm R:=semP ziu za4 (fun a=>qaa a.1 a.2.1)
abbrev z9p {R:Type}:Sm R:=semP zb4 zaj7 (fun a=>qea a.1)
abbrev zavr:ZC (Item×Item×Unit):=Zc (Cod.agg zaz) (Zc (Cod.cptr zaz) Zn)
abbrev z8p {R:Type}:Sm R:=semP zavr zax (fun a=>qc5 a.1 a.2.1)
abbrev zaai:ZC ((List Item)×((Unit)×(Item×Unit))×Unit):=Zc (Zl .kItem) (Zc (Cod.fnc 81 (Zn) (Zc (Cod.cptr zaz) Zn)) Zn)
abbrev z9o {R:Type}:Sm R:=semP zaai za4 (fun a=>qe (fun g x0=>qc5 x0 g.2.1) a.1 a.2.1)
def zy6 {R:Type}:Nat→Sm R:=cl 81 z8p c0
abbrev zmu:=mkld [] [] [0,1,7,8] [] [] (Zs 0 (Zl .kItem) (Zs 1 (Cod.fnc 81 (Zn) (Zc (Cod.cptr zaz) Zn)) (Zs 7 Zi (Zs 8 Zi Zz)))) (zsf (fun g x0=>qc5 x0 g.2.1)) (.xs 0 [] [] [] Zz (.r [4] [] [] (Zs 4 Zi Zz)))
def zj5 {R:Type}:Lp Kd El R:=lp 2 zmu.sem l0
abbrev zavz:ZC ((List Item)×Unit):=Zc (Zl .kItem) Zn
abbrev zajx:ZD ((List Item)):=(Zl .kItem)
abbrev zatg {R:Type}:Sm R:=semP zavz zajx (fun a=>qco a.1)
abbrev z1o:ZC ((List Item)×Int×(List Item)×Unit):=Zc (Zl .kItem) (Zc Zi (Zc (Zl .kItem) Zn))
abbrev zaj1:ZD ((List Item)):=zajx
def zaik (a:(List Item)×Int×(List Item)×Unit):Option ((List Item)):=qd5 a.1 a.2.1 a.2.2.1
abbrev za1e {R:Type}:Sm R:=semP z1o zaj1 zaik
abbrev z8u {R:Type}:Sm R:=semP zpp zax (fun a=>qca a.1 a.2.1 a.2.2.1)
abbrev z1r:ZC ((List UInt8)×Unit):=zvi
abbrev zaj5:ZD (Bool):=zax
def zain (a:(List UInt8)×Unit):Option (Bool):=qde a.1
abbrev za1h {R:Type}:Sm R:=semP z1r zaj5 zain
abbrev zav7:ZC (Item×Unit):=Zc (Cod.agg zaz) Zn
abbrev z88 {R:Type}:Sm R:=semP zav7 zax (fun a=>qd9 a.1)
abbrev z8k {R:Type}:Sm R:=semP zpp zax (fun a=>qbs a.1 a.2.1 a.2.2.1)
abbrev zauu {R:Type}:Sm R:=semP z1u zax (fun a=>qfn a.1)
abbrev zaut {R:Type}:Sm R:=semP zpo zax (fun a=>qfm a.1 a.2.1)
abbrev zav4:ZC (Custody×Bool×Unit):=Zc (Cod.agg za0) (Zc Zb Zn)
abbrev zati {R:Type}:Sm R:=semP zav4 zyk (fun a=>qcu a.1 a.2.1)
abbrev zauw {R:Type}:Sm R:=semP zvr zyk (fun a=>qfp a.1 a.2.1)
abbrev z9q {R:Type}:Sm R:=semP zvr zyk (fun a=>qeb a.1 a.2.1)
abbrev z8h {R:Type}:Sm R:=semP zafn zajq (fun a=>qbk a.1 a.2.1 a.2.2.1)
def zabv {R:Type}:Nat→Sm R:=cl 79 z9p (cl 162 z8k (cl 163 z9q c0))
abbrev zxc:=mkld [] [] [2,6,9,20,21,22] [6,9] [] (Zs 2 Zi (Zp 6 6 (Zp 9 9 (Zs 20 (Zl .kMove) (Zs 21 Zi (Zs 22 Zi (Zx 6 za0 (Zx 9 za0 Zz)))))))) zai4 (.xs 0 [6,9] [6,9] [] (Zp 6 6 (Zp 9 9 (Zx 6 za0 (Zx 9 za0 Zz)))) (.r [7,8] [6] [6] (Zp 6 6 (Zs 7 Zi (Zs 8 Zi (Zx 6 za0 Zz))))))
def zry {R:Type}:Lp Kd El R:=lp 5 zxc.sem l0
abbrev za0o {R:Type}:Sm R:=semP zg6 zax (fun a=>qs a.1)
def zale {R:Type}:Nat→Sm R:=cl 58 z8h (cl 78 zla (cl 166 z88 c0))
abbrev z5o:=mkld [] [] [1,23,24,25] [1] [] (Zp 1 1 (Zs 23 (Zl .kItem) (Zs 24 Zi (Zs 25 Zi (Zx 1 zah Zz))))) zazy (.xs 0 [1] [1] [] (Zp 1 1 (Zx 1 zah Zz)) (.r [2] [] [] (Zs 2 Zb Zz)))
abbrev zxy:=mkld [] [] [1,51,52,53] [1] [] (Zp 1 1 (Zs 51 (Zl .kMove) (Zs 52 Zi (Zs 53 Zi (Zx 1 zah Zz))))) zajn (.xs 2 [1] [1] [] (Zp 1 1 (Zx 1 zah Zz)) (.r [2] [] [] (Zs 2 Zb Zz)))
abbrev zxz:=mkld [] [] [1,64,65,66] [1] [] (Zp 1 1 (Zs 64 (Zl .kItem) (Zs 65 Zi (Zs 66 Zi (Zx 1 zah Zz))))) zajo (.xs 4 [] [] [] Zz (.r [2] [] [] (Zs 2 Zb Zz)))
def zio {R:Type}:Lp Kd El R:=lp 16 zxz.sem (lp 10 zxy.sem (lp 4 z5o.sem l0))
abbrev z1v:ZC ((List UInt8)×Unit):=zvi
abbrev zaj8:ZD ((List UInt8)):=zajp
def zaip (a:(List UInt8)×Unit):Option ((List UInt8)):=qef a.1
abbrev za1i {R:Type}:Sm R:=semP z1v zaj8 zaip
abbrev zavm:ZC (Patron×Unit):=Zc (Cod.agg zbd) Zn
abbrev z74 {R:Type}:Sm R:=semP zavm za4 (fun a=>qb5 a.1)
abbrev z8c {R:Type}:Sm R:=semP zvj za4 (fun a=>qbb a.1)
def zabq {R:Type}:Nat→Sm R:=cl 245 z74 c0
abbrev zw7:=mkld [] [] [3,10,11,12] [] [] (Zs 3 Zi (Zs 10 (Zl .kPatron) (Zs 11 Zi (Zs 12 Zi Zz)))) zai1 (.xs 0 [] [] [] Zz (.r [2] [] [] (Zs 2 Zi Zz)))
def zrt {R:Type}:Lp Kd El R:=lp 5 zw7.sem l0
abbrev z9i {R:Type}:Sm R:=semP zb4 zax (fun a=>qe1 a.1)
abbrev z9h {R:Type}:Sm R:=semP zb4 zax (fun a=>qdz a.1)
abbrev z8e {R:Type}:Sm R:=semP zpn za4 (fun a=>qbd a.1)
def zabr {R:Type}:Nat→Sm R:=cl 219 z9h (cl 246 z9i c0)
abbrev zw8:=mkld [] [] [0,8,9,10] [] [] (Zs 0 (Zl .kLoan) (Zs 8 (Zl .kLoan) (Zs 9 Zi (Zs 10 Zi Zz)))) zkn (.xs 0 [] [] [] Zz (.r [2] [] [] (Zs 2 Zi Zz)))
def zru {R:Type}:Lp Kd El R:=lp 4 zw8.sem l0
abbrev zass {R:Type}:Sm R:=semP zpp zax (fun a=>qb9 a.1 a.2.1 a.2.2.1)
abbrev zauh {R:Type}:Sm R:=semP zb4 zax (fun a=>qeu a.1)
abbrev z9y {R:Type}:Sm R:=semP zafz za4 (fun a=>qfd a.1)
abbrev z1k:ZC (Hold×Hold×Unit):=Zc (Cod.agg za3) (Zc (Cod.agg za3) Zn)
abbrev z8z {R:Type}:Sm R:=semP z1k zax (fun a=>qcm a.1 a.2.1)
abbrev zav5:ZC ((List Hold)×((Unit)×(Unit))×Unit):=Zc (Zl .kHold) (Zc (Cod.fnc 249 (Zn) (Zn)) Zn)
abbrev zaka {R:Type}:Sm R:=semP zav5 zax (fun a=>qd (fun g x0 x1=>qcm x0 x1) a.1 a.2.1)
def zak1 {R:Type}:Nat→Sm R:=cl 249 z8z c0
abbrev z45:=mkld [] [] [0,1,5,8,9,12,13] [] [] (Zs 0 (Zl .kHold) (Zs 1 (Cod.fnc 249 (Zn) (Zn)) (Zs 5 Zi (Zs 8 Zi (Zs 9 Zi (Zs 12 Zi (Zs 13 Zi Zz))))))) (zarp (fun g x0 x1=>qcm x0 x1)) (.xs 2 [0,1,8,9] [] [] (Zs 0 (Zl .kHold) (Zs 1 (Cod.fnc 249 (Zn) (Zn)) (Zs 8 Zi (Zs 9 Zi Zz)))) (.r [4] [] [] (Zs 4 Zb Zz)))
abbrev z44:=mkld [] [] [0,1,8,9] [] [] (Zs 0 (Zl .kHold) (Zs 1 (Cod.fnc 249 (Zn) (Zn)) (Zs 8 Zi (Zs 9 Zi Zz)))) (zaro (fun g x0 x1=>qcm x0 x1)) (.xs 0 [] [] [] Zz (.r [4] [] [] (Zs 4 Zb Zz)))
def zo4 {R:Type}:Lp Kd El R:=lp 2 z44.sem (lp 5 z45.sem l0)
abbrev z9e {R:Type}:Sm R:=semP z1k zax (fun a=>qds a.1 a.2.1)
abbrev zvq:ZC ((List Hold)×((Unit)×(Unit))×Unit):=Zc (Zl .kHold) (Zc (Cod.fnc 250 (Zn) (Zn)) Zn)
abbrev zsm {R:Type}:Sm R:=semP zvq zax (fun a=>qd (fun g x0 x1=>qds x0 x1) a.1 a.2.1)
def zy5 {R:Type}:Nat→Sm R:=cl 250 z9e c0
abbrev zmt:=mkld [] [] [0,1,5,8,9,12,13] [] [] (Zs 0 (Zl .kHold) (Zs 1 (Cod.fnc 250 (Zn) (Zn)) (Zs 5 Zi (Zs 8 Zi (Zs 9 Zi (Zs 12 Zi (Zs 13 Zi Zz))))))) (zarp (fun g x0 x1=>qds x0 x1)) (.xs 2 [0,1,8,9] [] [] (Zs 0 (Zl .kHold) (Zs 1 (Cod.fnc 250 (Zn) (Zn)) (Zs 8 Zi (Zs 9 Zi Zz)))) (.r [4] [] [] (Zs 4 Zb Zz)))
abbrev zms:=mkld [] [] [0,1,8,9] [] [] (Zs 0 (Zl .kHold) (Zs 1 (Cod.fnc 250 (Zn) (Zn)) (Zs 8 Zi (Zs 9 Zi Zz)))) (zaro (fun g x0 x1=>qds x0 x1)) (.xs 0 [] [] [] Zz (.r [4] [] [] (Zs 4 Zb Zz)))
def zga {R:Type}:Lp Kd El R:=lp 2 zms.sem (lp 5 zmt.sem l0)
abbrev zakd {R:Type}:Sm R:=semP zakp za4 (fun a=>qi a.1)
def zak5 {R:Type}:Nat→Sm R:=cl 247 z9y (cl 248 (si zav5 zaka (si zvq zsm s0)) c0)
abbrev z5b:=mkld [] [] [0,9,10,11] [] [] (Zs 0 (Zl .kHold) (Zs 9 (Zl .kHold) (Zs 10 Zi (Zs 11 Zi Zz)))) zazq (.xs 0 [0] [] [] (Zs 0 (Zl .kHold) Zz) (.r [2] [] [] (Zs 2 Zi Zz)))
def zx9 {R:Type}:Lp Kd El R:=lp 4 z5b.sem l0
abbrev zat4 {R:Type}:Sm R:=semP zb4 zax (fun a=>qe7 a.1)
abbrev zat7 {R:Type}:Sm R:=semP zb4 zax (fun a=>qeg a.1)
abbrev zavu:ZC (Charge×Unit):=Zc (Cod.agg zdv) Zn
abbrev z8v {R:Type}:Sm R:=semP zavu za4 (fun a=>qcd a.1)
abbrev z8f {R:Type}:Sm R:=semP zafk za4 (fun a=>qbe a.1)
def zabs {R:Type}:Nat→Sm R:=cl 251 z8v c0
abbrev zw9:=mkld [] [] [0,9,10,11] [] [] (Zs 0 (Zl .kCharge) (Zs 9 (Zl .kCharge) (Zs 10 Zi (Zs 11 Zi Zz)))) zai2 (.xs 0 [] [] [] Zz (.r [2] [] [] (Zs 2 Zi Zz)))
def zrv {R:Type}:Lp Kd El R:=lp 4 zw9.sem l0
abbrev zasn {R:Type}:Sm R:=semP zpp zax (fun a=>qb1 a.1 a.2.1 a.2.2.1)
abbrev z9l {R:Type}:Sm R:=semP zvp zax (fun a=>qe5 a.1)
abbrev zav0:ZC (Rule×Rule×Unit):=Zc (Cod.agg zc3) (Zc (Cod.cptr zc3) Zn)
abbrev z80 {R:Type}:Sm R:=semP zav0 zax (fun a=>qcp a.1 a.2.1)
abbrev zafl:ZC ((List Rule)×((Unit)×(Rule×Unit))×Unit):=Zc (Zl .kRule) (Zc (Cod.fnc 253 (Zn) (Zc (Cod.cptr zc3) Zn)) Zn)
abbrev zar5 {R:Type}:Sm R:=semP zafl za4 (fun a=>qa7 (fun g x0=>qcp x0 g.2.1) a.1 a.2.1)
def zaa3 {R:Type}:Nat→Sm R:=cl 253 z80 c0
abbrev zwj:=mkld [] [] [0,1,7,8] [] [] (Zs 0 (Zl .kRule) (Zs 1 (Cod.fnc 253 (Zn) (Zc (Cod.cptr zc3) Zn)) (Zs 7 Zi (Zs 8 Zi Zz)))) (zait (fun g x0=>qcp x0 g.2.1)) (.xs 0 [] [] [] Zz (.r [4] [] [] (Zs 4 Zi Zz)))
def zrc {R:Type}:Lp Kd El R:=lp 2 zwj.sem l0
abbrev z9j {R:Type}:Sm R:=semP zafl zax (fun a=>qe2 (fun g x0=>qcp x0 g.2.1) a.1 a.2.1)
abbrev zakj {R:Type}:Sm R:=semP zawl za4 (fun a=>qx a.1)
def zali {R:Type}:Nat→Sm R:=cl 252 z9l (cl 254 z9j c0)
abbrev z5t:=mkld [] [] [0,9,10,11] [] [] (Zs 0 (Zl .kRule) (Zs 9 (Zl .kRule) (Zs 10 Zi (Zs 11 Zi Zz)))) zaz1 (.xs 0 [] [] [] Zz (.r [2] [] [] (Zs 2 Zi Zz)))
def zyf {R:Type}:Lp Kd El R:=lp 4 z5t.sem l0
abbrev z8q {R:Type}:Sm R:=semP zb4 zax (fun a=>qc6 a.1)
abbrev z8m {R:Type}:Sm R:=semP zb4 zax (fun a=>qc2 a.1)
abbrev zafm:ZC ((List Int)×((Unit)×(Unit))×Unit):=Zc (Zl .ki64) (Zc (Cod.fnc 256 (Zn) (Zn)) Zn)
abbrev zar6 {R:Type}:Sm R:=semP zafm za4 (fun a=>qa8 (fun g x0=>qc2 x0) a.1 a.2.1)
def zaa4 {R:Type}:Nat→Sm R:=cl 256 z8m c0
abbrev zwk:=mkld [] [] [0,1,7,8] [] [] (Zs 0 (Zl .ki64) (Zs 1 (Cod.fnc 256 (Zn) (Zn)) (Zs 7 Zi (Zs 8 Zi Zz)))) (zaiu (fun g x0=>qc2 x0)) (.xs 0 [] [] [] Zz (.r [4] [] [] (Zs 4 Zi Zz)))
def zrd {R:Type}:Lp Kd El R:=lp 2 zwk.sem l0
abbrev z9k {R:Type}:Sm R:=semP zafm zax (fun a=>qe3 (fun g x0=>qc2 x0) a.1 a.2.1)
abbrev zakh {R:Type}:Sm R:=semP zakq za4 (fun a=>qv a.1)
def zalg {R:Type}:Nat→Sm R:=cl 255 z9k c0
abbrev z5q:=mkld [] [] [1,24,25,26] [1] [] (Zp 1 1 (Zs 24 (Zl .ki64) (Zs 25 Zi (Zs 26 Zi (Zx 1 zat Zz))))) zaz0 (.xs 1 [] [] [] Zz (.r [2] [] [] (Zs 2 Zi Zz)))
def zye {R:Type}:Lp Kd El R:=lp 8 z5q.sem l0
abbrev za0n {R:Type}:Sm R:=semP zg6 zax (fun a=>qr a.1)
def zald {R:Type}:Nat→Sm R:=cl 62 z8u (cl 167 z8c (cl 168 z8e (cl 169 zakd (cl 170 z8f (cl 171 zakj (cl 172 zakh c0))))))
abbrev z5n:=mkld [] [] [1,38,39] [1] [] (Zp 1 1 (Zs 38 (Cod.agg zee) (Zs 39 Zi (Zx 1 zah Zz)))) zazx (.xs 0 [1] [1] [] (Zp 1 1 (Zx 1 zah Zz)) (.r [2] [] [] (Zs 2 Zb Zz)))
abbrev zxw:=mkld [] [] [1,57,58,59] [1] [] (Zp 1 1 (Zs 57 (Zl .kHold) (Zs 58 Zi (Zs 59 Zi (Zx 1 zah Zz))))) zajl (.xs 2 [1] [1] [] (Zp 1 1 (Zx 1 zah Zz)) (.r [2] [] [] (Zs 2 Zb Zz)))
abbrev zxx:=mkld [] [] [1,70,71,72] [1] [] (Zp 1 1 (Zs 70 (Zl .kCharge) (Zs 71 Zi (Zs 72 Zi (Zx 1 zah Zz))))) zajm (.xs 4 [] [] [] Zz (.r [2] [] [] (Zs 2 Zb Zz)))
def zin {R:Type}:Lp Kd El R:=lp 18 zxx.sem (lp 12 zxw.sem (lp 4 z5n.sem l0))
abbrev zavp:ZC (Patron×Int×Unit):=Zc (Cod.agg zbd) (Zc (Cod.cptr (CC.one Zi)) Zn)
abbrev z8n {R:Type}:Sm R:=semP zavp zax (fun a=>qc3 a.1 a.2.1)
abbrev za0z:ZC ((List Patron)×((Unit)×(Int×Unit))×Unit):=Zc (Zl .kPatron) (Zc (Cod.fnc 265 (Zn) (Zc (Cod.cptr (CC.one Zi)) Zn)) Zn)
abbrev za0l {R:Type}:Sm R:=semP za0z za4 (fun a=>qo (fun g x0=>qc3 x0 g.2.1) a.1 a.2.1)
def zala {R:Type}:Nat→Sm R:=cl 265 z8n c0
abbrev z5h:=mkld [] [] [0,1,7,8] [] [] (Zs 0 (Zl .kPatron) (Zs 1 (Cod.fnc 265 (Zn) (Zc (Cod.cptr (CC.one Zi)) Zn)) (Zs 7 Zi (Zs 8 Zi Zz)))) (zup (fun g x0=>qc3 x0 g.2.1)) (.xs 0 [] [] [] Zz (.r [4] [] [] (Zs 4 Zi Zz)))
def zyc {R:Type}:Lp Kd El R:=lp 2 z5h.sem l0
abbrev zaso {R:Type}:Sm R:=semP zvl za4 (fun a=>qb2 a.1 a.2.1)
abbrev zatf {R:Type}:Sm R:=semP zvl zajt (fun a=>qcn a.1 a.2.1)
abbrev zavw:ZC (Int×Circ×Unit):=Zc Zi (Zc (Cod.cptr zah) Zn)
abbrev z8x {R:Type}:Sm R:=semP zavw zax (fun a=>qcg a.1 a.2.1)
abbrev za0j {R:Type}:Sm R:=semP zg6 zax (fun a=>qg a.1)
def zak3 {R:Type}:Nat→Sm R:=cl 78 zla (cl 173 z8x c0)
abbrev z48:=mkld [] [] [1,3,12,13,14] [1] [] (Zp 1 1 (FC.clo 3 173 [] [1] (Zs 12 (Zl .kLoan) (Zs 13 Zi (Zs 14 Zi (Zx 1 zah Zz)))))) zazn (.xs 0 [1,3] [1] [] (Zp 1 1 (FC.clo 3 173 [] [1] (Zx 1 zah Zz))) (.r [2] [] [] (Zs 2 Zb Zz)))
abbrev z49:=mkld [] [] [1,3,32,33,34] [1] [] (Zp 1 1 (FC.clo 3 173 [] [1] (Zs 32 (Zl .kHold) (Zs 33 Zi (Zs 34 Zi (Zx 1 zah Zz)))))) zazo (.xs 2 [1,3] [1] [] (Zp 1 1 (FC.clo 3 173 [] [1] (Zx 1 zah Zz))) (.r [2] [] [] (Zs 2 Zb Zz)))
abbrev zxt:=mkld [] [] [3,45,46,47] [1] [] (FC.clo 3 173 [] [1] (Zs 45 (Zl .kCharge) (Zs 46 Zi (Zs 47 Zi (Zx 1 zah Zz))))) zajj (.xs 4 [] [] [] Zz (.r [2] [] [] (Zs 2 Zb Zz)))
def zik {R:Type}:Lp Kd El R:=lp 15 zxt.sem (lp 9 z49.sem (lp 3 z48.sem l0))
abbrev zaz3:ZD ((Int×Unit)):=(Cod.clo 243 (Zc (Cod.cptr (CC.one Zi)) Zn))
abbrev zar8 {R:Type}:Sm R:=semP zb4 zaz3 (fun a=>qab a.1)
abbrev zavv:ZC (Loan×Int×Unit):=Zc (Cod.agg zbg) (Zc (Cod.cptr (CC.one Zi)) Zn)
abbrev z8w {R:Type}:Sm R:=semP zavv zax (fun a=>qce a.1 a.2.1)
abbrev zako:ZC ((List Loan)×((Unit)×(Int×Unit))×Unit):=Zc (Zl .kLoan) (Zc (Cod.fnc 243 (Zn) (Zc (Cod.cptr (CC.one Zi)) Zn)) Zn)
abbrev za0k {R:Type}:Sm R:=semP zako za4 (fun a=>qk (fun g x0=>qce x0 g.2.1) a.1 a.2.1)
def zak7 {R:Type}:Nat→Sm R:=cl 243 z8w c0
abbrev z5e:=mkld [] [] [0,1,7,8] [] [] (Zs 0 (Zl .kLoan) (Zs 1 (Cod.fnc 243 (Zn) (Zc (Cod.cptr (CC.one Zi)) Zn)) (Zs 7 Zi (Zs 8 Zi Zz)))) (zun (fun g x0=>qce x0 g.2.1)) (.xs 0 [] [] [] Zz (.r [4] [] [] (Zs 4 Zi Zz)))
def zya {R:Type}:Lp Kd El R:=lp 2 z5e.sem l0
abbrev zajs:ZD (Loan×Int):=(Cod.tup2 (Zc (Cod.agg zbg) (Zc Zi Zn)))
abbrev zasx {R:Type}:Sm R:=semP zako zajs (fun a=>qbj (fun g x0=>qce x0 g.2.1) a.1 a.2.1)
abbrev zu8 {R:Type}:Sm R:=semP zl8 zajv (fun a=>qcz a.1 a.2.1)
abbrev zasz {R:Type}:Sm R:=semP zg6 zax (fun a=>qbp a.1)
def zaby {R:Type}:Nat→Sm R:=cl 59 zu8 c0
abbrev zxf:=mkld [] [] [1,9,10,11] [1] [] (Zp 1 1 (Zs 9 (Zl .kItem) (Zs 10 Zi (Zs 11 Zi (Zx 1 zah Zz))))) zai5 (.xs 0 [] [] [] Zz (.r [2] [] [] (Zs 2 Zb Zz)))
def zr1 {R:Type}:Lp Kd El R:=lp 2 zxf.sem l0
abbrev zafw:ZC (Hold×Int×Unit):=Zc (Cod.agg za3) (Zc (Cod.cptr (CC.one Zi)) Zn)
abbrev z85 {R:Type}:Sm R:=semP zafw zax (fun a=>qcw a.1 a.2.1)
abbrev za0x:ZC ((List Hold)×((Unit)×(Int×Unit))×Unit):=Zc (Zl .kHold) (Zc (Cod.fnc 197 (Zn) (Zc (Cod.cptr (CC.one Zi)) Zn)) Zn)
abbrev za0g {R:Type}:Sm R:=semP za0x za4 (fun a=>qb (fun g x0=>qcw x0 g.2.1) a.1 a.2.1)
def zakz {R:Type}:Nat→Sm R:=cl 197 z85 c0
abbrev z42:=mkld [] [] [0,1,7,8] [] [] (Zs 0 (Zl .kHold) (Zs 1 (Cod.fnc 197 (Zn) (Zc (Cod.cptr (CC.one Zi)) Zn)) (Zs 7 Zi (Zs 8 Zi Zz)))) (zl1 (fun g x0=>qcw x0 g.2.1)) (.xs 0 [] [] [] Zz (.r [4] [] [] (Zs 4 Zi Zz)))
def zx6 {R:Type}:Lp Kd El R:=lp 2 z42.sem l0
abbrev z8d {R:Type}:Sm R:=semP ziu zyj (fun a=>qbc a.1 a.2.1)
abbrev zasa {R:Type}:Sm R:=semP zg6 zax (fun a=>qag a.1)
def zaa9 {R:Type}:Nat→Sm R:=cl 78 zla (cl 96 z8d c0)
abbrev zwq:=mkld [] [] [1,13,14,15] [1] [] (Zp 1 1 (Zs 13 (Zl .kHold) (Zs 14 Zi (Zs 15 Zi (Zx 1 zah Zz))))) zaiv (.xs 0 [1] [1] [] (Zp 1 1 (Zx 1 zah Zz)) (.r [2] [] [] (Zs 2 Zb Zz)))
abbrev zqy:=mkld [] [] [1,65,66,67] [1] [] (Zp 1 1 (Zs 65 (Zl .kItem) (Zs 66 Zi (Zs 67 Zi (Zx 1 zah Zz))))) z6u (.xs 2 [] [] [] Zz (.r [2] [] [] (Zs 2 Zb Zz)))
def zjy {R:Type}:Lp Kd El R:=lp 16 zqy.sem (lp 2 zwq.sem l0)
abbrev zauj {R:Type}:Sm R:=semP zg6 zax (fun a=>qew a.1)
abbrev zafj:ZC (Circ×Item×Unit):=Zc (Cod.agg zah) (Zc (Cod.agg zaz) Zn)
abbrev zyi:ZD (Circ×Int):=(Cod.tup2 (Zc (Cod.agg zah) (Zc Zi Zn)))
abbrev zar3 {R:Type}:Sm R:=semP zafj zyi (fun a=>qa2 a.1 a.2.1)
abbrev zavt:ZC (Patron×Patron×Unit):=Zc (Cod.agg zbd) (Zc (Cod.cptr zbd) Zn)
abbrev z8s {R:Type}:Sm R:=semP zavt zax (fun a=>qc8 a.1 a.2.1)
abbrev zaak:ZC ((List Patron)×((Unit)×(Patron×Unit))×Unit):=Zc (Zl .kPatron) (Zc (Cod.fnc 186 (Zn) (Zc (Cod.cptr zbd) Zn)) Zn)
abbrev z95 {R:Type}:Sm R:=semP zaak za4 (fun a=>qo (fun g x0=>qc8 x0 g.2.1) a.1 a.2.1)
def zy9 {R:Type}:Nat→Sm R:=cl 186 z8s c0
abbrev zmx:=mkld [] [] [0,1,7,8] [] [] (Zs 0 (Zl .kPatron) (Zs 1 (Cod.fnc 186 (Zn) (Zc (Cod.cptr zbd) Zn)) (Zs 7 Zi (Zs 8 Zi Zz)))) (zup (fun g x0=>qc8 x0 g.2.1)) (.xs 0 [] [] [] Zz (.r [4] [] [] (Zs 4 Zi Zz)))
def zj8 {R:Type}:Lp Kd El R:=lp 2 zmx.sem l0
abbrev zajz:ZD ((List Patron)):=(Zl .kPatron)
abbrev zatl {R:Type}:Sm R:=semP zvj zajz (fun a=>qd3 a.1)
abbrev z1m:ZC ((List Patron)×Int×(List Patron)×Unit):=Zc (Zl .kPatron) (Zc Zi (Zc (Zl .kPatron) Zn))
abbrev zajy:ZD ((List Patron)):=zajz
def zaii (a:(List Patron)×Int×(List Patron)×Unit):Option ((List Patron)):=qd2 a.1 a.2.1 a.2.2.1
abbrev za1c {R:Type}:Sm R:=semP z1m zajy zaii
abbrev zaj4:ZD ((List Patron)×Int):=(Cod.tup2 (Zc (Zl .kPatron) (Zc Zi Zn)))
abbrev zatm {R:Type}:Sm R:=semP zvj zaj4 (fun a=>qd8 a.1)
abbrev zavl:ZC ((List Patron)×Patron×Unit):=Zc (Zl .kPatron) (Zc (Cod.agg zbd) Zn)
abbrev zasq {R:Type}:Sm R:=semP zavl zaj4 (fun a=>qb4 a.1 a.2.1)
abbrev zafy:ZC (Circ×Patron×Unit):=Zc (Cod.agg zah) (Zc (Cod.agg zbd) Zn)
abbrev zaty {R:Type}:Sm R:=semP zafy zyi (fun a=>qdr a.1 a.2.1)
abbrev zaf1:ZC (Unit):=Zn
abbrev zat6 {R:Type}:Sm R:=semP zaf1 zaj9 (fun a=>qed)
abbrev zaz7:ZC (Circ_desk):=zau
abbrev zata {R:Type}:Sm R:=semN zg6 zaz7 (fun a=>qcb a.1)
abbrev zyr:ZC (Unit×Int×Unit):=Zc (Cod.ptrc 100000) (Zc Zi Zn)
abbrev zk3:ZD (Unit):=Cod.unit
abbrev za0p {R:Type}:Sm R:=semM zyr (BC.one zau) zk3 (fun a b=>qt a.2.1 b)
abbrev zatw {R:Type}:Sm R:=semM zyr (BC.one zau) za4 (fun a b=>qdp a.2.1 b)
abbrev zawb:ZC ((List Move)×Unit):=Zc (Zl .kMove) Zn
abbrev zaz8:ZD ((List Move)):=(Zl .kMove)
abbrev zatq {R:Type}:Sm R:=semP zawb zaz8 (fun a=>qdj a.1)
abbrev zaft:ZC (Unit×Int×Int×Int×Int×Unit):=Zc (Cod.ptrc 100000) (Zc Zi (Zc Zi (Zc Zi (Zc Zi Zn))))
abbrev zasv {R:Type}:Sm R:=semM zaft (BC.one zau) zk3 (fun a b=>qbg a.2.1 a.2.2.1 a.2.2.2.1 a.2.2.2.2.1 b)
abbrev zu6 {R:Type}:Sm R:=semP z1k za4 (fun a=>qb6 a.1 a.2.1)
abbrev za01:ZC ((List Hold)×Int×Int×((Unit)×(Unit))×Unit):=Zc (Zl .kHold) (Zc Zi (Zc Zi (Zc (Cod.fnc 222 (Zn) (Zn)) Zn)))
abbrev zae5:ZD (List Hold):=(Zl .kHold)
abbrev zakg {R:Type}:Sm R:=semP za01 zae5 (fun a=>qq (fun g x0 x1=>qb6 x0 x1) a.1 a.2.1 a.2.2.1 a.2.2.2.1)
def zalc {R:Type}:Nat→Sm R:=cl 222 zu6 c0
abbrev z5m:=mkld [] [] [0,1,2,3,8,9] [] [99999] (FC.arr 0 99999 (Zs 1 Zi (Zs 2 Zi (Zs 3 (Cod.fnc 222 (Zn) (Zn)) (Zs 8 Zi (Zs 9 Zi (FC.own 99999 Kd.kHold false Zz))))))) (zazw (fun g x0 x1=>qb6 x0 x1)) (.x 2 [0,1,2,3,8] [] [99999] (FC.arr 0 99999 (Zs 1 Zi (Zs 2 Zi (Zs 3 (Cod.fnc 222 (Zn) (Zn)) (Zs 8 Zi (FC.own 99999 Kd.kHold false Zz)))))))
abbrev z5l:=mkld [] [] [0,1,2,3,8] [] [99999] (FC.arr 0 99999 (Zs 1 Zi (Zs 2 Zi (Zs 3 (Cod.fnc 222 (Zn) (Zn)) (Zs 8 Zi (FC.own 99999 Kd.kHold false Zz)))))) (zazv (fun g x0 x1=>qb6 x0 x1)) (.x 0 [] [] [99999] (FC.own 99999 Kd.kHold false Zz))
def zo6 {R:Type}:Lp Kd El R:=lp 1 z5l.sem (lp 4 z5m.sem l0)
abbrev zafu:ZC ((List Hold)×Int×Int×Int×((Unit)×(Unit))×Unit):=Zc (Zl .kHold) (Zc Zi (Zc Zi (Zc Zi (Zc (Cod.fnc 222 (Zn) (Zn)) Zn))))
abbrev zaju:ZD (List Hold):=zae5
def zaih (a:(List Hold)×Int×Int×Int×((Unit)×(Unit))×Unit):Option (List Hold):=qc0 (fun g x0 x1=>qb6 x0 x1) a.1 a.2.1 a.2.2.1 a.2.2.2.1 a.2.2.2.2.1
abbrev zas9 {R:Type}:Sm R:=semP zafu zaju zaih
abbrev za00:ZC ((List Hold)×Int×((Unit)×(Unit))×Unit):=Zc (Zl .kHold) (Zc Zi (Zc (Cod.fnc 222 (Zn) (Zn)) Zn))
abbrev za0m {R:Type}:Sm R:=semP za00 zae5 (fun a=>qp (fun g x0 x1=>qb6 x0 x1) a.1 a.2.1 a.2.2.1)
def zalb {R:Type}:Nat→Sm R:=cl 222 zu6 (cl 316 zakg (cl 317 zas9 c0))
abbrev z5i:=mkld [] [] [0,1,2,6,7,8] [] [99999] (FC.arr 0 99999 (Zs 1 Zi (Zs 2 (Cod.fnc 222 (Zn) (Zn)) (Zs 6 Zi (Zs 7 Zi (Zs 8 Zi (FC.own 99999 Kd.kHold false Zz))))))) (zazs (fun g x0 x1=>qb6 x0 x1)) (.x 0 [0,1,2,6,7] [] [99999] (FC.arr 0 99999 (Zs 1 Zi (Zs 2 (Cod.fnc 222 (Zn) (Zn)) (Zs 6 Zi (Zs 7 Zi (FC.own 99999 Kd.kHold false Zz)))))))
abbrev z5k:=mkld [] [] [0,1,2,6,7,8] [] [99999] (FC.arr 0 99999 (Zs 1 Zi (Zs 2 (Cod.fnc 222 (Zn) (Zn)) (Zs 6 Zi (Zs 7 Zi (Zs 8 Zi (FC.own 99999 Kd.kHold false Zz))))))) (zazu (fun g x0 x1=>qb6 x0 x1)) (.x 4 [0,1,2,6,7] [] [99999] (FC.arr 0 99999 (Zs 1 Zi (Zs 2 (Cod.fnc 222 (Zn) (Zn)) (Zs 6 Zi (Zs 7 Zi (FC.own 99999 Kd.kHold false Zz)))))))
abbrev z5j:=mkld [] [] [0,1,2,6] [] [99999] (FC.arr 0 99999 (Zs 1 Zi (Zs 2 (Cod.fnc 222 (Zn) (Zn)) (Zs 6 Zi (FC.own 99999 Kd.kHold false Zz))))) (zazt (fun g x0 x1=>qb6 x0 x1)) (.x 2 [] [] [99999] (FC.own 99999 Kd.kHold false Zz))
def zim {R:Type}:Lp Kd El R:=lp 7 z5j.sem (lp 9 z5k.sem (lp 2 z5i.sem l0))
abbrev zav6:ZC ((List Hold)×((Unit)×(Unit))×Unit):=Zc (Zl .kHold) (Zc (Cod.fnc 222 (Zn) (Zn)) Zn)
abbrev z87 {R:Type}:Sm R:=semP zav6 zae5 (fun a=>qd1 (fun g x0 x1=>qb6 x0 x1) a.1 a.2.1)
abbrev zawk:ZC ((List Hold)×Int×Int×Unit):=Zc (Zl .kHold) (Zc Zi (Zc Zi Zn))
abbrev zae4:ZD ((List Hold)):=(Zl .kHold)
abbrev zakc {R:Type}:Sm R:=semP zawk zae4 (fun a=>qh a.1 a.2.1 a.2.2.1)
def zak4 {R:Type}:Nat→Sm R:=cl 221 z87 c0
abbrev z5a:=mkld [(7,7,Kd.kHold)] [] [1,2,7,10,11,12] [] [7] (Zs 1 Zi (Zs 2 Zi (FC.arr 7 7 (Zs 10 (Zl .kHold) (Zs 11 Zi (Zs 12 Zi (FC.own 7 Kd.kHold false Zz))))))) zazp (.x 0 [7] [] [7] (FC.arr 7 7 (FC.own 7 Kd.kHold false Zz)))
def zx8 {R:Type}:Lp Kd El R:=lp 3 z5a.sem l0
abbrev zavn:ZC ((List Hold)×Item×Int×Int×Bool×Unit):=Zc (Zl .kHold) (Zc (Cod.agg zaz) (Zc Zi (Zc Zi (Zc Zb Zn))))
abbrev zasw {R:Type}:Sm R:=semP zavn za4 (fun a=>qbi a.1 a.2.1 a.2.2.1 a.2.2.2.1 a.2.2.2.2.1)
def zabu {R:Type}:Nat→Sm R:=cl 135 zakc c0
abbrev zxb:=mkld [] [] [2,4,6,11,18,19,20] [6] [] (Zs 2 Zi (Zs 4 Zb (Zp 6 6 (Zs 11 Zi (Zs 18 (Zl .kHold) (Zs 19 Zi (Zs 20 Zi (Zx 6 zaz Zz)))))))) zai3 (.xs 0 [11] [] [] (Zs 11 Zi Zz) (.r [10] [] [] (Zs 10 Zi Zz)))
def zrx {R:Type}:Lp Kd El R:=lp 3 zxb.sem l0
abbrev z9d {R:Type}:Sm R:=semP zafj za4 (fun a=>qdg a.1 a.2.1)
abbrev z9r {R:Type}:Sm R:=semP zafw zax (fun a=>qee a.1 a.2.1)
abbrev zaag:ZC ((List Hold)×((Unit)×(Int×Unit))×Unit):=Zc (Zl .kHold) (Zc (Cod.fnc 289 (Zn) (Zc (Cod.cptr (CC.one Zi)) Zn)) Zn)
abbrev z78 {R:Type}:Sm R:=semP zaag za4 (fun a=>qb (fun g x0=>qee x0 g.2.1) a.1 a.2.1)
def zy1 {R:Type}:Nat→Sm R:=cl 289 z9r c0
abbrev zmo:=mkld [] [] [0,1,7,8] [] [] (Zs 0 (Zl .kHold) (Zs 1 (Cod.fnc 289 (Zn) (Zc (Cod.cptr (CC.one Zi)) Zn)) (Zs 7 Zi (Zs 8 Zi Zz)))) (zl1 (fun g x0=>qee x0 g.2.1)) (.xs 0 [] [] [] Zz (.r [4] [] [] (Zs 4 Zi Zz)))
def zj1 {R:Type}:Lp Kd El R:=lp 2 zmo.sem l0
abbrev zvo:ZC ((List Hold)×Int×Unit):=Zc (Zl .kHold) (Zc Zi Zn)
abbrev zasu {R:Type}:Sm R:=semP zvo za4 (fun a=>qbf a.1 a.2.1)
abbrev zatk {R:Type}:Sm R:=semP zvo zyj (fun a=>qd0 a.1 a.2.1)
abbrev z1s:ZC (Unit×Int×Int×Unit):=Zc (Cod.ptrc 100000) (Zc Zi (Zc Zi Zn))
abbrev zatx {R:Type}:Sm R:=semM z1s (BC.one zau) zk3 (fun a b=>qdq a.2.1 a.2.2.1 b)
abbrev zaub {R:Type}:Sm R:=semP zpo zax (fun a=>qem a.1 a.2.1)
abbrev zafq:ZC (Rule×Int×Int×Int×Unit):=Zc (Cod.agg zc3) (Zc Zi (Zc Zi (Zc Zi Zn)))
abbrev z77 {R:Type}:Sm R:=semP zafq zax (fun a=>qb7 a.1 a.2.1 a.2.2.1 a.2.2.2.1)
abbrev z8g {R:Type}:Sm R:=semP zvp za4 (fun a=>qbh a.1)
def zabt {R:Type}:Nat→Sm R:=c0
abbrev zxa:=mkld [] [] [3,12,13,14] [] [12] (Zs 3 Zi (FC.arr 12 12 (Zs 13 Zi (Zs 14 Zi (FC.own 12 Kd.ki64 false Zz))))) zh0 (.x 0 [3] [] [] (Zs 3 Zi Zz))
def zrw {R:Type}:Lp Kd El R:=lp 3 zxa.sem l0
abbrev zvk:ZC ((List Rule)×Int×Int×Int×Unit):=Zc (Zl .kRule) (Zc Zi (Zc Zi (Zc Zi Zn)))
abbrev zasf {R:Type}:Sm R:=semP zvk za4 (fun a=>qat a.1 a.2.1 a.2.2.1 a.2.2.2.1)
def zabk {R:Type}:Nat→Sm R:=cl 311 z77 (cl 312 z8g c0)
abbrev zw1:=mkld [] [] [0,1,2,3,9,12,13,14] [] [] (Zs 0 (Zl .kRule) (Zs 1 Zi (Zs 2 Zi (Zs 3 Zi (Zs 9 Zi (Zs 12 (Zl .kRule) (Zs 13 Zi (Zs 14 Zi Zz)))))))) zkl (.x 0 [9] [] [] (Zs 9 Zi Zz))
def zrn {R:Type}:Lp Kd El R:=lp 3 zw1.sem l0
abbrev zyl:ZD (Rule×Bool):=(Cod.tup2 (Zc (Cod.agg zc3) (Zc Zb Zn)))
abbrev zatn {R:Type}:Sm R:=semP zvk zyl (fun a=>qdb a.1 a.2.1 a.2.2.1 a.2.2.2.1)
abbrev zafr:ZC (Circ×Int×Item×Unit):=Zc (Cod.agg zah) (Zc Zi (Zc (Cod.agg zaz) Zn))
abbrev zasr {R:Type}:Sm R:=semP zafr zyl (fun a=>qb8 a.1 a.2.1 a.2.2.1)
abbrev zajw:ZD (Calendar):=(Cod.agg zat)
abbrev zatc {R:Type}:Sm R:=semP ziu zajw (fun a=>qcj a.1 a.2.1)
abbrev zat3 {R:Type}:Sm R:=semP zb4 zax (fun a=>qe6 a.1)
abbrev z9m {R:Type}:Sm R:=semP zpo zax (fun a=>qe8 a.1 a.2.1)
abbrev z9s {R:Type}:Sm R:=semP zb4 zax (fun a=>qej a.1)
abbrev zavh:ZC ((List Int)×Int×Unit):=Zc (Zl .ki64) (Zc Zi Zn)
abbrev zaz5:ZD (Int×Bool):=(Cod.tup2 (Zc Zi (Zc Zb Zn)))
abbrev zask {R:Type}:Sm R:=semP zavh zaz5 (fun a=>qay a.1 a.2.1)
def zabn {R:Type}:Nat→Sm R:=cl 324 z9m (cl 349 z9s c0)
abbrev zw4:=mkld [] [] [0,1,6,7,8] [] [] (Zs 0 (Zl .ki64) (Zs 1 Zi (Zs 6 Zi (Zs 7 Zi (Zs 8 Zi Zz))))) znd (.x 0 [0,1,6,7] [] [] (Zs 0 (Zl .ki64) (Zs 1 Zi (Zs 6 Zi (Zs 7 Zi Zz)))))
def zrq {R:Type}:Lp Kd El R:=lp 3 zw4.sem l0
abbrev zaz4:ZD ((V7 Bool)):=(Cod.agg zbu)
abbrev z73 {R:Type}:Sm R:=semP zakq zaz4 (fun a=>qas a.1)
def zabj {R:Type}:Nat→Sm R:=c0
abbrev zw0:=mkld [] [] [1,2,3,5] [1,2,3] [] (Zp 1 1 (Zp 2 2 (Zp 3 3 (Zs 5 Zi (Zx 1 zat (Zx 2 zbu (Zx 3 zbu Zz))))))) z6x (.x 0 [2,3] [2,3] [] (Zp 2 2 (Zp 3 3 (Zx 2 zbu (Zx 3 zbu Zz)))))
def zrm {R:Type}:Lp Kd El R:=lp 3 zw0.sem l0
abbrev zau1 {R:Type}:Sm R:=semP zb4 zax (fun a=>qfu a.1)
abbrev z8t {R:Type}:Sm R:=semP zb4 za4 (fun a=>qc9 a.1)
abbrev zl9:ZC (Calendar×Int×Unit):=Zc (Cod.agg zat) (Zc Zi Zn)
abbrev zu7 {R:Type}:Sm R:=semP zl9 zax (fun a=>qcc a.1 a.2.1)
abbrev z7p {R:Type}:Sm R:=semP zl9 ze8 (fun a=>qa1 a.1 a.2.1)
def zaay {R:Type}:Nat→Sm R:=cl 304 zu7 c0
abbrev zwe:=mkld [] [] [2,6] [2] [] (Zp 2 2 (Zs 6 Zi (Zx 2 zat Zz))) zsc (.xs 0 [] [] [] Zz (.r [4,5] [] [] (Zs 4 Zi (Zs 5 Zi Zz))))
def zq7 {R:Type}:Lp Kd El R:=lp 2 zwe.sem l0
abbrev z1j:ZC (Calendar×Int×Int×Unit):=Zc (Cod.agg zat) (Zc Zi (Zc Zi Zn))
abbrev zar2 {R:Type}:Sm R:=semP z1j ze8 (fun a=>qa0 a.1 a.2.1 a.2.2.1)
def zaax {R:Type}:Nat→Sm R:=cl 257 z8q (cl 269 z7p c0)
abbrev zwd:=mkld [] [] [3,8,28,29] [3] [] (Zp 3 3 (Zs 8 Zi (Zs 28 Zi (Zs 29 Zi (Zx 3 zat Zz))))) zm3 (.xs 0 [8] [] [] (Zs 8 Zi Zz) (.r [6,7] [] [] (Zs 6 Zi (Zs 7 Zi Zz))))
def zq6 {R:Type}:Lp Kd El R:=lp 9 zwd.sem l0
abbrev zaua {R:Type}:Sm R:=semM z1s (BC.one zau) za4 (fun a b=>qek a.2.1 a.2.2.1 b)
abbrev zav1:ZC (Hold×Int×Int×Unit):=Zc (Cod.agg za3) (Zc (Cod.cptr (CC.one Zi)) (Zc (Cod.cptr (CC.one Zi)) Zn))
abbrev z81 {R:Type}:Sm R:=semP zav1 zax (fun a=>qcq a.1 a.2.1 a.2.2.1)
abbrev zvm:ZC ((List Hold)×((Unit)×(Int×Int×Unit))×Unit):=Zc (Zl .kHold) (Zc (Cod.fnc 285 (Zn) (Zc (Cod.cptr (CC.one Zi)) (Zc (Cod.cptr (CC.one Zi)) Zn))) Zn)
abbrev z79 {R:Type}:Sm R:=semP zvm za4 (fun a=>qb (fun g x0=>qcq x0 g.2.1 g.2.2.1) a.1 a.2.1)
def zy2 {R:Type}:Nat→Sm R:=cl 285 z81 c0
abbrev zmp:=mkld [] [] [0,1,7,8] [] [] (Zs 0 (Zl .kHold) (Zs 1 (Cod.fnc 285 (Zn) (Zc (Cod.cptr (CC.one Zi)) (Zc (Cod.cptr (CC.one Zi)) Zn))) (Zs 7 Zi (Zs 8 Zi Zz)))) (zl1 (fun g x0=>qcq x0 g.2.1 g.2.2.1)) (.xs 0 [] [] [] Zz (.r [4] [] [] (Zs 4 Zi Zz)))
def zj2 {R:Type}:Lp Kd El R:=lp 2 zmp.sem l0
abbrev zath {R:Type}:Sm R:=semP zvm zax (fun a=>qct (fun g x0=>qcq x0 g.2.1 g.2.2.1) a.1 a.2.1)
abbrev zats {R:Type}:Sm R:=semP zakp zae4 (fun a=>qdl a.1)
abbrev zawj:ZC ((List Hold)×Int×Hold×Unit):=Zc (Zl .kHold) (Zc Zi (Zc (Cod.agg za3) Zn))
abbrev zaum {R:Type}:Sm R:=semP zawj zae4 (fun a=>qez a.1 a.2.1 a.2.2.1)
abbrev zavg:ZC ((List Hold)×Int×Int×Int×Int×Unit):=Zc (Zl .kHold) (Zc Zi (Zc Zi (Zc Zi (Zc Zi Zn))))
abbrev zajr:ZD ((List Hold)×Int):=(Cod.tup2 (Zc (Zl .kHold) (Zc Zi Zn)))
abbrev zash {R:Type}:Sm R:=semP zavg zajr (fun a=>qav a.1 a.2.1 a.2.2.1 a.2.2.2.1 a.2.2.2.2.1)
abbrev zavy:ZC (Unit×(List Hold)×Int×Unit):=Zc (Cod.ptrc 100000) (Zc (Zl .kHold) (Zc Zi Zn))
abbrev zate {R:Type}:Sm R:=semM zavy (BC.one zau) zk3 (fun a b=>qcl a.2.1 a.2.2.1 b)
abbrev zawc:ZC (Unit×Int×Hold×Unit):=Zc (Cod.ptrc 100000) (Zc Zi (Zc (Cod.agg za3) Zn))
abbrev zatu {R:Type}:Sm R:=semM zawc (BC.one zau) zk3 (fun a b=>qdn a.2.1 a.2.2.1 b)
abbrev z8l {R:Type}:Sm R:=semM zyr (BC.one zau) zk3 (fun a b=>qc1 a.2.1 b)
abbrev za0w:ZC (Unit×Unit):=Zc (Cod.ptrc 100000) Zn
abbrev za0e {R:Type}:Sm R:=semM za0w (BC.one zau) zyi (fun a b=>q9 b)
abbrev z1t:ZC (Circ×Int×Int×Unit):=Zc (Cod.agg zah) (Zc Zi (Zc Zi Zn))
abbrev zatz {R:Type}:Sm R:=semP z1t zyi (fun a=>qdt a.1 a.2.1 a.2.2.1)
abbrev zafp:ZC ((List Charge)×Int×Unit):=Zc (Zl .kCharge) (Zc Zi Zn)
abbrev zasi {R:Type}:Sm R:=semP zafp za4 (fun a=>qaw a.1 a.2.1)
def zabl {R:Type}:Nat→Sm R:=c0
abbrev zw2:=mkld [] [] [1,5,8,9,10] [] [] (Zs 1 Zi (Zs 5 Zi (Zs 8 (Zl .kCharge) (Zs 9 Zi (Zs 10 Zi Zz))))) znb (.x 0 [5] [] [] (Zs 5 Zi Zz))
def zro {R:Type}:Lp Kd El R:=lp 3 zw2.sem l0
abbrev z0z:ZD ((List Loan)):=(Zl .kLoan)
abbrev z7o {R:Type}:Sm R:=semP zl8 z0z (fun a=>q8 a.1 a.2.1)
def zakx {R:Type}:Nat→Sm R:=c0
abbrev z4y:=mkld [(5,5,Kd.kLoan)] [] [1,5,8,9,10] [] [5] (Zs 1 Zi (FC.arr 5 5 (Zs 8 (Zl .kLoan) (Zs 9 Zi (Zs 10 Zi (FC.own 5 Kd.kLoan false Zz)))))) z0g (.x 0 [5] [] [5] (FC.arr 5 5 (FC.own 5 Kd.kLoan false Zz)))
def zx5 {R:Type}:Lp Kd El R:=lp 3 z4y.sem l0
abbrev zit:ZC ((List Loan)×Int×Int×Unit):=Zc (Zl .kLoan) (Zc Zi (Zc Zi Zn))
abbrev zasd {R:Type}:Sm R:=semP zit za4 (fun a=>qam a.1 a.2.1 a.2.2.1)
def zabe {R:Type}:Nat→Sm R:=cl 190 z7o c0
abbrev zwv:=mkld [] [] [2,7,12,13,14] [] [] (Zs 2 Zi (Zs 7 Zi (Zs 12 (Zl .kLoan) (Zs 13 Zi (Zs 14 Zi Zz))))) zm7 (.x 0 [7] [] [] (Zs 7 Zi Zz))
def zrh {R:Type}:Lp Kd El R:=lp 3 zwv.sem l0
abbrev zafs:ZC (Patron×Int×Int×Int×Unit):=Zc (Cod.agg zbd) (Zc Zi (Zc Zi (Zc Zi Zn)))
abbrev zast {R:Type}:Sm R:=semP zafs z7d (fun a=>qba a.1 a.2.1 a.2.2.1 a.2.2.2.1)
def zabp {R:Type}:Nat→Sm R:=c0
abbrev zw6:=mkld [(9,9,Kd.ki64)] [] [9,22,23,24] [] [9,22] (FC.arr 9 9 (FC.arr 22 22 (Zs 23 Zi (Zs 24 Zi (FC.own 9 Kd.ki64 false (FC.own 22 Kd.kbool false Zz)))))) z60 (.x 0 [9] [] [9] (FC.arr 9 9 (FC.own 9 Kd.ki64 false Zz)))
def zrs {R:Type}:Lp Kd El R:=lp 3 zw6.sem l0
abbrev z89 {R:Type}:Sm R:=semP zafy zax (fun a=>qda a.1 a.2.1)
abbrev zas1 {R:Type}:Sm R:=semP zl9 ze8 (fun a=>qbr a.1 a.2.1)
def zab0 {R:Type}:Nat→Sm R:=cl 304 zu7 c0
abbrev zxh:=mkld [] [] [2,6] [2] [] (Zp 2 2 (Zs 6 Zi (Zx 2 zat Zz))) zsd (.xs 0 [] [] [] Zz (.r [4,5] [] [] (Zs 4 Zi (Zs 5 Zi Zz))))
def zr3 {R:Type}:Lp Kd El R:=lp 2 zxh.sem l0
abbrev z1l:ZC (Rule×Calendar×Int×Int×Unit):=Zc (Cod.agg zc3) (Zc (Cod.agg zat) (Zc Zi (Zc Zi Zn)))
abbrev zatj {R:Type}:Sm R:=semP z1l ze8 (fun a=>qcx a.1 a.2.1 a.2.2.1 a.2.2.2.1)
abbrev zawe:ZC (Circ×Item×Patron×Int×Unit):=Zc (Cod.agg zah) (Zc (Cod.agg zaz) (Zc (Cod.agg zbd) (Zc Zi Zn)))
abbrev zauc {R:Type}:Sm R:=semP zawe ze8 (fun a=>qeo a.1 a.2.1 a.2.2.1 a.2.2.2.1)
abbrev zav3:ZC (Loan×Loan×Unit):=Zc (Cod.agg zbg) (Zc (Cod.cptr zbg) Zn)
abbrev z83 {R:Type}:Sm R:=semP zav3 zax (fun a=>qcs a.1 a.2.1)
abbrev znt:ZC ((List Loan)×((Unit)×(Loan×Unit))×Unit):=Zc (Zl .kLoan) (Zc (Cod.fnc 193 (Zn) (Zc (Cod.cptr zbg) Zn)) Zn)
abbrev z93 {R:Type}:Sm R:=semP znt za4 (fun a=>qk (fun g x0=>qcs x0 g.2.1) a.1 a.2.1)
def zy8 {R:Type}:Nat→Sm R:=cl 193 z83 c0
abbrev zmw:=mkld [] [] [0,1,7,8] [] [] (Zs 0 (Zl .kLoan) (Zs 1 (Cod.fnc 193 (Zn) (Zc (Cod.cptr zbg) Zn)) (Zs 7 Zi (Zs 8 Zi Zz)))) (zun (fun g x0=>qcs x0 g.2.1)) (.xs 0 [] [] [] Zz (.r [4] [] [] (Zs 4 Zi Zz)))
def zj7 {R:Type}:Lp Kd El R:=lp 2 zmw.sem l0
abbrev z07 {R:Type}:Sm R:=semP znt zajs (fun a=>qbj (fun g x0=>qcs x0 g.2.1) a.1 a.2.1)
abbrev zatr {R:Type}:Sm R:=semP zpn z0z (fun a=>qdk a.1)
abbrev z1n:ZC ((List Loan)×Int×(List Loan)×Unit):=Zc (Zl .kLoan) (Zc Zi (Zc (Zl .kLoan) Zn))
abbrev zaj0:ZD ((List Loan)):=z0z
def zaij (a:(List Loan)×Int×(List Loan)×Unit):Option ((List Loan)):=qd4 a.1 a.2.1 a.2.2.1
abbrev za1d {R:Type}:Sm R:=semP z1n zaj0 zaij
abbrev zk2:ZD ((List Loan)×Int):=(Cod.tup2 (Zc (Zl .kLoan) (Zc Zi Zn)))
abbrev zatb {R:Type}:Sm R:=semP zpn zk2 (fun a=>qcf a.1)
abbrev zavj:ZC ((List Loan)×Loan×Unit):=Zc (Zl .kLoan) (Zc (Cod.agg zbg) Zn)
abbrev zasm {R:Type}:Sm R:=semP zavj zk2 (fun a=>qb0 a.1 a.2.1)
abbrev zavx:ZC (Unit×(List Loan)×Int×Unit):=Zc (Cod.ptrc 100000) (Zc (Zl .kLoan) (Zc Zi Zn))
abbrev zatd {R:Type}:Sm R:=semM zavx (BC.one zau) zk3 (fun a b=>qck a.2.1 a.2.2.1 b)
abbrev z1q:ZC ((List Hold)×Int×Int×Unit):=zawk
abbrev zaj3:ZD ((List Hold)):=zae4
def zaim (a:(List Hold)×Int×Int×Unit):Option ((List Hold)):=qd7 a.1 a.2.1 a.2.2.1
abbrev za1g {R:Type}:Sm R:=semP z1q zaj3 zaim
abbrev za0a:ZD ((List Hold)×Hold×Int):=(Cod.tup3 (Zc (Zl .kHold) (Zc (Cod.agg za3) (Zc Zi Zn))))
abbrev zaud {R:Type}:Sm R:=semP zvo za0a (fun a=>qep a.1 a.2.1)
abbrev zat2 {R:Type}:Sm R:=semM zyr (BC.one zau) zk3 (fun a b=>qe4 a.2.1 b)
abbrev zh1:ZD (Circ×Int×Int):=(Cod.tup3 (Zc (Cod.agg zah) (Zc Zi (Zc Zi Zn))))
abbrev zar7 {R:Type}:Sm R:=semM zyr (BC.one zau) zh1 (fun a b=>qa9 a.2.1 b)
abbrev zafv:ZC (Hold×Item×Unit):=Zc (Cod.agg za3) (Zc (Cod.agg zaz) Zn)
abbrev z8y {R:Type}:Sm R:=semP zafv zax (fun a=>qch a.1 a.2.1)
abbrev zav9:ZC (Hold×Int×Item×Unit):=Zc (Cod.agg za3) (Zc (Cod.cptr (CC.one Zi)) (Zc (Cod.cptr zaz) Zn))
abbrev z9b {R:Type}:Sm R:=semP zav9 zax (fun a=>qdd a.1 a.2.1 a.2.2.1)
abbrev zaah:ZC ((List Hold)×((Unit)×(Int×Item×Unit))×Unit):=Zc (Zl .kHold) (Zc (Cod.fnc 100 (Zn) (Zc (Cod.cptr (CC.one Zi)) (Zc (Cod.cptr zaz) Zn))) Zn)
abbrev z8a {R:Type}:Sm R:=semP zaah za4 (fun a=>qb (fun g x0=>qdd x0 g.2.1 g.2.2.1) a.1 a.2.1)
def zy3 {R:Type}:Nat→Sm R:=cl 100 z9b c0
abbrev zmq:=mkld [] [] [0,1,7,8] [] [] (Zs 0 (Zl .kHold) (Zs 1 (Cod.fnc 100 (Zn) (Zc (Cod.cptr (CC.one Zi)) (Zc (Cod.cptr zaz) Zn))) (Zs 7 Zi (Zs 8 Zi Zz)))) (zl1 (fun g x0=>qdd x0 g.2.1 g.2.2.1)) (.xs 0 [] [] [] Zz (.r [4] [] [] (Zs 4 Zi Zz)))
def zj3 {R:Type}:Lp Kd El R:=lp 2 zmq.sem l0
abbrev zavo:ZC (Circ×Int×Int×Int×Unit):=Zc (Cod.agg zah) (Zc Zi (Zc Zi (Zc Zi Zn)))
abbrev zasy {R:Type}:Sm R:=semP zavo zh1 (fun a=>qbm a.1 a.2.1 a.2.2.1 a.2.2.2.1)
abbrev zawf:ZC (Item×Int×Unit):=Zc (Cod.agg zaz) (Zc Zi Zn)
abbrev zaue {R:Type}:Sm R:=semP zawf zax (fun a=>qeq a.1 a.2.1)
abbrev zavq:ZC (Item×Hold×Unit):=Zc (Cod.agg zaz) (Zc (Cod.cptr za3) Zn)
abbrev z8o {R:Type}:Sm R:=semP zavq zax (fun a=>qc4 a.1 a.2.1)
abbrev zaaj:ZC ((List Item)×((Unit)×(Hold×Unit))×Unit):=Zc (Zl .kItem) (Zc (Cod.fnc 223 (Zn) (Zc (Cod.cptr za3) Zn)) Zn)
abbrev zsn {R:Type}:Sm R:=semP zaaj za4 (fun a=>qe (fun g x0=>qc4 x0 g.2.1) a.1 a.2.1)
def zy7 {R:Type}:Nat→Sm R:=cl 223 z8o c0
abbrev zmv:=mkld [] [] [0,1,7,8] [] [] (Zs 0 (Zl .kItem) (Zs 1 (Cod.fnc 223 (Zn) (Zc (Cod.cptr za3) Zn)) (Zs 7 Zi (Zs 8 Zi Zz)))) (zsf (fun g x0=>qc4 x0 g.2.1)) (.xs 0 [] [] [] Zz (.r [4] [] [] (Zs 4 Zi Zz)))
def zj6 {R:Type}:Lp Kd El R:=lp 2 zmv.sem l0
abbrev za02:ZC (Circ×Patron×Hold×Unit):=Zc (Cod.agg zah) (Zc (Cod.agg zbd) (Zc (Cod.agg za3) Zn))
abbrev za1b:ZD (Item×Int):=(Cod.tup2 (Zc (Cod.agg zaz) (Zc Zi Zn)))
abbrev za0q {R:Type}:Sm R:=semP za02 za1b (fun a=>qu a.1 a.2.1 a.2.2.1)
def zalf {R:Type}:Nat→Sm R:=cl 78 zla (cl 80 zsn (cl 115 z89 (cl 190 z7o c0)))
abbrev z5p:=mkld [] [] [3,5,6,8,36,37,38] [3,5,6] [] (Zp 3 3 (Zp 5 5 (Zp 6 6 (Zs 8 Zi (Zs 36 (Zl .kLoan) (Zs 37 Zi (Zs 38 Zi (Zx 3 zah (Zx 5 za3 (Zx 6 zaz Zz)))))))))) zazz (.xs 0 [3,6,8] [3,6] [] (Zp 3 3 (Zp 6 6 (Zs 8 Zi (Zx 3 zah (Zx 6 zaz Zz))))) (.r [7] [6] [6] (Zp 6 6 (Zs 7 Zi (Zx 6 zaz Zz)))))
def zyd {R:Type}:Lp Kd El R:=lp 9 z5p.sem l0
abbrev zawh:ZC ((List Hold)×Hold×Unit):=Zc (Zl .kHold) (Zc (Cod.agg za3) Zn)
abbrev zaui {R:Type}:Sm R:=semP zawh zajr (fun a=>qev a.1 a.2.1)
abbrev zas0 {R:Type}:Sm R:=semM zyr (BC.one zau) zk3 (fun a b=>qbq a.2.1 b)
def zabz {R:Type}:Nat→Sm R:=cl 110 z8l (cl 156 z9d c0)
abbrev zxg:=mkld [] [] [0,1,11,12] [100000] [] (Zp 0 100000 (Zs 1 Zi (Zs 11 Zi (Zs 12 Zi (Zx 100000 zau Zz))))) zai6 (.xs 0 [] [100000] [] (Zx 100000 zau Zz) (.r [] [] [100000] (Zx 100000 zau Zz)))
def zr2 {R:Type}:Lp Kd El R:=lp 1 zxg.sem l0
abbrev zawi:ZC (Circ×Int×Int×Int×Int×Unit):=Zc (Cod.agg zah) (Zc Zi (Zc Zi (Zc Zi (Zc Zi Zn))))
abbrev zaul {R:Type}:Sm R:=semP zawi zh1 (fun a=>qey a.1 a.2.1 a.2.2.1 a.2.2.2.1 a.2.2.2.2.1)
abbrev zav2:ZC (Hold×Circ×Item×Unit):=Zc (Cod.agg za3) (Zc (Cod.cptr zah) (Zc (Cod.cptr zaz) Zn))
abbrev z82 {R:Type}:Sm R:=semP zav2 zax (fun a=>qcr a.1 a.2.1 a.2.2.1)
abbrev zvn:ZC ((List Hold)×((Unit)×(Circ×Item×Unit))×Unit):=Zc (Zl .kHold) (Zc (Cod.fnc 116 (Zn) (Zc (Cod.cptr zah) (Zc (Cod.cptr zaz) Zn))) Zn)
abbrev z8b {R:Type}:Sm R:=semP zvn za4 (fun a=>qb (fun g x0=>qcr x0 g.2.1 g.2.2.1) a.1 a.2.1)
def zy4 {R:Type}:Nat→Sm R:=cl 116 z82 c0
abbrev zmr:=mkld [] [] [0,1,7,8] [] [] (Zs 0 (Zl .kHold) (Zs 1 (Cod.fnc 116 (Zn) (Zc (Cod.cptr zah) (Zc (Cod.cptr zaz) Zn))) (Zs 7 Zi (Zs 8 Zi Zz)))) (zl1 (fun g x0=>qcr x0 g.2.1 g.2.2.1)) (.xs 0 [] [] [] Zz (.r [4] [] [] (Zs 4 Zi Zz)))
def zj4 {R:Type}:Lp Kd El R:=lp 2 zmr.sem l0
abbrev z08 {R:Type}:Sm R:=semP zvn zax (fun a=>qct (fun g x0=>qcr x0 g.2.1 g.2.2.1) a.1 a.2.1)
abbrev zaf0:ZC (Rule×Calendar×Loan×Int×Int×Unit):=Zc (Cod.agg zc3) (Zc (Cod.agg zat) (Zc (Cod.agg zbg) (Zc Zi (Zc Zi Zn))))
abbrev zat5 {R:Type}:Sm R:=semP zaf0 ze8 (fun a=>qec a.1 a.2.1 a.2.2.1 a.2.2.2.1 a.2.2.2.2.1)
abbrev zawd:ZC ((List Loan)×Int×Loan×Unit):=Zc (Zl .kLoan) (Zc Zi (Zc (Cod.agg zbg) Zn))
abbrev zatv {R:Type}:Sm R:=semP zawd z0z (fun a=>qdo a.1 a.2.1 a.2.2.1)
abbrev zau0 {R:Type}:Sm R:=semP zit zk2 (fun a=>qft a.1 a.2.1 a.2.2.1)
abbrev zas4 {R:Type}:Sm R:=semP ziu zh1 (fun a=>qbv a.1 a.2.1)
abbrev zavi:ZC (Circ×Hold×Unit):=Zc (Cod.agg zah) (Zc (Cod.agg za3) Zn)
abbrev zaz6:ZD (Loan×Item×Bool):=(Cod.tup3 (Zc (Cod.agg zbg) (Zc (Cod.agg zaz) (Zc Zb Zn))))
abbrev zasl {R:Type}:Sm R:=semP zavi zaz6 (fun a=>qaz a.1 a.2.1)
def zabo {R:Type}:Nat→Sm R:=cl 59 zu8 (cl 101 z8y c0)
abbrev zw5:=mkld [] [] [2,3,4,5,6,12,13,14] [2,3,4,5] [] (Zp 2 2 (Zp 3 3 (Zp 4 4 (Zp 5 5 (Zs 6 Zb (Zs 12 (Zl .kItem) (Zs 13 Zi (Zs 14 Zi (Zx 2 zah (Zx 3 za3 (Zx 4 zbg (Zx 5 zaz Zz)))))))))))) zkm (.x 0 [4,5,6] [4,5] [] (Zp 4 4 (Zp 5 5 (Zs 6 Zb (Zx 4 zbg (Zx 5 zaz Zz))))))
def zrr {R:Type}:Lp Kd El R:=lp 2 zw5.sem l0
abbrev zauz {R:Type}:Sm R:=semP zit zk2 (fun a=>qfs a.1 a.2.1 a.2.2.1)
abbrev zauf {R:Type}:Sm R:=semP ziu zh1 (fun a=>qer a.1 a.2.1)
abbrev z1p:ZC ((List Loan)×Int×Int×Unit):=zit
abbrev zaj2:ZD ((List Loan)):=z0z
def zail (a:(List Loan)×Int×Int×Unit):Option ((List Loan)):=qd6 a.1 a.2.1 a.2.2.1
abbrev za1f {R:Type}:Sm R:=semP z1p zaj2 zail
abbrev zaur {R:Type}:Sm R:=semP zl8 z0z (fun a=>qfk a.1 a.2.1)
abbrev za0b:ZD ((List Loan)×Loan×Int):=(Cod.tup3 (Zc (Zl .kLoan) (Zc (Cod.agg zbg) (Zc Zi Zn))))
abbrev zauk {R:Type}:Sm R:=semP zl8 za0b (fun a=>qex a.1 a.2.1)
abbrev z9u {R:Type}:Sm R:=semP zpo za4 (fun a=>qen a.1 a.2.1)
abbrev zasb {R:Type}:Sm R:=semP z1j za4 (fun a=>qah a.1 a.2.1 a.2.2.1)
def zaba {R:Type}:Nat→Sm R:=cl 308 z73 (cl 309 z9u (cl 310 z8t c0))
abbrev zwr:=mkld [] [] [1,2,3,7,8,22,23] [3,7] [] (Zs 1 Zi (Zs 2 Zi (Zp 3 3 (Zp 7 7 (Zs 8 Zi (Zs 22 (Cod.agg zbu) (Zs 23 Zi (Zx 3 zat (Zx 7 zbu Zz))))))))) zaiw (.x 0 [1,2,3,7,8] [3,7] [] (Zs 1 Zi (Zs 2 Zi (Zp 3 3 (Zp 7 7 (Zs 8 Zi (Zx 3 zat (Zx 7 zbu Zz))))))))
abbrev zqz:=mkld [] [] [1,2,7,8,40,41,42] [7] [] (Zs 1 Zi (Zs 2 Zi (Zp 7 7 (Zs 8 Zi (Zs 40 (Zl .ki64) (Zs 41 Zi (Zs 42 Zi (Zx 7 zbu Zz)))))))) z6v (.x 2 [8] [] [] (Zs 8 Zi Zz))
def zjz {R:Type}:Lp Kd El R:=lp 13 zqz.sem (lp 7 zwr.sem l0)
abbrev zau4 {R:Type}:Sm R:=semP z1l za4 (fun a=>qfx a.1 a.2.1 a.2.2.1 a.2.2.2.1)
abbrev zawa:ZC ((List Charge)×Charge×Unit):=Zc (Zl .kCharge) (Zc (Cod.agg zdv) Zn)
abbrev zaj6:ZD ((List Charge)×Int):=(Cod.tup2 (Zc (Zl .kCharge) (Zc Zi Zn)))
abbrev zatp {R:Type}:Sm R:=semP zawa zaj6 (fun a=>qdi a.1 a.2.1)
abbrev zaus {R:Type}:Sm R:=semM zaft (BC.one zau) zk3 (fun a b=>qfl a.2.1 a.2.2.1 a.2.2.2.1 a.2.2.2.2.1 b)
abbrev zavs:ZC (Charge×Int×Int×Int×Unit):=Zc (Cod.agg zdv) (Zc (Cod.cptr (CC.one Zi)) (Zc (Cod.cptr (CC.one Zi)) (Zc (Cod.cptr (CC.one Zi)) Zn)))
abbrev z8r {R:Type}:Sm R:=semP zavs zax (fun a=>qc7 a.1 a.2.1 a.2.2.1 a.2.2.2.1)
abbrev zavf:ZC ((List Charge)×((Unit)×(Int×Int×Int×Unit))×Unit):=Zc (Zl .kCharge) (Zc (Cod.fnc 283 (Zn) (Zc (Cod.cptr (CC.one Zi)) (Zc (Cod.cptr (CC.one Zi)) (Zc (Cod.cptr (CC.one Zi)) Zn)))) Zn)
abbrev zaz2:ZD ((List Charge)×Int×Int):=(Cod.tup3 (Zc (Zl .kCharge) (Zc Zi (Zc Zi Zn))))
abbrev zar4 {R:Type}:Sm R:=semP zavf zaz2 (fun a=>qa3 (fun g x0=>qc7 x0 g.2.1 g.2.2.1 g.2.2.2.1) a.1 a.2.1)
def zaaz {R:Type}:Nat→Sm R:=cl 283 z8r c0
abbrev zwf:=mkld [(4,4,Kd.kCharge)] [] [1,4,5,6,9,10,11] [] [4] (Zs 1 (Cod.fnc 283 (Zn) (Zc (Cod.cptr (CC.one Zi)) (Zc (Cod.cptr (CC.one Zi)) (Zc (Cod.cptr (CC.one Zi)) Zn)))) (FC.arr 4 4 (Zs 5 Zi (Zs 6 Zi (Zs 9 (Zl .kCharge) (Zs 10 Zi (Zs 11 Zi (FC.own 4 Kd.kCharge false Zz)))))))) (zais (fun g x0=>qc7 x0 g.2.1 g.2.2.1 g.2.2.2.1)) (.x 0 [4,5,6] [] [4] (FC.arr 4 4 (Zs 5 Zi (Zs 6 Zi (FC.own 4 Kd.kCharge false Zz)))))
def zq8 {R:Type}:Lp Kd El R:=lp 2 zwf.sem l0
abbrev zavk:ZC ((List Charge)×Int×Int×Int×Unit):=Zc (Zl .kCharge) (Zc Zi (Zc Zi (Zc Zi Zn)))
abbrev zasp {R:Type}:Sm R:=semP zavk zaj6 (fun a=>qb3 a.1 a.2.1 a.2.2.1 a.2.2.2.1)
abbrev zauq {R:Type}:Sm R:=semM z1s (BC.one zau) zk3 (fun a b=>qfj a.2.1 a.2.2.1 b)
abbrev zaup {R:Type}:Sm R:=semP z1t zh1 (fun a=>qfg a.1 a.2.1 a.2.2.1)
abbrev zauo {R:Type}:Sm R:=semP zaf1 zax (fun a=>qfb)
abbrev zas8 {R:Type}:Sm R:=semP zafp za4 (fun a=>qbz a.1 a.2.1)
def zab6 {R:Type}:Nat→Sm R:=c0
abbrev zxm:=mkld [] [] [0,1,5,6] [] [] (Zs 0 (Zl .kCharge) (Zs 1 Zi (Zs 5 Zi (Zs 6 Zi Zz)))) znh (.x 0 [5] [] [] (Zs 5 Zi Zz))
def zr9 {R:Type}:Lp Kd El R:=lp 3 zxm.sem l0
abbrev zas7 {R:Type}:Sm R:=semP zit za4 (fun a=>qby a.1 a.2.1 a.2.2.1)
def zab5 {R:Type}:Nat→Sm R:=c0
abbrev zxl:=mkld [] [] [0,1,2,7,8] [] [] (Zs 0 (Zl .kLoan) (Zs 1 Zi (Zs 2 Zi (Zs 7 Zi (Zs 8 Zi Zz))))) zng (.x 0 [7] [] [] (Zs 7 Zi Zz))
def zr8 {R:Type}:Lp Kd El R:=lp 3 zxl.sem l0
abbrev zauy {R:Type}:Sm R:=semP zafs z7d (fun a=>qfr a.1 a.2.1 a.2.2.1 a.2.2.2.1)
abbrev z9n {R:Type}:Sm R:=semP ziu zax (fun a=>qe9 a.1 a.2.1)
abbrev zva {R:Type}:Sm R:=semP zafv zax (fun a=>qdy a.1 a.2.1)
abbrev z91 {R:Type}:Sm R:=semP zafq zax (fun a=>qfh a.1 a.2.1 a.2.2.1 a.2.2.2.1)
abbrev z9v {R:Type}:Sm R:=semP zvp za4 (fun a=>qet a.1)
abbrev zas6 {R:Type}:Sm R:=semP zvk za4 (fun a=>qbx a.1 a.2.1 a.2.2.1 a.2.2.2.1)
def zab4 {R:Type}:Nat→Sm R:=cl 313 z91 (cl 314 z9v c0)
abbrev zxk:=mkld [] [] [0,1,2,3,9,10] [] [] (Zs 0 (Zl .kRule) (Zs 1 Zi (Zs 2 Zi (Zs 3 Zi (Zs 9 Zi (Zs 10 Zi Zz)))))) zkq (.x 0 [9] [] [] (Zs 9 Zi Zz))
def zr7 {R:Type}:Lp Kd El R:=lp 3 zxk.sem l0
abbrev zau5 {R:Type}:Sm R:=semP zvk zyl (fun a=>qfy a.1 a.2.1 a.2.2.1 a.2.2.2.1)
abbrev zu9 {R:Type}:Sm R:=semP zafr zyl (fun a=>qdx a.1 a.2.1 a.2.2.1)
abbrev z94 {R:Type}:Sm R:=semP ziu zajw (fun a=>qm a.1 a.2.1)
abbrev zaun {R:Type}:Sm R:=semP zb4 zax (fun a=>qf0 a.1)
abbrev z9w {R:Type}:Sm R:=semP zb4 za4 (fun a=>qfa a.1)
abbrev z96 {R:Type}:Sm R:=semP zl9 zax (fun a=>qz a.1 a.2.1)
def zalk {R:Type}:Nat→Sm R:=cl 315 z9w c0
abbrev z5v:=mkld [] [] [1,2,5,6,7] [2] [] (Zs 1 Zi (Zp 2 2 (Zs 5 Zi (Zs 6 Zi (Zs 7 Zi (Zx 2 zat Zz)))))) z0x (.x 0 [1,2,5] [2] [] (Zs 1 Zi (Zp 2 2 (Zs 5 Zi (Zx 2 zat Zz)))))
abbrev zx1:=mkld [] [] [1,2,8] [2] [] (Zs 1 Zi (Zp 2 2 (Zs 8 Zi (Zx 2 zat Zz)))) zk1 (.xs 2 [] [] [] Zz (.r [4] [] [] (Zs 4 Zb Zz)))
def zo9 {R:Type}:Lp Kd El R:=lp 12 zx1.sem (lp 6 z5v.sem l0)
abbrev z7s {R:Type}:Sm R:=semP zl9 ze8 (fun a=>qa6 a.1 a.2.1)
def zaa2 {R:Type}:Nat→Sm R:=cl 290 z96 c0
abbrev zwi:=mkld [] [] [2,6] [2] [] (Zp 2 2 (Zs 6 Zi (Zx 2 zat Zz))) zgz (.xs 0 [] [] [] Zz (.r [4,5] [] [] (Zs 4 Zi (Zs 5 Zi Zz))))
def zrb {R:Type}:Lp Kd El R:=lp 2 zwi.sem l0
abbrev zas3 {R:Type}:Sm R:=semP zl9 ze8 (fun a=>qbu a.1 a.2.1)
def zab2 {R:Type}:Nat→Sm R:=cl 290 z96 c0
abbrev zxj:=mkld [] [] [2,6] [2] [] (Zp 2 2 (Zs 6 Zi (Zx 2 zat Zz))) znf (.xs 0 [] [] [] Zz (.r [4,5] [] [] (Zs 4 Zi (Zs 5 Zi Zz))))
def zr5 {R:Type}:Lp Kd El R:=lp 2 zxj.sem l0
abbrev zau6 {R:Type}:Sm R:=semP z1l ze8 (fun a=>qfz a.1 a.2.1 a.2.2.1 a.2.2.2.1)
abbrev z90 {R:Type}:Sm R:=semP zaf0 ze8 (fun a=>qff a.1 a.2.1 a.2.2.1 a.2.2.2.1 a.2.2.2.2.1)
abbrev zaux {R:Type}:Sm R:=semP zpn zk2 (fun a=>qfq a.1)
abbrev z9z {R:Type}:Sm R:=semP zit zk2 (fun a=>qfe a.1 a.2.1 a.2.2.1)
abbrev zas5 {R:Type}:Sm R:=semP ziu zh1 (fun a=>qbw a.1 a.2.1)
def zab3 {R:Type}:Nat→Sm R:=cl 74 zlb (cl 84 zno (cl 106 zva (cl 122 zpi (cl 123 z9n (cl 124 zu9 (cl 125 z90 (cl 126 z94 (cl 127 z9z c0))))))))
abbrev zq1:=mkld [] [] [1,2,4,7,9,10] [2,4,7,9] [] (Zs 1 Zi (Zp 2 2 (Zp 4 4 (Zp 7 7 (Zp 9 9 (Zs 10 Zi (Zx 2 zah (Zx 4 zah (Zx 7 zbg (Zx 9 zaz Zz)))))))))) zfp (.xs 0 [1,2,4,7,9] [2,4,7,9] [] (Zs 1 Zi (Zp 2 2 (Zp 4 4 (Zp 7 7 (Zp 9 9 (Zx 2 zah (Zx 4 zah (Zx 7 zbg (Zx 9 zaz Zz))))))))) (.r [5,6] [4] [4] (Zp 4 4 (Zs 5 Zi (Zs 6 Zi (Zx 4 zah Zz))))))
def zr6 {R:Type}:Lp Kd El R:=lp 10 zq1.sem l0
abbrev z8j {R:Type}:Sm R:=semP zvo zyj (fun a=>qbn a.1 a.2.1)
def zabx {R:Type}:Nat→Sm R:=c0
abbrev zxe:=mkld [] [] [0,1,4,6] [4] [] (Zs 0 (Zl .kHold) (Zs 1 Zi (Zp 4 4 (Zs 6 Zi (Zx 4 za3 Zz))))) zne (.xs 0 [4] [4] [] (Zp 4 4 (Zx 4 za3 Zz)) (.r [5] [4] [4] (Zp 4 4 (Zs 5 Zb (Zx 4 za3 Zz)))))
def zr0 {R:Type}:Lp Kd El R:=lp 2 zxe.sem l0
abbrev z8i {R:Type}:Sm R:=semP z1j ze8 (fun a=>qbl a.1 a.2.1 a.2.2.1)
def zabw {R:Type}:Nat→Sm R:=cl 220 z7s c0
abbrev zxd:=mkld [] [] [2,3,8,9] [3] [] (Zs 2 Zi (Zp 3 3 (Zs 8 Zi (Zs 9 Zi (Zx 3 zat Zz))))) zko (.xs 0 [8] [] [] (Zs 8 Zi Zz) (.r [6,7] [] [] (Zs 6 Zi (Zs 7 Zi Zz))))
def zrz {R:Type}:Lp Kd El R:=lp 9 zxd.sem l0
abbrev z9x {R:Type}:Sm R:=semP zit zk2 (fun a=>qfc a.1 a.2.1 a.2.2.1)
abbrev zas2 {R:Type}:Sm R:=semP ziu zh1 (fun a=>qbt a.1 a.2.1)
def zab1 {R:Type}:Nat→Sm R:=cl 84 zno (cl 106 zva (cl 122 zpi (cl 124 zu9 (cl 126 z94 (cl 132 z8j (cl 133 z8i (cl 134 z9x c0)))))))
abbrev zxi:=mkld [] [] [2,4,7,9,10] [2,4,7,9] [] (Zp 2 2 (Zp 4 4 (Zp 7 7 (Zp 9 9 (Zs 10 Zi (Zx 2 zah (Zx 4 zah (Zx 7 za3 (Zx 9 zbg Zz))))))))) zkp (.x 0 [2,4,9] [2,4,9] [] (Zp 2 2 (Zp 4 4 (Zp 9 9 (Zx 2 zah (Zx 4 zah (Zx 9 zbg Zz)))))))
def zr4 {R:Type}:Lp Kd El R:=lp 8 zxi.sem l0
abbrev zawm:ZC (Circ×Circ×Unit):=Zc (Cod.agg zah) (Zc (Cod.agg zah) Zn)
abbrev zaki {R:Type}:Sm R:=semP zawm zax (fun a=>qw a.1 a.2.1)
def zalh {R:Type}:Nat→Sm R:=c0
abbrev z5s:=mkld [] [] [2,3,5,6] [2,3] [] (Zp 2 2 (Zp 3 3 (Zs 5 Zi (Zs 6 Zi (Zx 2 zah (Zx 3 zah Zz)))))) zd4 (.xs 2 [2,3,5] [2,3] [] (Zp 2 2 (Zp 3 3 (Zs 5 Zi (Zx 2 zah (Zx 3 zah Zz))))) (.r [4] [] [] (Zs 4 Zb Zz)))
abbrev z5r:=mkld [] [] [2,3,5] [2,3] [] (Zp 2 2 (Zp 3 3 (Zs 5 Zi (Zx 2 zah (Zx 3 zah Zz))))) zif (.xs 0 [] [] [] Zz (.r [4] [] [] (Zs 4 Zb Zz)))
def zo7 {R:Type}:Lp Kd El R:=lp 2 z5r.sem (lp 7 z5s.sem l0)
abbrev za0h {R:Type}:Sm R:=semP zawm zax (fun a=>qc a.1 a.2.1)
def zak0 {R:Type}:Nat→Sm R:=cl 61 zaki c0
abbrev z43:=mkld [] [] [2,3,5] [2,3] [] (Zp 2 2 (Zp 3 3 (Zs 5 Zi (Zx 2 zah (Zx 3 zah Zz))))) zuk (.xs 0 [2,3] [2,3] [] (Zp 2 2 (Zp 3 3 (Zx 2 zah (Zx 3 zah Zz)))) (.r [4] [] [] (Zs 4 Zb Zz)))
abbrev zxn:=mkld [] [] [2,3,6] [2,3] [] (Zp 2 2 (Zp 3 3 (Zs 6 Zi (Zx 2 zah (Zx 3 zah Zz))))) zkr (.xs 2 [2,3] [2,3] [] (Zp 2 2 (Zp 3 3 (Zx 2 zah (Zx 3 zah Zz)))) (.r [4] [] [] (Zs 4 Zb Zz)))
abbrev zxo:=mkld [] [] [2,3,7] [2,3] [] (Zp 2 2 (Zp 3 3 (Zs 7 Zi (Zx 2 zah (Zx 3 zah Zz))))) zks (.xs 4 [2,3] [2,3] [] (Zp 2 2 (Zp 3 3 (Zx 2 zah (Zx 3 zah Zz)))) (.r [4] [] [] (Zs 4 Zb Zz)))
abbrev zxp:=mkld [] [] [2,3,8] [2,3] [] (Zp 2 2 (Zp 3 3 (Zs 8 Zi (Zx 2 zah (Zx 3 zah Zz))))) zkt (.xs 6 [2,3] [2,3] [] (Zp 2 2 (Zp 3 3 (Zx 2 zah (Zx 3 zah Zz)))) (.r [4] [] [] (Zs 4 Zb Zz)))
abbrev zxq:=mkld [] [] [2,3,9] [2,3] [] (Zp 2 2 (Zp 3 3 (Zs 9 Zi (Zx 2 zah (Zx 3 zah Zz))))) zku (.xs 8 [2,3] [2,3] [] (Zp 2 2 (Zp 3 3 (Zx 2 zah (Zx 3 zah Zz)))) (.r [4] [] [] (Zs 4 Zb Zz)))
abbrev zxr:=mkld [] [] [2,3,10] [2,3] [] (Zp 2 2 (Zp 3 3 (Zs 10 Zi (Zx 2 zah (Zx 3 zah Zz))))) zkv (.xs 10 [2,3] [2,3] [] (Zp 2 2 (Zp 3 3 (Zx 2 zah (Zx 3 zah Zz)))) (.r [4] [] [] (Zs 4 Zb Zz)))
abbrev zxs:=mkld [] [] [2,3,11] [2,3] [] (Zp 2 2 (Zp 3 3 (Zs 11 Zi (Zx 2 zah (Zx 3 zah Zz))))) zkw (.xs 12 [2,3] [2,3] [] (Zp 2 2 (Zp 3 3 (Zx 2 zah (Zx 3 zah Zz)))) (.r [4] [] [] (Zs 4 Zb Zz)))
def zd9 {R:Type}:Lp Kd El R:=lp 36 zxs.sem (lp 31 zxr.sem (lp 26 zxq.sem (lp 21 zxp.sem (lp 16 zxo.sem (lp 11 zxn.sem (lp 6 z43.sem l0))))))
abbrev zafx:ZC (Circ×Int×Int×Unit):=z1t
abbrev zaz9:ZD (Bool):=zax
def zaio (a:Circ×Int×Int×Unit):Option (Bool):=qdm a.1 a.2.1 a.2.2.1
abbrev zatt {R:Type}:Sm R:=semP zafx zaz9 zaio
end Go.Proofs.YtdahfgialanmpaaGreatDoor
namespace Go.Proofs.YtdahfgialanmpaaGreatDoor
set_option maxRecDepth 100000
open Ev
open Go (IntKind)
open Go
theorem zaw0:∀k,CCOk (ccK k)
 |.kItem=>zp5
 |.kPatron=>zi6
 |.kLoan=>zp6
 |.kHold=>zp4
 |.kCharge=>zi5
 |.kRule=>zp8
 |.ki64=>CCOk.one (zak.int _)
 |.kMove=>zp7
 |.kbool=>CCOk.one zak.bool
 |.ku16=>CCOk.one (zak.int _)
 |.ku8=>CCOk.one (zak.int _)
 |.kUtf8_acceptRange=>zdf
theorem sgok:SgOk sg:=zau7 (cc:=ccK) (fun _=>rfl) (fun _=>rfl) zaw0 (by intro k x;cases k<;>rfl) (by intro k x;cases k<;>rfl) (by intro k;cases k<;>decide)
theorem eok:∀t,zaxo t=true→EqOk Tryz.prog t:=zd8 (by kernel_rfl) (zd8 (by kernel_rfl) (zd8 (by kernel_rfl) (zd8 (by kernel_rfl) (zd8 (by kernel_rfl) (zd8 (by kernel_rfl) (zd8 (by kernel_rfl) (zd8 (by kernel_rfl) (zapr))))))))
theorem good:GoodP Tryz.prog sg:=⟨prOk (by kernel_rfl) (by kernel_rfl),sgok,eok⟩
end Go.Proofs.YtdahfgialanmpaaGreatDoor
