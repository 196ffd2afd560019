/- CircAdds: a part of the proof of the given statement, which is proved without conditions. -/
import Derived.Test.YtdahfgialanmpaaGreatDoorA3
set_option linter.all false
namespace Go.Proofs.YtdahfgialanmpaaGreatDoor
set_option maxRecDepth 100000
open Ev
open Go (IntKind)
def qk_L4:(Int×Circ×Unit)→Option ((Int×Circ×Unit)⊕((Circ×Unit)⊕(Bool×Unit))):=fun (i,c,_)=>
 bif decide (i<(c.Items.length:Int)) then
  match getI c.Items i with
  |some x=>
   bif decide (300<(x.Call.length:Int)) then
    some (.inr (.inr (false,())))
   else
    some (.inl (wr .i64 (i+1),c,()))
  |none=>none
 else
  some (.inr (.inl (c,())))
def qk_L9:(Int×Circ×Unit)→Option ((Int×Circ×Unit)⊕((Circ×Unit)⊕(Bool×Unit))):=fun (i,c,_)=>
 bif decide (i<(c.Patrons.length:Int)) then
  match getI c.Patrons i with
  |some x=>
   bif decide (300<(x.Name.length:Int)) then
    some (.inr (.inr (false,())))
   else
    some (.inl (wr .i64 (i+1),c,()))
  |none=>none
 else
  some (.inr (.inl (c,())))
def qk_L14:(Int×Circ×Unit)→Option ((Int×Circ×Unit)⊕((Unit)⊕(Bool×Unit))):=fun (i,c,_)=>
 bif decide (i<4) then
  bif i==0 then
   bif decide (20<(c.Cals.x0.Closed.length:Int)) then
    some (.inr (.inr (false,())))
   else
    some (.inl (wr .i64 (i+1),c,()))
  else bif i==1 then
   bif decide (20<(c.Cals.x1.Closed.length:Int)) then
    some (.inr (.inr (false,())))
   else
    some (.inl (wr .i64 (i+1),c,()))
  else bif i==2 then
   bif decide (20<(c.Cals.x2.Closed.length:Int)) then
    some (.inr (.inr (false,())))
   else
    some (.inl (wr .i64 (i+1),c,()))
  else bif i==3 then
   bif decide (20<(c.Cals.x3.Closed.length:Int)) then
    some (.inr (.inr (false,())))
   else
    some (.inl (wr .i64 (i+1),c,()))
  else none
 else
  some (.inr (.inl (())))
def qk (c:Circ):Option Bool:=
 let k15:Bool→Option Bool:=fun v=>
  let k14:Bool→Option Bool:=fun v1=>
   let k13:Bool→Option Bool:=fun v2=>
    let k12:Bool→Option Bool:=fun v3=>
     let k11:Bool→Option Bool:=fun v4=>
      let k:Bool→Option Bool:=fun v5=>
       bif v5 then
        some false
       else
        match whileO qk_L4 (0,c,()) with
        |some (.inl (c6,_))=>
         match whileO qk_L9 (0,c6,()) with
         |some (.inl (c7,_))=>
          match whileO qk_L14 (0,c7,()) with
          |some (.inl (_))=>
           some true
          |some (.inr (v8,_))=>
           some v8
          |none=>none
         |some (.inr (v9,_))=>
          some v9
         |none=>none
        |some (.inr (v10,_))=>
         some v10
        |none=>none
      bif v4 then
       k true
      else
       k (decide (200<(c.Moves.length:Int)))
     bif v3 then
      k11 true
     else
      k11 (decide (10<(c.Rules.length:Int)))
    bif v2 then
     k12 true
    else
     k12 (decide (30<(c.Charges.length:Int)))
   bif v1 then
    k13 true
   else
    k13 (decide (12<(c.Loans.length:Int)))
  bif v then
   k14 true
  else
   k14 (decide (12<(c.Holds.length:Int)))
 bif decide (10<(c.Items.length:Int)) then
  k15 true
 else
  k15 (decide (8<(c.Patrons.length:Int)))
def qcm (s:List UInt8) (i:Int):Option (Int×Int):=
 match getI s i with
 |some b=>
  let k35:Bool→Option (Int×Int):=fun v=>
   bif v then
    some (wr .i64 (b.toNat:Int),1)
   else
    let k34:Bool→Option (Int×Int):=fun v1=>
     let k33:Bool→Option (Int×Int):=fun v2=>
      let k32:Bool→Option (Int×Int):=fun v4=>
       let k31:Bool→Option (Int×Int):=fun v6=>
        let k:Int→Int→Option (Int×Int):=fun v8 v9=>
         some (v8,v9)
        bif v6 then
         match getI s (wr .i64 (i+1)) with
         |some b7=>
          bif decide (160≤wr .i64 ((wr .i64 ((wr .i64 ((wr .i64 ((wr .i64 (b.toNat:Int))-192))*64))+(wr .i64 (b7.toNat:Int))))-128)) then
           k (wr .i64 ((wr .i64 ((wr .i64 ((wr .i64 ((wr .i64 (b.toNat:Int))-192))*64))+(wr .i64 (b7.toNat:Int))))-128)) 2
          else
           k 0 0
         |none=>none
        else
         let k30:Bool→Option (Int×Int):=fun v10=>
          let k29:Bool→Option (Int×Int):=fun v11=>
           let k28:Bool→Option (Int×Int):=fun v13=>
            let k27:Bool→Option (Int×Int):=fun v15=>
             let k26:Bool→Option (Int×Int):=fun v17=>
              let k25:Bool→Option (Int×Int):=fun v19=>
               bif v19 then
                match getI s (wr .i64 (i+1)) with
                |some b20=>
                 match getI s (wr .i64 (i+2)) with
                 |some b21=>
                  let k24:Bool→Option (Int×Int):=fun v23=>
                   bif v23 then
                    some (wr .i64 ((wr .i64 ((wr .i64 ((wr .i64 ((wr .i64 ((wr .i64 (b.toNat:Int))-224))*4096))+(wr .i64 ((wr .i64 ((wr .i64 (b20.toNat:Int))-128))*64))))+(wr .i64 (b21.toNat:Int))))-128),3)
                   else
                    some (0,0)
                  bif decide (2048≤wr .i64 ((wr .i64 ((wr .i64 ((wr .i64 ((wr .i64 ((wr .i64 (b.toNat:Int))-224))*4096))+(wr .i64 ((wr .i64 ((wr .i64 (b20.toNat:Int))-128))*64))))+(wr .i64 (b21.toNat:Int))))-128)) then
                   bif decide (wr .i64 ((wr .i64 ((wr .i64 ((wr .i64 ((wr .i64 ((wr .i64 (b.toNat:Int))-224))*4096))+(wr .i64 ((wr .i64 ((wr .i64 (b20.toNat:Int))-128))*64))))+(wr .i64 (b21.toNat:Int))))-128)<55296) then
                    k24 true
                   else
                    k24 (decide (57343<wr .i64 ((wr .i64 ((wr .i64 ((wr .i64 ((wr .i64 ((wr .i64 (b.toNat:Int))-224))*4096))+(wr .i64 ((wr .i64 ((wr .i64 (b20.toNat:Int))-128))*64))))+(wr .i64 (b21.toNat:Int))))-128)))
                  else
                   k24 false
                 |none=>none
                |none=>none
               else
                some (0,0)
              bif v17 then
               match getI s (wr .i64 (i+2)) with
               |some b18=>
                k25 (decide ((b18.toNat:Int)<192))
               |none=>none
              else
               k25 false
             bif v15 then
              match getI s (wr .i64 (i+2)) with
              |some b16=>
               k26 (decide (128≤(b16.toNat:Int)))
              |none=>none
             else
              k26 false
            bif v13 then
             match getI s (wr .i64 (i+1)) with
             |some b14=>
              k27 (decide ((b14.toNat:Int)<192))
             |none=>none
            else
             k27 false
           bif v11 then
            match getI s (wr .i64 (i+1)) with
            |some b12=>
             k28 (decide (128≤(b12.toNat:Int)))
            |none=>none
           else
            k28 false
          bif v10 then
           k29 (decide (wr .i64 (i+2)<(s.length:Int)))
          else
           k29 false
         bif decide (224≤wr .i64 (b.toNat:Int)) then
          k30 (decide (wr .i64 (b.toNat:Int)<240))
         else
          k30 false
       bif v4 then
        match getI s (wr .i64 (i+1)) with
        |some b5=>
         k31 (decide ((b5.toNat:Int)<192))
        |none=>none
       else
        k31 false
      bif v2 then
       match getI s (wr .i64 (i+1)) with
       |some b3=>
        k32 (decide (128≤(b3.toNat:Int)))
       |none=>none
      else
       k32 false
     bif v1 then
      k33 (decide (wr .i64 (i+1)<(s.length:Int)))
     else
      k33 false
    bif decide (194≤wr .i64 (b.toNat:Int)) then
     k34 (decide (wr .i64 (b.toNat:Int)<224))
    else
     k34 false
  bif decide (32≤wr .i64 (b.toNat:Int)) then
   k35 (decide (wr .i64 (b.toNat:Int)<127))
  else
   k35 false
 |none=>none
def qau_L2:((List UInt8)×Int×Unit)→Option (((List UInt8)×Int×Unit)⊕((Unit)⊕(Bool×Unit))):=fun (s,i,_)=>
 bif decide (i<(s.length:Int)) then
  match qcm s i with
  |some (r1,r2)=>
   bif r2==0 then
    some (.inr (.inr (false,())))
   else
    some (.inl (s,wr .i64 (i+r2),()))
  |none=>none
 else
  some (.inr (.inl (())))
def qau (s:List UInt8):Option Bool:=
 match whileO qau_L2 (s,0,()) with
 |some (.inl (_))=>
  some true
 |some (.inr (v,_))=>
  some v
 |none=>none
def qe0 (s:List UInt8) (i:Int):Option Int:=
 match qcm s i with
 |some (r1,r2)=>
  some (if r2<1 then 1 else r2)
 |none=>none
def qet (c:Int):Option Bool:=
 let k:Bool→Option Bool:=fun v=>
  some v
 bif c==32 then
  k true
 else
  k (c==160)
def qbp_L4:((List UInt8)×(List UInt8)×Bool×Int×Unit)→Option (((List UInt8)×(List UInt8)×Bool×Int×Unit)⊕(((List UInt8)×Unit))):=fun (s,vout,gap,i,_)=>
 bif decide (i<(s.length:Int)) then
  match qcm s i with
  |some (r1,r2)=>
   match qe0 s i with
   |some r4=>
    match qet r1 with
    |some r6=>
     let k11:(List UInt8)→Bool→Option (((List UInt8)×(List UInt8)×Bool×Int×Unit)⊕(((List UInt8)×Unit))):=fun vout9 gap10=>
      some (.inl (s,vout9,gap10,wr .i64 (i+r4),()))
     bif r6 then
      k11 vout true
     else
      let k8:Bool→Option (((List UInt8)×(List UInt8)×Bool×Int×Unit)⊕(((List UInt8)×Unit))):=fun v=>
       let k:(List UInt8)→Option (((List UInt8)×(List UInt8)×Bool×Int×Unit)⊕(((List UInt8)×Unit))):=fun vout7=>
        bif decide (0≤(i:Int))&&(decide ((i:Int)≤wr .i64 (i+r4))&&decide (wr .i64 (i+r4)≤(s.length:Int))) then
        bif decide (vout7.length+((s.take (wr .i64 (i+r4)).toNat).drop (i:Int).toNat).length≤LIM) then
        k11 (vout7++((s.take (wr .i64 (i+r4)).toNat).drop (i:Int).toNat)) false
        else none
        else none
       bif v then
        bif decide (vout.length+([32]).length≤LIM) then
        k (vout++([32]))
        else none
       else
        k vout
      bif gap then
       k8 (!(vout==([])))
      else
       k8 false
    |none=>none
   |none=>none
  |none=>none
 else
  some (.inr ((vout,())))
def qbp (s:List UInt8):Option (List UInt8):=
 match whileO qbp_L4 (s,[],false,0,()) with
 |some ((vout,_))=>
  some vout
 |none=>none
def qao_L4:((List Patron)×Int×Unit)→Option (((List Patron)×Int×Unit)⊕((Unit)⊕(Int×Unit))):=fun (l,i,_)=>
 bif decide (i<(l.length:Int)) then
  match getI l i with
  |some x=>
   let k18:Bool→Option (((List Patron)×Int×Unit)⊕((Unit)⊕(Int×Unit))):=fun v=>
    bif v then
     some (.inr (.inr (2,())))
    else
     let k17:Bool→Option (((List Patron)×Int×Unit)⊕((Unit)⊕(Int×Unit))):=fun v2=>
      bif v2 then
       some (.inr (.inr (7,())))
      else
       let k16:Bool→Option (((List Patron)×Int×Unit)⊕((Unit)⊕(Int×Unit))):=fun v3=>
        let k15:Bool→Option (((List Patron)×Int×Unit)⊕((Unit)⊕(Int×Unit))):=fun v4=>
         let k14:Bool→Option (((List Patron)×Int×Unit)⊕((Unit)⊕(Int×Unit))):=fun v5=>
          bif v5 then
           some (.inr (.inr (1,())))
          else
           let k13:Bool→Option (((List Patron)×Int×Unit)⊕((Unit)⊕(Int×Unit))):=fun v6=>
            bif v6 then
             some (.inr (.inr (2,())))
            else
             let k12:Bool→Option (((List Patron)×Int×Unit)⊕((Unit)⊕(Int×Unit))):=fun v8=>
              let k:Bool→Option (((List Patron)×Int×Unit)⊕((Unit)⊕(Int×Unit))):=fun v11=>
               bif v11 then
                some (.inr (.inr (3,())))
               else
                bif decide (200<(x.Name.length:Int)) then
                 some (.inr (.inr (4,())))
                else
                 some (.inl (l,wr .i64 (i+1),()))
              bif v8 then
               k true
              else
               match qbp x.Name with
               |some r10=>
                k (!(r10==x.Name))
               |none=>none
             bif x.Name==([]) then
              k12 true
             else
              match qau x.Name with
              |some r7=>
               k12 (!r7)
              |none=>none
           bif decide (x.Until<0) then
            k13 true
           else
            k13 (decide (109572<x.Until))
         bif v4 then
          k14 true
         else
          k14 (decide (4<x.Branch))
        bif v3 then
         k15 true
        else
         k15 (decide (x.Branch<1))
       bif decide (x.Kind<1) then
        k16 true
       else
        k16 (decide (9<x.Kind))
     bif decide (0<i) then
      match getI l (wr .i64 (i-1)) with
      |some x1=>
       k17 (decide (x.ID≤x1.ID))
      |none=>none
     else
      k17 false
   bif decide (x.ID<1) then
    k18 true
   else
    k18 (decide (9999<x.ID))
  |none=>none
 else
  some (.inr (.inl (())))
def qao (l:List Patron):Option Int:=
 bif decide (32<(l.length:Int)) then
  some 13
 else
  match whileO qao_L4 (l,0,()) with
  |some (.inl (_))=>
   some 0
  |some (.inr (v,_))=>
   some v
  |none=>none
def qbb_L4:((List Loan)×Int×Unit)→Option (((List Loan)×Int×Unit)⊕((Unit)⊕(Int×Unit))):=fun (l,i,_)=>
 bif decide (i<(l.length:Int)) then
  match getI l i with
  |some x=>
   let k21:Bool→Option (((List Loan)×Int×Unit)⊕((Unit)⊕(Int×Unit))):=fun v=>
    bif v then
     some (.inr (.inr (7,())))
    else
     let k20:Bool→Option (((List Loan)×Int×Unit)⊕((Unit)⊕(Int×Unit))):=fun v2=>
      let k19:Bool→Option (((List Loan)×Int×Unit)⊕((Unit)⊕(Int×Unit))):=fun v3=>
       let k18:Bool→Option (((List Loan)×Int×Unit)⊕((Unit)⊕(Int×Unit))):=fun v4=>
        let k17:Bool→Option (((List Loan)×Int×Unit)⊕((Unit)⊕(Int×Unit))):=fun v5=>
         let k16:Bool→Option (((List Loan)×Int×Unit)⊕((Unit)⊕(Int×Unit))):=fun v6=>
          let k15:Bool→Option (((List Loan)×Int×Unit)⊕((Unit)⊕(Int×Unit))):=fun v7=>
           let k14:Bool→Option (((List Loan)×Int×Unit)⊕((Unit)⊕(Int×Unit))):=fun v8=>
            let k13:Bool→Option (((List Loan)×Int×Unit)⊕((Unit)⊕(Int×Unit))):=fun v9=>
             let k12:Bool→Option (((List Loan)×Int×Unit)⊕((Unit)⊕(Int×Unit))):=fun v10=>
              let k:Bool→Option (((List Loan)×Int×Unit)⊕((Unit)⊕(Int×Unit))):=fun v11=>
               bif v11 then
                some (.inr (.inr (2,())))
               else
                some (.inl (l,wr .i64 (i+1),()))
              bif v10 then
               k true
              else
               k (decide (10<x.Renewals))
             bif v9 then
              k12 true
             else
              k12 (decide (x.Renewals<0))
            bif v8 then
             k13 true
            else
             k13 (decide (x.Due<x.Out))
           bif v7 then
            k14 true
           else
            k14 (decide (109572<x.Due))
          bif v6 then
           k15 true
          else
           k15 (decide (x.Due<0))
         bif v5 then
          k16 true
         else
          k16 (decide (109572<x.Out))
        bif v4 then
         k17 true
        else
         k17 (decide (x.Out<0))
       bif v3 then
        k18 true
       else
        k18 (decide (9999<x.Patron))
      bif v2 then
       k19 true
      else
       k19 (decide (x.Patron<1))
     bif decide (x.Item<1) then
      k20 true
     else
      k20 (decide (9999<x.Item))
   bif decide (0<i) then
    match getI l (wr .i64 (i-1)) with
    |some x1=>
     k21 (decide (x.Item≤x1.Item))
    |none=>none
   else
    k21 false
  |none=>none
 else
  some (.inr (.inl (())))
def qbb (l:List Loan):Option Int:=
 bif decide (64<(l.length:Int)) then
  some 13
 else
  match whileO qbb_L4 (l,0,()) with
  |some (.inl (_))=>
   some 0
  |some (.inr (v,_))=>
   some v
  |none=>none
def qdl (n:Int):Option Bool:=
 let k:Bool→Option Bool:=fun v=>
  some v
 bif decide (1≤n) then
  k (decide (n≤9999))
 else
  k false
def qdo (n:Int):Option Bool:=
 let k:Bool→Option Bool:=fun v=>
  some v
 bif decide (0≤n) then
  k (decide (n≤109572))
 else
  k false
def qep (h:Hold):Option Int:=
 let k41:Bool→Option Int:=fun v=>
  let k40:Bool→Option Int:=fun v2=>
   let k39:Bool→Option Int:=fun v5=>
    let k38:Bool→Option Int:=fun v9=>
     let k37:Bool→Option Int:=fun v10=>
      let k36:Bool→Option Int:=fun v11=>
       let k35:Bool→Option Int:=fun v14=>
        let k34:Bool→Option Int:=fun v18=>
         let k33:Bool→Option Int:=fun v21=>
          let k32:Bool→Option Int:=fun v24=>
           let k31:Bool→Option Int:=fun v25=>
            let k30:Bool→Option Int:=fun v26=>
             bif v26 then
              some 2
             else
              let k29:Bool→Option Int:=fun v27=>
               bif v27 then
                some 1
               else
                let k:Bool→Option Int:=fun v28=>
                 bif v28 then
                  some 12
                 else
                  some 0
                bif !((decide (0<h.Got))==(!(h.State==1))) then
                 k true
                else
                 k (!((decide (0<h.Until))==(h.State==3)))
              bif decide (h.State<1) then
               k29 true
              else
               k29 (decide (3<h.State))
            bif v25 then
             k30 true
            else
             k30 (decide (9<h.Rank))
           bif v24 then
            k31 true
           else
            k31 (decide (h.Rank<0))
          bif v21 then
           k32 true
          else
           match qdo h.Asleep with
           |some r23=>
            k32 (!r23)
           |none=>none
         bif v18 then
          k33 true
         else
          match qdo h.Until with
          |some r20=>
           k33 (!r20)
          |none=>none
        bif v14 then
         k34 true
        else
         bif !(h.Got==0) then
          match qdl h.Got with
          |some r16=>
           k34 (!r16)
          |none=>none
         else
          k34 false
       bif v11 then
        k35 true
       else
        match qdo h.Placed with
        |some r13=>
         k35 (!r13)
        |none=>none
      bif v10 then
       k36 true
      else
       k36 (decide (4<h.Pickup))
     bif v9 then
      k37 true
     else
      k37 (decide (h.Pickup<1))
    bif v5 then
     k38 true
    else
     bif !(h.Item==0) then
      match qdl h.Item with
      |some r7=>
       k38 (!r7)
      |none=>none
     else
      k38 false
   bif v2 then
    k39 true
   else
    match qdl h.Record with
    |some r4=>
     k39 (!r4)
    |none=>none
  bif v then
   k40 true
  else
   match qdl h.Patron with
   |some r1=>
    k40 (!r1)
   |none=>none
 bif decide (h.ID<1) then
  k41 true
 else
  k41 (decide (99999<h.ID))
def qg_L4:((List Hold)×Int×Unit)→Option (((List Hold)×Int×Unit)⊕(((List Hold)×Unit)⊕(Int×Unit))):=fun (l,i,_)=>
 bif decide (i<(l.length:Int)) then
  let k:Bool→Option (((List Hold)×Int×Unit)⊕(((List Hold)×Unit)⊕(Int×Unit))):=fun v=>
   bif v then
    some (.inr (.inr (7,())))
   else
    match getI l i with
    |some x2=>
     match qep x2 with
     |some r3=>
      bif !(r3==0) then
       some (.inr (.inr (r3,())))
      else
       some (.inl (l,wr .i64 (i+1),()))
     |none=>none
    |none=>none
  bif decide (0<i) then
   match getI l i with
   |some x=>
    match getI l (wr .i64 (i-1)) with
    |some x1=>
     k (decide (x.ID≤x1.ID))
    |none=>none
   |none=>none
  else
   k false
 else
  some (.inr (.inl (l,())))
def qg_L15:((List Hold)×Int×Int×Unit)→Option (((List Hold)×Int×Int×Unit)⊕(((List Hold)×Int×Unit)⊕(Int×Unit))):=fun (l,i,k,_)=>
 bif decide (k<i) then
  match getI l i with
  |some x=>
   match getI l k with
   |some x5=>
    let k14:Bool→Option (((List Hold)×Int×Int×Unit)⊕(((List Hold)×Int×Unit)⊕(Int×Unit))):=fun v=>
     let k13:Bool→Option (((List Hold)×Int×Int×Unit)⊕(((List Hold)×Int×Unit)⊕(Int×Unit))):=fun v12=>
      bif v12 then
       some (.inr (.inr (7,())))
      else
       some (.inl (l,i,wr .i64 (k+1),()))
     bif v then
      k13 true
     else
      match getI l i with
      |some x8=>
       bif decide (0<x8.Got) then
        match getI l i with
        |some x9=>
         match getI l k with
         |some x10=>
          k13 (x9.Got==x10.Got)
         |none=>none
        |none=>none
       else
        k13 false
      |none=>none
    bif x.Patron==x5.Patron then
     match getI l i with
     |some x6=>
      match getI l k with
      |some x7=>
       k14 (x6.Record==x7.Record)
      |none=>none
     |none=>none
    else
     k14 false
   |none=>none
  |none=>none
 else
  some (.inr (.inl (l,i,())))
def qg_L12:((List Hold)×Int×Unit)→Option (((List Hold)×Int×Unit)⊕((Unit)⊕(Int×Unit))):=fun (l,i,_)=>
 bif decide (i<(l.length:Int)) then
  match whileO qg_L15 (l,i,0,()) with
  |some (.inl (l15,i16,_))=>
   some (.inl (l15,wr .i64 (i16+1),()))
  |some (.inr (v,_))=>
   some (.inr (.inr (v,())))
  |none=>none
 else
  some (.inr (.inl (())))
def qg (l:List Hold):Option Int:=
 bif decide (64<(l.length:Int)) then
  some 13
 else
  match whileO qg_L4 (l,0,()) with
  |some (.inl (l4,_))=>
   match whileO qg_L12 (l4,0,()) with
   |some (.inl (_))=>
    some 0
   |some (.inr (v,_))=>
    some v
   |none=>none
  |some (.inr (v17,_))=>
   some v17
  |none=>none
def qe4 (n:Int):Option Bool:=
 let k:Bool→Option Bool:=fun v=>
  some v
 bif decide (0≤n) then
  k (decide (n≤109572))
 else
  k false
def qbc_L4:((List Charge)×Int×Unit)→Option (((List Charge)×Int×Unit)⊕((Unit)⊕(Int×Unit))):=fun (l,i,_)=>
 bif decide (i<(l.length:Int)) then
  match getI l i with
  |some x=>
   let k22:Bool→Option (((List Charge)×Int×Unit)⊕((Unit)⊕(Int×Unit))):=fun v=>
    bif v then
     some (.inr (.inr (7,())))
    else
     let k21:Bool→Option (((List Charge)×Int×Unit)⊕((Unit)⊕(Int×Unit))):=fun v2=>
      let k20:Bool→Option (((List Charge)×Int×Unit)⊕((Unit)⊕(Int×Unit))):=fun v3=>
       let k19:Bool→Option (((List Charge)×Int×Unit)⊕((Unit)⊕(Int×Unit))):=fun v4=>
        let k18:Bool→Option (((List Charge)×Int×Unit)⊕((Unit)⊕(Int×Unit))):=fun v5=>
         let k17:Bool→Option (((List Charge)×Int×Unit)⊕((Unit)⊕(Int×Unit))):=fun v6=>
          let k16:Bool→Option (((List Charge)×Int×Unit)⊕((Unit)⊕(Int×Unit))):=fun v8=>
           bif v8 then
            some (.inr (.inr (2,())))
           else
            let k15:Bool→Option (((List Charge)×Int×Unit)⊕((Unit)⊕(Int×Unit))):=fun v9=>
             bif v9 then
              some (.inr (.inr (1,())))
             else
              let k14:Bool→Option (((List Charge)×Int×Unit)⊕((Unit)⊕(Int×Unit))):=fun v10=>
               let k13:Bool→Option (((List Charge)×Int×Unit)⊕((Unit)⊕(Int×Unit))):=fun v11=>
                let k:Bool→Option (((List Charge)×Int×Unit)⊕((Unit)⊕(Int×Unit))):=fun v12=>
                 bif v12 then
                  some (.inr (.inr (2,())))
                 else
                  some (.inl (l,wr .i64 (i+1),()))
                bif v11 then
                 k true
                else
                 k (decide (x.Amount≤x.Paid))
               bif v10 then
                k13 true
               else
                k13 (decide (x.Paid<0))
              bif decide (x.Amount<1) then
               k14 true
              else
               k14 (decide (100000000<x.Amount))
            bif decide (x.Kind<1) then
             k15 true
            else
             k15 (decide (3<x.Kind))
          bif v6 then
           k16 true
          else
           match qe4 x.Day with
           |some r7=>
            k16 (!r7)
           |none=>none
         bif v5 then
          k17 true
         else
          k17 (decide (9999<x.Item))
        bif v4 then
         k18 true
        else
         k18 (decide (x.Item<1))
       bif v3 then
        k19 true
       else
        k19 (decide (9999<x.Patron))
      bif v2 then
       k20 true
      else
       k20 (decide (x.Patron<1))
     bif decide (x.ID<1) then
      k21 true
     else
      k21 (decide (99999<x.ID))
   bif decide (0<i) then
    match getI l (wr .i64 (i-1)) with
    |some x1=>
     k22 (decide (x.ID≤x1.ID))
    |none=>none
   else
    k22 false
  |none=>none
 else
  some (.inr (.inl (())))
def qbc (l:List Charge):Option Int:=
 bif decide (128<(l.length:Int)) then
  some 13
 else
  match whileO qbc_L4 (l,0,()) with
  |some (.inl (_))=>
   some 0
  |some (.inr (v,_))=>
   some v
  |none=>none
def qb3 (n:Int) (low:Int) (high:Int):Option Bool:=
 let k:Bool→Option Bool:=fun v=>
  some v
 bif decide (low≤n) then
  k (decide (n≤high))
 else
  k false
def qd4 (r:Rule):Option Bool:=
 match qb3 r.Patron 0 9 with
 |some r2=>
  let k48:Bool→Option Bool:=fun v=>
   let k47:Bool→Option Bool:=fun v7=>
    match qb3 r.Days 0 365 with
    |some r9=>
     let k46:Bool→Option Bool:=fun v12=>
      let k45:Bool→Option Bool:=fun v15=>
       match qb3 r.Fine 0 1000 with
       |some r17=>
        let k44:Bool→Option Bool:=fun v20=>
         let k43:Bool→Option Bool:=fun v23=>
          let k42:Bool→Option Bool:=fun v24=>
           let k41:Bool→Option Bool:=fun v25=>
            let k40:Bool→Option Bool:=fun v28=>
             let k39:Bool→Option Bool:=fun v31=>
              let k38:Bool→Option Bool:=fun v34=>
               let k:Bool→Option Bool:=fun v37=>
                some v37
               bif v34 then
                match qb3 r.Rank 0 9 with
                |some r36=>
                 k r36
                |none=>none
               else
                k false
              bif v31 then
               match qb3 r.Fixed 0 109572 with
               |some r33=>
                k38 r33
               |none=>none
              else
               k38 false
             bif v28 then
              match qb3 r.Recall 1 60 with
              |some r30=>
               k39 r30
              |none=>none
             else
              k39 false
            bif v25 then
             match qb3 r.Shelf 1 60 with
             |some r27=>
              k40 r27
             |none=>none
            else
             k40 false
           bif v24 then
            k41 v23
           else
            k41 false
          bif v7 then
           k42 v15
          else
           k42 false
         bif v20 then
          match qb3 r.MaxFine 0 100000000 with
          |some r22=>
           k43 r22
          |none=>none
         else
          k43 false
        bif r17 then
         match qb3 r.Grace 0 30 with
         |some r19=>
          k44 r19
         |none=>none
        else
         k44 false
       |none=>none
      bif v12 then
       match qb3 r.Loans 0 99 with
       |some r14=>
        k45 r14
       |none=>none
      else
       k45 false
     bif r9 then
      match qb3 r.Renewals 0 10 with
      |some r11=>
       k46 r11
      |none=>none
     else
      k46 false
    |none=>none
   bif v then
    match qb3 r.Branch 0 4 with
    |some r6=>
     k47 r6
    |none=>none
   else
    k47 false
  bif r2 then
   match qb3 r.Item 0 9 with
   |some r4=>
    k48 r4
   |none=>none
  else
   k48 false
 |none=>none
def qh_L9:((List Rule)×Int×Int×Unit)→Option (((List Rule)×Int×Int×Unit)⊕(((List Rule)×Int×Unit)⊕(Int×Unit))):=fun (l,i,k,_)=>
 bif decide (k<i) then
  match getI l k with
  |some x=>
   match getI l i with
   |some x2=>
    let k9:Bool→Option (((List Rule)×Int×Int×Unit)⊕(((List Rule)×Int×Unit)⊕(Int×Unit))):=fun v=>
     let k8:Bool→Option (((List Rule)×Int×Int×Unit)⊕(((List Rule)×Int×Unit)⊕(Int×Unit))):=fun v7=>
      bif v7 then
       some (.inr (.inr (7,())))
      else
       some (.inl (l,i,wr .i64 (k+1),()))
     bif v then
      match getI l k with
      |some x5=>
       match getI l i with
       |some x6=>
        k8 (x5.Branch==x6.Branch)
       |none=>none
      |none=>none
     else
      k8 false
    bif x.Patron==x2.Patron then
     match getI l k with
     |some x3=>
      match getI l i with
      |some x4=>
       k9 (x3.Item==x4.Item)
      |none=>none
     |none=>none
    else
     k9 false
   |none=>none
  |none=>none
 else
  some (.inr (.inl (l,i,())))
def qh_L4:((List Rule)×Int×Unit)→Option (((List Rule)×Int×Unit)⊕((Unit)⊕(Int×Unit))):=fun (l,i,_)=>
 bif decide (i<(l.length:Int)) then
  match getI l i with
  |some x=>
   match qd4 x with
   |some r1=>
    bif !r1 then
     some (.inr (.inr (2,())))
    else
     match whileO qh_L9 (l,i,0,()) with
     |some (.inl (l10,i11,_))=>
      some (.inl (l10,wr .i64 (i11+1),()))
     |some (.inr (v,_))=>
      some (.inr (.inr (v,())))
     |none=>none
   |none=>none
  |none=>none
 else
  some (.inr (.inl (())))
def qh (l:List Rule):Option Int:=
 bif decide (32<(l.length:Int)) then
  some 13
 else
  match whileO qh_L4 (l,0,()) with
  |some (.inl (_))=>
   some 0
  |some (.inr (v,_))=>
   some v
  |none=>none
def qu_L6:(Int×Calendar×Unit)→Option ((Int×Calendar×Unit)⊕((Calendar×Unit)⊕(Int×Unit))):=fun (i,c,_)=>
 bif decide (i<(c.Closed.length:Int)) then
  match getI c.Closed i with
  |some x=>
   let k:Bool→Option ((Int×Calendar×Unit)⊕((Calendar×Unit)⊕(Int×Unit))):=fun v=>
    bif v then
     some (.inr (.inr (2,())))
    else
     some (.inl (wr .i64 (i+1),c,()))
   bif decide (x<0) then
    k true
   else
    match getI c.Closed i with
    |some x1=>
     k (decide (109572<x1))
    |none=>none
  |none=>none
 else
  some (.inr (.inl (c,())))
def qu_L11:(Int×Calendar×Unit)→Option ((Int×Calendar×Unit)⊕((Unit)⊕(Int×Unit))):=fun (i,c,_)=>
 bif decide (i<(c.Closed.length:Int)) then
  match getI c.Closed i with
  |some x=>
   match getI c.Closed (wr .i64 (i-1)) with
   |some x3=>
    bif decide (x≤x3) then
     some (.inr (.inr (7,())))
    else
     some (.inl (wr .i64 (i+1),c,()))
   |none=>none
  |none=>none
 else
  some (.inr (.inl (())))
def qu (c:Calendar):Option Int:=
 let k:Bool→Option Int:=fun v=>
  bif v then
   some 1
  else
   bif decide (64<(c.Closed.length:Int)) then
    some 13
   else
    match whileO qu_L6 (0,c,()) with
    |some (.inl (c2,_))=>
     match whileO qu_L11 (1,c2,()) with
     |some (.inl (_))=>
      some 0
     |some (.inr (v4,_))=>
      some v4
     |none=>none
    |some (.inr (v5,_))=>
     some v5
    |none=>none
 bif decide (c.Week<0) then
  k true
 else
  k (decide (126<c.Week))
def qaw_L2:((List Patron)×Int×Int×Unit)→Option (((List Patron)×Int×Int×Unit)⊕((Unit)⊕(Int×Unit))):=fun (l,vid,i,_)=>
 bif decide (i<(l.length:Int)) then
  match getI l i with
  |some x=>
   bif x.ID==vid then
    some (.inr (.inr (i,())))
   else
    some (.inl (l,vid,wr .i64 (i+1),()))
  |none=>none
 else
  some (.inr (.inl (())))
def qaw (l:List Patron) (vid:Int):Option Int:=
 match whileO qaw_L2 (l,vid,0,()) with
 |some (.inl (_))=>
  some (-1)
 |some (.inr (v,_))=>
  some v
 |none=>none
def qcr (l:List Patron) (vid:Int):Option (Patron×Bool):=
 match qaw l vid with
 |some r1=>
  bif decide (r1<0) then
   some ((⟨0,0,0,0,false,[]⟩:Patron),false)
  else
   match getI l r1 with
   |some x=>
    some (x,true)
   |none=>none
 |none=>none
def qdk (branch:Int):Option Custody:=
 some (⟨1,branch,0,0⟩:Custody)
def qd7 (state:Int):Option Bool:=
 let k6:Bool→Option Bool:=fun v=>
  let k5:Bool→Option Bool:=fun v1=>
   let k4:Bool→Option Bool:=fun v2=>
    let k:Bool→Option Bool:=fun v3=>
     some v3
    bif v2 then
     k true
    else
     k (state==10)
   bif v1 then
    k4 true
   else
    k4 (state==9)
  bif v then
   k5 true
  else
   k5 (state==8)
 bif state==4 then
  k6 true
 else
  k6 (state==5)
def qer (c:Custody):Option Bool:=
 let k17:Bool→Option Bool:=fun v=>
  let k16:Bool→Option Bool:=fun v1=>
   let k15:Bool→Option Bool:=fun v2=>
    bif v2 then
     some false
    else
     let k10:Bool→Option Bool:=fun v9=>
      some v9
     bif c.State==6 then
      let k8:Bool→Option Bool:=fun v3=>
       let k7:Bool→Option Bool:=fun v4=>
        let k:Bool→Option Bool:=fun v5=>
         bif v5 then
          k10 (!(c.To==c.Branch))
         else
          k10 false
        bif v4 then
         k (decide (c.To≤4))
        else
         k false
       bif v3 then
        k7 (decide (1≤c.To))
       else
        k7 false
      bif decide (0≤c.Who) then
       k8 (decide (c.Who≤9999))
      else
       k8 false
     else
      bif !(c.To==0) then
       some false
      else
       match qd7 c.State with
       |some r11=>
        let k14:Bool→Option Bool:=fun v13=>
         some v13
        bif r11 then
         bif decide (1≤c.Who) then
          k14 (decide (c.Who≤9999))
         else
          k14 false
        else
         some (c.Who==0)
       |none=>none
   bif v1 then
    k15 true
   else
    k15 (decide (4<c.Branch))
  bif v then
   k16 true
  else
   k16 (decide (c.Branch<1))
 bif decide (c.State<1) then
  k17 true
 else
  k17 (decide (12<c.State))
def qej (m:Move):Option Bool:=
 let k16:Bool→Option Bool:=fun v=>
  let k15:Bool→Option Bool:=fun v1=>
   let k14:Bool→Option Bool:=fun v2=>
    let k13:Bool→Option Bool:=fun v3=>
     let k12:Bool→Option Bool:=fun v4=>
      let k11:Bool→Option Bool:=fun v5=>
       let k10:Bool→Option Bool:=fun v6=>
        let k9:Bool→Option Bool:=fun v7=>
         let k:Bool→Option Bool:=fun v8=>
          some v8
         bif v7 then
          k (decide (m.Who≤9999))
         else
          k false
        bif v6 then
         k9 (decide (0≤m.Who))
        else
         k9 false
       bif v5 then
        k10 (decide (m.Branch≤4))
       else
        k10 false
      bif v4 then
       k11 (decide (1≤m.Branch))
      else
       k11 false
     bif v3 then
      k12 (decide (m.Kind≤15))
     else
      k12 false
    bif v2 then
     k13 (decide (1≤m.Kind))
    else
     k13 false
   bif v1 then
    k14 (decide (m.Item≤9999))
   else
    k14 false
  bif v then
   k15 (decide (1≤m.Item))
  else
   k15 false
 bif decide (0≤m.Day) then
  k16 (decide (m.Day≤109572))
 else
  k16 false
def qek (kind:Int):Option (List Int):=
 bif kind==1 then
  some ([1])
 else
  bif kind==2 then
   some ([2,5])
  else
   bif kind==3 then
    some ([3,5])
   else
    bif kind==4 then
     some ([4,8,9,10])
    else
     let k:Bool→Option (List Int):=fun v=>
      bif v then
       some ([2,3])
      else
       bif kind==6 then
        some ([2,3,5])
       else
        bif kind==7 then
         some ([6])
        else
         bif kind==9 then
          some ([7])
         else
          bif kind==10 then
           some ([3])
          else
           bif kind==11 then
            some ([4])
           else
            bif kind==12 then
             some ([4,9])
            else
             bif kind==13 then
              some ([2,3,5,6,7])
             else
              bif kind==14 then
               some ([11])
              else
               bif kind==15 then
                some ([1,2,3,11,10])
               else
                some ([])
     bif kind==5 then
      k (kind==5)
     else
      k (kind==8)
def qa8_L3:(Int×(List Int)×Int×Unit)→Option ((Int×(List Int)×Int×Unit)⊕((Unit)⊕(Bool×Unit))):=fun (state,l,i,_)=>
 bif decide (i<(l.length:Int)) then
  match getI l i with
  |some x=>
   bif x==state then
    some (.inr (.inr (true,())))
   else
    some (.inl (state,l,wr .i64 (i+1),()))
  |none=>none
 else
  some (.inr (.inl (())))
def qa8 (state:Int) (kind:Int):Option Bool:=
 match qek kind with
 |some r1=>
  match whileO qa8_L3 (state,r1,0,()) with
  |some (.inl (_))=>
   some false
  |some (.inr (v,_))=>
   some v
  |none=>none
 |none=>none
def qez (c:Custody) (m:Move):Option Bool:=
 let k14:Bool→Option Bool:=fun v2=>
  let k11:Bool→Option Bool:=fun v10=>
   some v10
  bif v2 then
   k11 (m.Who==0)
  else
   bif m.Kind==7 then
    bif m.Who==0 then
     k11 (m.Branch==c.To)
    else
     k11 false
   else
    bif m.Kind==6 then
     k11 (!(m.Branch==c.Branch))
    else
     let k:Bool→Option Bool:=fun v5=>
      bif v5 then
       bif m.Branch==c.Branch then
        k11 (decide (1≤m.Who))
       else
        k11 false
      else
       let k13:Bool→Option Bool:=fun v12=>
        some v12
       bif m.Branch==c.Branch then
        k13 (m.Who==0)
       else
        k13 false
     bif m.Kind==3 then
      k (m.Kind==3)
     else
      bif m.Kind==5 then
       k (m.Kind==5)
      else
       k (m.Kind==10)
 bif m.Kind==1 then
  k14 (m.Kind==1)
 else
  bif m.Kind==4 then
   k14 (m.Kind==4)
  else
   bif m.Kind==9 then
    k14 (m.Kind==9)
   else
    k14 (m.Kind==14)
def qeq (kind:Int):Option Int:=
 let k13:Bool→Option Int:=fun v3=>
  let k:Int→Option Int:=fun v12=>
   some v12
  bif v3 then
   k 2
  else
   bif kind==2 then
    k 3
   else
    bif kind==3 then
     k 4
    else
     bif kind==5 then
      k 5
     else
      bif kind==6 then
       k 6
      else
       bif kind==8 then
        k 7
       else
        bif kind==10 then
         k 8
        else
         bif kind==11 then
          k 9
         else
          bif kind==12 then
           k 10
          else
           bif kind==13 then
            k 11
           else
            some 12
 bif kind==1 then
  k13 (kind==1)
 else
  bif kind==4 then
   k13 (kind==4)
  else
   bif kind==7 then
    k13 (kind==7)
   else
    bif kind==9 then
     k13 (kind==9)
    else
     k13 (kind==14)
def qes (c:Custody) (m:Move):Option (Custody×Int):=
 match qer c with
 |some r1=>
  let k26:Bool→Option (Custody×Int):=fun v=>
   bif v then
    some ((⟨0,0,0,0⟩:Custody),1)
   else
    match qa8 c.State m.Kind with
    |some r5=>
     bif !r5 then
      some ((⟨0,0,0,0⟩:Custody),12)
     else
      let k25:Bool→Option (Custody×Int):=fun v6=>
       let k24:Bool→Option (Custody×Int):=fun v7=>
        bif v7 then
         some ((⟨0,0,0,0⟩:Custody),16)
        else
         match qez c m with
         |some r9=>
          bif !r9 then
           some ((⟨0,0,0,0⟩:Custody),1)
          else
           match qeq m.Kind with
           |some r11=>
            let k23:Int→Int→Int→Option (Custody×Int):=fun vout20 vout21 vout22=>
             some ((⟨r11,vout20,vout21,vout22⟩:Custody),0)
            bif r11==2 then
             k23 m.Branch 0 0
            else
             let k19:Bool→Option (Custody×Int):=fun v13=>
              bif v13 then
               k23 c.Branch m.Who 0
              else
               bif r11==6 then
                k23 c.Branch m.Who m.Branch
               else
                let k:Bool→Option (Custody×Int):=fun v14=>
                 bif v14 then
                  k23 c.Branch c.Who 0
                 else
                  k23 c.Branch 0 0
                bif r11==9 then
                 k (r11==9)
                else
                 k (r11==10)
             bif r11==4 then
              k19 (r11==4)
             else
              bif r11==5 then
               k19 (r11==5)
              else
               k19 (r11==8)
           |none=>none
         |none=>none
       bif v6 then
        k24 (!(m.Who==c.Who))
       else
        k24 false
      bif m.Kind==3 then
       k25 (c.State==5)
      else
       k25 false
    |none=>none
  bif !r1 then
   k26 true
  else
   match qej m with
   |some r3=>
    k26 (!r3)
   |none=>none
 |none=>none
def qba_L5:((List Move)×Int×Int×Custody×Custody×Unit)→Option (((List Move)×Int×Int×Custody×Custody×Unit)⊕((Custody×Custody×Unit)⊕(Int×Int×Custody×Unit))):=fun (l,item,i,v,c,_)=>
 bif decide (i<(l.length:Int)) then
  match getI l i with
  |some x=>
   bif !(x.Item==item) then
    some (.inl (l,item,wr .i64 (i+1),v,c,()))
   else
    match getI l i with
    |some x2=>
     match qes c x2 with
     |some (r3,r4)=>
      bif !(r4==0) then
       some (.inr (.inr (i,r4,(⟨0,0,0,0⟩:Custody),())))
      else
       some (.inl (l,item,wr .i64 (i+1),v,r3,()))
     |none=>none
    |none=>none
  |none=>none
 else
  some (.inr (.inl (v,c,())))
def qba (branch:Int) (l:List Move) (item:Int):Option (Custody×Int×Int):=
 let k:Bool→Option (Custody×Int×Int):=fun v=>
  bif v then
   some ((⟨0,0,0,0⟩:Custody),(-1),1)
  else
   match qdk branch with
   |some r1=>
    match whileO qba_L5 (l,item,0,(⟨0,0,0,0⟩:Custody),r1,()) with
    |some (.inl (v5,c,_))=>
     some (c,(-1),0)
    |some (.inr (v6,v7,v8,_))=>
     some (v8,v6,v7)
    |none=>none
   |none=>none
 bif decide (branch<1) then
  k true
 else
  k (decide (4<branch))
def qag_L2:(Int×Int×Circ×Unit)→Option ((Int×Int×Circ×Unit)⊕((Unit)⊕(Int×Unit))):=fun (item,i,c,_)=>
 bif decide (i<(c.Items.length:Int)) then
  match getI c.Items i with
  |some x=>
   bif x.ID==item then
    some (.inr (.inr (i,())))
   else
    some (.inl (item,wr .i64 (i+1),c,()))
  |none=>none
 else
  some (.inr (.inl (())))
def qag (c:Circ) (item:Int):Option Int:=
 match whileO qag_L2 (item,0,c,()) with
 |some (.inl (_))=>
  some (-1)
 |some (.inr (v,_))=>
  some v
 |none=>none
def qx_L4:(Int×Circ×Unit)→Option ((Int×Circ×Unit)⊕((Circ×Unit)⊕(Bool×Unit))):=fun (i,c,_)=>
 bif decide (i<(c.Items.length:Int)) then
  match getI c.Items i with
  |some x=>
   let k29:Bool→Option ((Int×Circ×Unit)⊕((Circ×Unit)⊕(Bool×Unit))):=fun v=>
    let k28:Bool→Option ((Int×Circ×Unit)⊕((Circ×Unit)⊕(Bool×Unit))):=fun v3=>
     let k27:Bool→Option ((Int×Circ×Unit)⊕((Circ×Unit)⊕(Bool×Unit))):=fun v4=>
      let k26:Bool→Option ((Int×Circ×Unit)⊕((Circ×Unit)⊕(Bool×Unit))):=fun v5=>
       let k25:Bool→Option ((Int×Circ×Unit)⊕((Circ×Unit)⊕(Bool×Unit))):=fun v6=>
        let k24:Bool→Option ((Int×Circ×Unit)⊕((Circ×Unit)⊕(Bool×Unit))):=fun v7=>
         bif v7 then
          some (.inr (.inr (false,())))
         else
          let k23:Bool→Option ((Int×Circ×Unit)⊕((Circ×Unit)⊕(Bool×Unit))):=fun v8=>
           let k22:Bool→Option ((Int×Circ×Unit)⊕((Circ×Unit)⊕(Bool×Unit))):=fun v9=>
            let k21:Bool→Option ((Int×Circ×Unit)⊕((Circ×Unit)⊕(Bool×Unit))):=fun v10=>
             let k20:Bool→Option ((Int×Circ×Unit)⊕((Circ×Unit)⊕(Bool×Unit))):=fun v11=>
              let k19:Bool→Option ((Int×Circ×Unit)⊕((Circ×Unit)⊕(Bool×Unit))):=fun v13=>
               bif v13 then
                some (.inr (.inr (false,())))
               else
                match qba x.Branch c.Moves x.ID with
                |some (r15,r16,r17)=>
                 let k:Bool→Option ((Int×Circ×Unit)⊕((Circ×Unit)⊕(Bool×Unit))):=fun v18=>
                  bif v18 then
                   some (.inr (.inr (false,())))
                  else
                   some (.inl (wr .i64 (i+1),c,()))
                 bif !(r17==0) then
                  k true
                 else
                  k (!(eqT_Custody r15 x.Custody))
                |none=>none
              bif v11 then
               k19 true
              else
               match qau x.Call with
               |some r12=>
                k19 (!r12)
               |none=>none
             bif v10 then
              k20 true
             else
              k20 (decide (200<(x.Call.length:Int)))
            bif v9 then
             k21 true
            else
             k21 (decide (100000000<x.Price))
           bif v8 then
            k22 true
           else
            k22 (decide (x.Price<0))
          bif decide (x.Kind<1) then
           k23 true
          else
           k23 (decide (9<x.Kind))
        bif v6 then
         k24 true
        else
         k24 (decide (4<x.Branch))
       bif v5 then
        k25 true
       else
        k25 (decide (x.Branch<1))
      bif v4 then
       k26 true
      else
       k26 (decide (9999<x.Record))
     bif v3 then
      k27 true
     else
      k27 (decide (x.Record<1))
    bif v then
     k28 true
    else
     bif decide (0<i) then
      match getI c.Items (wr .i64 (i-1)) with
      |some x1=>
       k28 (decide (x.ID≤x1.ID))
      |none=>none
     else
      k28 false
   bif decide (x.ID<1) then
    k29 true
   else
    k29 (decide (9999<x.ID))
  |none=>none
 else
  some (.inr (.inl (c,())))
def qx_L15:(Int×Circ×Unit)→Option ((Int×Circ×Unit)⊕((Unit)⊕(Bool×Unit))):=fun (i,c,_)=>
 bif decide (i<(c.Moves.length:Int)) then
  match getI c.Moves i with
  |some x=>
   match qag c x.Item with
   |some r31=>
    bif decide (r31<0) then
     some (.inr (.inr (false,())))
    else
     some (.inl (wr .i64 (i+1),c,()))
   |none=>none
  |none=>none
 else
  some (.inr (.inl (())))
def qx (c:Circ):Option Bool:=
 let k:Bool→Option Bool:=fun v=>
  bif v then
   some false
  else
   match whileO qx_L4 (0,c,()) with
   |some (.inl (c30,_))=>
    match whileO qx_L15 (0,c30,()) with
    |some (.inl (_))=>
     some true
    |some (.inr (v32,_))=>
     some v32
    |none=>none
   |some (.inr (v33,_))=>
    some v33
   |none=>none
 bif decide (64<(c.Items.length:Int)) then
  k true
 else
  k (decide (2000<(c.Moves.length:Int)))
def qdq (u:Custody):Option Bool:=
 let k2:Bool→Option Bool:=fun v=>
  let k:Bool→Option Bool:=fun v1=>
   some v1
  bif v then
   k true
  else
   k (u.State==10)
 bif u.State==4 then
  k2 true
 else
  k2 (u.State==9)
def qbf_L2:((List Loan)×Int×Int×Unit)→Option (((List Loan)×Int×Int×Unit)⊕((Unit)⊕(Int×Unit))):=fun (l,item,i,_)=>
 bif decide (i<(l.length:Int)) then
  match getI l i with
  |some x=>
   bif x.Item==item then
    some (.inr (.inr (i,())))
   else
    some (.inl (l,item,wr .i64 (i+1),()))
  |none=>none
 else
  some (.inr (.inl (())))
def qbf (l:List Loan) (item:Int):Option Int:=
 match whileO qbf_L2 (l,item,0,()) with
 |some (.inl (_))=>
  some (-1)
 |some (.inr (v,_))=>
  some v
 |none=>none
def qey (l:List Loan) (item:Int):Option (Loan×Bool):=
 match qbf l item with
 |some r1=>
  bif decide (r1<0) then
   some ((⟨0,0,0,0,0,false⟩:Loan),false)
  else
   match getI l r1 with
   |some x=>
    some (x,true)
   |none=>none
 |none=>none
def qw_L2:(Int×Circ×Unit)→Option ((Int×Circ×Unit)⊕((Circ×Unit)⊕(Bool×Unit))):=fun (i,c,_)=>
 bif decide (i<(c.Loans.length:Int)) then
  match getI c.Loans i with
  |some x=>
   match qag c x.Item with
   |some r1=>
    match qcr c.Patrons x.Patron with
    |some (r3,r4)=>
     let k12:Bool→Option ((Int×Circ×Unit)⊕((Circ×Unit)⊕(Bool×Unit))):=fun v=>
      let k11:Bool→Option ((Int×Circ×Unit)⊕((Circ×Unit)⊕(Bool×Unit))):=fun v8=>
       let k:Bool→Option ((Int×Circ×Unit)⊕((Circ×Unit)⊕(Bool×Unit))):=fun v10=>
        bif v10 then
         some (.inr (.inr (false,())))
        else
         some (.inl (wr .i64 (i+1),c,()))
       bif v8 then
        k true
       else
        match getI c.Items r1 with
        |some x9=>
         k (!(x9.Custody.Who==x.Patron))
        |none=>none
      bif v then
       k11 true
      else
       match getI c.Items r1 with
       |some x5=>
        match qdq x5.Custody with
        |some r7=>
         k11 (!r7)
        |none=>none
       |none=>none
     bif decide (r1<0) then
      k12 true
     else
      k12 (!r4)
    |none=>none
   |none=>none
  |none=>none
 else
  some (.inr (.inl (c,())))
def qw_L10:(Int×Circ×Unit)→Option ((Int×Circ×Unit)⊕((Unit)⊕(Bool×Unit))):=fun (i,c,_)=>
 bif decide (i<(c.Items.length:Int)) then
  match getI c.Items i with
  |some x=>
   match qey c.Loans x.ID with
   |some (r14,r15)=>
    match getI c.Items i with
    |some x16=>
     match qdq x16.Custody with
     |some r18=>
      bif !(r15==r18) then
       some (.inr (.inr (false,())))
      else
       some (.inl (wr .i64 (i+1),c,()))
     |none=>none
    |none=>none
   |none=>none
  |none=>none
 else
  some (.inr (.inl (())))
def qw (c:Circ):Option Bool:=
 match whileO qw_L2 (0,c,()) with
 |some (.inl (c13,_))=>
  match whileO qw_L10 (0,c13,()) with
  |some (.inl (_))=>
   some true
  |some (.inr (v,_))=>
   some v
  |none=>none
 |some (.inr (v19,_))=>
  some v19
 |none=>none
def qa9_L2:(Int×Int×Circ×Hold×Unit)→Option ((Int×Int×Circ×Hold×Unit)⊕((Hold×Unit)⊕(Bool×Hold×Unit))):=fun (item,i,c,v,_)=>
 bif decide (i<(c.Holds.length:Int)) then
  match getI c.Holds i with
  |some x=>
   bif x.Got==item then
    match getI c.Holds i with
    |some x1=>
     some (.inr (.inr (true,x1,())))
    |none=>none
   else
    some (.inl (item,wr .i64 (i+1),c,v,()))
  |none=>none
 else
  some (.inr (.inl (v,())))
def qa9 (c:Circ) (item:Int):Option (Hold×Bool):=
 match whileO qa9_L2 (item,0,c,(⟨0,0,0,0,0,0,0,0,0,0,0⟩:Hold),()) with
 |some (.inl (v,_))=>
  some ((⟨0,0,0,0,0,0,0,0,0,0,0⟩:Hold),false)
 |some (.inr (v2,v3,_))=>
  some (v3,v2)
 |none=>none
def qy_L2:(Int×Circ×Unit)→Option ((Int×Circ×Unit)⊕((Circ×Unit)⊕(Bool×Unit))):=fun (i,c,_)=>
 bif decide (i<(c.Holds.length:Int)) then
  match getI c.Holds i with
  |some x=>
   match qcr c.Patrons x.Patron with
   |some (r1,r2)=>
    let k18:Bool→Option ((Int×Circ×Unit)⊕((Circ×Unit)⊕(Bool×Unit))):=fun v=>
     bif v then
      some (.inr (.inr (false,())))
     else
      bif x.State==1 then
       some (.inl (wr .i64 (i+1),c,()))
      else
       match qag c x.Got with
       |some r4=>
        let k17:Bool→Option ((Int×Circ×Unit)⊕((Circ×Unit)⊕(Bool×Unit))):=fun v6=>
         bif v6 then
          some (.inr (.inr (false,())))
         else
          match getI c.Items r4 with
          |some x7=>
           let k16:Bool→Option ((Int×Circ×Unit)⊕((Circ×Unit)⊕(Bool×Unit))):=fun v10=>
            bif v10 then
             some (.inr (.inr (false,())))
            else
             let k15:Bool→Option ((Int×Circ×Unit)⊕((Circ×Unit)⊕(Bool×Unit))):=fun v14=>
              bif v14 then
               some (.inr (.inr (false,())))
              else
               some (.inl (wr .i64 (i+1),c,()))
             bif x.State==2 then
              let k13:Bool→Option ((Int×Circ×Unit)⊕((Circ×Unit)⊕(Bool×Unit))):=fun v11=>
               bif v11 then
                k15 true
               else
                k15 (!(x7.Custody.Who==x.Patron))
              bif !(x7.Custody.State==6) then
               k13 true
              else
               k13 (!(x7.Custody.To==x.Pickup))
             else
              k15 false
           bif x.State==3 then
            let k:Bool→Option ((Int×Circ×Unit)⊕((Circ×Unit)⊕(Bool×Unit))):=fun v8=>
             bif v8 then
              k16 true
             else
              k16 (!(x7.Custody.Who==x.Patron))
            bif !(x7.Custody.State==5) then
             k true
            else
             k (!(x7.Custody.Branch==x.Pickup))
           else
            k16 false
          |none=>none
        bif decide (r4<0) then
         k17 true
        else
         match getI c.Items r4 with
         |some x5=>
          k17 (!(x5.Record==x.Record))
         |none=>none
       |none=>none
    bif !r2 then
     k18 true
    else
     k18 (decide (c.NextHold≤x.ID))
   |none=>none
  |none=>none
 else
  some (.inr (.inl (c,())))
def qy_L18:(Int×Circ×Unit)→Option ((Int×Circ×Unit)⊕((Unit)⊕(Bool×Unit))):=fun (i,c,_)=>
 bif decide (i<(c.Items.length:Int)) then
  match getI c.Items i with
  |some x=>
   bif !(x.Custody.State==5) then
    some (.inl (wr .i64 (i+1),c,()))
   else
    match getI c.Items i with
    |some x20=>
     match qa9 c x20.ID with
     |some (r21,r22)=>
      let k:Bool→Option ((Int×Circ×Unit)⊕((Unit)⊕(Bool×Unit))):=fun v=>
       bif v then
        some (.inr (.inr (false,())))
       else
        some (.inl (wr .i64 (i+1),c,()))
      bif !r22 then
       k true
      else
       k (!(r21.State==3))
     |none=>none
    |none=>none
  |none=>none
 else
  some (.inr (.inl (())))
def qy (c:Circ):Option Bool:=
 match whileO qy_L2 (0,c,()) with
 |some (.inl (c19,_))=>
  match whileO qy_L18 (0,c19,()) with
  |some (.inl (_))=>
   some true
  |some (.inr (v,_))=>
   some v
  |none=>none
 |some (.inr (v23,_))=>
  some v23
 |none=>none
def qs_L6:(Int×Circ×Unit)→Option ((Int×Circ×Unit)⊕((Circ×Unit)⊕(Bool×Unit))):=fun (i,c,_)=>
 bif decide (i<4) then
  bif i==0 then
   match qu c.Cals.x0 with
   |some r24=>
    bif !(r24==0) then
     some (.inr (.inr (false,())))
    else
     some (.inl (wr .i64 (i+1),c,()))
   |none=>none
  else bif i==1 then
   match qu c.Cals.x1 with
   |some r22=>
    bif !(r22==0) then
     some (.inr (.inr (false,())))
    else
     some (.inl (wr .i64 (i+1),c,()))
   |none=>none
  else bif i==2 then
   match qu c.Cals.x2 with
   |some r20=>
    bif !(r20==0) then
     some (.inr (.inr (false,())))
    else
     some (.inl (wr .i64 (i+1),c,()))
   |none=>none
  else bif i==3 then
   match qu c.Cals.x3 with
   |some r18=>
    bif !(r18==0) then
     some (.inr (.inr (false,())))
    else
     some (.inl (wr .i64 (i+1),c,()))
   |none=>none
  else none
 else
  some (.inr (.inl (c,())))
def qs_L11:(Int×Circ×Unit)→Option ((Int×Circ×Unit)⊕((Circ×Unit)⊕(Bool×Unit))):=fun (i,c,_)=>
 bif decide (i<(c.Charges.length:Int)) then
  match getI c.Charges i with
  |some x=>
   match qcr c.Patrons x.Patron with
   |some (r26,r27)=>
    let k:Bool→Option ((Int×Circ×Unit)⊕((Circ×Unit)⊕(Bool×Unit))):=fun v=>
     bif v then
      some (.inr (.inr (false,())))
     else
      some (.inl (wr .i64 (i+1),c,()))
    bif !r27 then
     k true
    else
     match getI c.Charges i with
     |some x28=>
      k (decide (c.NextCharge≤x28.ID))
     |none=>none
   |none=>none
  |none=>none
 else
  some (.inr (.inl (c,())))
def qs (c:Circ):Option Bool:=
 let k49:Bool→Option Bool:=fun v=>
  let k48:Bool→Option Bool:=fun v1=>
   let k47:Bool→Option Bool:=fun v2=>
    let k46:Bool→Option Bool:=fun v3=>
     let k45:Bool→Option Bool:=fun v4=>
      bif v4 then
       some false
      else
       match qao c.Patrons with
       |some r5=>
        let k44:Bool→Option Bool:=fun v8=>
         let k43:Bool→Option Bool:=fun v11=>
          let k42:Bool→Option Bool:=fun v14=>
           let k41:Bool→Option Bool:=fun v17=>
            bif v17 then
             some false
            else
             match whileO qs_L6 (0,c,()) with
             |some (.inl (c25,_))=>
              match whileO qs_L11 (0,c25,()) with
              |some (.inl (c29,_))=>
               match qx c29 with
               |some r31=>
                let k38:Bool→Option Bool:=fun v34=>
                 let k:Bool→Option Bool:=fun v37=>
                  some v37
                 bif v34 then
                  match qy c29 with
                  |some r36=>
                   k r36
                  |none=>none
                 else
                  k false
                bif r31 then
                 match qw c29 with
                 |some r33=>
                  k38 r33
                 |none=>none
                else
                 k38 false
               |none=>none
              |some (.inr (v39,_))=>
               some v39
              |none=>none
             |some (.inr (v40,_))=>
              some v40
             |none=>none
           bif v14 then
            k41 true
           else
            match qh c.Rules with
            |some r16=>
             k41 (!(r16==0))
            |none=>none
          bif v11 then
           k42 true
          else
           match qbc c.Charges with
           |some r13=>
            k42 (!(r13==0))
           |none=>none
         bif v8 then
          k43 true
         else
          match qg c.Holds with
          |some r10=>
           k43 (!(r10==0))
          |none=>none
        bif !(r5==0) then
         k44 true
        else
         match qbb c.Loans with
         |some r7=>
          k44 (!(r7==0))
         |none=>none
       |none=>none
     bif v3 then
      k45 true
     else
      k45 (decide (100000<c.NextCharge))
    bif v2 then
     k46 true
    else
     k46 (decide (c.NextCharge<1))
   bif v1 then
    k47 true
   else
    k47 (decide (100000<c.NextHold))
  bif v then
   k48 true
  else
   k48 (decide (c.NextHold<1))
 bif decide (c.Today<0) then
  k49 true
 else
  k49 (decide (109572<c.Today))
def qev (c:Circ):Option Bool:=
 match qk c with
 |some r1=>
  let k:Bool→Option Bool:=fun v=>
   some v
  bif r1 then
   match qs c with
   |some r3=>
    k r3
   |none=>none
  else
   k false
 |none=>none
def qe3 (today:Int):Option Circ:=
 some (⟨(if 109572<(if today<0 then 0 else today) then 109572 else (if today<0 then 0 else today)),[],[],[],[],[],[],⟨⟨0,[]⟩,⟨0,[]⟩,⟨0,[]⟩,⟨0,[]⟩⟩,[],1,1,false⟩:Circ)
def qdg (x:Item) (v:Int):Option Bool:=
 some (x.ID==v)
def qd_L2 {γ0:Type} (p:γ0→Item→Option Bool):((List Item)×γ0×Int×Int×Unit)→Option (((List Item)×γ0×Int×Int×Unit)⊕((Unit)⊕(Int×Unit))):=fun (s,g,v,v1,_)=>
 bif decide (v1<v) then
  match getI s v1 with
  |some x=>
   match p g x with
   |some r=>
    bif r then
     some (.inr (.inr (v1,())))
    else
     some (.inl (s,g,v,wr .i64 (v1+1),()))
   |none=>none
  |none=>none
 else
  some (.inr (.inl (())))
def qd {γ0:Type} (p:γ0→Item→Option Bool) (s:List Item) (g:γ0):Option Int:=
 match whileO (qd_L2 p) (s,g,(s.length:Int),0,()) with
 |some (.inl (_))=>
  some (-1)
 |some (.inr (v,_))=>
  some v
 |none=>none
def qaa (c:Circ) (item:Int):Option Int:=
 match qd (fun g x0=>qdg x0 g.2.1) c.Items ((),(item,())) with
 |some r1=>
  some r1
 |none=>none
def qc9 (branch:Int):Option Custody:=
 some (⟨1,branch,0,0⟩:Custody)
def qc7 (z:Item) (v:Item):Option Bool:=
 some (decide (v.ID<z.ID))
def qcc (s:List Item):Option (List Item):=
 bif decide (([]:List Item).length+s.length≤LIM) then
 some (([])++s)
 else none
def qb0 (n:Int) (low:Int) (high:Int):Option Bool:=
 let k:Bool→Option Bool:=fun v=>
  some v
 bif decide (low≤n) then
  k (decide (n≤high))
 else
  k false
def qd2 (x:Item):Option Bool:=
 match qb0 x.ID 1 9999 with
 |some r1=>
  let k21:Bool→Option Bool:=fun v=>
   let k20:Bool→Option Bool:=fun v6=>
    let k19:Bool→Option Bool:=fun v9=>
     let k18:Bool→Option Bool:=fun v12=>
      let k17:Bool→Option Bool:=fun v13=>
       let k:Bool→Option Bool:=fun v16=>
        some v16
       bif v13 then
        match qe7 x.Call with
        |some r15=>
         k r15
        |none=>none
       else
        k false
      bif v12 then
       k17 (decide ((x.Call.length:Int)≤200))
      else
       k17 false
     bif v9 then
      match qb0 x.Price 0 100000000 with
      |some r11=>
       k18 r11
      |none=>none
     else
      k18 false
    bif v6 then
     match qb0 x.Kind 1 9 with
     |some r8=>
      k19 r8
     |none=>none
    else
     k19 false
   bif v then
    match qb0 x.Branch 1 4 with
    |some r5=>
     k20 r5
    |none=>none
   else
    k20 false
  bif r1 then
   match qb0 x.Record 1 9999 with
   |some r3=>
    k21 r3
   |none=>none
  else
   k21 false
 |none=>none
def qbu (n:Int) (least:Int) (most:Int):Option Bool:=
 let k:Bool→Option Bool:=fun v=>
  some v
 bif decide (least≤n) then
  k (decide (n≤most))
 else
  k false
def qd6 (c:Custody):Option Bool:=
 match qbu c.State 1 12 with
 |some r1=>
  let k23:Bool→Option Bool:=fun v=>
   bif v then
    some false
   else
    let k22:Bool→Option Bool:=fun v7=>
     let k19:Bool→Option Bool:=fun v18=>
      some v18
     bif v7 then
      match qbu c.Who 1 9999 with
      |some r9=>
       bif r9 then
        k19 (c.To==0)
       else
        k19 false
      |none=>none
     else
      bif c.State==6 then
       match qbu c.Who 0 9999 with
       |some r12=>
        let k:Bool→Option Bool:=fun v15=>
         bif v15 then
          k19 (!(c.To==c.Branch))
         else
          k19 false
        bif r12 then
         match qbu c.To 1 4 with
         |some r14=>
          k r14
         |none=>none
        else
         k false
       |none=>none
      else
       let k21:Bool→Option Bool:=fun v20=>
        some v20
       bif c.Who==0 then
        k21 (c.To==0)
       else
        k21 false
    bif c.State==4 then
     k22 (c.State==4)
    else
     bif c.State==5 then
      k22 (c.State==5)
     else
      bif c.State==8 then
       k22 (c.State==8)
      else
       bif c.State==9 then
        k22 (c.State==9)
       else
        k22 (c.State==10)
  bif !r1 then
   k23 true
  else
   match qbu c.Branch 1 4 with
   |some r3=>
    k23 (!r3)
   |none=>none
 |none=>none
def qd0 (state:Int) (kind:Int):Option Bool:=
 match qbu state 1 12 with
 |some r1=>
  let k5:Bool→Option Bool:=fun v=>
   let k:Bool→Option Bool:=fun v4=>
    some v4
   bif v then
    match getI glob_custody_moves state with
    |some x=>
     bif decide (kind<0) then none else
     k ((wr .u16 (BitVec.ofInt 16 (x.fdiv (2 ^ (min kind.toNat 16))) &&& BitVec.ofInt 16 1).toNat)==1)
    |none=>none
   else
    k false
  bif r1 then
   match qbu kind 1 15 with
   |some r3=>
    k5 r3
   |none=>none
  else
   k5 false
 |none=>none
def qcu (c:Custody) (ok:Bool):Option (Custody×Int):=
 bif !ok then
  some ((⟨0,0,0,0⟩:Custody),1)
 else
  some (c,0)
def qea (c:Custody) (m:Move):Option (Custody×Int):=
 match qcu (⟨6,c.Branch,m.Who,m.Branch⟩:Custody) (!(m.Branch==c.Branch)) with
 |some (r1,r2)=>
  some (r1,r2)
 |none=>none
def qda (c:Custody) (m:Move):Option (Custody×Int):=
 match qd6 c with
 |some r1=>
  let k95:Bool→Option (Custody×Int):=fun v=>
   let k94:Bool→Option (Custody×Int):=fun v6=>
    let k93:Bool→Option (Custody×Int):=fun v9=>
     let k92:Bool→Option (Custody×Int):=fun v12=>
      let k91:Bool→Option (Custody×Int):=fun v15=>
       bif v15 then
        some ((⟨0,0,0,0⟩:Custody),1)
       else
        match qd0 c.State m.Kind with
        |some r17=>
         bif !r17 then
          some ((⟨0,0,0,0⟩:Custody),12)
         else
          let k90:Bool→Option (Custody×Int):=fun v18=>
           let k89:Bool→Option (Custody×Int):=fun v19=>
            bif v19 then
             some ((⟨0,0,0,0⟩:Custody),16)
            else
             let k88:Bool→Option (Custody×Int):=fun v22=>
              let k84:Int→Bool→Option (Custody×Int):=fun state79 ok80=>
               match qcu (⟨state79,m.Branch,m.Who,0⟩:Custody) ok80 with
               |some (r82,r83)=>
                some (r82,r83)
               |none=>none
              let k87:Int→Custody→Option (Custody×Int):=fun v85 v86=>
               some (v86,v85)
              bif v22 then
               k84 2 (m.Who==0)
              else
               bif m.Kind==7 then
                bif m.Who==0 then
                 k84 2 (m.Branch==c.To)
                else
                 k84 2 false
               else
                bif m.Kind==6 then
                 match qea c m with
                 |some (r25,r26)=>
                  k87 r26 r25
                 |none=>none
                else
                 bif m.Kind==3 then
                  bif m.Branch==c.Branch then
                   k84 4 (!(m.Who==0))
                  else
                   k84 4 false
                 else
                  bif m.Kind==5 then
                   bif m.Branch==c.Branch then
                    k84 5 (!(m.Who==0))
                   else
                    k84 5 false
                  else
                   bif m.Kind==10 then
                    bif m.Branch==c.Branch then
                     k84 8 (!(m.Who==0))
                    else
                     k84 8 false
                   else
                    bif m.Kind==2 then
                     bif m.Branch==c.Branch then
                      k84 3 (m.Who==0)
                     else
                      k84 3 false
                    else
                     bif m.Kind==8 then
                      bif m.Branch==c.Branch then
                       k84 7 (m.Who==0)
                      else
                       k84 7 false
                     else
                      bif m.Kind==11 then
                       let k:Bool→Option (Custody×Int):=fun v32=>
                        match qcu (⟨9,c.Branch,c.Who,0⟩:Custody) v32 with
                        |some (r34,r35)=>
                         k87 r35 r34
                        |none=>none
                       bif m.Branch==c.Branch then
                        k (m.Who==0)
                       else
                        k false
                      else
                       bif m.Kind==12 then
                        let k40:Bool→Option (Custody×Int):=fun v36=>
                         match qcu (⟨10,c.Branch,c.Who,0⟩:Custody) v36 with
                         |some (r38,r39)=>
                          k87 r39 r38
                         |none=>none
                        bif m.Branch==c.Branch then
                         k40 (m.Who==0)
                        else
                         k40 false
                       else
                        bif m.Kind==13 then
                         bif m.Branch==c.Branch then
                          k84 11 (m.Who==0)
                         else
                          k84 11 false
                        else
                         bif m.Kind==15 then
                          bif m.Branch==c.Branch then
                           k84 12 (m.Who==0)
                          else
                           k84 12 false
                         else
                          k84 0 false
             bif m.Kind==1 then
              k88 (m.Kind==1)
             else
              bif m.Kind==4 then
               k88 (m.Kind==4)
              else
               bif m.Kind==9 then
                k88 (m.Kind==9)
               else
                k88 (m.Kind==14)
           bif v18 then
            k89 (!(m.Who==c.Who))
           else
            k89 false
          bif m.Kind==3 then
           k90 (c.State==5)
          else
           k90 false
        |none=>none
      bif v12 then
       k91 true
      else
       match qbu m.Who 0 9999 with
       |some r14=>
        k91 (!r14)
       |none=>none
     bif v9 then
      k92 true
     else
      match qbu m.Branch 1 4 with
      |some r11=>
       k92 (!r11)
      |none=>none
    bif v6 then
     k93 true
    else
     match qbu m.Kind 1 15 with
     |some r8=>
      k93 (!r8)
     |none=>none
   bif v then
    k94 true
   else
    match qbu m.Item 1 9999 with
    |some r5=>
     k94 (!r5)
    |none=>none
  bif !r1 then
   k95 true
  else
   match qbu m.Day 0 109572 with
   |some r3=>
    k95 (!r3)
   |none=>none
 |none=>none
def qa3_L5:(Int×(List Move)×Int×Int×Custody×Custody×Unit)→Option ((Int×(List Move)×Int×Int×Custody×Custody×Unit)⊕((Custody×Custody×Unit)⊕(Int×Int×Custody×Unit))):=fun (item,v,v4,v5,v6,c,_)=>
 bif decide (v5<v4) then
  match getI v v5 with
  |some x=>
   bif !(x.Item==item) then
    some (.inl (item,v,v4,wr .i64 (v5+1),v6,c,()))
   else
    match qda c x with
    |some (r7,r8)=>
     bif !(r8==0) then
      some (.inr (.inr (v5,r8,(⟨0,0,0,0⟩:Custody),())))
     else
      some (.inl (item,v,v4,wr .i64 (v5+1),v6,r7,()))
    |none=>none
  |none=>none
 else
  some (.inr (.inl (v6,c,())))
def qa3 (branch:Int) (l:List Move) (item:Int):Option (Custody×Int×Int):=
 match qbu branch 1 4 with
 |some r1=>
  bif !r1 then
   some ((⟨0,0,0,0⟩:Custody),(-1),1)
  else
   match qc9 branch with
   |some r3=>
    match whileO qa3_L5 (item,l,(l.length:Int),0,(⟨0,0,0,0⟩:Custody),r3,()) with
    |some (.inl (v,c,_))=>
     some (c,(-1),0)
    |some (.inr (v9,v10,v11,_))=>
     some (v11,v9,v10)
    |none=>none
   |none=>none
 |none=>none
def qj_L4:((List Item)×Int×Int×Circ×Unit)→Option (((List Item)×Int×Int×Circ×Unit)⊕((Circ×Unit)⊕(Bool×Unit))):=fun (v,v1,v2,c,_)=>
 bif decide (v2<v1) then
  match getI v v2 with
  |some x=>
   match qd2 x with
   |some r3=>
    let k:Bool→Option (((List Item)×Int×Int×Circ×Unit)⊕((Circ×Unit)⊕(Bool×Unit))):=fun v6=>
     bif v6 then
      some (.inr (.inr (false,())))
     else
      some (.inl (v,v1,wr .i64 (v2+1),c,()))
    bif !r3 then
     k true
    else
     bif decide (0<v2) then
      match getI c.Items (wr .i64 (v2-1)) with
      |some x4=>
       k (decide (x.ID≤x4.ID))
      |none=>none
     else
      k false
   |none=>none
  |none=>none
 else
  some (.inr (.inl (c,())))
def qj_L10:((List Move)×Int×Int×Circ×Unit)→Option (((List Move)×Int×Int×Circ×Unit)⊕((Circ×Unit)⊕(Bool×Unit))):=fun (v,v8,v9,c,_)=>
 bif decide (v9<v8) then
  match getI v v9 with
  |some x=>
   match qaa c x.Item with
   |some r10=>
    bif decide (r10<0) then
     some (.inr (.inr (false,())))
    else
     some (.inl (v,v8,wr .i64 (v9+1),c,()))
   |none=>none
  |none=>none
 else
  some (.inr (.inl (c,())))
def qj_L16:((List Item)×Int×Int×Circ×Unit)→Option (((List Item)×Int×Int×Circ×Unit)⊕((Unit)⊕(Bool×Unit))):=fun (v,v12,v13,c,_)=>
 bif decide (v13<v12) then
  match getI v v13 with
  |some x=>
   match qa3 x.Branch c.Moves x.ID with
   |some (r14,r15,r16)=>
    let k:Bool→Option (((List Item)×Int×Int×Circ×Unit)⊕((Unit)⊕(Bool×Unit))):=fun v17=>
     bif v17 then
      some (.inr (.inr (false,())))
     else
      some (.inl (v,v12,wr .i64 (v13+1),c,()))
    bif !(r16==0) then
     k true
    else
     k (!(eqT_Custody r14 x.Custody))
   |none=>none
  |none=>none
 else
  some (.inr (.inl (())))
def qj (c:Circ):Option Bool:=
 let k:Bool→Option Bool:=fun v=>
  bif v then
   some false
  else
   match whileO qj_L4 (c.Items,(c.Items.length:Int),0,c,()) with
   |some (.inl (c7,_))=>
    match whileO qj_L10 (c7.Moves,(c7.Moves.length:Int),0,c7,()) with
    |some (.inl (c11,_))=>
     match whileO qj_L16 (c11.Items,(c11.Items.length:Int),0,c11,()) with
     |some (.inl (_))=>
      some true
     |some (.inr (v18,_))=>
      some v18
     |none=>none
    |some (.inr (v19,_))=>
     some v19
    |none=>none
   |some (.inr (v20,_))=>
    some v20
   |none=>none
 bif decide (64<(c.Items.length:Int)) then
  k true
 else
  k (decide (2000<(c.Moves.length:Int)))
def qa7 (p:Patron):Option Int:=
 let k17:Bool→Option Int:=fun v=>
  let k16:Bool→Option Int:=fun v1=>
   let k15:Bool→Option Int:=fun v2=>
    let k14:Int→Option Int:=fun v13=>
     some v13
    bif v2 then
     k14 1
    else
     let k12:Bool→Option Int:=fun v3=>
      bif v3 then
       k14 2
      else
       let k10:Bool→Option Int:=fun v5=>
        let k:Bool→Option Int:=fun v8=>
         bif v8 then
          k14 3
         else
          bif decide (200<(p.Name.length:Int)) then
           k14 4
          else
           some 0
        bif v5 then
         k true
        else
         match qfe p.Name with
         |some r7=>
          k (!(r7==p.Name))
         |none=>none
       bif p.Name==([]) then
        k10 true
       else
        match qe7 p.Name with
        |some r4=>
         k10 (!r4)
        |none=>none
     bif decide (p.Until<0) then
      k12 true
     else
      k12 (decide (109572<p.Until))
   bif v1 then
    k15 true
   else
    k15 (decide (4<p.Branch))
  bif v then
   k16 true
  else
   k16 (decide (p.Branch<1))
 bif decide (p.Kind<1) then
  k17 true
 else
  k17 (decide (9<p.Kind))
def qap_L5:(Int×(List Patron)×Int×Int×Unit)→Option ((Int×(List Patron)×Int×Int×Unit)⊕((Unit)⊕(Int×Unit))):=fun (last,v,v1,v2,_)=>
 bif decide (v2<v1) then
  match getI v v2 with
  |some x=>
   let k6:Bool→Option ((Int×(List Patron)×Int×Int×Unit)⊕((Unit)⊕(Int×Unit))):=fun v3=>
    let k:Int→Option ((Int×(List Patron)×Int×Int×Unit)⊕((Unit)⊕(Int×Unit))):=fun v4=>
     some (.inr (.inr (v4,())))
    bif v3 then
     k 2
    else
     bif decide (x.ID≤last) then
      k 7
     else
      match qa7 x with
      |some r5=>
       bif !(r5==0) then
        some (.inr (.inr (r5,())))
       else
        some (.inl (x.ID,v,v1,wr .i64 (v2+1),()))
      |none=>none
   bif decide (x.ID<1) then
    k6 true
   else
    k6 (decide (9999<x.ID))
  |none=>none
 else
  some (.inr (.inl (())))
def qap (l:List Patron):Option Int:=
 bif decide (32<(l.length:Int)) then
  some 13
 else
  match whileO qap_L5 (0,l,(l.length:Int),0,()) with
  |some (.inl (_))=>
   some 0
  |some (.inr (v,_))=>
   some v
  |none=>none
def qdw (n:Int):Option Bool:=
 let k:Bool→Option Bool:=fun v=>
  some v
 bif decide (1≤n) then
  k (decide (n≤9999))
 else
  k false
def qc3 (n:Int):Option Bool:=
 let k:Bool→Option Bool:=fun v=>
  some v
 bif decide (0≤n) then
  k (decide (n≤109572))
 else
  k false
def qas_L4:((List Loan)×(List Loan)×Int×Int×Unit)→Option (((List Loan)×(List Loan)×Int×Int×Unit)⊕((Unit)⊕(Int×Unit))):=fun (l,v,v1,v2,_)=>
 bif decide (v2<v1) then
  match getI v v2 with
  |some x=>
   let k25:Bool→Option (((List Loan)×(List Loan)×Int×Int×Unit)⊕((Unit)⊕(Int×Unit))):=fun v4=>
    let k24:Int→Option (((List Loan)×(List Loan)×Int×Int×Unit)⊕((Unit)⊕(Int×Unit))):=fun v23=>
     some (.inr (.inr (v23,())))
    bif v4 then
     k24 7
    else
     match qdw x.Item with
     |some r5=>
      let k22:Bool→Option (((List Loan)×(List Loan)×Int×Int×Unit)⊕((Unit)⊕(Int×Unit))):=fun v8=>
       let k21:Bool→Option (((List Loan)×(List Loan)×Int×Int×Unit)⊕((Unit)⊕(Int×Unit))):=fun v11=>
        let k20:Bool→Option (((List Loan)×(List Loan)×Int×Int×Unit)⊕((Unit)⊕(Int×Unit))):=fun v14=>
         let k19:Bool→Option (((List Loan)×(List Loan)×Int×Int×Unit)⊕((Unit)⊕(Int×Unit))):=fun v15=>
          let k18:Bool→Option (((List Loan)×(List Loan)×Int×Int×Unit)⊕((Unit)⊕(Int×Unit))):=fun v16=>
           let k:Bool→Option (((List Loan)×(List Loan)×Int×Int×Unit)⊕((Unit)⊕(Int×Unit))):=fun v17=>
            bif v17 then
             k24 2
            else
             some (.inl (l,v,v1,wr .i64 (v2+1),()))
           bif v16 then
            k true
           else
            k (decide (10<x.Renewals))
          bif v15 then
           k18 true
          else
           k18 (decide (x.Renewals<0))
         bif v14 then
          k19 true
         else
          k19 (decide (x.Due<x.Out))
        bif v11 then
         k20 true
        else
         match qc3 x.Due with
         |some r13=>
          k20 (!r13)
         |none=>none
       bif v8 then
        k21 true
       else
        match qc3 x.Out with
        |some r10=>
         k21 (!r10)
        |none=>none
      bif !r5 then
       k22 true
      else
       match qdw x.Patron with
       |some r7=>
        k22 (!r7)
       |none=>none
     |none=>none
   bif decide (0<v2) then
    match getI l (wr .i64 (v2-1)) with
    |some x3=>
     k25 (decide (x.Item≤x3.Item))
    |none=>none
   else
    k25 false
  |none=>none
 else
  some (.inr (.inl (())))
def qas (l:List Loan):Option Int:=
 bif decide (64<(l.length:Int)) then
  some 13
 else
  match whileO qas_L4 (l,l,(l.length:Int),0,()) with
  |some (.inl (_))=>
   some 0
  |some (.inr (v,_))=>
   some v
  |none=>none
def qbz (n:Int) (low:Int) (high:Int):Option Bool:=
 let k:Bool→Option Bool:=fun v=>
  some v
 bif decide (low≤n) then
  k (decide (n≤high))
 else
  k false
def qdn (n:Int):Option Bool:=
 match qbz n 0 109572 with
 |some r1=>
  some r1
 |none=>none
def qem (h:Hold):Option Int:=
 match qbz h.ID 1 99999 with
 |some r1=>
  let k41:Bool→Option Int:=fun v=>
   let k40:Bool→Option Int:=fun v6=>
    let k39:Bool→Option Int:=fun v9=>
     let k38:Int→Option Int:=fun v37=>
      some v37
     bif v9 then
      k38 2
     else
      match qbz h.Pickup 1 4 with
      |some r11=>
       let k36:Bool→Option Int:=fun v14=>
        let k35:Bool→Option Int:=fun v17=>
         let k34:Bool→Option Int:=fun v20=>
          let k33:Bool→Option Int:=fun v23=>
           let k32:Bool→Option Int:=fun v26=>
            bif v26 then
             k38 2
            else
             match qbz h.State 1 3 with
             |some r28=>
              bif !r28 then
               k38 1
              else
               let k:Bool→Option Int:=fun v29=>
                bif v29 then
                 k38 12
                else
                 some 0
               bif !((decide (0<h.Got))==(!(h.State==1))) then
                k true
               else
                k (!((decide (0<h.Until))==(h.State==3)))
             |none=>none
           bif v23 then
            k32 true
           else
            match qbz h.Rank 0 9 with
            |some r25=>
             k32 (!r25)
            |none=>none
          bif v20 then
           k33 true
          else
           match qdn h.Asleep with
           |some r22=>
            k33 (!r22)
           |none=>none
         bif v17 then
          k34 true
         else
          match qdn h.Until with
          |some r19=>
           k34 (!r19)
          |none=>none
        bif v14 then
         k35 true
        else
         match qbz h.Got 0 9999 with
         |some r16=>
          k35 (!r16)
         |none=>none
       bif !r11 then
        k36 true
       else
        match qdn h.Placed with
        |some r13=>
         k36 (!r13)
        |none=>none
      |none=>none
    bif v6 then
     k39 true
    else
     match qbz h.Item 0 9999 with
     |some r8=>
      k39 (!r8)
     |none=>none
   bif v then
    k40 true
   else
    match qbz h.Record 1 9999 with
    |some r5=>
     k40 (!r5)
    |none=>none
  bif !r1 then
   k41 true
  else
   match qbz h.Patron 1 9999 with
   |some r3=>
    k41 (!r3)
   |none=>none
 |none=>none
def qcx (a:Hold) (b:Hold):Option Bool:=
 let k:Bool→Option Bool:=fun v=>
  some v
 bif a.Patron==b.Patron then
  k (a.Record==b.Record)
 else
  k false
def qc_L5 {γ0:Type} (p:γ0→Hold→Hold→Option Bool):((List Hold)×γ0×Int×Int×Int×Int×Int×Unit)→Option (((List Hold)×γ0×Int×Int×Int×Int×Int×Unit)⊕(((List Hold)×γ0×Int×Int×Unit)⊕(Bool×Unit))):=fun (l,g,i,v,v2,v3,v4,_)=>
 bif decide (v4<v3) then
  match getI l v4 with
  |some x=>
   match getI l i with
   |some x5=>
    match p g x x5 with
    |some r=>
     bif r then
      some (.inr (.inr (true,())))
     else
      some (.inl (l,g,i,v,v2,v3,wr .i64 (v4+1),()))
    |none=>none
   |none=>none
  |none=>none
 else
  some (.inr (.inl (l,g,v,v2,())))
def qc_L2 {γ0:Type} (p:γ0→Hold→Hold→Option Bool):((List Hold)×γ0×Int×Int×Unit)→Option (((List Hold)×γ0×Int×Int×Unit)⊕((Unit)⊕(Bool×Unit))):=fun (l,g,v,v1,_)=>
 bif decide (v1<v) then
  match whileO (qc_L5 p) (l,g,v1,v,v1,v1,0,()) with
  |some (.inl (l6,g7,v8,v9,_))=>
   some (.inl (l6,g7,v8,wr .i64 (v9+1),()))
  |some (.inr (v10,_))=>
   some (.inr (.inr (v10,())))
  |none=>none
 else
  some (.inr (.inl (())))
def qc {γ0:Type} (p:γ0→Hold→Hold→Option Bool) (l:List Hold) (g:γ0):Option Bool:=
 match whileO (qc_L2 p) (l,g,(l.length:Int),0,()) with
 |some (.inl (_))=>
  some false
 |some (.inr (v,_))=>
  some v
 |none=>none
def qcw (a:Hold) (b:Hold):Option Bool:=
 let k:Bool→Option Bool:=fun v=>
  some v
 bif a.Got==b.Got then
  k (decide (0<a.Got))
 else
  k false
def qf_L4:((List Hold)×(List Hold)×Int×Int×Unit)→Option (((List Hold)×(List Hold)×Int×Int×Unit)⊕(((List Hold)×Unit)⊕(Int×Unit))):=fun (l,v,v1,v2,_)=>
 bif decide (v2<v1) then
  match getI v v2 with
  |some x=>
   let k:Bool→Option (((List Hold)×(List Hold)×Int×Int×Unit)⊕(((List Hold)×Unit)⊕(Int×Unit))):=fun v4=>
    bif v4 then
     some (.inr (.inr (7,())))
    else
     match qem x with
     |some r5=>
      bif !(r5==0) then
       some (.inr (.inr (r5,())))
      else
       some (.inl (l,v,v1,wr .i64 (v2+1),()))
     |none=>none
   bif decide (0<v2) then
    match getI l (wr .i64 (v2-1)) with
    |some x3=>
     k (decide (x.ID≤x3.ID))
    |none=>none
   else
    k false
  |none=>none
 else
  some (.inr (.inl (l,())))
def qf (l:List Hold):Option Int:=
 bif decide (64<(l.length:Int)) then
  some 13
 else
  match whileO qf_L4 (l,l,(l.length:Int),0,()) with
  |some (.inl (l6,_))=>
   match qc (fun g x0 x1=>qcx x0 x1) l6 ((),()) with
   |some r7=>
    bif r7 then
     some 7
    else
     match qc (fun g x0 x1=>qcw x0 x1) l6 ((),()) with
     |some r9=>
      bif r9 then
       some 7
      else
       some 0
     |none=>none
   |none=>none
  |some (.inr (v,_))=>
   some v
  |none=>none
def qdt (n:Int):Option Bool:=
 let k:Bool→Option Bool:=fun v=>
  some v
 bif decide (1≤n) then
  k (decide (n≤9999))
 else
  k false
def qc2 (n:Int):Option Bool:=
 let k:Bool→Option Bool:=fun v=>
  some v
 bif decide (0≤n) then
  k (decide (n≤109572))
 else
  k false
def qay (x:Charge):Option Int:=
 let k22:Bool→Option Int:=fun v=>
  let k21:Bool→Option Int:=fun v2=>
   let k20:Bool→Option Int:=fun v5=>
    let k19:Bool→Option Int:=fun v8=>
     let k18:Int→Option Int:=fun v17=>
      some v17
     bif v8 then
      k18 2
     else
      let k16:Bool→Option Int:=fun v9=>
       bif v9 then
        k18 1
       else
        let k14:Bool→Option Int:=fun v10=>
         let k13:Bool→Option Int:=fun v11=>
          let k:Bool→Option Int:=fun v12=>
           bif v12 then
            k18 2
           else
            some 0
          bif v11 then
           k true
          else
           k (decide (x.Amount≤x.Paid))
         bif v10 then
          k13 true
         else
          k13 (decide (x.Paid<0))
        bif decide (x.Amount<1) then
         k14 true
        else
         k14 (decide (100000000<x.Amount))
      bif decide (x.Kind<1) then
       k16 true
      else
       k16 (decide (3<x.Kind))
    bif v5 then
     k19 true
    else
     match qc2 x.Day with
     |some r7=>
      k19 (!r7)
     |none=>none
   bif v2 then
    k20 true
   else
    match qdt x.Item with
    |some r4=>
     k20 (!r4)
    |none=>none
  bif v then
   k21 true
  else
   match qdt x.Patron with
   |some r1=>
    k21 (!r1)
   |none=>none
 bif decide (x.ID<1) then
  k22 true
 else
  k22 (decide (99999<x.ID))
def qat_L4:((List Charge)×(List Charge)×Int×Int×Unit)→Option (((List Charge)×(List Charge)×Int×Int×Unit)⊕((Unit)⊕(Int×Unit))):=fun (l,v,v1,v2,_)=>
 bif decide (v2<v1) then
  match getI v v2 with
  |some x=>
   let k:Bool→Option (((List Charge)×(List Charge)×Int×Int×Unit)⊕((Unit)⊕(Int×Unit))):=fun v4=>
    bif v4 then
     some (.inr (.inr (7,())))
    else
     match qay x with
     |some r5=>
      bif !(r5==0) then
       some (.inr (.inr (r5,())))
      else
       some (.inl (l,v,v1,wr .i64 (v2+1),()))
     |none=>none
   bif decide (0<v2) then
    match getI l (wr .i64 (v2-1)) with
    |some x3=>
     k (decide (x.ID≤x3.ID))
    |none=>none
   else
    k false
  |none=>none
 else
  some (.inr (.inl (())))
def qat (l:List Charge):Option Int:=
 bif decide (128<(l.length:Int)) then
  some 13
 else
  match whileO qat_L4 (l,l,(l.length:Int),0,()) with
  |some (.inl (_))=>
   some 0
  |some (.inr (v,_))=>
   some v
  |none=>none
def qbw (n:Int) (least:Int) (most:Int):Option Bool:=
 let k:Bool→Option Bool:=fun v=>
  some v
 bif decide (least≤n) then
  k (decide (n≤most))
 else
  k false
def qd5 (r:Rule):Option Bool:=
 match qbw r.Patron 0 9 with
 |some r2=>
  let k48:Bool→Option Bool:=fun v=>
   let k47:Bool→Option Bool:=fun v7=>
    let k46:Bool→Option Bool:=fun v10=>
     let k45:Bool→Option Bool:=fun v13=>
      let k44:Bool→Option Bool:=fun v16=>
       let k43:Bool→Option Bool:=fun v19=>
        let k42:Bool→Option Bool:=fun v22=>
         let k41:Bool→Option Bool:=fun v25=>
          let k40:Bool→Option Bool:=fun v28=>
           let k39:Bool→Option Bool:=fun v31=>
            let k38:Bool→Option Bool:=fun v34=>
             let k:Bool→Option Bool:=fun v37=>
              some v37
             bif v34 then
              match qbw r.Rank 0 9 with
              |some r36=>
               k r36
              |none=>none
             else
              k false
            bif v31 then
             match qbw r.Fixed 0 109572 with
             |some r33=>
              k38 r33
             |none=>none
            else
             k38 false
           bif v28 then
            match qbw r.Recall 1 60 with
            |some r30=>
             k39 r30
            |none=>none
           else
            k39 false
          bif v25 then
           match qbw r.Shelf 1 60 with
           |some r27=>
            k40 r27
           |none=>none
          else
           k40 false
         bif v22 then
          match qbw r.Loans 0 99 with
          |some r24=>
           k41 r24
          |none=>none
         else
          k41 false
        bif v19 then
         match qbw r.MaxFine 0 100000000 with
         |some r21=>
          k42 r21
         |none=>none
        else
         k42 false
       bif v16 then
        match qbw r.Grace 0 30 with
        |some r18=>
         k43 r18
        |none=>none
       else
        k43 false
      bif v13 then
       match qbw r.Fine 0 1000 with
       |some r15=>
        k44 r15
       |none=>none
      else
       k44 false
     bif v10 then
      match qbw r.Renewals 0 10 with
      |some r12=>
       k45 r12
      |none=>none
     else
      k45 false
    bif v7 then
     match qbw r.Days 0 365 with
     |some r9=>
      k46 r9
     |none=>none
    else
     k46 false
   bif v then
    match qbw r.Branch 0 4 with
    |some r6=>
     k47 r6
    |none=>none
   else
    k47 false
  bif r2 then
   match qbw r.Item 0 9 with
   |some r4=>
    k48 r4
   |none=>none
  else
   k48 false
 |none=>none
def qcg (o:Rule) (v:Rule):Option Bool:=
 let k3:Bool→Option Bool:=fun v1=>
  let k:Bool→Option Bool:=fun v2=>
   some v2
  bif v1 then
   k (o.Branch==v.Branch)
  else
   k false
 bif o.Patron==v.Patron then
  k3 (o.Item==v.Item)
 else
  k3 false
def qaz_L2 {γ0:Type} (p:γ0→Rule→Option Bool):((List Rule)×γ0×Int×Int×Unit)→Option (((List Rule)×γ0×Int×Int×Unit)⊕((Unit)⊕(Int×Unit))):=fun (s,g,v,v1,_)=>
 bif decide (v1<v) then
  match getI s v1 with
  |some x=>
   match p g x with
   |some r=>
    bif r then
     some (.inr (.inr (v1,())))
    else
     some (.inl (s,g,v,wr .i64 (v1+1),()))
   |none=>none
  |none=>none
 else
  some (.inr (.inl (())))
def qaz {γ0:Type} (p:γ0→Rule→Option Bool) (s:List Rule) (g:γ0):Option Int:=
 match whileO (qaz_L2 p) (s,g,(s.length:Int),0,()) with
 |some (.inl (_))=>
  some (-1)
 |some (.inr (v,_))=>
  some v
 |none=>none
def qdx {γ0:Type} (p:γ0→Rule→Option Bool) (s:List Rule) (g:γ0):Option Bool:=
 match qaz p s g with
 |some r1=>
  some (decide (0≤r1))
 |none=>none
def qr_L4:((List Rule)×(List Rule)×Int×Int×Unit)→Option (((List Rule)×(List Rule)×Int×Int×Unit)⊕((Unit)⊕(Int×Unit))):=fun (l,v,v1,v2,_)=>
 bif decide (v2<v1) then
  match getI v v2 with
  |some x=>
   match qd5 x with
   |some r3=>
    bif !r3 then
     some (.inr (.inr (2,())))
    else
     bif decide (0≤(0:Int))&&(decide ((0:Int)≤v2)&&decide (v2≤(l.length:Int))) then
     match qdx (fun g x0=>qcg x0 g.2.1) ((l.take v2.toNat).drop (0:Int).toNat) ((),(x,())) with
     |some r5=>
      bif r5 then
       some (.inr (.inr (7,())))
      else
       some (.inl (l,v,v1,wr .i64 (v2+1),()))
     |none=>none
     else none
   |none=>none
  |none=>none
 else
  some (.inr (.inl (())))
def qr (l:List Rule):Option Int:=
 bif decide (32<(l.length:Int)) then
  some 13
 else
  match whileO qr_L4 (l,l,(l.length:Int),0,()) with
  |some (.inl (_))=>
   some 0
  |some (.inr (v,_))=>
   some v
  |none=>none
def qch (d:Int):Option Bool:=
 let k:Bool→Option Bool:=fun v=>
  some v
 bif decide (0≤d) then
  k (decide (d≤109572))
 else
  k false
def qcf (d:Int):Option Bool:=
 match qch d with
 |some r1=>
  some (!r1)
 |none=>none
def qa0_L2 {γ0:Type} (p:γ0→Int→Option Bool):((List Int)×γ0×Int×Int×Unit)→Option (((List Int)×γ0×Int×Int×Unit)⊕((Unit)⊕(Int×Unit))):=fun (s,g,v,v1,_)=>
 bif decide (v1<v) then
  match getI s v1 with
  |some x=>
   match p g x with
   |some r=>
    bif r then
     some (.inr (.inr (v1,())))
    else
     some (.inl (s,g,v,wr .i64 (v1+1),()))
   |none=>none
  |none=>none
 else
  some (.inr (.inl (())))
def qa0 {γ0:Type} (p:γ0→Int→Option Bool) (s:List Int) (g:γ0):Option Int:=
 match whileO (qa0_L2 p) (s,g,(s.length:Int),0,()) with
 |some (.inl (_))=>
  some (-1)
 |some (.inr (v,_))=>
  some v
 |none=>none
def qdy {γ0:Type} (p:γ0→Int→Option Bool) (s:List Int) (g:γ0):Option Bool:=
 match qa0 p s g with
 |some r1=>
  some (decide (0≤r1))
 |none=>none
def qq_L8:((List Int)×Int×Int×Calendar×Unit)→Option (((List Int)×Int×Int×Calendar×Unit)⊕((Unit)⊕(Int×Unit))):=fun (v,v4,v5,c,_)=>
 bif decide (v5<v4) then
  match getI v v5 with
  |some x=>
   let k:Bool→Option (((List Int)×Int×Int×Calendar×Unit)⊕((Unit)⊕(Int×Unit))):=fun v7=>
    bif v7 then
     some (.inr (.inr (7,())))
    else
     some (.inl (v,v4,wr .i64 (v5+1),c,()))
   bif decide (0<v5) then
    match getI c.Closed (wr .i64 (v5-1)) with
    |some x6=>
     k (decide (x≤x6))
    |none=>none
   else
    k false
  |none=>none
 else
  some (.inr (.inl (())))
def qq (c:Calendar):Option Int:=
 let k9:Bool→Option Int:=fun v=>
  let k:Int→Option Int:=fun v3=>
   some v3
  bif v then
   k 1
  else
   bif decide (64<(c.Closed.length:Int)) then
    k 13
   else
    match qdy (fun g x0=>qcf x0) c.Closed ((),()) with
    |some r1=>
     bif r1 then
      k 2
     else
      match whileO qq_L8 (c.Closed,(c.Closed.length:Int),0,c,()) with
      |some (.inl (_))=>
       some 0
      |some (.inr (v8,_))=>
       some v8
      |none=>none
    |none=>none
 bif decide (c.Week<0) then
  k9 true
 else
  k9 (decide (127≤c.Week))
def qi_L4:((V4 Calendar)×Int×Circ×Unit)→Option (((V4 Calendar)×Int×Circ×Unit)⊕((Circ×Unit)⊕(Bool×Unit))):=fun (v,v13,c,_)=>
 bif decide (v13<4) then
  let k:Int→(List Int)→Option (((V4 Calendar)×Int×Circ×Unit)⊕((Circ×Unit)⊕(Bool×Unit))):=fun v14 v15=>
   match qq (⟨v14,v15⟩:Calendar) with
   |some r16=>
    bif !(r16==0) then
     some (.inr (.inr (false,())))
    else
     some (.inl (v,wr .i64 (v13+1),c,()))
   |none=>none
  bif v13==0 then
   k v.x0.Week v.x0.Closed
  else bif v13==1 then
   k v.x1.Week v.x1.Closed
  else bif v13==2 then
   k v.x2.Week v.x2.Closed
  else bif v13==3 then
   k v.x3.Week v.x3.Closed
  else none
 else
  some (.inr (.inl (c,())))
def qi_L12:((List Hold)×Int×Int×Circ×Unit)→Option (((List Hold)×Int×Int×Circ×Unit)⊕((Circ×Unit)⊕(Bool×Unit))):=fun (v,v23,v24,c,_)=>
 bif decide (v24<v23) then
  match getI v v24 with
  |some x=>
   bif decide (c.NextHold≤x.ID) then
    some (.inr (.inr (false,())))
   else
    some (.inl (v,v23,wr .i64 (v24+1),c,()))
  |none=>none
 else
  some (.inr (.inl (c,())))
def qi_L18:((List Charge)×Int×Int×Circ×Unit)→Option (((List Charge)×Int×Int×Circ×Unit)⊕((Unit)⊕(Bool×Unit))):=fun (v,v26,v27,c,_)=>
 bif decide (v27<v26) then
  match getI v v27 with
  |some x=>
   bif decide (c.NextCharge≤x.ID) then
    some (.inr (.inr (false,())))
   else
    some (.inl (v,v26,wr .i64 (v27+1),c,()))
  |none=>none
 else
  some (.inr (.inl (())))
def qi (c:Circ):Option Bool:=
 match qap c.Patrons with
 |some r1=>
  let k34:Bool→Option Bool:=fun v=>
   let k33:Bool→Option Bool:=fun v6=>
    let k32:Bool→Option Bool:=fun v9=>
     let k31:Bool→Option Bool:=fun v12=>
      bif v12 then
       some false
      else
       match whileO qi_L4 (c.Cals,0,c,()) with
       |some (.inl (c17,_))=>
        match qb0 c17.NextHold 1 100000 with
        |some r19=>
         let k:Bool→Option Bool:=fun v22=>
          bif v22 then
           some false
          else
           match whileO qi_L12 (c17.Holds,(c17.Holds.length:Int),0,c17,()) with
           |some (.inl (c25,_))=>
            match whileO qi_L18 (c25.Charges,(c25.Charges.length:Int),0,c25,()) with
            |some (.inl (_))=>
             some true
            |some (.inr (v28,_))=>
             some v28
            |none=>none
           |some (.inr (v29,_))=>
            some v29
           |none=>none
         bif !r19 then
          k true
         else
          match qb0 c17.NextCharge 1 100000 with
          |some r21=>
           k (!r21)
          |none=>none
        |none=>none
       |some (.inr (v30,_))=>
        some v30
       |none=>none
     bif v9 then
      k31 true
     else
      match qr c.Rules with
      |some r11=>
       k31 (!(r11==0))
      |none=>none
    bif v6 then
     k32 true
    else
     match qat c.Charges with
     |some r8=>
      k32 (!(r8==0))
     |none=>none
   bif v then
    k33 true
   else
    match qf c.Holds with
    |some r5=>
     k33 (!(r5==0))
    |none=>none
  bif !(r1==0) then
   k34 true
  else
   match qas c.Loans with
   |some r3=>
    k34 (!(r3==0))
   |none=>none
 |none=>none
def qc4 (p:Patron) (v:Int):Option Bool:=
 some (p.ID==v)
def ql_L2 {γ0:Type} (p:γ0→Patron→Option Bool):((List Patron)×γ0×Int×Int×Unit)→Option (((List Patron)×γ0×Int×Int×Unit)⊕((Unit)⊕(Int×Unit))):=fun (s,g,v,v1,_)=>
 bif decide (v1<v) then
  match getI s v1 with
  |some x=>
   match p g x with
   |some r=>
    bif r then
     some (.inr (.inr (v1,())))
    else
     some (.inl (s,g,v,wr .i64 (v1+1),()))
   |none=>none
  |none=>none
 else
  some (.inr (.inl (())))
def ql {γ0:Type} (p:γ0→Patron→Option Bool) (s:List Patron) (g:γ0):Option Int:=
 match whileO (ql_L2 p) (s,g,(s.length:Int),0,()) with
 |some (.inl (_))=>
  some (-1)
 |some (.inr (v,_))=>
  some v
 |none=>none
def qah (l:List Patron) (vid:Int):Option Int:=
 match ql (fun g x0=>qc4 x0 g.2.1) l ((),(vid,())) with
 |some r1=>
  some r1
 |none=>none
def qb4 (l:List Patron) (vid:Int):Option (Patron×Bool):=
 match qah l vid with
 |some r1=>
  bif decide (r1<0) then
   some ((⟨0,0,0,0,false,[]⟩:Patron),false)
  else
   match getI l r1 with
   |some x=>
    some (x,true)
   |none=>none
 |none=>none
def qbs (vid:Int) (v:Circ):Option Bool:=
 match qb4 v.Patrons vid with
 |some (r1,r2)=>
  some r2
 |none=>none
def qe_L3:((List Loan)×Int×Int×Circ×Unit)→Option (((List Loan)×Int×Int×Circ×Unit)⊕((Circ×Unit)⊕(Bool×Unit))):=fun (v,v1,v2,c,_)=>
 bif decide (v2<v1) then
  match getI v v2 with
  |some x=>
   match qbs x.Patron c with
   |some r3=>
    let k:Bool→Option (((List Loan)×Int×Int×Circ×Unit)⊕((Circ×Unit)⊕(Bool×Unit))):=fun v6=>
     bif v6 then
      some (.inr (.inr (false,())))
     else
      some (.inl (v,v1,wr .i64 (v2+1),c,()))
    bif !r3 then
     k true
    else
     match qaa c x.Item with
     |some r5=>
      k (decide (r5<0))
     |none=>none
   |none=>none
  |none=>none
 else
  some (.inr (.inl (c,())))
def qe_L9:((List Hold)×Int×Int×Circ×Unit)→Option (((List Hold)×Int×Int×Circ×Unit)⊕((Circ×Unit)⊕(Bool×Unit))):=fun (v,v8,v9,c,_)=>
 bif decide (v9<v8) then
  match getI v v9 with
  |some x=>
   match qbs x.Patron c with
   |some r10=>
    bif !r10 then
     some (.inr (.inr (false,())))
    else
     some (.inl (v,v8,wr .i64 (v9+1),c,()))
   |none=>none
  |none=>none
 else
  some (.inr (.inl (c,())))
def qe_L15:((List Charge)×Int×Int×Circ×Unit)→Option (((List Charge)×Int×Int×Circ×Unit)⊕((Unit)⊕(Bool×Unit))):=fun (v,v12,v13,c,_)=>
 bif decide (v13<v12) then
  match getI v v13 with
  |some x=>
   match qbs x.Patron c with
   |some r14=>
    bif !r14 then
     some (.inr (.inr (false,())))
    else
     some (.inl (v,v12,wr .i64 (v13+1),c,()))
   |none=>none
  |none=>none
 else
  some (.inr (.inl (())))
def qe (c:Circ):Option Bool:=
 match whileO qe_L3 (c.Loans,(c.Loans.length:Int),0,c,()) with
 |some (.inl (c7,_))=>
  match whileO qe_L9 (c7.Holds,(c7.Holds.length:Int),0,c7,()) with
  |some (.inl (c11,_))=>
   match whileO qe_L15 (c11.Charges,(c11.Charges.length:Int),0,c11,()) with
   |some (.inl (_))=>
    some true
   |some (.inr (v,_))=>
    some v
   |none=>none
  |some (.inr (v15,_))=>
   some v15
  |none=>none
 |some (.inr (v16,_))=>
  some v16
 |none=>none
def q8 (item:Int):Option (Int×Unit):=
 some (item,())
def qb9 (n:Loan) (v:Int):Option Bool:=
 some (n.Item==v)
def qm_L2 {γ0:Type} (p:γ0→Loan→Option Bool):((List Loan)×γ0×Int×Int×Unit)→Option (((List Loan)×γ0×Int×Int×Unit)⊕((Unit)⊕(Int×Unit))):=fun (s,g,v,v1,_)=>
 bif decide (v1<v) then
  match getI s v1 with
  |some x=>
   match p g x with
   |some r=>
    bif r then
     some (.inr (.inr (v1,())))
    else
     some (.inl (s,g,v,wr .i64 (v1+1),()))
   |none=>none
  |none=>none
 else
  some (.inr (.inl (())))
def qm {γ0:Type} (p:γ0→Loan→Option Bool) (s:List Loan) (g:γ0):Option Int:=
 match whileO (qm_L2 p) (s,g,(s.length:Int),0,()) with
 |some (.inl (_))=>
  some (-1)
 |some (.inr (v,_))=>
  some v
 |none=>none
def qac {γ0:Type} (p:γ0→Loan→Option Bool) (l:List Loan) (g:γ0):Option (Loan×Int):=
 match qm p l g with
 |some r1=>
  bif decide (r1<0) then
   some ((⟨0,0,0,0,0,false⟩:Loan),(-1))
  else
   match getI l r1 with
   |some x=>
    some (x,r1)
   |none=>none
 |none=>none
def qco (l:List Loan) (item:Int):Option (Loan×Bool):=
 match q8 item with
 |some r1=>
  match qac (fun g x0=>qb9 x0 g.2.1) l ((),(r1.1,())) with
  |some (r3,r4)=>
   some (r3,decide (0≤r4))
  |none=>none
 |none=>none
def qa1_L2:((List Item)×Int×Int×Circ×Unit)→Option (((List Item)×Int×Int×Circ×Unit)⊕((Unit)⊕(Bool×Unit))):=fun (v,v1,v2,c,_)=>
 bif decide (v2<v1) then
  match getI v v2 with
  |some x=>
   match qco c.Loans x.ID with
   |some (r3,r4)=>
    let k10:Bool→Option (((List Item)×Int×Int×Circ×Unit)⊕((Unit)⊕(Bool×Unit))):=fun v5=>
     let k9:Bool→Option (((List Item)×Int×Int×Circ×Unit)⊕((Unit)⊕(Bool×Unit))):=fun v6=>
      let k:Bool→Option (((List Item)×Int×Int×Circ×Unit)⊕((Unit)⊕(Bool×Unit))):=fun v8=>
       bif v8 then
        some (.inr (.inr (false,())))
       else
        some (.inl (v,v1,wr .i64 (v2+1),c,()))
      bif !(r4==v6) then
       k true
      else
       bif r4 then
        k (!(r3.Patron==x.Custody.Who))
       else
        k false
     bif v5 then
      k9 true
     else
      k9 (x.Custody.State==10)
    bif x.Custody.State==4 then
     k10 true
    else
     k10 (x.Custody.State==9)
   |none=>none
  |none=>none
 else
  some (.inr (.inl (())))
def qa1 (c:Circ):Option Bool:=
 match whileO qa1_L2 (c.Items,(c.Items.length:Int),0,c,()) with
 |some (.inl (_))=>
  some true
 |some (.inr (v,_))=>
  some v
 |none=>none
def qdb (h:Hold) (v:Int):Option Bool:=
 some (h.Got==v)
def qa_L2 {γ0:Type} (p:γ0→Hold→Option Bool):((List Hold)×γ0×Int×Int×Unit)→Option (((List Hold)×γ0×Int×Int×Unit)⊕((Unit)⊕(Int×Unit))):=fun (s,g,v,v1,_)=>
 bif decide (v1<v) then
  match getI s v1 with
  |some x=>
   match p g x with
   |some r=>
    bif r then
     some (.inr (.inr (v1,())))
    else
     some (.inl (s,g,v,wr .i64 (v1+1),()))
   |none=>none
  |none=>none
 else
  some (.inr (.inl (())))
def qa {γ0:Type} (p:γ0→Hold→Option Bool) (s:List Hold) (g:γ0):Option Int:=
 match whileO (qa_L2 p) (s,g,(s.length:Int),0,()) with
 |some (.inl (_))=>
  some (-1)
 |some (.inr (v,_))=>
  some v
 |none=>none
def qad (c:Circ) (item:Int):Option (Hold×Bool):=
 match qa (fun g x0=>qdb x0 g.2.1) c.Holds ((),(item,())) with
 |some r1=>
  bif decide (r1<0) then
   some ((⟨0,0,0,0,0,0,0,0,0,0,0⟩:Hold),false)
  else
   match getI c.Holds r1 with
   |some x=>
    some (x,true)
   |none=>none
 |none=>none
def qv_L2:((List Hold)×Int×Int×Circ×Unit)→Option (((List Hold)×Int×Int×Circ×Unit)⊕((Circ×Unit)⊕(Bool×Unit))):=fun (v,v1,v2,c,_)=>
 bif decide (v2<v1) then
  match getI v v2 with
  |some x=>
   bif x.State==1 then
    some (.inl (v,v1,wr .i64 (v2+1),c,()))
   else
    match qaa c x.Got with
    |some r3=>
     let k9:Bool→Option (((List Hold)×Int×Int×Circ×Unit)⊕((Circ×Unit)⊕(Bool×Unit))):=fun v5=>
      bif v5 then
       some (.inr (.inr (false,())))
      else
       match getI c.Items r3 with
       |some x6=>
        let k:Int→Int→Int→Option (((List Hold)×Int×Int×Circ×Unit)⊕((Circ×Unit)⊕(Bool×Unit))):=fun want want7 want8=>
         bif !(eqT_Custody x6.Custody (⟨want,want7,x.Patron,want8⟩:Custody)) then
          some (.inr (.inr (false,())))
         else
          some (.inl (v,v1,wr .i64 (v2+1),c,()))
        bif x.State==2 then
         k 6 x6.Custody.Branch x.Pickup
        else
         k 5 x.Pickup 0
       |none=>none
     bif decide (r3<0) then
      k9 true
     else
      match getI c.Items r3 with
      |some x4=>
       k9 (!(x4.Record==x.Record))
      |none=>none
    |none=>none
  |none=>none
 else
  some (.inr (.inl (c,())))
def qv_L16:((List Item)×Int×Int×Circ×Unit)→Option (((List Item)×Int×Int×Circ×Unit)⊕((Unit)⊕(Bool×Unit))):=fun (v,v11,v12,c,_)=>
 bif decide (v12<v11) then
  match getI v v12 with
  |some x=>
   match qad c x.ID with
   |some (r13,r14)=>
    let k:Bool→Option (((List Item)×Int×Int×Circ×Unit)⊕((Unit)⊕(Bool×Unit))):=fun v16=>
     bif v16 then
      some (.inr (.inr (false,())))
     else
      some (.inl (v,v11,wr .i64 (v12+1),c,()))
    bif x.Custody.State==5 then
     bif !r14 then
      k true
     else
      k (!(r13.State==3))
    else
     k false
   |none=>none
  |none=>none
 else
  some (.inr (.inl (())))
def qv (c:Circ):Option Bool:=
 match whileO qv_L2 (c.Holds,(c.Holds.length:Int),0,c,()) with
 |some (.inl (c10,_))=>
  match whileO qv_L16 (c10.Items,(c10.Items.length:Int),0,c10,()) with
  |some (.inl (_))=>
   some true
  |some (.inr (v,_))=>
   some v
  |none=>none
 |some (.inr (v17,_))=>
  some v17
 |none=>none
def qdj (c:Circ):Option Bool:=
 match qb0 c.Today 0 109572 with
 |some r1=>
  let k19:Bool→Option Bool:=fun v=>
   let k18:Bool→Option Bool:=fun v6=>
    let k17:Bool→Option Bool:=fun v9=>
     let k16:Bool→Option Bool:=fun v12=>
      let k:Bool→Option Bool:=fun v15=>
       some v15
      bif v12 then
       match qv c with
       |some r14=>
        k r14
       |none=>none
      else
       k false
     bif v9 then
      match qa1 c with
      |some r11=>
       k16 r11
      |none=>none
     else
      k16 false
    bif v6 then
     match qe c with
     |some r8=>
      k17 r8
     |none=>none
    else
     k17 false
   bif v then
    match qi c with
    |some r5=>
     k18 r5
    |none=>none
   else
    k18 false
  bif r1 then
   match qj c with
   |some r3=>
    k19 r3
   |none=>none
  else
   k19 false
 |none=>none
def qai (c:Circ) (x:Item):Option (Circ×Int):=
 match qaa c x.ID with
 |some r1=>
  bif decide (0≤r1) then
   some ((⟨0,[],[],[],[],[],[],⟨⟨0,[]⟩,⟨0,[]⟩,⟨0,[]⟩,⟨0,[]⟩⟩,[],0,0,false⟩:Circ),7)
  else
   bif decide (64≤(c.Items.length:Int)) then
    some ((⟨0,[],[],[],[],[],[],⟨⟨0,[]⟩,⟨0,[]⟩,⟨0,[]⟩,⟨0,[]⟩⟩,[],0,0,false⟩:Circ),13)
   else
    match qc9 x.Branch with
    |some r3=>
     match qd (fun g x0=>qc7 x0 g.2.1) c.Items ((),(x,())) with
     |some r5=>
      let k:Int→Option (Circ×Int):=fun i=>
       match qcc c.Items with
       |some l=>
        match qfb l i ([(⟨x.ID,x.Record,x.Branch,x.Kind,x.Price,x.Call,r3⟩:Item)]) with
        |some l8=>
         match qdj (⟨c.Today,l8,c.Patrons,c.Loans,c.Holds,c.Charges,c.Rules,c.Cals,c.Moves,c.NextHold,c.NextCharge,c.Local⟩:Circ) with
         |some r10=>
          bif !r10 then
           some ((⟨0,[],[],[],[],[],[],⟨⟨0,[]⟩,⟨0,[]⟩,⟨0,[]⟩,⟨0,[]⟩⟩,[],0,0,false⟩:Circ),1)
          else
           some ((⟨c.Today,l8,c.Patrons,c.Loans,c.Holds,c.Charges,c.Rules,c.Cals,c.Moves,c.NextHold,c.NextCharge,c.Local⟩:Circ),0)
         |none=>none
        |none=>none
       |none=>none
      bif decide (r5<0) then
       k (c.Items.length:Int)
      else
       k r5
     |none=>none
    |none=>none
 |none=>none
def qdd (x:Patron) (v:Patron):Option Bool:=
 some (decide (v.ID<x.ID))
def qcs (s:List Patron):Option (List Patron):=
 bif decide (([]:List Patron).length+s.length≤LIM) then
 some (([])++s)
 else none
def qd1 (l:List Patron):Option ((List Patron)×Int):=
 match qap l with
 |some r1=>
  bif !(r1==0) then
   some ([],r1)
  else
   some (l,0)
 |none=>none
def qar (l:List Patron) (p:Patron):Option ((List Patron)×Int):=
 match qah l p.ID with
 |some r1=>
  bif decide (0≤r1) then
   some ([],7)
  else
   match ql (fun g x0=>qdd x0 g.2.1) l ((),(p,())) with
   |some r3=>
    let k:Int→Option ((List Patron)×Int):=fun i=>
     match qcs l with
     |some l5=>
      match qe9 l5 i ([p]) with
      |some l7=>
       match qd1 l7 with
       |some (r9,r10)=>
        some (r9,r10)
       |none=>none
      |none=>none
     |none=>none
    bif decide (r3<0) then
     k (l.length:Int)
    else
     k r3
   |none=>none
 |none=>none
def qc1 (c:Circ) (p:Patron):Option (Circ×Int):=
 match qar c.Patrons p with
 |some (r1,r2)=>
  bif !(r2==0) then
   some ((⟨0,[],[],[],[],[],[],⟨⟨0,[]⟩,⟨0,[]⟩,⟨0,[]⟩,⟨0,[]⟩⟩,[],0,0,false⟩:Circ),r2)
  else
   some ((⟨c.Today,c.Items,r1,c.Loans,c.Holds,c.Charges,c.Rules,c.Cals,c.Moves,c.NextHold,c.NextCharge,c.Local⟩:Circ),0)
 |none=>none
def qd9:Option Circ:=
 match qe3 100 with
 |some r1=>
  match qai (⟨r1.Today,r1.Items,r1.Patrons,r1.Loans,r1.Holds,r1.Charges,[(⟨0,0,0,14,1,10,0,500,2,5,7,0,0⟩:Rule)],r1.Cals,r1.Moves,r1.NextHold,r1.NextCharge,r1.Local⟩:Circ) (⟨1,5,1,1,2000,[],⟨0,0,0,0⟩⟩:Item) with
  |some (r3,r4)=>
   match qc1 r3 (⟨7,1,1,5000,false,[65,110,110]⟩:Patron) with
   |some (r6,r7)=>
    match qc1 r6 (⟨8,1,1,5000,false,[66,111,98]⟩:Patron) with
    |some (r9,r10)=>
     some r9
    |none=>none
   |none=>none
  |none=>none
 |none=>none
def qby (c:Circ):Option Circ_desk:=
 some (⟨c,0⟩:Circ_desk)
def qa4 (e:Int) (d:Circ_desk):Option (Unit×Circ_desk):=
 let k:Int→Option (Unit×Circ_desk):=fun v=>
  some ((),(⟨d.c,v⟩:Circ_desk))
 bif d.err==0 then
  k e
 else
  k d.err
def qb8 (vid:Int) (d:Circ_desk):Option (Int×Circ_desk):=
 match qaa d.c vid with
 |some r1=>
  let k:Circ_desk→Option (Int×Circ_desk):=fun v3=>
   some (r1,v3)
  bif decide (r1<0) then
   match qa4 9 d with
   |some (_,v)=>
    k v
   |none=>none
  else
   k d
 |none=>none
def qct (s:List Move):Option (List Move):=
 bif decide (([]:List Move).length+s.length≤LIM) then
 some (([])++s)
 else none
def qbh (i:Int) (kind:Int) (branch:Int) (who:Int) (d:Circ_desk):Option (Unit×Circ_desk):=
 bif !(d.err==0) then
  some ((),d)
 else
  match getI d.c.Items i with
  |some x=>
   match getI d.c.Items i with
   |some x1=>
    match qda x1.Custody (⟨d.c.Today,x.ID,kind,branch,who⟩:Move) with
    |some (r2,r3)=>
     let k10:Bool→Option (Unit×Circ_desk):=fun v=>
      let k:Int→Option (Unit×Circ_desk):=fun e=>
       bif !(e==0) then
        match qa4 e d with
        |some (_,v5)=>
         some ((),v5)
        |none=>none
       else
        match qcc d.c.Items with
        |some l=>
         match getI l i with
         |some _=>
          match l[i.toNat]? with
          |some x7=>
           match qct d.c.Moves with
           |some l9=>
            bif decide (l9.length+([(⟨d.c.Today,x.ID,kind,branch,who⟩:Move)]:List Move).length≤LIM) then
            some ((),(⟨⟨d.c.Today,l.set i.toNat (⟨x7.ID,x7.Record,x7.Branch,x7.Kind,x7.Price,x7.Call,r2⟩:Item),d.c.Patrons,d.c.Loans,d.c.Holds,d.c.Charges,d.c.Rules,d.c.Cals,l9++([(⟨d.c.Today,x.ID,kind,branch,who⟩:Move)]:List Move),d.c.NextHold,d.c.NextCharge,d.c.Local⟩,d.err⟩:Circ_desk))
            else none
           |none=>none
          |none=>none
         |none=>none
        |none=>none
      bif v then
       k 13
      else
       k r3
     bif r3==0 then
      k10 (decide (2000≤(d.c.Moves.length:Int)))
     else
      k10 false
    |none=>none
   |none=>none
  |none=>none
def qbv (a:Hold) (b:Hold):Option Int:=
 some (wr .i64 (b.Rank-a.Rank))
def q9_L4 {γ0:Type} (p:γ0→Hold→Hold→Option Int):(Int×Int×γ0×Int×Int×(List Hold)×Unit)→Option ((Int×Int×γ0×Int×Int×(List Hold)×Unit)⊕((Int×Int×γ0×Int×(List Hold)×Unit))):=fun (a,b,g,i,j,l,_)=>
 let k:Bool→Option ((Int×Int×γ0×Int×Int×(List Hold)×Unit)⊕((Int×Int×γ0×Int×(List Hold)×Unit))):=fun v=>
  bif v then
   match getI l (wr .i64 (j-1)) with
   |some _=>
    match l[(wr .i64 (j-1)).toNat]? with
    |some x2=>
     match getI l j with
     |some _=>
      match l[j.toNat]? with
      |some x3=>
       match getI l j with
       |some _=>
        match l[j.toNat]? with
        |some x4=>
         match getI (l.set j.toNat x2) (wr .i64 (j-1)) with
         |some _=>
          match (l.set j.toNat x2)[(wr .i64 (j-1)).toNat]? with
          |some x5=>
           some (.inl (a,b,g,i,wr .i64 (j-1),(l.set j.toNat x2).set (wr .i64 (j-1)).toNat x3,()))
          |none=>none
         |none=>none
        |none=>none
       |none=>none
      |none=>none
     |none=>none
    |none=>none
   |none=>none
  else
   some (.inr ((a,b,g,i,l,())))
 bif decide (a<j) then
  match getI l j with
  |some _=>
   match l[j.toNat]? with
   |some x=>
    match getI l (wr .i64 (j-1)) with
    |some _=>
     match l[(wr .i64 (j-1)).toNat]? with
     |some x1=>
      match p g x x1 with
      |some r=>
       k (decide (r<0))
      |none=>none
     |none=>none
    |none=>none
   |none=>none
  |none=>none
 else
  k false
def q9_L1 {γ0:Type} (p:γ0→Hold→Hold→Option Int):(Int×Int×γ0×Int×(List Hold)×Unit)→Option ((Int×Int×γ0×Int×(List Hold)×Unit)⊕(((List Hold)×Unit))):=fun (a,b,g,i,l,_)=>
 bif decide (i<b) then
  match whileO (q9_L4 p) (a,b,g,i,i,l,()) with
  |some ((a6,b7,g8,i9,l10,_))=>
   some (.inl (a6,b7,g8,wr .i64 (i9+1),l10,()))
  |none=>none
 else
  some (.inr ((l,())))
def q9 {γ0:Type} (p:γ0→Hold→Hold→Option Int) (data:List Hold) (a:Int) (b:Int) (g:γ0):Option (List Hold):=
 match whileO (q9_L1 p) (a,b,g,wr .i64 (a+1),data,()) with
 |some ((l,_))=>
  some l
 |none=>none
def qn_L2 {γ0:Type} (p:γ0→Hold→Hold→Option Int):(Int×γ0×Int×Int×Int×(List Hold)×Unit)→Option ((Int×γ0×Int×Int×Int×(List Hold)×Unit)⊕((Int×γ0×Int×Int×(List Hold)×Unit))):=fun (n,g,blockSize,a,b,l,_)=>
 bif decide (b≤n) then
  match q9 p l a b g with
  |some l1=>
   some (.inl (n,g,blockSize,b,wr .i64 (b+blockSize),l1,()))
  |none=>none
 else
  some (.inr ((n,g,blockSize,a,l,())))
def qn_L9 {γ0:Type} (p:γ0→Hold→Hold→Option Int):(Int×γ0×Int×Int×Int×(List Hold)×Unit)→Option ((Int×γ0×Int×Int×Int×(List Hold)×Unit)⊕((Int×γ0×Int×Int×(List Hold)×Unit))):=fun (n,g,blockSize,a,b,l,_)=>
 bif decide (b≤n) then
  match qe8 p l a (wr .i64 (a+blockSize)) b g with
  |some l5=>
   some (.inl (n,g,blockSize,b,wr .i64 (b+(wr .i64 (2*blockSize))),l5,()))
  |none=>none
 else
  some (.inr ((n,g,blockSize,a,l,())))
def qn_L7 {γ0:Type} (p:γ0→Hold→Hold→Option Int):(Int×γ0×Int×(List Hold)×Unit)→Option ((Int×γ0×Int×(List Hold)×Unit)⊕(((List Hold)×Unit))):=fun (n,g,blockSize,l,_)=>
 bif decide (blockSize<n) then
  match whileO (qn_L9 p) (n,g,blockSize,0,wr .i64 (2*blockSize),l,()) with
  |some ((n6,g7,blockSize8,a,l9,_))=>
   let k:(List Hold)→Option ((Int×γ0×Int×(List Hold)×Unit)⊕(((List Hold)×Unit))):=fun l11=>
    some (.inl (n6,g7,wr .i64 (blockSize8*2),l11,()))
   bif decide (wr .i64 (a+blockSize8)<n6) then
    match qe8 p l9 a (wr .i64 (a+blockSize8)) n6 g7 with
    |some l10=>
     k l10
    |none=>none
   else
    k l9
  |none=>none
 else
  some (.inr ((l,())))
def qn {γ0:Type} (p:γ0→Hold→Hold→Option Int) (data:List Hold) (n:Int) (g:γ0):Option (List Hold):=
 match whileO (qn_L2 p) (n,g,20,0,20,data,()) with
 |some ((n2,g3,blockSize,a,l,_))=>
  match q9 p l a n2 g3 with
  |some l4=>
   match whileO (qn_L7 p) (n2,g3,blockSize,l4,()) with
   |some ((l12,_))=>
    some l12
   |none=>none
  |none=>none
 |none=>none
def qe5 {γ0:Type} (p:γ0→Hold→Hold→Option Int) (x:List Hold) (g:γ0):Option (List Hold):=
 match qn p x (x.length:Int) g with
 |some l=>
  some l
 |none=>none
def qp_L3:(Int×Int×(List Hold)×Int×Int×(List Hold)×Unit)→Option ((Int×Int×(List Hold)×Int×Int×(List Hold)×Unit)⊕(((List Hold)×Unit))):=fun (record,day,v,v1,v2,l,_)=>
 bif decide (v2<v1) then
  match getI v v2 with
  |some x=>
   let k5:Bool→Option ((Int×Int×(List Hold)×Int×Int×(List Hold)×Unit)⊕(((List Hold)×Unit))):=fun v3=>
    let k:Bool→Option ((Int×Int×(List Hold)×Int×Int×(List Hold)×Unit)⊕(((List Hold)×Unit))):=fun v4=>
     bif v4 then
      bif decide (l.length+([x]:List Hold).length≤LIM) then
      some (.inl (record,day,v,v1,wr .i64 (v2+1),l++([x]:List Hold),()))
      else none
     else
      some (.inl (record,day,v,v1,wr .i64 (v2+1),l,()))
    bif v3 then
     k (decide (x.Asleep≤day))
    else
     k false
   bif x.Record==record then
    k5 (x.State==1)
   else
    k5 false
  |none=>none
 else
  some (.inr ((l,())))
def qp (l:List Hold) (record:Int) (day:Int):Option (List Hold):=
 match whileO qp_L3 (record,day,l,(l.length:Int),0,([]:List Hold),()) with
 |some ((l6,_))=>
  match qe5 (fun g x0 x1=>qbv x0 x1) l6 ((),()) with
  |some l7=>
   some l7
  |none=>none
 |none=>none
def qbd_L3:(Int×Bool×Int×(List Hold)×Int×Int×Item×Unit)→Option ((Int×Bool×Int×(List Hold)×Int×Int×Item×Unit)⊕((Int×Unit)⊕(Int×Unit))):=fun (branch,vlocal,first,v,v2,v3,x,_)=>
 bif decide (v3<v2) then
  match getI v v3 with
  |some x4=>
   let k9:Bool→Option ((Int×Bool×Int×(List Hold)×Int×Int×Item×Unit)⊕((Int×Unit)⊕(Int×Unit))):=fun v5=>
    bif v5 then
     some (.inl (branch,vlocal,first,v,v2,wr .i64 (v3+1),x,()))
    else
     let k8:Bool→Option ((Int×Bool×Int×(List Hold)×Int×Int×Item×Unit)⊕((Int×Unit)⊕(Int×Unit))):=fun v6=>
      bif v6 then
       some (.inr (.inr (x4.ID,())))
      else
       let k:Int→Option ((Int×Bool×Int×(List Hold)×Int×Int×Item×Unit)⊕((Int×Unit)⊕(Int×Unit))):=fun first7=>
        some (.inl (branch,vlocal,first7,v,v2,wr .i64 (v3+1),x,()))
       bif first==0 then
        k x4.ID
       else
        k first
     bif !vlocal then
      k8 true
     else
      k8 (x4.Pickup==branch)
   bif !(x4.Item==0) then
    k9 (!(x4.Item==x.ID))
   else
    k9 false
  |none=>none
 else
  some (.inr (.inl (first,())))
def qbd (l:List Hold) (x:Item) (branch:Int) (day:Int) (vlocal:Bool):Option Int:=
 match qp l x.Record day with
 |some r1=>
  match whileO qbd_L3 (branch,vlocal,0,r1,(r1.length:Int),0,x,()) with
  |some (.inl (first,_))=>
   some first
  |some (.inr (v,_))=>
   some v
  |none=>none
 |none=>none
def qcp (c:Circ) (x:Item):Option Int:=
 match qbd c.Holds x x.Custody.Branch c.Today c.Local with
 |some r1=>
  some r1
 |none=>none
def qdf (h:Hold) (v:Int):Option Bool:=
 some (h.ID==v)
def qaf (l:List Hold) (vid:Int):Option Int:=
 match qa (fun g x0=>qdf x0 g.2.1) l ((),(vid,())) with
 |some r1=>
  some r1
 |none=>none
def qcq (l:List Hold) (vid:Int):Option (Hold×Bool):=
 match qaf l vid with
 |some r1=>
  bif decide (0≤r1) then
   match getI l r1 with
   |some x=>
    some (x,true)
   |none=>none
  else
   some ((⟨0,0,0,0,0,0,0,0,0,0,0⟩:Hold),false)
 |none=>none
def qc0 (i:Int) (kind:Int) (d:Circ_desk):Option (Unit×Circ_desk):=
 let k:Circ_desk→Option (Unit×Circ_desk):=fun v1=>
  some ((),v1)
 bif d.err==0 then
  match getI d.c.Items i with
  |some x=>
   match qbh i kind x.Custody.Branch 0 d with
   |some (_,v)=>
    k v
   |none=>none
  |none=>none
 else
  k d
def qdm (key:Int) (n:Int):Option Bool:=
 let k:Bool→Option Bool:=fun v=>
  some v
 bif key==0 then
  k true
 else
  k (key==n)
def qax (r:Rule) (patron:Int) (item:Int) (branch:Int):Option Bool:=
 match qdm r.Patron patron with
 |some r2=>
  let k8:Bool→Option Bool:=fun v=>
   let k:Bool→Option Bool:=fun v7=>
    some v7
   bif v then
    match qdm r.Branch branch with
    |some r6=>
     k r6
    |none=>none
   else
    k false
  bif r2 then
   match qdm r.Item item with
   |some r4=>
    k8 r4
   |none=>none
  else
   k8 false
 |none=>none
def qbi_L3:(Int×Int×Int×(List Int)×Unit)→Option ((Int×Int×Int×(List Int)×Unit)⊕((Int×Unit))):=fun (n,v,v1,l,_)=>
 bif decide (v1<v) then
  match getI l v1 with
  |some _=>
   match l[v1.toNat]? with
   |some x=>
    let k:Int→Option ((Int×Int×Int×(List Int)×Unit)⊕((Int×Unit))):=fun n2=>
     some (.inl (n2,v,wr .i64 (v1+1),l,()))
    bif !(x==0) then
     k (wr .i64 ((wr .i64 (n*2))+1))
    else
     k (wr .i64 (n*2))
   |none=>none
  |none=>none
 else
  some (.inr ((n,())))
def qbi (r:Rule):Option Int:=
 match whileO qbi_L3 (0,(([r.Patron,r.Item,r.Branch]).length:Int),0,[r.Patron,r.Item,r.Branch],()) with
 |some ((n,_))=>
  some n
 |none=>none
def qbn_L3:((List Rule)×Int×Int×Int×Int×(List Rule)×Int×Int×Unit)→Option (((List Rule)×Int×Int×Int×Int×(List Rule)×Int×Int×Unit)⊕((Int×Unit))):=fun (l,patron,item,branch,vat,v,v1,v2,_)=>
 bif decide (v2<v1) then
  match getI v v2 with
  |some x=>
   match qax x patron item branch with
   |some r3=>
    let k12:Bool→Option (((List Rule)×Int×Int×Int×Int×(List Rule)×Int×Int×Unit)⊕((Int×Unit))):=fun v10=>
     let k:Int→Option (((List Rule)×Int×Int×Int×Int×(List Rule)×Int×Int×Unit)⊕((Int×Unit))):=fun vat11=>
      some (.inl (l,patron,item,branch,vat11,v,v1,wr .i64 (v2+1),()))
     bif v10 then
      k v2
     else
      k vat
    bif r3 then
     bif decide (vat<0) then
      k12 true
     else
      match qbi x with
      |some r5=>
       match getI l vat with
       |some x6=>
        match qbi x6 with
        |some r8=>
         k12 (decide (r8<r5))
        |none=>none
       |none=>none
      |none=>none
    else
     k12 false
   |none=>none
  |none=>none
 else
  some (.inr ((vat,())))
def qbn (l:List Rule) (patron:Int) (item:Int) (branch:Int):Option Int:=
 match whileO qbn_L3 (l,patron,item,branch,(-1),l,(l.length:Int),0,()) with
 |some ((vat,_))=>
  some vat
 |none=>none
def qee (l:List Rule) (patron:Int) (item:Int) (branch:Int):Option (Rule×Bool):=
 match qbn l patron item branch with
 |some r1=>
  bif decide (r1<0) then
   some ((⟨0,0,0,0,0,0,0,0,0,0,0,0,0⟩:Rule),false)
  else
   match getI l r1 with
   |some x=>
    some (x,true)
   |none=>none
 |none=>none
def qbx (c:Circ) (vid:Int) (x:Item):Option (Rule×Bool):=
 match qb4 c.Patrons vid with
 |some (r1,r2)=>
  bif !r2 then
   some ((⟨0,0,0,0,0,0,0,0,0,0,0,0,0⟩:Rule),false)
  else
   match qee c.Rules r1.Kind x.Kind x.Branch with
   |some (r4,r5)=>
    some (r4,r5)
   |none=>none
 |none=>none
def qcb (c:Circ) (branch:Int):Option Calendar:=
 match qb0 branch 1 4 with
 |some r1=>
  bif !r1 then
   some (⟨0,[]⟩:Calendar)
  else
   bif (wr .i64 (branch-1))==0 then
    some c.Cals.x0
   else bif (wr .i64 (branch-1))==1 then
    some c.Cals.x1
   else bif (wr .i64 (branch-1))==2 then
    some c.Cals.x2
   else bif (wr .i64 (branch-1))==3 then
    some c.Cals.x3
   else none
 |none=>none
def qdr (x:Int):Option Bool:=
 some (!(x==x))
def qeb (x:Int) (y:Int):Option Bool:=
 match qdr x with
 |some r1=>
  let k5:Bool→Option Bool:=fun v=>
   let k:Bool→Option Bool:=fun v4=>
    some v4
   bif v then
    k true
   else
    k (decide (x<y))
  bif r1 then
   match qdr y with
   |some r3=>
    k5 (!r3)
   |none=>none
  else
   k5 false
 |none=>none
def qdp (x:Int):Option Bool:=
 some (!(x==x))
def qbj_L3:((List Int)×Int×Int×Int×Int×Unit)→Option (((List Int)×Int×Int×Int×Int×Unit)⊕(((List Int)×Int×Int×Int×Unit))):=fun (x,target,n,i,j,_)=>
 bif decide (i<j) then
  match getI x (wr .i64 ((wr .u64 (wr .i64 (i+j))).fdiv (2 ^ 1))) with
  |some x1=>
   match qeb x1 target with
   |some r2=>
    let k:Int→Int→Option (((List Int)×Int×Int×Int×Int×Unit)⊕(((List Int)×Int×Int×Int×Unit))):=fun i3 j4=>
     some (.inl (x,target,n,i3,j4,()))
    bif r2 then
     k (wr .i64 ((wr .i64 ((wr .u64 (wr .i64 (i+j))).fdiv (2 ^ 1)))+1)) j
    else
     k i (wr .i64 ((wr .u64 (wr .i64 (i+j))).fdiv (2 ^ 1)))
   |none=>none
  |none=>none
 else
  some (.inr ((x,target,n,i,())))
def qbj (x:List Int) (target:Int):Option (Int×Bool):=
 match whileO qbj_L3 (x,target,(x.length:Int),0,(x.length:Int),()) with
 |some ((x5,target6,n,i,_))=>
  let k:Bool→Option (Int×Bool):=fun v13=>
   some (i,v13)
  bif decide (i<n) then
   match getI x5 i with
   |some x7=>
    bif x7==target6 then
     k true
    else
     match getI x5 i with
     |some x8=>
      match qdp x8 with
      |some r9=>
       bif r9 then
        match qdp target6 with
        |some r11=>
         k r11
        |none=>none
       else
        k false
      |none=>none
     |none=>none
   |none=>none
  else
   k false
 |none=>none
def qa6_L3:(Int×Calendar×(V7 Bool)×(V7 Bool)×Unit)→Option ((Int×Calendar×(V7 Bool)×(V7 Bool)×Unit)⊕(((V7 Bool)×(V7 Bool)×Unit))):=fun (v,c,v1,vopen,_)=>
 bif decide (v<7) then
  bif decide (v<0) then none else
  bif v==0 then
   some (.inl (wr .i64 (v+1),c,v1,(⟨(wr .i64 (BitVec.ofInt 64 (c.Week.fdiv (2 ^ (min v.toNat 64))) &&& BitVec.ofInt 64 1).toNat)==0,vopen.x1,vopen.x2,vopen.x3,vopen.x4,vopen.x5,vopen.x6⟩:V7 Bool),()))
  else bif v==1 then
   some (.inl (wr .i64 (v+1),c,v1,(⟨vopen.x0,(wr .i64 (BitVec.ofInt 64 (c.Week.fdiv (2 ^ (min v.toNat 64))) &&& BitVec.ofInt 64 1).toNat)==0,vopen.x2,vopen.x3,vopen.x4,vopen.x5,vopen.x6⟩:V7 Bool),()))
  else bif v==2 then
   some (.inl (wr .i64 (v+1),c,v1,(⟨vopen.x0,vopen.x1,(wr .i64 (BitVec.ofInt 64 (c.Week.fdiv (2 ^ (min v.toNat 64))) &&& BitVec.ofInt 64 1).toNat)==0,vopen.x3,vopen.x4,vopen.x5,vopen.x6⟩:V7 Bool),()))
  else bif v==3 then
   some (.inl (wr .i64 (v+1),c,v1,(⟨vopen.x0,vopen.x1,vopen.x2,(wr .i64 (BitVec.ofInt 64 (c.Week.fdiv (2 ^ (min v.toNat 64))) &&& BitVec.ofInt 64 1).toNat)==0,vopen.x4,vopen.x5,vopen.x6⟩:V7 Bool),()))
  else bif v==4 then
   some (.inl (wr .i64 (v+1),c,v1,(⟨vopen.x0,vopen.x1,vopen.x2,vopen.x3,(wr .i64 (BitVec.ofInt 64 (c.Week.fdiv (2 ^ (min v.toNat 64))) &&& BitVec.ofInt 64 1).toNat)==0,vopen.x5,vopen.x6⟩:V7 Bool),()))
  else bif v==5 then
   some (.inl (wr .i64 (v+1),c,v1,(⟨vopen.x0,vopen.x1,vopen.x2,vopen.x3,vopen.x4,(wr .i64 (BitVec.ofInt 64 (c.Week.fdiv (2 ^ (min v.toNat 64))) &&& BitVec.ofInt 64 1).toNat)==0,vopen.x6⟩:V7 Bool),()))
  else bif v==6 then
   some (.inl (wr .i64 (v+1),c,v1,(⟨vopen.x0,vopen.x1,vopen.x2,vopen.x3,vopen.x4,vopen.x5,(wr .i64 (BitVec.ofInt 64 (c.Week.fdiv (2 ^ (min v.toNat 64))) &&& BitVec.ofInt 64 1).toNat)==0⟩:V7 Bool),()))
  else none
 else
  some (.inr ((v1,vopen,())))
def qa6 (c:Calendar):Option (V7 Bool):=
 match whileO qa6_L3 (0,c,(⟨false,false,false,false,false,false,false⟩:V7 Bool),(⟨false,false,false,false,false,false,false⟩:V7 Bool),()) with
 |some ((v,vopen,_))=>
  some vopen
 |none=>none
def qeo (day:Int):Option Bool:=
 let k:Bool→Option Bool:=fun v=>
  some v
 bif decide (0≤day) then
  k (decide (day≤109572))
 else
  k false
def qcj (day:Int):Option Int:=
 match qeo day with
 |some r1=>
  bif !r1 then
   some (-1)
  else
   some (day.tmod 7)
 |none=>none
def qdc (c:Calendar) (day:Int):Option Bool:=
 match qch day with
 |some r1=>
  bif !r1 then
   some false
  else
   match qbj c.Closed day with
   |some (r3,r4)=>
    let k:Bool→Option Bool:=fun v9=>
     some v9
    bif !r4 then
     match qa6 c with
     |some r6=>
      match qcj day with
      |some r8=>
       bif r8==0 then
        k r6.x0
       else bif r8==1 then
        k r6.x1
       else bif r8==2 then
        k r6.x2
       else bif r8==3 then
        k r6.x3
       else bif r8==4 then
        k r6.x4
       else bif r8==5 then
        k r6.x5
       else bif r8==6 then
        k r6.x6
       else none
      |none=>none
     |none=>none
    else
     k false
   |none=>none
 |none=>none
def qan_L2:(Int×Calendar×Unit)→Option ((Int×Calendar×Unit)⊕((Unit)⊕(Int×Int×Unit))):=fun (d,c,_)=>
 bif decide (d≤109572) then
  match qdc c d with
  |some r1=>
   bif r1 then
    some (.inr (.inr (d,0,())))
   else
    some (.inl (wr .i64 (d+1),c,()))
  |none=>none
 else
  some (.inr (.inl (())))
def qan (c:Calendar) (day:Int):Option (Int×Int):=
 match whileO qan_L2 ((if day<0 then 0 else day),c,()) with
 |some (.inl (_))=>
  some (0,2)
 |some (.inr (v,v2,_))=>
  some (v,v2)
 |none=>none
def qa5_L9:(Int×Int×Int×Calendar×Unit)→Option ((Int×Int×Int×Calendar×Unit)⊕((Int×Unit)⊕(Int×Int×Unit))):=fun (d,v,v5,c,_)=>
 bif decide (v5<v) then
  match qan c (wr .i64 (d+1)) with
  |some (r6,r7)=>
   bif !(r7==0) then
    some (.inr (.inr (0,r7,())))
   else
    some (.inl (r6,v,wr .i64 (v5+1),c,()))
  |none=>none
 else
  some (.inr (.inl (d,())))
def qa5 (c:Calendar) (day:Int) (n:Int):Option (Int×Int):=
 let k:Bool→Option (Int×Int):=fun v=>
  bif v then
   some (0,1)
  else
   match qch day with
   |some r1=>
    bif !r1 then
     some (0,2)
    else
     bif n==0 then
      match qan c day with
      |some (r3,r4)=>
       some (r3,r4)
      |none=>none
     else
      match whileO qa5_L9 (day,n,0,c,()) with
      |some (.inl (d,_))=>
       some (d,0)
      |some (.inr (v8,v9,_))=>
       some (v8,v9)
      |none=>none
   |none=>none
 bif decide (n<0) then
  k true
 else
  k (decide (1000<n))
def qce (branch:Int) (n:Int) (d:Circ_desk):Option (Int×Circ_desk):=
 match qcb d.c branch with
 |some r1=>
  match qa5 r1 d.c.Today n with
  |some (r3,r4)=>
   let k:Circ_desk→Option (Int×Circ_desk):=fun v6=>
    some (r3,v6)
   bif !(r4==0) then
    match qa4 r4 d with
    |some (_,v)=>
     k v
    |none=>none
   else
    k d
  |none=>none
 |none=>none
def qci (o:Hold) (v:Int) (v1:Int):Option Bool:=
 let k:Bool→Option Bool:=fun v2=>
  some v2
 bif o.Got==v then
  k (!(o.ID==v1))
 else
  k false
def qbg {γ0:Type} (p:γ0→Hold→Option Bool) (s:List Hold) (g:γ0):Option Bool:=
 match qa p s g with
 |some r1=>
  some (decide (0≤r1))
 |none=>none
def qb6 (s:List Hold):Option (List Hold):=
 bif decide (([]:List Hold).length+s.length≤LIM) then
 some (([])++s)
 else none
def qe1 (l:List Hold) (i:Int) (h:Hold):Option (List Hold):=
 match qb6 l with
 |some l1=>
  match getI l1 i with
  |some _=>
   match l1[i.toNat]? with
   |some x=>
    some (l1.set i.toNat h)
   |none=>none
  |none=>none
 |none=>none
def qae (l:List Hold) (vid:Int) (item:Int) (state:Int) (vuntil:Int):Option ((List Hold)×Int):=
 match qaf l vid with
 |some r1=>
  bif decide (r1<0) then
   some ([],9)
  else
   let k18:Bool→Option ((List Hold)×Int):=fun v=>
    match qbz item 1 9999 with
    |some r5=>
     let k17:Bool→Option ((List Hold)×Int):=fun v8=>
      bif v8 then
       some ([],1)
      else
       match getI l r1 with
       |some x=>
        let k16:Bool→Option ((List Hold)×Int):=fun v11=>
         bif v11 then
          some ([],12)
         else
          match qbg (fun g x0=>qci x0 g.2.1 g.2.2.1) l ((),(item,vid,())) with
          |some r13=>
           bif r13 then
            some ([],7)
           else
            match qe1 l r1 (⟨x.ID,x.Patron,x.Record,x.Item,x.Pickup,x.Placed,state,item,vuntil,x.Asleep,x.Rank⟩:Hold) with
            |some r15=>
             some (r15,0)
            |none=>none
          |none=>none
        bif !(x.State==1) then
         let k:Bool→Option ((List Hold)×Int):=fun v9=>
          bif v9 then
           k16 true
          else
           k16 (!(state==3))
         bif !(x.State==2) then
          k true
         else
          k (!(x.Got==item))
        else
         k16 false
       |none=>none
     bif !r5 then
      k17 true
     else
      bif !v then
       bif !(state==2) then
        k17 true
       else
        k17 (!(vuntil==0))
      else
       k17 false
    |none=>none
   bif state==3 then
    match qbz vuntil 1 109572 with
    |some r3=>
     k18 r3
    |none=>none
   else
    k18 false
 |none=>none
def qb2 (l:List Hold) (e:Int) (d:Circ_desk):Option (Unit×Circ_desk):=
 let k3:Circ_desk→Option (Unit×Circ_desk):=fun v1=>
  let k:(List Hold)→Option (Unit×Circ_desk):=fun v2=>
   some ((),(⟨⟨v1.c.Today,v1.c.Items,v1.c.Patrons,v1.c.Loans,v2,v1.c.Charges,v1.c.Rules,v1.c.Cals,v1.c.Moves,v1.c.NextHold,v1.c.NextCharge,v1.c.Local⟩,v1.err⟩:Circ_desk))
  bif v1.err==0 then
   k l
  else
   k v1.c.Holds
 bif !(e==0) then
  match qa4 e d with
  |some (_,v)=>
   k3 v
  |none=>none
 else
  k3 d
def qcd (i:Int) (h:Hold) (d:Circ_desk):Option (Unit×Circ_desk):=
 bif !(d.err==0) then
  some ((),d)
 else
  match getI d.c.Items i with
  |some x=>
   match qbx d.c h.Patron x with
   |some (r1,r2)=>
    let k13:Int→Option (Unit×Circ_desk):=fun days=>
     match qbh i 5 x.Custody.Branch h.Patron d with
     |some (_,v)=>
      match qce x.Custody.Branch days v with
      |some (r5,v6)=>
       let k:Circ_desk→Option (Unit×Circ_desk):=fun v12=>
        some ((),v12)
       bif v6.err==0 then
        match qae v6.c.Holds h.ID x.ID 3 r5 with
        |some (r8,r9)=>
         match qb2 r8 r9 v6 with
         |some (_,v11)=>
          k v11
         |none=>none
        |none=>none
       else
        k v6
      |none=>none
     |none=>none
    bif r2 then
     k13 r1.Shelf
    else
     k13 7
   |none=>none
  |none=>none
def qb7 (i:Int) (d:Circ_desk):Option (Unit×Circ_desk):=
 bif !(d.err==0) then
  some ((),d)
 else
  match getI d.c.Items i with
  |some x=>
   match qcp d.c x with
   |some r1=>
    match qcq d.c.Holds r1 with
    |some (r3,r4)=>
     let k25:Bool→Option (Unit×Circ_desk):=fun v=>
      let k24:Circ_desk→Option (Unit×Circ_desk):=fun v23=>
       some ((),v23)
      bif v then
       match qbh i 6 x.Branch 0 d with
       |some (_,v6)=>
        k24 v6
       |none=>none
      else
       let k:Bool→Option (Unit×Circ_desk):=fun v7=>
        bif v7 then
         match qc0 i 2 d with
         |some (_,v9)=>
          k24 v9
         |none=>none
        else
         bif !r4 then
          k24 d
         else
          bif r3.Pickup==x.Custody.Branch then
           match qcd i r3 d with
           |some (_,v11)=>
            k24 v11
           |none=>none
          else
           match qbh i 6 r3.Pickup r3.Patron d with
           |some (_,v13)=>
            bif v13.err==0 then
             match qae v13.c.Holds r1 x.ID 2 0 with
             |some (r15,r16)=>
              match qb2 r15 r16 v13 with
              |some (_,v18)=>
               k24 v18
              |none=>none
             |none=>none
            else
             k24 v13
           |none=>none
       bif !r4 then
        k (!(x.Custody.State==3))
       else
        k false
     bif !r4 then
      k25 (!(x.Branch==x.Custody.Branch))
     else
      k25 false
    |none=>none
   |none=>none
  |none=>none
def qz (d:Circ_desk):Option ((Circ×Int)×Circ_desk):=
 bif !(d.err==0) then
  some (((⟨0,[],[],[],[],[],[],⟨⟨0,[]⟩,⟨0,[]⟩,⟨0,[]⟩,⟨0,[]⟩⟩,[],0,0,false⟩:Circ),d.err),d)
 else
  some ((d.c,0),d)
def qed (c:Circ) (item:Int) (branch:Int):Option (Circ×Int):=
 match qby c with
 |some d=>
  match qb8 item d with
  |some (r2,v)=>
   let k:Circ_desk→Option (Circ×Int):=fun v7=>
    match qz v7 with
    |some ((r9,r10),v11)=>
     some (r9,r10)
    |none=>none
   bif decide (0≤r2) then
    match qbh r2 1 branch 0 v with
    |some (_,v4)=>
     match qb7 r2 v4 with
     |some (_,v6)=>
      k v6
     |none=>none
    |none=>none
   else
    k v
  |none=>none
 |none=>none
def qbe_L3:(Int×Int×(List Charge)×Int×Int×Unit)→Option ((Int×Int×(List Charge)×Int×Int×Unit)⊕((Int×Unit))):=fun (patron,vsum,v,v1,v2,_)=>
 bif decide (v2<v1) then
  match getI v v2 with
  |some x=>
   let k:Int→Option ((Int×Int×(List Charge)×Int×Int×Unit)⊕((Int×Unit))):=fun vsum3=>
    some (.inl (patron,vsum3,v,v1,wr .i64 (v2+1),()))
   bif x.Patron==patron then
    k (wr .i64 (vsum+(wr .i64 (x.Amount-x.Paid))))
   else
    k vsum
  |none=>none
 else
  some (.inr ((vsum,())))
def qbe (l:List Charge) (patron:Int):Option Int:=
 match whileO qbe_L3 (patron,0,l,(l.length:Int),0,()) with
 |some ((vsum,_))=>
  some vsum
 |none=>none
def qav_L3:(Int×(List Loan)×Int×Int×(List Loan)×Unit)→Option ((Int×(List Loan)×Int×Int×(List Loan)×Unit)⊕(((List Loan)×Unit))):=fun (patron,v,v1,v2,l,_)=>
 bif decide (v2<v1) then
  match getI v v2 with
  |some x=>
   bif x.Patron==patron then
    bif decide (l.length+([x]:List Loan).length≤LIM) then
    some (.inl (patron,v,v1,wr .i64 (v2+1),l++([x]:List Loan),()))
    else none
   else
    some (.inl (patron,v,v1,wr .i64 (v2+1),l,()))
  |none=>none
 else
  some (.inr ((l,())))
def qav (l:List Loan) (patron:Int):Option (List Loan):=
 match whileO qav_L3 (patron,l,(l.length:Int),0,([]:List Loan),()) with
 |some ((l3,_))=>
  some l3
 |none=>none
def qbq_L3:(Int×Int×(List Loan)×Int×Int×Unit)→Option ((Int×Int×(List Loan)×Int×Int×Unit)⊕((Int×Unit))):=fun (day,n,v,v2,v3,_)=>
 bif decide (v3<v2) then
  match getI v v3 with
  |some x=>
   let k:Int→Option ((Int×Int×(List Loan)×Int×Int×Unit)⊕((Int×Unit))):=fun n4=>
    some (.inl (day,n4,v,v2,wr .i64 (v3+1),()))
   bif decide (x.Due<day) then
    k (wr .i64 (n+1))
   else
    k n
  |none=>none
 else
  some (.inr ((n,())))
def qbq (l:List Loan) (patron:Int) (day:Int):Option Int:=
 match qav l patron with
 |some r1=>
  match whileO qbq_L3 (day,0,r1,(r1.length:Int),0,()) with
  |some ((n,_))=>
   some n
  |none=>none
 |none=>none
def qbl_L3:(Int×Int×(List Int)×(List Bool)×Unit)→Option ((Int×Int×(List Int)×(List Bool)×Unit)⊕(((List Int)×Unit))):=fun (v,v1,l,l2,_)=>
 bif decide (v1<v) then
  match getI l2 v1 with
  |some _=>
   match l2[v1.toNat]? with
   |some x=>
    bif x then
     bif decide (l.length+([wr .i64 (v1+1)]:List Int).length≤LIM) then
     some (.inl (v,wr .i64 (v1+1),l++([wr .i64 (v1+1)]:List Int),l2,()))
     else none
    else
     some (.inl (v,wr .i64 (v1+1),l,l2,()))
   |none=>none
  |none=>none
 else
  some (.inr ((l,())))
def qbl (p:Patron) (day:Int) (owed:Int) (late:Int):Option (List Int):=
 match whileO qbl_L3 ((([p.Stopped,decide (p.Until<day),decide (1000<owed),decide (2<late)]).length:Int),0,([]:List Int),[p.Stopped,decide (p.Until<day),decide (1000<owed),decide (2<late)],()) with
 |some ((l,_))=>
  some l
 |none=>none
def qck (c:Circ) (p:Patron):Option Bool:=
 match qbe c.Charges p.ID with
 |some r1=>
  match qbq c.Loans p.ID c.Today with
  |some r3=>
   match qbl p c.Today r1 r3 with
   |some r5=>
    some (decide (0<(r5.length:Int)))
   |none=>none
  |none=>none
 |none=>none
def qa2_L2:(Int×Calendar×Unit)→Option ((Int×Calendar×Unit)⊕((Unit)⊕(Int×Int×Unit))):=fun (d,c,_)=>
 bif decide (0≤d) then
  match qdc c d with
  |some r1=>
   bif r1 then
    some (.inr (.inr (d,0,())))
   else
    some (.inl (wr .i64 (d-1),c,()))
  |none=>none
 else
  some (.inr (.inl (())))
def qa2 (c:Calendar) (day:Int):Option (Int×Int):=
 match whileO qa2_L2 ((if 109572<day then 109572 else day),c,()) with
 |some (.inl (_))=>
  some (0,2)
 |some (.inr (v,v2,_))=>
  some (v,v2)
 |none=>none
def qdi (r:Rule) (c:Calendar) (day:Int) (vuntil:Int):Option (Int×Int):=
 match qbw day 0 109572 with
 |some r2=>
  let k17:Bool→Option (Int×Int):=fun v=>
   bif v then
    some (0,2)
   else
    let k16:Int→Option (Int×Int):=fun last=>
     let k15:Bool→Option (Int×Int):=fun v5=>
      bif v5 then
       some (0,15)
      else
       match qan c (if last<wr .i64 (day+r.Days) then last else wr .i64 (day+r.Days)) with
       |some (r7,r8)=>
        let k14:Bool→Option (Int×Int):=fun v9=>
         bif v9 then
          some (r7,0)
         else
          match qa2 c last with
          |some (r11,r12)=>
           let k:Bool→Option (Int×Int):=fun v13=>
            bif v13 then
             some (0,15)
            else
             some (r11,0)
           bif !(r12==0) then
            k true
           else
            k (decide (r11≤day))
          |none=>none
        bif r8==0 then
         k14 (decide (r7≤last))
        else
         k14 false
       |none=>none
     bif r.Days==0 then
      k15 true
     else
      k15 (decide (last≤day))
    bif decide (0<r.Fixed) then
     k16 (if r.Fixed<vuntil then r.Fixed else vuntil)
    else
     k16 vuntil
  bif !r2 then
   k17 true
  else
   match qbw vuntil 0 109572 with
   |some r4=>
    k17 (!r4)
   |none=>none
 |none=>none
def qec (c:Circ) (x:Item) (p:Patron) (branch:Int):Option (Int×Int):=
 let k26:Bool→Option (Int×Int):=fun v=>
  let k4:Int→Option (Int×Int):=fun v3=>
   some (0,v3)
  bif v then
   k4 12
  else
   bif !(x.Custody.Branch==branch) then
    k4 1
   else
    let k:Bool→Option (Int×Int):=fun v1=>
     bif v1 then
      k4 16
     else
      let k25:Unit→Option (Int×Int):=fun _=>
       match qck c p with
       |some r12=>
        bif r12 then
         some (0,14)
        else
         match qbx c p.ID x with
         |some (r14,r15)=>
          let k24:Bool→Option (Int×Int):=fun v18=>
           bif v18 then
            some (0,15)
           else
            match qcb c branch with
            |some r20=>
             match qdi r14 r20 c.Today p.Until with
             |some (r22,r23)=>
              some (r22,r23)
             |none=>none
            |none=>none
          bif !r15 then
           k24 true
          else
           match qav c.Loans p.ID with
           |some r17=>
            k24 (decide (r14.Loans≤(r17.length:Int)))
           |none=>none
         |none=>none
       |none=>none
      bif x.Custody.State==3 then
       match qcp c x with
       |some r5=>
        match qcq c.Holds r5 with
        |some (r7,r8)=>
         let k10:Bool→Option (Int×Int):=fun v9=>
          bif v9 then
           some (0,16)
          else
           k25 ()
         bif r8 then
          k10 (!(r7.Patron==p.ID))
         else
          k10 false
        |none=>none
       |none=>none
      else
       k25 ()
    bif x.Custody.State==5 then
     k (!(x.Custody.Who==p.ID))
    else
     k false
 bif !(x.Custody.State==3) then
  k26 (!(x.Custody.State==5))
 else
  k26 false
def qcn (x:Loan) (v:Loan):Option Bool:=
 some (decide (v.Item<x.Item))
def qb5 (s:List Loan):Option (List Loan):=
 bif decide (([]:List Loan).length+s.length≤LIM) then
 some (([])++s)
 else none
def qde (l:List Loan):Option ((List Loan)×Int):=
 match qas l with
 |some r1=>
  bif !(r1==0) then
   some ([],r1)
  else
   some (l,0)
 |none=>none
def qal (l:List Loan) (n:Loan):Option ((List Loan)×Int):=
 match q8 n.Item with
 |some r1=>
  match qac (fun g x0=>qb9 x0 g.2.1) l ((),(r1.1,())) with
  |some (r3,r4)=>
   bif decide (0≤r4) then
    some ([],7)
   else
    match qac (fun g x0=>qcn x0 g.2.1) l ((),(n,())) with
    |some (r6,r7)=>
     let k:Int→Option ((List Loan)×Int):=fun i=>
      match qb5 l with
      |some l9=>
       match qfa l9 i ([n]) with
       |some l11=>
        match qde l11 with
        |some (r13,r14)=>
         some (r13,r14)
        |none=>none
       |none=>none
      |none=>none
     bif decide (r7<0) then
      k (l.length:Int)
     else
      k r7
    |none=>none
  |none=>none
 |none=>none
def qb1 (l:List Loan) (e:Int) (d:Circ_desk):Option (Unit×Circ_desk):=
 let k3:Circ_desk→Option (Unit×Circ_desk):=fun v1=>
  let k:(List Loan)→Option (Unit×Circ_desk):=fun v2=>
   some ((),(⟨⟨v1.c.Today,v1.c.Items,v1.c.Patrons,v2,v1.c.Holds,v1.c.Charges,v1.c.Rules,v1.c.Cals,v1.c.Moves,v1.c.NextHold,v1.c.NextCharge,v1.c.Local⟩,v1.err⟩:Circ_desk))
  bif v1.err==0 then
   k l
  else
   k v1.c.Loans
 bif !(e==0) then
  match qa4 e d with
  |some (_,v)=>
   k3 v
  |none=>none
 else
  k3 d
def qeg (l:List Hold) (vid:Int):Option ((List Hold)×Hold×Int):=
 match qaf l vid with
 |some r1=>
  bif decide (r1<0) then
   some ([],(⟨0,0,0,0,0,0,0,0,0,0,0⟩:Hold),9)
  else
   match qb6 l with
   |some l3=>
    match qfd l3 r1 (wr .i64 (r1+1)) with
    |some l5=>
     match getI l r1 with
     |some x=>
      some (l5,x,0)
     |none=>none
    |none=>none
   |none=>none
 |none=>none
def qcv (vid:Int) (d:Circ_desk):Option (Unit×Circ_desk):=
 let k:Circ_desk→Option (Unit×Circ_desk):=fun v5=>
  some ((),v5)
 bif d.err==0 then
  match qeg d.c.Holds vid with
  |some (r1,r2,r3)=>
   match qb2 r1 r3 d with
   |some (_,v)=>
    k v
   |none=>none
  |none=>none
 else
  k d
def qbt (n:Int) (d:Circ_desk):Option ((Circ×Int×Int)×Circ_desk):=
 bif !(d.err==0) then
  some (((⟨0,[],[],[],[],[],[],⟨⟨0,[]⟩,⟨0,[]⟩,⟨0,[]⟩,⟨0,[]⟩⟩,[],0,0,false⟩:Circ),0,d.err),d)
 else
  some ((d.c,n,0),d)
def qca (h:Hold) (x:Item):Option Bool:=
 let k:Bool→Option Bool:=fun v1=>
  some v1
 bif h.Record==x.Record then
  bif h.Item==0 then
   k true
  else
   k (h.Item==x.ID)
 else
  k false
def qdh (h:Hold) (v:Int) (v1:Item):Option Bool:=
 let k5:Bool→Option Bool:=fun v2=>
  let k:Bool→Option Bool:=fun v4=>
   some v4
  bif v2 then
   match qca h v1 with
   |some r3=>
    k r3
   |none=>none
  else
   k false
 bif h.Patron==v then
  k5 (h.State==1)
 else
  k5 false
def qak (c:Circ) (item:Int) (vid:Int) (branch:Int):Option (Circ×Int×Int):=
 match qby c with
 |some d=>
  match qb8 item d with
  |some (r2,v)=>
   match qb4 c.Patrons vid with
   |some (r4,r5)=>
    let k40:Circ_desk→Option (Circ×Int×Int):=fun v8=>
     bif !(v8.err==0) then
      some ((⟨0,[],[],[],[],[],[],⟨⟨0,[]⟩,⟨0,[]⟩,⟨0,[]⟩,⟨0,[]⟩⟩,[],0,0,false⟩:Circ),0,v8.err)
     else
      match getI c.Items r2 with
      |some x=>
       match qec c x r4 branch with
       |some (r10,r11)=>
        bif !(r11==0) then
         some ((⟨0,[],[],[],[],[],[],⟨⟨0,[]⟩,⟨0,[]⟩,⟨0,[]⟩,⟨0,[]⟩⟩,[],0,0,false⟩:Circ),0,r11)
        else
         match qbh r2 3 branch vid v8 with
         |some (_,v13)=>
          match qal c.Loans (⟨item,vid,c.Today,r10,0,false⟩:Loan) with
          |some (r15,r16)=>
           match qb1 r15 r16 v13 with
           |some (_,v18)=>
            match qad c item with
            |some (r20,r21)=>
             bif r21 then
              match qcv r20.ID v18 with
              |some (_,v23)=>
               match qbt r10 v23 with
               |some ((r25,r26,r27),v28)=>
                some (r25,r26,r27)
               |none=>none
              |none=>none
             else
              match qa (fun g x0=>qdh x0 g.2.1 g.2.2.1) c.Holds ((),(vid,x,())) with
              |some r30=>
               let k:Circ_desk→Option (Circ×Int×Int):=fun v34=>
                match qbt r10 v34 with
                |some ((r36,r37,r38),v39)=>
                 some (r36,r37,r38)
                |none=>none
               bif decide (0≤r30) then
                match getI c.Holds r30 with
                |some x31=>
                 match qcv x31.ID v18 with
                 |some (_,v33)=>
                  k v33
                 |none=>none
                |none=>none
               else
                k v18
              |none=>none
            |none=>none
           |none=>none
          |none=>none
         |none=>none
       |none=>none
      |none=>none
    bif !r5 then
     match qa4 9 v with
     |some (_,v7)=>
      k40 v7
     |none=>none
    else
     k40 v
   |none=>none
  |none=>none
 |none=>none
def qeh (x:Item) (record:Int):Option Bool:=
 let k:Bool→Option Bool:=fun v=>
  some v
 bif x.Record==record then
  k (!(x.Custody.State==12))
 else
  k false
def qc6 (x:Item) (v:Hold):Option Bool:=
 match qeh x v.Record with
 |some r1=>
  let k:Bool→Option Bool:=fun v4=>
   some v4
  bif r1 then
   match qca v x with
   |some r3=>
    k r3
   |none=>none
  else
   k false
 |none=>none
def qt_L9:(Int×(List Loan)×Int×Int×Circ×Hold×Item×Unit)→Option ((Int×(List Loan)×Int×Int×Circ×Hold×Item×Unit)⊕((Int×Circ×Item×Unit)⊕(Int×Item×Unit))):=fun (first,v,v6,v7,c,h,v8,_)=>
 bif decide (v7<v6) then
  match getI v v7 with
  |some x=>
   match qaa c x.Item with
   |some r9=>
    let k:Bool→Option ((Int×(List Loan)×Int×Int×Circ×Hold×Item×Unit)⊕((Int×Circ×Item×Unit)⊕(Int×Item×Unit))):=fun v11=>
     bif v11 then
      some (.inr (.inr (12,(⟨0,0,0,0,0,[],⟨0,0,0,0⟩⟩:Item),())))
     else
      some (.inl (first,v,v6,wr .i64 (v7+1),c,h,v8,()))
    bif decide (0≤r9) then
     match getI c.Items r9 with
     |some x10=>
      k (x10.Record==h.Record)
     |none=>none
    else
     k false
   |none=>none
  |none=>none
 else
  some (.inr (.inl (first,c,v8,())))
def qt (c:Circ) (p:Patron) (h:Hold):Option (Item×Int):=
 match qd (fun g x0=>qc6 x0 g.2.1) c.Items ((),(h,())) with
 |some r1=>
  bif decide (r1<0) then
   some ((⟨0,0,0,0,0,[],⟨0,0,0,0⟩⟩:Item),9)
  else
   let k:Bool→Option (Item×Int):=fun v=>
    bif v then
     some ((⟨0,0,0,0,0,[],⟨0,0,0,0⟩⟩:Item),2)
    else
     match qck c p with
     |some r3=>
      bif r3 then
       some ((⟨0,0,0,0,0,[],⟨0,0,0,0⟩⟩:Item),14)
      else
       match qav c.Loans p.ID with
       |some r5=>
        match whileO qt_L9 (r1,r5,(r5.length:Int),0,c,h,(⟨0,0,0,0,0,[],⟨0,0,0,0⟩⟩:Item),()) with
        |some (.inl (first,c12,v13,_))=>
         bif decide (99999<c12.NextHold) then
          some ((⟨0,0,0,0,0,[],⟨0,0,0,0⟩⟩:Item),13)
         else
          match getI c12.Items first with
          |some x=>
           some (x,0)
          |none=>none
        |some (.inr (v14,v15,_))=>
         some (v15,v14)
        |none=>none
       |none=>none
     |none=>none
   bif decide (h.Pickup<1) then
    k true
   else
    k (decide (4<h.Pickup))
 |none=>none
def qen (l:List Hold) (h:Hold):Option ((List Hold)×Int):=
 let k5:Bool→Option ((List Hold)×Int):=fun v=>
  let k:Bool→Option ((List Hold)×Int):=fun v1=>
   bif v1 then
    some ([],12)
   else
    match qb6 l with
    |some l2=>
     bif decide (l2.length+([h]:List Hold).length≤LIM) then
     match qf (l2++([h]:List Hold)) with
     |some r4=>
      bif !(r4==0) then
       some ([],r4)
      else
       some (l2++([h]:List Hold),0)
     |none=>none
     else none
    |none=>none
  bif v then
   k true
  else
   k (!(h.Until==0))
 bif !(h.State==1) then
  k5 true
 else
  k5 (!(h.Got==0))
def qam_L1:(Int×Int×Int×Circ_desk×Unit)→Option ((Int×Int×Int×Circ_desk×Unit)⊕((Circ_desk×Unit)⊕(Circ_desk×Unit))):=fun (record,v,v1,d,_)=>
 bif decide (v1<v) then
  bif !(d.err==0) then
   some (.inr (.inr (d,())))
  else
   match getI d.c.Items v1 with
   |some x=>
    let k9:Bool→Option ((Int×Int×Int×Circ_desk×Unit)⊕((Circ_desk×Unit)⊕(Circ_desk×Unit))):=fun v2=>
     let k8:Bool→Option ((Int×Int×Int×Circ_desk×Unit)⊕((Circ_desk×Unit)⊕(Circ_desk×Unit))):=fun v4=>
      let k:Circ_desk→Option ((Int×Int×Int×Circ_desk×Unit)⊕((Circ_desk×Unit)⊕(Circ_desk×Unit))):=fun v7=>
       some (.inl (record,v,wr .i64 (v1+1),v7,()))
      bif v4 then
       match qb7 v1 d with
       |some (_,v6)=>
        k v6
       |none=>none
      else
       k d
     bif v2 then
      match qcp d.c x with
      |some r3=>
       k8 (!(r3==0))
      |none=>none
     else
      k8 false
    bif x.Record==record then
     k9 (x.Custody.State==3)
    else
     k9 false
   |none=>none
 else
  some (.inr (.inl (d,())))
def qam (record:Int) (d:Circ_desk):Option (Unit×Circ_desk):=
 match whileO qam_L1 (record,(d.c.Items.length:Int),0,d,()) with
 |some (.inl (d10,_))=>
  some ((),d10)
 |some (.inr (d11,_))=>
  some ((),d11)
 |none=>none
def qex (c:Circ) (vid:Int) (record:Int) (item:Int) (pickup:Int):Option (Circ×Int×Int):=
 match qb4 c.Patrons vid with
 |some (r1,r2)=>
  bif !r2 then
   some ((⟨0,[],[],[],[],[],[],⟨⟨0,[]⟩,⟨0,[]⟩,⟨0,[]⟩,⟨0,[]⟩⟩,[],0,0,false⟩:Circ),0,9)
  else
   match qt c r1 (⟨c.NextHold,vid,record,item,pickup,c.Today,1,0,0,0,0⟩:Hold) with
   |some (r4,r5)=>
    bif !(r5==0) then
     some ((⟨0,[],[],[],[],[],[],⟨⟨0,[]⟩,⟨0,[]⟩,⟨0,[]⟩,⟨0,[]⟩⟩,[],0,0,false⟩:Circ),0,r5)
    else
     match qbx c vid r4 with
     |some (r7,r8)=>
      let k:Int→Option (Circ×Int×Int):=fun h=>
       match qby c with
       |some d=>
        match qen c.Holds (⟨c.NextHold,vid,record,item,pickup,c.Today,1,0,0,0,h⟩:Hold) with
        |some (r11,r12)=>
         match qb2 r11 r12 d with
         |some (_,v)=>
          match qam record (⟨⟨v.c.Today,v.c.Items,v.c.Patrons,v.c.Loans,v.c.Holds,v.c.Charges,v.c.Rules,v.c.Cals,v.c.Moves,wr .i64 (v.c.NextHold+1),v.c.NextCharge,v.c.Local⟩,v.err⟩:Circ_desk) with
          |some (_,v15)=>
           match qbt c.NextHold v15 with
           |some ((r17,r18,r19),v20)=>
            some (r17,r18,r19)
           |none=>none
          |none=>none
         |none=>none
        |none=>none
       |none=>none
      bif r8 then
       k r7.Rank
      else
       k 0
     |none=>none
   |none=>none
 |none=>none
def qcl (h:Hold) (v:Circ) (v1:Item):Option Bool:=
 let k5:Bool→Option Bool:=fun v2=>
  let k:Bool→Option Bool:=fun v4=>
   some v4
  bif v2 then
   match qca h v1 with
   |some r3=>
    k r3
   |none=>none
  else
   k false
 bif h.State==1 then
  k5 (decide (h.Asleep≤v.Today))
 else
  k5 false
def qd8 (r:Rule) (c:Calendar) (n:Loan) (day:Int) (vuntil:Int):Option (Int×Int):=
 let k:Bool→Option (Int×Int):=fun v=>
  bif v then
   some (0,15)
  else
   match qdi r c day vuntil with
   |some (r2,r3)=>
    bif !(r3==0) then
     some (0,r3)
    else
     bif decide (r2≤n.Due) then
      some (0,15)
     else
      some (r2,0)
   |none=>none
 bif decide (r.Renewals≤n.Renewals) then
  k true
 else
  k n.Recalled
def qc5 (l:List Loan) (i:Int) (x:Loan):Option (List Loan):=
 match qb5 l with
 |some l1=>
  match getI l1 i with
  |some _=>
   match l1[i.toNat]? with
   |some x2=>
    some (l1.set i.toNat x)
   |none=>none
  |none=>none
 |none=>none
def qel (l:List Loan) (item:Int) (due:Int):Option ((List Loan)×Int):=
 match q8 item with
 |some r1=>
  match qac (fun g x0=>qb9 x0 g.2.1) l ((),(r1.1,())) with
  |some (r3,r4)=>
   let k:Int→Option ((List Loan)×Int):=fun v=>
    some ([],v)
   bif decide (r4<0) then
    k 9
   else
    bif r3.Recalled then
     k 12
    else
     match qc5 l r4 (⟨r3.Item,r3.Patron,r3.Out,due,wr .i64 (r3.Renewals+1),r3.Recalled⟩:Loan) with
     |some r6=>
      match qde r6 with
      |some (r8,r9)=>
       some (r8,r9)
      |none=>none
     |none=>none
  |none=>none
 |none=>none
def qaj (c:Circ) (item:Int):Option (Circ×Int×Int):=
 match qco c.Loans item with
 |some (r1,r2)=>
  match qaa c item with
  |some r4=>
   let k:Bool→Option (Circ×Int×Int):=fun v=>
    bif v then
     some ((⟨0,[],[],[],[],[],[],⟨⟨0,[]⟩,⟨0,[]⟩,⟨0,[]⟩,⟨0,[]⟩⟩,[],0,0,false⟩:Circ),0,9)
    else
     match getI c.Items r4 with
     |some x=>
      bif !(x.Custody.State==4) then
       some ((⟨0,[],[],[],[],[],[],⟨⟨0,[]⟩,⟨0,[]⟩,⟨0,[]⟩,⟨0,[]⟩⟩,[],0,0,false⟩:Circ),0,12)
      else
       match qb4 c.Patrons r1.Patron with
       |some (r6,r7)=>
        match qck c r6 with
        |some r9=>
         bif r9 then
          some ((⟨0,[],[],[],[],[],[],⟨⟨0,[]⟩,⟨0,[]⟩,⟨0,[]⟩,⟨0,[]⟩⟩,[],0,0,false⟩:Circ),0,14)
         else
          match qbg (fun g x0=>qcl x0 g.2.1 g.2.2.1) c.Holds ((),(c,x,())) with
          |some r11=>
           bif r11 then
            some ((⟨0,[],[],[],[],[],[],⟨⟨0,[]⟩,⟨0,[]⟩,⟨0,[]⟩,⟨0,[]⟩⟩,[],0,0,false⟩:Circ),0,16)
           else
            match qbx c r6.ID x with
            |some (r13,r14)=>
             bif !r14 then
              some ((⟨0,[],[],[],[],[],[],⟨⟨0,[]⟩,⟨0,[]⟩,⟨0,[]⟩,⟨0,[]⟩⟩,[],0,0,false⟩:Circ),0,15)
             else
              match qcb c x.Custody.Branch with
              |some r16=>
               match qd8 r13 r16 r1 c.Today r6.Until with
               |some (r18,r19)=>
                bif !(r19==0) then
                 some ((⟨0,[],[],[],[],[],[],⟨⟨0,[]⟩,⟨0,[]⟩,⟨0,[]⟩,⟨0,[]⟩⟩,[],0,0,false⟩:Circ),0,r19)
                else
                 match qby c with
                 |some d=>
                  match qel c.Loans item r18 with
                  |some (r22,r23)=>
                   match qb1 r22 r23 d with
                   |some (_,v25)=>
                    match qbt r18 v25 with
                    |some ((r27,r28,r29),v30)=>
                     some (r27,r28,r29)
                    |none=>none
                   |none=>none
                  |none=>none
                 |none=>none
               |none=>none
              |none=>none
            |none=>none
          |none=>none
        |none=>none
       |none=>none
     |none=>none
   bif !r2 then
    k true
   else
    k (decide (r4<0))
  |none=>none
 |none=>none
def qbk_L2:(Bool×(List Item)×Int×Int×Circ×Hold×Loan×Item×Unit)→Option ((Bool×(List Item)×Int×Int×Circ×Hold×Loan×Item×Unit)⊕((Bool×Loan×Item×Unit))):=fun (ok,v,v1,v2,c,h,best,vat,_)=>
 bif decide (v2<v1) then
  match getI v v2 with
  |some x=>
   let k16:Bool→Option ((Bool×(List Item)×Int×Int×Circ×Hold×Loan×Item×Unit)⊕((Bool×Loan×Item×Unit))):=fun v4=>
    bif v4 then
     some (.inl (ok,v,v1,wr .i64 (v2+1),c,h,best,vat,()))
    else
     match qco c.Loans x.ID with
     |some (r6,r7)=>
      let k15:Bool→Option ((Bool×(List Item)×Int×Int×Circ×Hold×Loan×Item×Unit)⊕((Bool×Loan×Item×Unit))):=fun v8=>
       let k14:Bool→Option ((Bool×(List Item)×Int×Int×Circ×Hold×Loan×Item×Unit)⊕((Bool×Loan×Item×Unit))):=fun v10=>
        let k:Bool→Loan→Item→Option ((Bool×(List Item)×Int×Int×Circ×Hold×Loan×Item×Unit)⊕((Bool×Loan×Item×Unit))):=fun ok11 best12 vat13=>
         some (.inl (ok11,v,v1,wr .i64 (v2+1),c,h,best12,vat13,()))
        bif v10 then
         k true r6 x
        else
         k ok best vat
       bif v8 then
        bif !ok then
         k14 true
        else
         k14 (decide (r6.Due<best.Due))
       else
        k14 false
      bif r7 then
       k15 (!r6.Recalled)
      else
       k15 false
     |none=>none
   bif !(x.Custody.State==4) then
    k16 true
   else
    match qca h x with
    |some r3=>
     k16 (!r3)
    |none=>none
  |none=>none
 else
  some (.inr ((ok,best,vat,())))
def qbk (c:Circ) (h:Hold):Option (Loan×Item×Bool):=
 match whileO qbk_L2 (false,c.Items,(c.Items.length:Int),0,c,h,(⟨0,0,0,0,0,false⟩:Loan),(⟨0,0,0,0,0,[],⟨0,0,0,0⟩⟩:Item),()) with
 |some ((ok,best,vat,_))=>
  some (best,vat,ok)
 |none=>none
def qef (l:List Loan) (item:Int) (due:Int):Option ((List Loan)×Int):=
 match q8 item with
 |some r1=>
  match qac (fun g x0=>qb9 x0 g.2.1) l ((),(r1.1,())) with
  |some (r3,r4)=>
   let k:Int→Option ((List Loan)×Int):=fun v7=>
    some ([],v7)
   bif decide (r4<0) then
    k 9
   else
    bif r3.Recalled then
     k 12
    else
     match qc3 due with
     |some r6=>
      bif !r6 then
       k 2
      else
       match qc5 l r4 (⟨r3.Item,r3.Patron,r3.Out,(if (if due<r3.Due then due else r3.Due)<r3.Out then r3.Out else (if due<r3.Due then due else r3.Due)),r3.Renewals,true⟩:Loan) with
       |some r9=>
        some (r9,0)
       |none=>none
     |none=>none
  |none=>none
 |none=>none
def qei (c:Circ) (vid:Int):Option (Circ×Int×Int):=
 match qcq c.Holds vid with
 |some (r1,r2)=>
  bif !r2 then
   some ((⟨0,[],[],[],[],[],[],⟨⟨0,[]⟩,⟨0,[]⟩,⟨0,[]⟩,⟨0,[]⟩⟩,[],0,0,false⟩:Circ),0,9)
  else
   bif !(r1.State==1) then
    some ((⟨0,[],[],[],[],[],[],⟨⟨0,[]⟩,⟨0,[]⟩,⟨0,[]⟩,⟨0,[]⟩⟩,[],0,0,false⟩:Circ),0,12)
   else
    match qbk c r1 with
    |some (r4,r5,r6)=>
     bif !r6 then
      some ((⟨0,[],[],[],[],[],[],⟨⟨0,[]⟩,⟨0,[]⟩,⟨0,[]⟩,⟨0,[]⟩⟩,[],0,0,false⟩:Circ),0,9)
     else
      match qbx c r4.Patron r5 with
      |some (r8,r9)=>
       bif !r9 then
        some ((⟨0,[],[],[],[],[],[],⟨⟨0,[]⟩,⟨0,[]⟩,⟨0,[]⟩,⟨0,[]⟩⟩,[],0,0,false⟩:Circ),0,15)
       else
        match qby c with
        |some d=>
         match qce r5.Custody.Branch r8.Recall d with
         |some (r12,v)=>
          let k:Circ_desk→Option (Circ×Int×Int):=fun v18=>
           match qbt r5.ID v18 with
           |some ((r20,r21,r22),v23)=>
            some (r20,r21,r22)
           |none=>none
          bif v.err==0 then
           match qef c.Loans r5.ID r12 with
           |some (r14,r15)=>
            match qb1 r14 r15 v with
            |some (_,v17)=>
             k v17
            |none=>none
           |none=>none
          else
           k v
         |none=>none
        |none=>none
      |none=>none
    |none=>none
 |none=>none
def qdz (l:List Loan) (i:Int):Option (List Loan):=
 match qb5 l with
 |some l1=>
  match qfc l1 i (wr .i64 (i+1)) with
  |some l3=>
   some l3
  |none=>none
 |none=>none
def qeu (l:List Loan) (item:Int):Option ((List Loan)×Loan×Int):=
 match q8 item with
 |some r1=>
  match qac (fun g x0=>qb9 x0 g.2.1) l ((),(r1.1,())) with
  |some (r3,r4)=>
   bif decide (r4<0) then
    some ([],(⟨0,0,0,0,0,false⟩:Loan),9)
   else
    match qdz l r4 with
    |some r6=>
     some (r6,r3,0)
    |none=>none
  |none=>none
 |none=>none
def qds (day:Int) (weekday:Int):Option Int:=
 match qcj 0 with
 |some r1=>
  bif decide (day<(wr .i64 ((wr .i64 (weekday-r1))+7)).tmod 7) then
   some 0
  else
   some (wr .i64 ((wr .i64 ((wr .i64 (day-((wr .i64 ((wr .i64 (weekday-r1))+7)).tmod 7))).tdiv 7))+1))
 |none=>none
def qab_L7:(Int×Int×Int×(V7 Bool)×Int×Calendar×(V7 Bool)×Unit)→Option ((Int×Int×Int×(V7 Bool)×Int×Calendar×(V7 Bool)×Unit)⊕((Int×Int×Int×Calendar×(V7 Bool)×Unit))):=fun (vfrom,vto,n,v,v2,c,vopen,_)=>
 bif decide (v2<7) then
  let k8:Bool→Option ((Int×Int×Int×(V7 Bool)×Int×Calendar×(V7 Bool)×Unit)⊕((Int×Int×Int×Calendar×(V7 Bool)×Unit))):=fun v3=>
   let k:Int→Option ((Int×Int×Int×(V7 Bool)×Int×Calendar×(V7 Bool)×Unit)⊕((Int×Int×Int×Calendar×(V7 Bool)×Unit))):=fun n7=>
    some (.inl (vfrom,vto,n7,v,wr .i64 (v2+1),c,vopen,()))
   bif v3 then
    match qds vto v2 with
    |some r4=>
     match qds (wr .i64 (vfrom-1)) v2 with
     |some r6=>
      k (wr .i64 (n+(wr .i64 (r4-r6))))
     |none=>none
    |none=>none
   else
    k n
  bif v2==0 then
   k8 v.x0
  else bif v2==1 then
   k8 v.x1
  else bif v2==2 then
   k8 v.x2
  else bif v2==3 then
   k8 v.x3
  else bif v2==4 then
   k8 v.x4
  else bif v2==5 then
   k8 v.x5
  else bif v2==6 then
   k8 v.x6
  else none
 else
  some (.inr ((vfrom,vto,n,c,vopen,())))
def qab_L13:(Int×Int×Int×(List Int)×Int×Int×(V7 Bool)×Unit)→Option ((Int×Int×Int×(List Int)×Int×Int×(V7 Bool)×Unit)⊕((Int×Unit))):=fun (vfrom,vto,n,v,v12,v13,vopen,_)=>
 bif decide (v13<v12) then
  match getI v v13 with
  |some x=>
   let k19:Bool→Option ((Int×Int×Int×(List Int)×Int×Int×(V7 Bool)×Unit)⊕((Int×Unit))):=fun v14=>
    let k18:Bool→Option ((Int×Int×Int×(List Int)×Int×Int×(V7 Bool)×Unit)⊕((Int×Unit))):=fun v16=>
     let k:Int→Option ((Int×Int×Int×(List Int)×Int×Int×(V7 Bool)×Unit)⊕((Int×Unit))):=fun n17=>
      some (.inl (vfrom,vto,n17,v,v12,wr .i64 (v13+1),vopen,()))
     bif v16 then
      k (wr .i64 (n-1))
     else
      k n
    bif v14 then
     match qcj x with
     |some r15=>
      bif r15==0 then
       k18 vopen.x0
      else bif r15==1 then
       k18 vopen.x1
      else bif r15==2 then
       k18 vopen.x2
      else bif r15==3 then
       k18 vopen.x3
      else bif r15==4 then
       k18 vopen.x4
      else bif r15==5 then
       k18 vopen.x5
      else bif r15==6 then
       k18 vopen.x6
      else none
     |none=>none
    else
     k18 false
   bif decide (vfrom≤x) then
    k19 (decide (x≤vto))
   else
    k19 false
  |none=>none
 else
  some (.inr ((n,())))
def qab (c:Calendar) (vfrom:Int) (vto:Int):Option Int:=
 bif decide ((if 109572<vto then 109572 else vto)<(if vfrom<0 then 0 else vfrom)) then
  some 0
 else
  match qa6 c with
  |some r1=>
   match whileO qab_L7 ((if vfrom<0 then 0 else vfrom),(if 109572<vto then 109572 else vto),0,r1,0,c,r1,()) with
   |some ((vfrom9,vto10,n,c11,vopen,_))=>
    match whileO qab_L13 (vfrom9,vto10,n,c11.Closed,(c11.Closed.length:Int),0,vopen,()) with
    |some ((n20,_))=>
     some n20
    |none=>none
   |none=>none
  |none=>none
def qew (r:Rule) (c:Calendar) (due:Int) (back:Int):Option Int:=
 match qq c with
 |some r2=>
  let k10:Bool→Option Int:=fun v=>
   let k:Bool→Option Int:=fun v7=>
    bif v7 then
     some 0
    else
     match qab c (wr .i64 (due+1)) back with
     |some r9=>
      bif decide (r9≤r.Grace) then
       some 0
      else
       some (if r.MaxFine<wr .i64 (r9*r.Fine) then r.MaxFine else wr .i64 (r9*r.Fine))
     |none=>none
   bif v then
    k true
   else
    match qc2 back with
    |some r6=>
     k (!r6)
    |none=>none
  bif !(r2==0) then
   k10 true
  else
   match qc2 due with
   |some r4=>
    k10 (!r4)
   |none=>none
 |none=>none
def qe2 (l:List Charge) (c:Charge):Option ((List Charge)×Int):=
 bif decide (l.length≤LIM) then
 bif decide (l.length+([c]:List Charge).length≤LIM) then
 match qat (l++([c]:List Charge)) with
 |some r1=>
  bif !(r1==0) then
   some ([],r1)
  else
   some (l++([c]:List Charge),0)
 |none=>none
 else none
 else none
def qcz (vid:Int) (item:Int) (kind:Int) (amount:Int) (d:Circ_desk):Option (Unit×Circ_desk):=
 bif !(d.err==0) then
  some ((),d)
 else
  bif decide (99999<d.c.NextCharge) then
   match qa4 13 d with
   |some (_,v)=>
    some ((),v)
   |none=>none
  else
   match qe2 d.c.Charges (⟨d.c.NextCharge,vid,item,d.c.Today,kind,amount,0⟩:Charge) with
   |some (r2,r3)=>
    bif !(r3==0) then
     match qa4 r3 d with
     |some (_,v5)=>
      some ((),v5)
     |none=>none
    else
     some ((),(⟨⟨d.c.Today,d.c.Items,d.c.Patrons,d.c.Loans,d.c.Holds,r2,d.c.Rules,d.c.Cals,d.c.Moves,d.c.NextHold,wr .i64 (d.c.NextCharge+1),d.c.Local⟩,d.err⟩:Circ_desk))
   |none=>none
def qc8 (x:Charge) (v:Int) (v1:Int) (v2:Int):Option Bool:=
 let k6:Bool→Option Bool:=fun v3=>
  let k:Bool→Option Bool:=fun v5=>
   some v5
  bif v3 then
   bif v2==0 then
    k true
   else
    k (x.Kind==v2)
  else
   k false
 bif x.Patron==v then
  k6 (x.Item==v1)
 else
  k6 false
def qbo_L2 {γ0:Type} (p:γ0→Charge→Option Bool):(γ0×Int×Int×(List Charge)×Int×Int×(List Charge)×Unit)→Option ((γ0×Int×Int×(List Charge)×Int×Int×(List Charge)×Unit)⊕((Int×Int×(List Charge)×Unit))):=fun (g,paid,n,v,v1,v2,l,_)=>
 bif decide (v2<v1) then
  match getI v v2 with
  |some x=>
   match p g x with
   |some r=>
    bif r then
     some (.inl (g,wr .i64 (paid+x.Paid),wr .i64 (n+1),v,v1,wr .i64 (v2+1),l,()))
    else
     bif decide (l.length+([x]:List Charge).length≤LIM) then
     some (.inl (g,paid,n,v,v1,wr .i64 (v2+1),l++([x]:List Charge),()))
     else none
   |none=>none
  |none=>none
 else
  some (.inr ((paid,n,l,())))
def qbo {γ0:Type} (p:γ0→Charge→Option Bool) (l:List Charge) (g:γ0):Option ((List Charge)×Int×Int):=
 match whileO (qbo_L2 p) (g,0,0,l,(l.length:Int),0,([]:List Charge),()) with
 |some ((paid,n,l3,_))=>
  some (l3,paid,n)
 |none=>none
def qaq (l:List Charge) (patron:Int) (item:Int) (kind:Int):Option ((List Charge)×Int):=
 match qbo (fun g x0=>qc8 x0 g.2.1 g.2.2.1 g.2.2.2.1) l ((),(patron,item,kind,())) with
 |some (r1,r2,r3)=>
  some (r1,r2)
 |none=>none
def qcy (i:Int) (branch:Int) (d:Circ_desk):Option (Unit×Circ_desk):=
 match getI d.c.Items i with
 |some x=>
  match qbh i 4 branch 0 d with
  |some (_,v)=>
   bif !(v.err==0) then
    some ((),v)
   else
    match qeu v.c.Loans x.ID with
    |some (r2,r3,r4)=>
     match qb1 r2 r4 v with
     |some (_,v6)=>
      match qbx v6.c r3.Patron x with
      |some (r8,r9)=>
       let k:Circ_desk→Option (Unit×Circ_desk):=fun v17=>
        match qaq v17.c.Charges r3.Patron x.ID 2 with
        |some (r19,r20)=>
         some ((),(⟨⟨v17.c.Today,v17.c.Items,v17.c.Patrons,v17.c.Loans,v17.c.Holds,r19,v17.c.Rules,v17.c.Cals,v17.c.Moves,v17.c.NextHold,v17.c.NextCharge,v17.c.Local⟩,v17.err⟩:Circ_desk))
        |none=>none
       bif r9 then
        match qcb v6.c branch with
        |some r11=>
         match qew r8 r11 r3.Due v6.c.Today with
         |some r13=>
          bif !(r13==0) then
           match qcz r3.Patron x.ID 1 r13 v6 with
           |some (_,v15)=>
            k v15
           |none=>none
          else
           k v6
         |none=>none
        |none=>none
       else
        k v6
      |none=>none
     |none=>none
    |none=>none
  |none=>none
 |none=>none
def qdv (c:Circ) (item:Int) (branch:Int):Option (Circ×Int×Int):=
 match qby c with
 |some d=>
  match qb8 item d with
  |some (r2,v)=>
   bif decide (r2<0) then
    match qbt 0 v with
    |some ((r4,r5,r6),v7)=>
     some (r4,r5,r6)
    |none=>none
   else
    match getI c.Items r2 with
    |some x=>
     let k43:Bool→Option (Circ×Int×Int):=fun v9=>
      let k42:Circ_desk→Option (Circ×Int×Int):=fun v23=>
       match qad v23.c item with
       |some (r25,r26)=>
        let k41:Bool→Option (Circ×Int×Int):=fun v27=>
         let k:Circ_desk→Option (Circ×Int×Int):=fun v32=>
          match qad v32.c item with
          |some (r34,r35)=>
           match qbt r34.ID v32 with
           |some ((r37,r38,r39),v40)=>
            some (r37,r38,r39)
           |none=>none
          |none=>none
         bif v27 then
          match qcd r2 r25 v23 with
          |some (_,v29)=>
           k v29
          |none=>none
         else
          match qb7 r2 v23 with
          |some (_,v31)=>
           k v31
          |none=>none
        bif r26 then
         k41 (r25.State==2)
        else
         k41 false
       |none=>none
      bif v9 then
       match qcy r2 branch v with
       |some (_,v11)=>
        k42 v11
       |none=>none
      else
       bif x.Custody.State==8 then
        match qbh r2 4 branch 0 v with
        |some (_,v13)=>
         k42 v13
        |none=>none
       else
        bif x.Custody.State==11 then
         match qbh r2 14 branch 0 v with
         |some (_,v15)=>
          k42 v15
         |none=>none
        else
         bif x.Custody.State==6 then
          match qbh r2 7 branch 0 v with
          |some (_,v17)=>
           k42 v17
          |none=>none
         else
          match qa4 12 v with
          |some (_,v19)=>
           k42 v19
          |none=>none
     bif x.Custody.State==4 then
      k43 (x.Custody.State==4)
     else
      bif x.Custody.State==9 then
       k43 (x.Custody.State==9)
      else
       k43 (x.Custody.State==10)
    |none=>none
  |none=>none
 |none=>none
def qdu:Option Bool:=
 match qd9 with
 |some r1=>
  match qed r1 1 1 with
  |some (r3,r4)=>
   let k85:Bool→Option Bool:=fun v=>
    let k84:Bool→Option Bool:=fun v5=>
     bif v5 then
      some false
     else
      match qak r3 1 7 1 with
      |some (r7,r8,r9)=>
       match qak r7 1 8 1 with
       |some (r11,r12,r13)=>
        let k83:Bool→Option Bool:=fun v14=>
         let k82:Bool→Option Bool:=fun v15=>
          bif v15 then
           some false
          else
           match qex r7 8 5 0 1 with
           |some (r17,r18,r19)=>
            match qaj r17 1 with
            |some (r21,r22,r23)=>
             match qei r17 r18 with
             |some (r25,r26,r27)=>
              let k81:Bool→Option Bool:=fun v28=>
               let k80:Bool→Option Bool:=fun v29=>
                let k79:Bool→Option Bool:=fun v30=>
                 let k78:Bool→Option Bool:=fun v31=>
                  let k77:Bool→Option Bool:=fun v32=>
                   let k76:Bool→Option Bool:=fun v34=>
                    bif v34 then
                     some false
                    else
                     match qdv r25 1 1 with
                     |some (r36,r37,r38)=>
                      match qak r36 1 7 1 with
                      |some (r40,r41,r42)=>
                       match qak r36 1 8 1 with
                       |some (r44,r45,r46)=>
                        let k75:Bool→Option Bool:=fun v47=>
                         let k74:Bool→Option Bool:=fun v48=>
                          let k73:Bool→Option Bool:=fun v50=>
                           let k72:Bool→Option Bool:=fun v51=>
                            let k71:Bool→Option Bool:=fun v52=>
                             let k70:Bool→Option Bool:=fun v53=>
                              let k69:Bool→Option Bool:=fun v56=>
                               bif v56 then
                                some false
                               else
                                match qdv (⟨116,r7.Items,r7.Patrons,r7.Loans,r7.Holds,r7.Charges,r7.Rules,r7.Cals,r7.Moves,r7.NextHold,r7.NextCharge,r7.Local⟩:Circ) 1 1 with
                                |some (r58,r59,r60)=>
                                 let k68:Bool→Option Bool:=fun v61=>
                                  let k67:Bool→Option Bool:=fun v64=>
                                   let k:Bool→Option Bool:=fun v66=>
                                    some v66
                                   bif v64 then
                                    match getI r58.Items 0 with
                                    |some x65=>
                                     k (x65.Custody.State==3)
                                    |none=>none
                                   else
                                    k false
                                  bif v61 then
                                   match qbe r58.Charges 7 with
                                   |some r63=>
                                    k67 (r63==20)
                                   |none=>none
                                  else
                                   k67 false
                                 bif r60==0 then
                                  k68 (r59==0)
                                 else
                                  k68 false
                                |none=>none
                              bif v53 then
                               k69 true
                              else
                               match qdj r44 with
                               |some r55=>
                                k69 (!r55)
                               |none=>none
                             bif v52 then
                              k70 true
                             else
                              k70 (!((r44.Holds.length:Int)==0))
                            bif v51 then
                             k71 true
                            else
                             k71 (!(r46==0))
                           bif v50 then
                            k72 true
                           else
                            k72 (!(r42==16))
                          bif v48 then
                           k73 true
                          else
                           match getI r36.Holds 0 with
                           |some x49=>
                            k73 (!(x49.Until==105))
                           |none=>none
                         bif v47 then
                          k74 true
                         else
                          k74 (!((r36.Holds.length:Int)==1))
                        bif !(r38==0) then
                         k75 true
                        else
                         k75 (!(r37==1))
                       |none=>none
                      |none=>none
                     |none=>none
                   bif v32 then
                    k76 true
                   else
                    match getI r25.Loans 0 with
                    |some x33=>
                     k76 (!(x33.Due==107))
                    |none=>none
                  bif v31 then
                   k77 true
                  else
                   k77 (!((r25.Loans.length:Int)==1))
                 bif v30 then
                  k78 true
                 else
                  k78 (!(r26==1))
                bif v29 then
                 k79 true
                else
                 k79 (!(r27==0))
               bif v28 then
                k80 true
               else
                k80 (!(r23==16))
              bif !(r19==0) then
               k81 true
              else
               k81 (!(r18==1))
             |none=>none
            |none=>none
           |none=>none
         bif v14 then
          k82 true
         else
          k82 (!(r13==12))
        bif !(r9==0) then
         k83 true
        else
         k83 (!(r8==114))
       |none=>none
      |none=>none
    bif v then
     k84 true
    else
     match getI r3.Items 0 with
     |some x=>
      k84 (!(x.Custody.State==3))
     |none=>none
   bif !(r4==0) then
    k85 true
   else
    k85 (!((r3.Items.length:Int)==1))
  |none=>none
 |none=>none
def qbm_L9:(Bool×Int×Circ×Item×Circ×(List Item)×Unit)→Option ((Bool×Int×Circ×Item×Circ×(List Item)×Unit)⊕((Bool×Circ×Item×Circ×(List Item)×Unit))):=fun (done,i,c,x,v,l,_)=>
 bif decide (i<(c.Items.length:Int)) then
  let k:Bool→Option ((Bool×Int×Circ×Item×Circ×(List Item)×Unit)⊕((Bool×Circ×Item×Circ×(List Item)×Unit))):=fun v5=>
   bif v5 then
    bif decide (l.length+([x]:List Item).length≤LIM) then
    match getI c.Items i with
    |some x6=>
     bif decide ((l++([x]:List Item)).length+([x6]:List Item).length≤LIM) then
     some (.inl (true,wr .i64 (i+1),c,x,v,(l++([x]:List Item))++([x6]:List Item),()))
     else none
    |none=>none
    else none
   else
    match getI c.Items i with
    |some x7=>
     bif decide (l.length+([x7]:List Item).length≤LIM) then
     some (.inl (done,wr .i64 (i+1),c,x,v,l++([x7]:List Item),()))
     else none
    |none=>none
  bif !done then
   match getI c.Items i with
   |some x4=>
    k (decide (x.ID<x4.ID))
   |none=>none
  else
   k false
 else
  some (.inr ((done,c,x,v,l,())))
def qbm (c:Circ) (x:Item):Option (Circ×Int):=
 match qag c x.ID with
 |some r1=>
  bif decide (0≤r1) then
   some ((⟨0,[],[],[],[],[],[],⟨⟨0,[]⟩,⟨0,[]⟩,⟨0,[]⟩,⟨0,[]⟩⟩,[],0,0,false⟩:Circ),7)
  else
   bif decide (64≤(c.Items.length:Int)) then
    some ((⟨0,[],[],[],[],[],[],⟨⟨0,[]⟩,⟨0,[]⟩,⟨0,[]⟩,⟨0,[]⟩⟩,[],0,0,false⟩:Circ),13)
   else
    match qdk x.Branch with
    |some r3=>
     match whileO qbm_L9 (false,0,c,(⟨x.ID,x.Record,x.Branch,x.Kind,x.Price,x.Call,r3⟩:Item),(⟨0,[],[],[],[],[],[],⟨⟨0,[]⟩,⟨0,[]⟩,⟨0,[]⟩,⟨0,[]⟩⟩,[],0,0,false⟩:Circ),([]:List Item),()) with
     |some ((done,c8,x9,v,l,_))=>
      bif !done then
       bif decide (l.length+([x9]:List Item).length≤LIM) then
       match qs (⟨c8.Today,l++([x9]:List Item),c8.Patrons,c8.Loans,c8.Holds,c8.Charges,c8.Rules,c8.Cals,c8.Moves,c8.NextHold,c8.NextCharge,c8.Local⟩:Circ) with
       |some r11=>
        bif !r11 then
         some ((⟨0,[],[],[],[],[],[],⟨⟨0,[]⟩,⟨0,[]⟩,⟨0,[]⟩,⟨0,[]⟩⟩,[],0,0,false⟩:Circ),1)
        else
         some ((⟨c8.Today,l++([x9]:List Item),c8.Patrons,c8.Loans,c8.Holds,c8.Charges,c8.Rules,c8.Cals,c8.Moves,c8.NextHold,c8.NextCharge,c8.Local⟩:Circ),0)
       |none=>none
       else none
      else
       match qs (⟨c8.Today,l,c8.Patrons,c8.Loans,c8.Holds,c8.Charges,c8.Rules,c8.Cals,c8.Moves,c8.NextHold,c8.NextCharge,c8.Local⟩:Circ) with
       |some r13=>
        bif !r13 then
         some ((⟨0,[],[],[],[],[],[],⟨⟨0,[]⟩,⟨0,[]⟩,⟨0,[]⟩,⟨0,[]⟩⟩,[],0,0,false⟩:Circ),1)
        else
         some ((⟨c8.Today,l,c8.Patrons,c8.Loans,c8.Holds,c8.Charges,c8.Rules,c8.Cals,c8.Moves,c8.NextHold,c8.NextCharge,c8.Local⟩:Circ),0)
       |none=>none
     |none=>none
    |none=>none
 |none=>none
def qbr_L6:((List Patron)×Bool×Int×Patron×(List Patron)×Unit)→Option (((List Patron)×Bool×Int×Patron×(List Patron)×Unit)⊕((Bool×Patron×(List Patron)×Unit))):=fun (l,done,i,p,l2,_)=>
 bif decide (i<(l.length:Int)) then
  let k:Bool→Option (((List Patron)×Bool×Int×Patron×(List Patron)×Unit)⊕((Bool×Patron×(List Patron)×Unit))):=fun v=>
   bif v then
    bif decide (l2.length+([p]:List Patron).length≤LIM) then
    match getI l i with
    |some x3=>
     bif decide ((l2++([p]:List Patron)).length+([x3]:List Patron).length≤LIM) then
     some (.inl (l,true,wr .i64 (i+1),p,(l2++([p]:List Patron))++([x3]:List Patron),()))
     else none
    |none=>none
    else none
   else
    match getI l i with
    |some x4=>
     bif decide (l2.length+([x4]:List Patron).length≤LIM) then
     some (.inl (l,done,wr .i64 (i+1),p,l2++([x4]:List Patron),()))
     else none
    |none=>none
  bif !done then
   match getI l i with
   |some x=>
    k (decide (p.ID<x.ID))
   |none=>none
  else
   k false
 else
  some (.inr ((done,p,l2,())))
def qbr (l:List Patron) (p:Patron):Option ((List Patron)×Int):=
 match qaw l p.ID with
 |some r1=>
  bif decide (0≤r1) then
   some ([],7)
  else
   match whileO qbr_L6 (l,false,0,p,[],()) with
   |some ((done,p5,l6,_))=>
    bif !done then
     bif decide (l6.length+([p5]:List Patron).length≤LIM) then
     match qao (l6++([p5]:List Patron)) with
     |some r8=>
      bif !(r8==0) then
       some ([],r8)
      else
       some (l6++([p5]:List Patron),0)
     |none=>none
     else none
    else
     match qao l6 with
     |some r10=>
      bif !(r10==0) then
       some ([],r10)
      else
       some (l6,0)
     |none=>none
   |none=>none
 |none=>none
def qd3 (c:Circ) (p:Patron):Option (Circ×Int):=
 match qbr c.Patrons p with
 |some (r1,r2)=>
  bif !(r2==0) then
   some ((⟨0,[],[],[],[],[],[],⟨⟨0,[]⟩,⟨0,[]⟩,⟨0,[]⟩,⟨0,[]⟩⟩,[],0,0,false⟩:Circ),r2)
  else
   some ((⟨c.Today,c.Items,r1,c.Loans,c.Holds,c.Charges,c.Rules,c.Cals,c.Moves,c.NextHold,c.NextCharge,c.Local⟩:Circ),0)
 |none=>none
def qo_L7:(Int×Int×Circ×Circ×Unit)→Option ((Int×Int×Circ×Circ×Unit)⊕((Int×Circ×Circ×Unit)⊕(Bool×Unit))):=fun (i,k,a,b,_)=>
 bif i==0 then
  bif decide (k<(a.Cals.x0.Closed.length:Int)) then
   bif i==0 then
    match getI a.Cals.x0.Closed k with
    |some x75=>
     bif i==0 then
      match getI b.Cals.x0.Closed k with
      |some x79=>
       bif !(x75==x79) then
        some (.inr (.inr (false,())))
       else
        some (.inl (i,wr .i64 (k+1),a,b,()))
      |none=>none
     else bif i==1 then
      match getI b.Cals.x1.Closed k with
      |some x78=>
       bif !(x75==x78) then
        some (.inr (.inr (false,())))
       else
        some (.inl (i,wr .i64 (k+1),a,b,()))
      |none=>none
     else bif i==2 then
      match getI b.Cals.x2.Closed k with
      |some x77=>
       bif !(x75==x77) then
        some (.inr (.inr (false,())))
       else
        some (.inl (i,wr .i64 (k+1),a,b,()))
      |none=>none
     else bif i==3 then
      match getI b.Cals.x3.Closed k with
      |some x76=>
       bif !(x75==x76) then
        some (.inr (.inr (false,())))
       else
        some (.inl (i,wr .i64 (k+1),a,b,()))
      |none=>none
     else none
    |none=>none
   else bif i==1 then
    match getI a.Cals.x1.Closed k with
    |some x70=>
     bif i==0 then
      match getI b.Cals.x0.Closed k with
      |some x74=>
       bif !(x70==x74) then
        some (.inr (.inr (false,())))
       else
        some (.inl (i,wr .i64 (k+1),a,b,()))
      |none=>none
     else bif i==1 then
      match getI b.Cals.x1.Closed k with
      |some x73=>
       bif !(x70==x73) then
        some (.inr (.inr (false,())))
       else
        some (.inl (i,wr .i64 (k+1),a,b,()))
      |none=>none
     else bif i==2 then
      match getI b.Cals.x2.Closed k with
      |some x72=>
       bif !(x70==x72) then
        some (.inr (.inr (false,())))
       else
        some (.inl (i,wr .i64 (k+1),a,b,()))
      |none=>none
     else bif i==3 then
      match getI b.Cals.x3.Closed k with
      |some x71=>
       bif !(x70==x71) then
        some (.inr (.inr (false,())))
       else
        some (.inl (i,wr .i64 (k+1),a,b,()))
      |none=>none
     else none
    |none=>none
   else bif i==2 then
    match getI a.Cals.x2.Closed k with
    |some x65=>
     bif i==0 then
      match getI b.Cals.x0.Closed k with
      |some x69=>
       bif !(x65==x69) then
        some (.inr (.inr (false,())))
       else
        some (.inl (i,wr .i64 (k+1),a,b,()))
      |none=>none
     else bif i==1 then
      match getI b.Cals.x1.Closed k with
      |some x68=>
       bif !(x65==x68) then
        some (.inr (.inr (false,())))
       else
        some (.inl (i,wr .i64 (k+1),a,b,()))
      |none=>none
     else bif i==2 then
      match getI b.Cals.x2.Closed k with
      |some x67=>
       bif !(x65==x67) then
        some (.inr (.inr (false,())))
       else
        some (.inl (i,wr .i64 (k+1),a,b,()))
      |none=>none
     else bif i==3 then
      match getI b.Cals.x3.Closed k with
      |some x66=>
       bif !(x65==x66) then
        some (.inr (.inr (false,())))
       else
        some (.inl (i,wr .i64 (k+1),a,b,()))
      |none=>none
     else none
    |none=>none
   else bif i==3 then
    match getI a.Cals.x3.Closed k with
    |some x60=>
     bif i==0 then
      match getI b.Cals.x0.Closed k with
      |some x64=>
       bif !(x60==x64) then
        some (.inr (.inr (false,())))
       else
        some (.inl (i,wr .i64 (k+1),a,b,()))
      |none=>none
     else bif i==1 then
      match getI b.Cals.x1.Closed k with
      |some x63=>
       bif !(x60==x63) then
        some (.inr (.inr (false,())))
       else
        some (.inl (i,wr .i64 (k+1),a,b,()))
      |none=>none
     else bif i==2 then
      match getI b.Cals.x2.Closed k with
      |some x62=>
       bif !(x60==x62) then
        some (.inr (.inr (false,())))
       else
        some (.inl (i,wr .i64 (k+1),a,b,()))
      |none=>none
     else bif i==3 then
      match getI b.Cals.x3.Closed k with
      |some x61=>
       bif !(x60==x61) then
        some (.inr (.inr (false,())))
       else
        some (.inl (i,wr .i64 (k+1),a,b,()))
      |none=>none
     else none
    |none=>none
   else none
  else
   some (.inr (.inl (i,a,b,())))
 else bif i==1 then
  bif decide (k<(a.Cals.x1.Closed.length:Int)) then
   bif i==0 then
    match getI a.Cals.x0.Closed k with
    |some x55=>
     bif i==0 then
      match getI b.Cals.x0.Closed k with
      |some x59=>
       bif !(x55==x59) then
        some (.inr (.inr (false,())))
       else
        some (.inl (i,wr .i64 (k+1),a,b,()))
      |none=>none
     else bif i==1 then
      match getI b.Cals.x1.Closed k with
      |some x58=>
       bif !(x55==x58) then
        some (.inr (.inr (false,())))
       else
        some (.inl (i,wr .i64 (k+1),a,b,()))
      |none=>none
     else bif i==2 then
      match getI b.Cals.x2.Closed k with
      |some x57=>
       bif !(x55==x57) then
        some (.inr (.inr (false,())))
       else
        some (.inl (i,wr .i64 (k+1),a,b,()))
      |none=>none
     else bif i==3 then
      match getI b.Cals.x3.Closed k with
      |some x56=>
       bif !(x55==x56) then
        some (.inr (.inr (false,())))
       else
        some (.inl (i,wr .i64 (k+1),a,b,()))
      |none=>none
     else none
    |none=>none
   else bif i==1 then
    match getI a.Cals.x1.Closed k with
    |some x50=>
     bif i==0 then
      match getI b.Cals.x0.Closed k with
      |some x54=>
       bif !(x50==x54) then
        some (.inr (.inr (false,())))
       else
        some (.inl (i,wr .i64 (k+1),a,b,()))
      |none=>none
     else bif i==1 then
      match getI b.Cals.x1.Closed k with
      |some x53=>
       bif !(x50==x53) then
        some (.inr (.inr (false,())))
       else
        some (.inl (i,wr .i64 (k+1),a,b,()))
      |none=>none
     else bif i==2 then
      match getI b.Cals.x2.Closed k with
      |some x52=>
       bif !(x50==x52) then
        some (.inr (.inr (false,())))
       else
        some (.inl (i,wr .i64 (k+1),a,b,()))
      |none=>none
     else bif i==3 then
      match getI b.Cals.x3.Closed k with
      |some x51=>
       bif !(x50==x51) then
        some (.inr (.inr (false,())))
       else
        some (.inl (i,wr .i64 (k+1),a,b,()))
      |none=>none
     else none
    |none=>none
   else bif i==2 then
    match getI a.Cals.x2.Closed k with
    |some x45=>
     bif i==0 then
      match getI b.Cals.x0.Closed k with
      |some x49=>
       bif !(x45==x49) then
        some (.inr (.inr (false,())))
       else
        some (.inl (i,wr .i64 (k+1),a,b,()))
      |none=>none
     else bif i==1 then
      match getI b.Cals.x1.Closed k with
      |some x48=>
       bif !(x45==x48) then
        some (.inr (.inr (false,())))
       else
        some (.inl (i,wr .i64 (k+1),a,b,()))
      |none=>none
     else bif i==2 then
      match getI b.Cals.x2.Closed k with
      |some x47=>
       bif !(x45==x47) then
        some (.inr (.inr (false,())))
       else
        some (.inl (i,wr .i64 (k+1),a,b,()))
      |none=>none
     else bif i==3 then
      match getI b.Cals.x3.Closed k with
      |some x46=>
       bif !(x45==x46) then
        some (.inr (.inr (false,())))
       else
        some (.inl (i,wr .i64 (k+1),a,b,()))
      |none=>none
     else none
    |none=>none
   else bif i==3 then
    match getI a.Cals.x3.Closed k with
    |some x40=>
     bif i==0 then
      match getI b.Cals.x0.Closed k with
      |some x44=>
       bif !(x40==x44) then
        some (.inr (.inr (false,())))
       else
        some (.inl (i,wr .i64 (k+1),a,b,()))
      |none=>none
     else bif i==1 then
      match getI b.Cals.x1.Closed k with
      |some x43=>
       bif !(x40==x43) then
        some (.inr (.inr (false,())))
       else
        some (.inl (i,wr .i64 (k+1),a,b,()))
      |none=>none
     else bif i==2 then
      match getI b.Cals.x2.Closed k with
      |some x42=>
       bif !(x40==x42) then
        some (.inr (.inr (false,())))
       else
        some (.inl (i,wr .i64 (k+1),a,b,()))
      |none=>none
     else bif i==3 then
      match getI b.Cals.x3.Closed k with
      |some x41=>
       bif !(x40==x41) then
        some (.inr (.inr (false,())))
       else
        some (.inl (i,wr .i64 (k+1),a,b,()))
      |none=>none
     else none
    |none=>none
   else none
  else
   some (.inr (.inl (i,a,b,())))
 else bif i==2 then
  bif decide (k<(a.Cals.x2.Closed.length:Int)) then
   bif i==0 then
    match getI a.Cals.x0.Closed k with
    |some x35=>
     bif i==0 then
      match getI b.Cals.x0.Closed k with
      |some x39=>
       bif !(x35==x39) then
        some (.inr (.inr (false,())))
       else
        some (.inl (i,wr .i64 (k+1),a,b,()))
      |none=>none
     else bif i==1 then
      match getI b.Cals.x1.Closed k with
      |some x38=>
       bif !(x35==x38) then
        some (.inr (.inr (false,())))
       else
        some (.inl (i,wr .i64 (k+1),a,b,()))
      |none=>none
     else bif i==2 then
      match getI b.Cals.x2.Closed k with
      |some x37=>
       bif !(x35==x37) then
        some (.inr (.inr (false,())))
       else
        some (.inl (i,wr .i64 (k+1),a,b,()))
      |none=>none
     else bif i==3 then
      match getI b.Cals.x3.Closed k with
      |some x36=>
       bif !(x35==x36) then
        some (.inr (.inr (false,())))
       else
        some (.inl (i,wr .i64 (k+1),a,b,()))
      |none=>none
     else none
    |none=>none
   else bif i==1 then
    match getI a.Cals.x1.Closed k with
    |some x30=>
     bif i==0 then
      match getI b.Cals.x0.Closed k with
      |some x34=>
       bif !(x30==x34) then
        some (.inr (.inr (false,())))
       else
        some (.inl (i,wr .i64 (k+1),a,b,()))
      |none=>none
     else bif i==1 then
      match getI b.Cals.x1.Closed k with
      |some x33=>
       bif !(x30==x33) then
        some (.inr (.inr (false,())))
       else
        some (.inl (i,wr .i64 (k+1),a,b,()))
      |none=>none
     else bif i==2 then
      match getI b.Cals.x2.Closed k with
      |some x32=>
       bif !(x30==x32) then
        some (.inr (.inr (false,())))
       else
        some (.inl (i,wr .i64 (k+1),a,b,()))
      |none=>none
     else bif i==3 then
      match getI b.Cals.x3.Closed k with
      |some x31=>
       bif !(x30==x31) then
        some (.inr (.inr (false,())))
       else
        some (.inl (i,wr .i64 (k+1),a,b,()))
      |none=>none
     else none
    |none=>none
   else bif i==2 then
    match getI a.Cals.x2.Closed k with
    |some x25=>
     bif i==0 then
      match getI b.Cals.x0.Closed k with
      |some x29=>
       bif !(x25==x29) then
        some (.inr (.inr (false,())))
       else
        some (.inl (i,wr .i64 (k+1),a,b,()))
      |none=>none
     else bif i==1 then
      match getI b.Cals.x1.Closed k with
      |some x28=>
       bif !(x25==x28) then
        some (.inr (.inr (false,())))
       else
        some (.inl (i,wr .i64 (k+1),a,b,()))
      |none=>none
     else bif i==2 then
      match getI b.Cals.x2.Closed k with
      |some x27=>
       bif !(x25==x27) then
        some (.inr (.inr (false,())))
       else
        some (.inl (i,wr .i64 (k+1),a,b,()))
      |none=>none
     else bif i==3 then
      match getI b.Cals.x3.Closed k with
      |some x26=>
       bif !(x25==x26) then
        some (.inr (.inr (false,())))
       else
        some (.inl (i,wr .i64 (k+1),a,b,()))
      |none=>none
     else none
    |none=>none
   else bif i==3 then
    match getI a.Cals.x3.Closed k with
    |some x20=>
     bif i==0 then
      match getI b.Cals.x0.Closed k with
      |some x24=>
       bif !(x20==x24) then
        some (.inr (.inr (false,())))
       else
        some (.inl (i,wr .i64 (k+1),a,b,()))
      |none=>none
     else bif i==1 then
      match getI b.Cals.x1.Closed k with
      |some x23=>
       bif !(x20==x23) then
        some (.inr (.inr (false,())))
       else
        some (.inl (i,wr .i64 (k+1),a,b,()))
      |none=>none
     else bif i==2 then
      match getI b.Cals.x2.Closed k with
      |some x22=>
       bif !(x20==x22) then
        some (.inr (.inr (false,())))
       else
        some (.inl (i,wr .i64 (k+1),a,b,()))
      |none=>none
     else bif i==3 then
      match getI b.Cals.x3.Closed k with
      |some x21=>
       bif !(x20==x21) then
        some (.inr (.inr (false,())))
       else
        some (.inl (i,wr .i64 (k+1),a,b,()))
      |none=>none
     else none
    |none=>none
   else none
  else
   some (.inr (.inl (i,a,b,())))
 else bif i==3 then
  bif decide (k<(a.Cals.x3.Closed.length:Int)) then
   bif i==0 then
    match getI a.Cals.x0.Closed k with
    |some x15=>
     bif i==0 then
      match getI b.Cals.x0.Closed k with
      |some x19=>
       bif !(x15==x19) then
        some (.inr (.inr (false,())))
       else
        some (.inl (i,wr .i64 (k+1),a,b,()))
      |none=>none
     else bif i==1 then
      match getI b.Cals.x1.Closed k with
      |some x18=>
       bif !(x15==x18) then
        some (.inr (.inr (false,())))
       else
        some (.inl (i,wr .i64 (k+1),a,b,()))
      |none=>none
     else bif i==2 then
      match getI b.Cals.x2.Closed k with
      |some x17=>
       bif !(x15==x17) then
        some (.inr (.inr (false,())))
       else
        some (.inl (i,wr .i64 (k+1),a,b,()))
      |none=>none
     else bif i==3 then
      match getI b.Cals.x3.Closed k with
      |some x16=>
       bif !(x15==x16) then
        some (.inr (.inr (false,())))
       else
        some (.inl (i,wr .i64 (k+1),a,b,()))
      |none=>none
     else none
    |none=>none
   else bif i==1 then
    match getI a.Cals.x1.Closed k with
    |some x10=>
     bif i==0 then
      match getI b.Cals.x0.Closed k with
      |some x14=>
       bif !(x10==x14) then
        some (.inr (.inr (false,())))
       else
        some (.inl (i,wr .i64 (k+1),a,b,()))
      |none=>none
     else bif i==1 then
      match getI b.Cals.x1.Closed k with
      |some x13=>
       bif !(x10==x13) then
        some (.inr (.inr (false,())))
       else
        some (.inl (i,wr .i64 (k+1),a,b,()))
      |none=>none
     else bif i==2 then
      match getI b.Cals.x2.Closed k with
      |some x12=>
       bif !(x10==x12) then
        some (.inr (.inr (false,())))
       else
        some (.inl (i,wr .i64 (k+1),a,b,()))
      |none=>none
     else bif i==3 then
      match getI b.Cals.x3.Closed k with
      |some x11=>
       bif !(x10==x11) then
        some (.inr (.inr (false,())))
       else
        some (.inl (i,wr .i64 (k+1),a,b,()))
      |none=>none
     else none
    |none=>none
   else bif i==2 then
    match getI a.Cals.x2.Closed k with
    |some x5=>
     bif i==0 then
      match getI b.Cals.x0.Closed k with
      |some x9=>
       bif !(x5==x9) then
        some (.inr (.inr (false,())))
       else
        some (.inl (i,wr .i64 (k+1),a,b,()))
      |none=>none
     else bif i==1 then
      match getI b.Cals.x1.Closed k with
      |some x8=>
       bif !(x5==x8) then
        some (.inr (.inr (false,())))
       else
        some (.inl (i,wr .i64 (k+1),a,b,()))
      |none=>none
     else bif i==2 then
      match getI b.Cals.x2.Closed k with
      |some x7=>
       bif !(x5==x7) then
        some (.inr (.inr (false,())))
       else
        some (.inl (i,wr .i64 (k+1),a,b,()))
      |none=>none
     else bif i==3 then
      match getI b.Cals.x3.Closed k with
      |some x6=>
       bif !(x5==x6) then
        some (.inr (.inr (false,())))
       else
        some (.inl (i,wr .i64 (k+1),a,b,()))
      |none=>none
     else none
    |none=>none
   else bif i==3 then
    match getI a.Cals.x3.Closed k with
    |some x=>
     bif i==0 then
      match getI b.Cals.x0.Closed k with
      |some x4=>
       bif !(x==x4) then
        some (.inr (.inr (false,())))
       else
        some (.inl (i,wr .i64 (k+1),a,b,()))
      |none=>none
     else bif i==1 then
      match getI b.Cals.x1.Closed k with
      |some x3=>
       bif !(x==x3) then
        some (.inr (.inr (false,())))
       else
        some (.inl (i,wr .i64 (k+1),a,b,()))
      |none=>none
     else bif i==2 then
      match getI b.Cals.x2.Closed k with
      |some x2=>
       bif !(x==x2) then
        some (.inr (.inr (false,())))
       else
        some (.inl (i,wr .i64 (k+1),a,b,()))
      |none=>none
     else bif i==3 then
      match getI b.Cals.x3.Closed k with
      |some x1=>
       bif !(x==x1) then
        some (.inr (.inr (false,())))
       else
        some (.inl (i,wr .i64 (k+1),a,b,()))
      |none=>none
     else none
    |none=>none
   else none
  else
   some (.inr (.inl (i,a,b,())))
 else none
def qo_L2:(Int×Circ×Circ×Unit)→Option ((Int×Circ×Circ×Unit)⊕((Unit)⊕(Bool×Unit))):=fun (i,a,b,_)=>
 bif decide (i<4) then
  bif i==0 then
   bif i==0 then
    let k173:Bool→Option ((Int×Circ×Circ×Unit)⊕((Unit)⊕(Bool×Unit))):=fun v168=>
     bif v168 then
      some (.inr (.inr (false,())))
     else
      match whileO qo_L7 (i,0,a,b,()) with
      |some (.inl (i169,a170,b171,_))=>
       some (.inl (wr .i64 (i169+1),a170,b171,()))
      |some (.inr (v172,_))=>
       some (.inr (.inr (v172,())))
      |none=>none
    bif !(a.Cals.x0.Week==b.Cals.x0.Week) then
     k173 true
    else
     bif i==0 then
      bif i==0 then
       k173 (!((a.Cals.x0.Closed.length:Int)==(b.Cals.x0.Closed.length:Int)))
      else bif i==1 then
       k173 (!((a.Cals.x0.Closed.length:Int)==(b.Cals.x1.Closed.length:Int)))
      else bif i==2 then
       k173 (!((a.Cals.x0.Closed.length:Int)==(b.Cals.x2.Closed.length:Int)))
      else bif i==3 then
       k173 (!((a.Cals.x0.Closed.length:Int)==(b.Cals.x3.Closed.length:Int)))
      else none
     else bif i==1 then
      bif i==0 then
       k173 (!((a.Cals.x1.Closed.length:Int)==(b.Cals.x0.Closed.length:Int)))
      else bif i==1 then
       k173 (!((a.Cals.x1.Closed.length:Int)==(b.Cals.x1.Closed.length:Int)))
      else bif i==2 then
       k173 (!((a.Cals.x1.Closed.length:Int)==(b.Cals.x2.Closed.length:Int)))
      else bif i==3 then
       k173 (!((a.Cals.x1.Closed.length:Int)==(b.Cals.x3.Closed.length:Int)))
      else none
     else bif i==2 then
      bif i==0 then
       k173 (!((a.Cals.x2.Closed.length:Int)==(b.Cals.x0.Closed.length:Int)))
      else bif i==1 then
       k173 (!((a.Cals.x2.Closed.length:Int)==(b.Cals.x1.Closed.length:Int)))
      else bif i==2 then
       k173 (!((a.Cals.x2.Closed.length:Int)==(b.Cals.x2.Closed.length:Int)))
      else bif i==3 then
       k173 (!((a.Cals.x2.Closed.length:Int)==(b.Cals.x3.Closed.length:Int)))
      else none
     else bif i==3 then
      bif i==0 then
       k173 (!((a.Cals.x3.Closed.length:Int)==(b.Cals.x0.Closed.length:Int)))
      else bif i==1 then
       k173 (!((a.Cals.x3.Closed.length:Int)==(b.Cals.x1.Closed.length:Int)))
      else bif i==2 then
       k173 (!((a.Cals.x3.Closed.length:Int)==(b.Cals.x2.Closed.length:Int)))
      else bif i==3 then
       k173 (!((a.Cals.x3.Closed.length:Int)==(b.Cals.x3.Closed.length:Int)))
      else none
     else none
   else bif i==1 then
    let k167:Bool→Option ((Int×Circ×Circ×Unit)⊕((Unit)⊕(Bool×Unit))):=fun v162=>
     bif v162 then
      some (.inr (.inr (false,())))
     else
      match whileO qo_L7 (i,0,a,b,()) with
      |some (.inl (i163,a164,b165,_))=>
       some (.inl (wr .i64 (i163+1),a164,b165,()))
      |some (.inr (v166,_))=>
       some (.inr (.inr (v166,())))
      |none=>none
    bif !(a.Cals.x0.Week==b.Cals.x1.Week) then
     k167 true
    else
     bif i==0 then
      bif i==0 then
       k167 (!((a.Cals.x0.Closed.length:Int)==(b.Cals.x0.Closed.length:Int)))
      else bif i==1 then
       k167 (!((a.Cals.x0.Closed.length:Int)==(b.Cals.x1.Closed.length:Int)))
      else bif i==2 then
       k167 (!((a.Cals.x0.Closed.length:Int)==(b.Cals.x2.Closed.length:Int)))
      else bif i==3 then
       k167 (!((a.Cals.x0.Closed.length:Int)==(b.Cals.x3.Closed.length:Int)))
      else none
     else bif i==1 then
      bif i==0 then
       k167 (!((a.Cals.x1.Closed.length:Int)==(b.Cals.x0.Closed.length:Int)))
      else bif i==1 then
       k167 (!((a.Cals.x1.Closed.length:Int)==(b.Cals.x1.Closed.length:Int)))
      else bif i==2 then
       k167 (!((a.Cals.x1.Closed.length:Int)==(b.Cals.x2.Closed.length:Int)))
      else bif i==3 then
       k167 (!((a.Cals.x1.Closed.length:Int)==(b.Cals.x3.Closed.length:Int)))
      else none
     else bif i==2 then
      bif i==0 then
       k167 (!((a.Cals.x2.Closed.length:Int)==(b.Cals.x0.Closed.length:Int)))
      else bif i==1 then
       k167 (!((a.Cals.x2.Closed.length:Int)==(b.Cals.x1.Closed.length:Int)))
      else bif i==2 then
       k167 (!((a.Cals.x2.Closed.length:Int)==(b.Cals.x2.Closed.length:Int)))
      else bif i==3 then
       k167 (!((a.Cals.x2.Closed.length:Int)==(b.Cals.x3.Closed.length:Int)))
      else none
     else bif i==3 then
      bif i==0 then
       k167 (!((a.Cals.x3.Closed.length:Int)==(b.Cals.x0.Closed.length:Int)))
      else bif i==1 then
       k167 (!((a.Cals.x3.Closed.length:Int)==(b.Cals.x1.Closed.length:Int)))
      else bif i==2 then
       k167 (!((a.Cals.x3.Closed.length:Int)==(b.Cals.x2.Closed.length:Int)))
      else bif i==3 then
       k167 (!((a.Cals.x3.Closed.length:Int)==(b.Cals.x3.Closed.length:Int)))
      else none
     else none
   else bif i==2 then
    let k161:Bool→Option ((Int×Circ×Circ×Unit)⊕((Unit)⊕(Bool×Unit))):=fun v156=>
     bif v156 then
      some (.inr (.inr (false,())))
     else
      match whileO qo_L7 (i,0,a,b,()) with
      |some (.inl (i157,a158,b159,_))=>
       some (.inl (wr .i64 (i157+1),a158,b159,()))
      |some (.inr (v160,_))=>
       some (.inr (.inr (v160,())))
      |none=>none
    bif !(a.Cals.x0.Week==b.Cals.x2.Week) then
     k161 true
    else
     bif i==0 then
      bif i==0 then
       k161 (!((a.Cals.x0.Closed.length:Int)==(b.Cals.x0.Closed.length:Int)))
      else bif i==1 then
       k161 (!((a.Cals.x0.Closed.length:Int)==(b.Cals.x1.Closed.length:Int)))
      else bif i==2 then
       k161 (!((a.Cals.x0.Closed.length:Int)==(b.Cals.x2.Closed.length:Int)))
      else bif i==3 then
       k161 (!((a.Cals.x0.Closed.length:Int)==(b.Cals.x3.Closed.length:Int)))
      else none
     else bif i==1 then
      bif i==0 then
       k161 (!((a.Cals.x1.Closed.length:Int)==(b.Cals.x0.Closed.length:Int)))
      else bif i==1 then
       k161 (!((a.Cals.x1.Closed.length:Int)==(b.Cals.x1.Closed.length:Int)))
      else bif i==2 then
       k161 (!((a.Cals.x1.Closed.length:Int)==(b.Cals.x2.Closed.length:Int)))
      else bif i==3 then
       k161 (!((a.Cals.x1.Closed.length:Int)==(b.Cals.x3.Closed.length:Int)))
      else none
     else bif i==2 then
      bif i==0 then
       k161 (!((a.Cals.x2.Closed.length:Int)==(b.Cals.x0.Closed.length:Int)))
      else bif i==1 then
       k161 (!((a.Cals.x2.Closed.length:Int)==(b.Cals.x1.Closed.length:Int)))
      else bif i==2 then
       k161 (!((a.Cals.x2.Closed.length:Int)==(b.Cals.x2.Closed.length:Int)))
      else bif i==3 then
       k161 (!((a.Cals.x2.Closed.length:Int)==(b.Cals.x3.Closed.length:Int)))
      else none
     else bif i==3 then
      bif i==0 then
       k161 (!((a.Cals.x3.Closed.length:Int)==(b.Cals.x0.Closed.length:Int)))
      else bif i==1 then
       k161 (!((a.Cals.x3.Closed.length:Int)==(b.Cals.x1.Closed.length:Int)))
      else bif i==2 then
       k161 (!((a.Cals.x3.Closed.length:Int)==(b.Cals.x2.Closed.length:Int)))
      else bif i==3 then
       k161 (!((a.Cals.x3.Closed.length:Int)==(b.Cals.x3.Closed.length:Int)))
      else none
     else none
   else bif i==3 then
    let k155:Bool→Option ((Int×Circ×Circ×Unit)⊕((Unit)⊕(Bool×Unit))):=fun v150=>
     bif v150 then
      some (.inr (.inr (false,())))
     else
      match whileO qo_L7 (i,0,a,b,()) with
      |some (.inl (i151,a152,b153,_))=>
       some (.inl (wr .i64 (i151+1),a152,b153,()))
      |some (.inr (v154,_))=>
       some (.inr (.inr (v154,())))
      |none=>none
    bif !(a.Cals.x0.Week==b.Cals.x3.Week) then
     k155 true
    else
     bif i==0 then
      bif i==0 then
       k155 (!((a.Cals.x0.Closed.length:Int)==(b.Cals.x0.Closed.length:Int)))
      else bif i==1 then
       k155 (!((a.Cals.x0.Closed.length:Int)==(b.Cals.x1.Closed.length:Int)))
      else bif i==2 then
       k155 (!((a.Cals.x0.Closed.length:Int)==(b.Cals.x2.Closed.length:Int)))
      else bif i==3 then
       k155 (!((a.Cals.x0.Closed.length:Int)==(b.Cals.x3.Closed.length:Int)))
      else none
     else bif i==1 then
      bif i==0 then
       k155 (!((a.Cals.x1.Closed.length:Int)==(b.Cals.x0.Closed.length:Int)))
      else bif i==1 then
       k155 (!((a.Cals.x1.Closed.length:Int)==(b.Cals.x1.Closed.length:Int)))
      else bif i==2 then
       k155 (!((a.Cals.x1.Closed.length:Int)==(b.Cals.x2.Closed.length:Int)))
      else bif i==3 then
       k155 (!((a.Cals.x1.Closed.length:Int)==(b.Cals.x3.Closed.length:Int)))
      else none
     else bif i==2 then
      bif i==0 then
       k155 (!((a.Cals.x2.Closed.length:Int)==(b.Cals.x0.Closed.length:Int)))
      else bif i==1 then
       k155 (!((a.Cals.x2.Closed.length:Int)==(b.Cals.x1.Closed.length:Int)))
      else bif i==2 then
       k155 (!((a.Cals.x2.Closed.length:Int)==(b.Cals.x2.Closed.length:Int)))
      else bif i==3 then
       k155 (!((a.Cals.x2.Closed.length:Int)==(b.Cals.x3.Closed.length:Int)))
      else none
     else bif i==3 then
      bif i==0 then
       k155 (!((a.Cals.x3.Closed.length:Int)==(b.Cals.x0.Closed.length:Int)))
      else bif i==1 then
       k155 (!((a.Cals.x3.Closed.length:Int)==(b.Cals.x1.Closed.length:Int)))
      else bif i==2 then
       k155 (!((a.Cals.x3.Closed.length:Int)==(b.Cals.x2.Closed.length:Int)))
      else bif i==3 then
       k155 (!((a.Cals.x3.Closed.length:Int)==(b.Cals.x3.Closed.length:Int)))
      else none
     else none
   else none
  else bif i==1 then
   bif i==0 then
    let k149:Bool→Option ((Int×Circ×Circ×Unit)⊕((Unit)⊕(Bool×Unit))):=fun v144=>
     bif v144 then
      some (.inr (.inr (false,())))
     else
      match whileO qo_L7 (i,0,a,b,()) with
      |some (.inl (i145,a146,b147,_))=>
       some (.inl (wr .i64 (i145+1),a146,b147,()))
      |some (.inr (v148,_))=>
       some (.inr (.inr (v148,())))
      |none=>none
    bif !(a.Cals.x1.Week==b.Cals.x0.Week) then
     k149 true
    else
     bif i==0 then
      bif i==0 then
       k149 (!((a.Cals.x0.Closed.length:Int)==(b.Cals.x0.Closed.length:Int)))
      else bif i==1 then
       k149 (!((a.Cals.x0.Closed.length:Int)==(b.Cals.x1.Closed.length:Int)))
      else bif i==2 then
       k149 (!((a.Cals.x0.Closed.length:Int)==(b.Cals.x2.Closed.length:Int)))
      else bif i==3 then
       k149 (!((a.Cals.x0.Closed.length:Int)==(b.Cals.x3.Closed.length:Int)))
      else none
     else bif i==1 then
      bif i==0 then
       k149 (!((a.Cals.x1.Closed.length:Int)==(b.Cals.x0.Closed.length:Int)))
      else bif i==1 then
       k149 (!((a.Cals.x1.Closed.length:Int)==(b.Cals.x1.Closed.length:Int)))
      else bif i==2 then
       k149 (!((a.Cals.x1.Closed.length:Int)==(b.Cals.x2.Closed.length:Int)))
      else bif i==3 then
       k149 (!((a.Cals.x1.Closed.length:Int)==(b.Cals.x3.Closed.length:Int)))
      else none
     else bif i==2 then
      bif i==0 then
       k149 (!((a.Cals.x2.Closed.length:Int)==(b.Cals.x0.Closed.length:Int)))
      else bif i==1 then
       k149 (!((a.Cals.x2.Closed.length:Int)==(b.Cals.x1.Closed.length:Int)))
      else bif i==2 then
       k149 (!((a.Cals.x2.Closed.length:Int)==(b.Cals.x2.Closed.length:Int)))
      else bif i==3 then
       k149 (!((a.Cals.x2.Closed.length:Int)==(b.Cals.x3.Closed.length:Int)))
      else none
     else bif i==3 then
      bif i==0 then
       k149 (!((a.Cals.x3.Closed.length:Int)==(b.Cals.x0.Closed.length:Int)))
      else bif i==1 then
       k149 (!((a.Cals.x3.Closed.length:Int)==(b.Cals.x1.Closed.length:Int)))
      else bif i==2 then
       k149 (!((a.Cals.x3.Closed.length:Int)==(b.Cals.x2.Closed.length:Int)))
      else bif i==3 then
       k149 (!((a.Cals.x3.Closed.length:Int)==(b.Cals.x3.Closed.length:Int)))
      else none
     else none
   else bif i==1 then
    let k143:Bool→Option ((Int×Circ×Circ×Unit)⊕((Unit)⊕(Bool×Unit))):=fun v138=>
     bif v138 then
      some (.inr (.inr (false,())))
     else
      match whileO qo_L7 (i,0,a,b,()) with
      |some (.inl (i139,a140,b141,_))=>
       some (.inl (wr .i64 (i139+1),a140,b141,()))
      |some (.inr (v142,_))=>
       some (.inr (.inr (v142,())))
      |none=>none
    bif !(a.Cals.x1.Week==b.Cals.x1.Week) then
     k143 true
    else
     bif i==0 then
      bif i==0 then
       k143 (!((a.Cals.x0.Closed.length:Int)==(b.Cals.x0.Closed.length:Int)))
      else bif i==1 then
       k143 (!((a.Cals.x0.Closed.length:Int)==(b.Cals.x1.Closed.length:Int)))
      else bif i==2 then
       k143 (!((a.Cals.x0.Closed.length:Int)==(b.Cals.x2.Closed.length:Int)))
      else bif i==3 then
       k143 (!((a.Cals.x0.Closed.length:Int)==(b.Cals.x3.Closed.length:Int)))
      else none
     else bif i==1 then
      bif i==0 then
       k143 (!((a.Cals.x1.Closed.length:Int)==(b.Cals.x0.Closed.length:Int)))
      else bif i==1 then
       k143 (!((a.Cals.x1.Closed.length:Int)==(b.Cals.x1.Closed.length:Int)))
      else bif i==2 then
       k143 (!((a.Cals.x1.Closed.length:Int)==(b.Cals.x2.Closed.length:Int)))
      else bif i==3 then
       k143 (!((a.Cals.x1.Closed.length:Int)==(b.Cals.x3.Closed.length:Int)))
      else none
     else bif i==2 then
      bif i==0 then
       k143 (!((a.Cals.x2.Closed.length:Int)==(b.Cals.x0.Closed.length:Int)))
      else bif i==1 then
       k143 (!((a.Cals.x2.Closed.length:Int)==(b.Cals.x1.Closed.length:Int)))
      else bif i==2 then
       k143 (!((a.Cals.x2.Closed.length:Int)==(b.Cals.x2.Closed.length:Int)))
      else bif i==3 then
       k143 (!((a.Cals.x2.Closed.length:Int)==(b.Cals.x3.Closed.length:Int)))
      else none
     else bif i==3 then
      bif i==0 then
       k143 (!((a.Cals.x3.Closed.length:Int)==(b.Cals.x0.Closed.length:Int)))
      else bif i==1 then
       k143 (!((a.Cals.x3.Closed.length:Int)==(b.Cals.x1.Closed.length:Int)))
      else bif i==2 then
       k143 (!((a.Cals.x3.Closed.length:Int)==(b.Cals.x2.Closed.length:Int)))
      else bif i==3 then
       k143 (!((a.Cals.x3.Closed.length:Int)==(b.Cals.x3.Closed.length:Int)))
      else none
     else none
   else bif i==2 then
    let k137:Bool→Option ((Int×Circ×Circ×Unit)⊕((Unit)⊕(Bool×Unit))):=fun v132=>
     bif v132 then
      some (.inr (.inr (false,())))
     else
      match whileO qo_L7 (i,0,a,b,()) with
      |some (.inl (i133,a134,b135,_))=>
       some (.inl (wr .i64 (i133+1),a134,b135,()))
      |some (.inr (v136,_))=>
       some (.inr (.inr (v136,())))
      |none=>none
    bif !(a.Cals.x1.Week==b.Cals.x2.Week) then
     k137 true
    else
     bif i==0 then
      bif i==0 then
       k137 (!((a.Cals.x0.Closed.length:Int)==(b.Cals.x0.Closed.length:Int)))
      else bif i==1 then
       k137 (!((a.Cals.x0.Closed.length:Int)==(b.Cals.x1.Closed.length:Int)))
      else bif i==2 then
       k137 (!((a.Cals.x0.Closed.length:Int)==(b.Cals.x2.Closed.length:Int)))
      else bif i==3 then
       k137 (!((a.Cals.x0.Closed.length:Int)==(b.Cals.x3.Closed.length:Int)))
      else none
     else bif i==1 then
      bif i==0 then
       k137 (!((a.Cals.x1.Closed.length:Int)==(b.Cals.x0.Closed.length:Int)))
      else bif i==1 then
       k137 (!((a.Cals.x1.Closed.length:Int)==(b.Cals.x1.Closed.length:Int)))
      else bif i==2 then
       k137 (!((a.Cals.x1.Closed.length:Int)==(b.Cals.x2.Closed.length:Int)))
      else bif i==3 then
       k137 (!((a.Cals.x1.Closed.length:Int)==(b.Cals.x3.Closed.length:Int)))
      else none
     else bif i==2 then
      bif i==0 then
       k137 (!((a.Cals.x2.Closed.length:Int)==(b.Cals.x0.Closed.length:Int)))
      else bif i==1 then
       k137 (!((a.Cals.x2.Closed.length:Int)==(b.Cals.x1.Closed.length:Int)))
      else bif i==2 then
       k137 (!((a.Cals.x2.Closed.length:Int)==(b.Cals.x2.Closed.length:Int)))
      else bif i==3 then
       k137 (!((a.Cals.x2.Closed.length:Int)==(b.Cals.x3.Closed.length:Int)))
      else none
     else bif i==3 then
      bif i==0 then
       k137 (!((a.Cals.x3.Closed.length:Int)==(b.Cals.x0.Closed.length:Int)))
      else bif i==1 then
       k137 (!((a.Cals.x3.Closed.length:Int)==(b.Cals.x1.Closed.length:Int)))
      else bif i==2 then
       k137 (!((a.Cals.x3.Closed.length:Int)==(b.Cals.x2.Closed.length:Int)))
      else bif i==3 then
       k137 (!((a.Cals.x3.Closed.length:Int)==(b.Cals.x3.Closed.length:Int)))
      else none
     else none
   else bif i==3 then
    let k131:Bool→Option ((Int×Circ×Circ×Unit)⊕((Unit)⊕(Bool×Unit))):=fun v126=>
     bif v126 then
      some (.inr (.inr (false,())))
     else
      match whileO qo_L7 (i,0,a,b,()) with
      |some (.inl (i127,a128,b129,_))=>
       some (.inl (wr .i64 (i127+1),a128,b129,()))
      |some (.inr (v130,_))=>
       some (.inr (.inr (v130,())))
      |none=>none
    bif !(a.Cals.x1.Week==b.Cals.x3.Week) then
     k131 true
    else
     bif i==0 then
      bif i==0 then
       k131 (!((a.Cals.x0.Closed.length:Int)==(b.Cals.x0.Closed.length:Int)))
      else bif i==1 then
       k131 (!((a.Cals.x0.Closed.length:Int)==(b.Cals.x1.Closed.length:Int)))
      else bif i==2 then
       k131 (!((a.Cals.x0.Closed.length:Int)==(b.Cals.x2.Closed.length:Int)))
      else bif i==3 then
       k131 (!((a.Cals.x0.Closed.length:Int)==(b.Cals.x3.Closed.length:Int)))
      else none
     else bif i==1 then
      bif i==0 then
       k131 (!((a.Cals.x1.Closed.length:Int)==(b.Cals.x0.Closed.length:Int)))
      else bif i==1 then
       k131 (!((a.Cals.x1.Closed.length:Int)==(b.Cals.x1.Closed.length:Int)))
      else bif i==2 then
       k131 (!((a.Cals.x1.Closed.length:Int)==(b.Cals.x2.Closed.length:Int)))
      else bif i==3 then
       k131 (!((a.Cals.x1.Closed.length:Int)==(b.Cals.x3.Closed.length:Int)))
      else none
     else bif i==2 then
      bif i==0 then
       k131 (!((a.Cals.x2.Closed.length:Int)==(b.Cals.x0.Closed.length:Int)))
      else bif i==1 then
       k131 (!((a.Cals.x2.Closed.length:Int)==(b.Cals.x1.Closed.length:Int)))
      else bif i==2 then
       k131 (!((a.Cals.x2.Closed.length:Int)==(b.Cals.x2.Closed.length:Int)))
      else bif i==3 then
       k131 (!((a.Cals.x2.Closed.length:Int)==(b.Cals.x3.Closed.length:Int)))
      else none
     else bif i==3 then
      bif i==0 then
       k131 (!((a.Cals.x3.Closed.length:Int)==(b.Cals.x0.Closed.length:Int)))
      else bif i==1 then
       k131 (!((a.Cals.x3.Closed.length:Int)==(b.Cals.x1.Closed.length:Int)))
      else bif i==2 then
       k131 (!((a.Cals.x3.Closed.length:Int)==(b.Cals.x2.Closed.length:Int)))
      else bif i==3 then
       k131 (!((a.Cals.x3.Closed.length:Int)==(b.Cals.x3.Closed.length:Int)))
      else none
     else none
   else none
  else bif i==2 then
   bif i==0 then
    let k125:Bool→Option ((Int×Circ×Circ×Unit)⊕((Unit)⊕(Bool×Unit))):=fun v120=>
     bif v120 then
      some (.inr (.inr (false,())))
     else
      match whileO qo_L7 (i,0,a,b,()) with
      |some (.inl (i121,a122,b123,_))=>
       some (.inl (wr .i64 (i121+1),a122,b123,()))
      |some (.inr (v124,_))=>
       some (.inr (.inr (v124,())))
      |none=>none
    bif !(a.Cals.x2.Week==b.Cals.x0.Week) then
     k125 true
    else
     bif i==0 then
      bif i==0 then
       k125 (!((a.Cals.x0.Closed.length:Int)==(b.Cals.x0.Closed.length:Int)))
      else bif i==1 then
       k125 (!((a.Cals.x0.Closed.length:Int)==(b.Cals.x1.Closed.length:Int)))
      else bif i==2 then
       k125 (!((a.Cals.x0.Closed.length:Int)==(b.Cals.x2.Closed.length:Int)))
      else bif i==3 then
       k125 (!((a.Cals.x0.Closed.length:Int)==(b.Cals.x3.Closed.length:Int)))
      else none
     else bif i==1 then
      bif i==0 then
       k125 (!((a.Cals.x1.Closed.length:Int)==(b.Cals.x0.Closed.length:Int)))
      else bif i==1 then
       k125 (!((a.Cals.x1.Closed.length:Int)==(b.Cals.x1.Closed.length:Int)))
      else bif i==2 then
       k125 (!((a.Cals.x1.Closed.length:Int)==(b.Cals.x2.Closed.length:Int)))
      else bif i==3 then
       k125 (!((a.Cals.x1.Closed.length:Int)==(b.Cals.x3.Closed.length:Int)))
      else none
     else bif i==2 then
      bif i==0 then
       k125 (!((a.Cals.x2.Closed.length:Int)==(b.Cals.x0.Closed.length:Int)))
      else bif i==1 then
       k125 (!((a.Cals.x2.Closed.length:Int)==(b.Cals.x1.Closed.length:Int)))
      else bif i==2 then
       k125 (!((a.Cals.x2.Closed.length:Int)==(b.Cals.x2.Closed.length:Int)))
      else bif i==3 then
       k125 (!((a.Cals.x2.Closed.length:Int)==(b.Cals.x3.Closed.length:Int)))
      else none
     else bif i==3 then
      bif i==0 then
       k125 (!((a.Cals.x3.Closed.length:Int)==(b.Cals.x0.Closed.length:Int)))
      else bif i==1 then
       k125 (!((a.Cals.x3.Closed.length:Int)==(b.Cals.x1.Closed.length:Int)))
      else bif i==2 then
       k125 (!((a.Cals.x3.Closed.length:Int)==(b.Cals.x2.Closed.length:Int)))
      else bif i==3 then
       k125 (!((a.Cals.x3.Closed.length:Int)==(b.Cals.x3.Closed.length:Int)))
      else none
     else none
   else bif i==1 then
    let k119:Bool→Option ((Int×Circ×Circ×Unit)⊕((Unit)⊕(Bool×Unit))):=fun v114=>
     bif v114 then
      some (.inr (.inr (false,())))
     else
      match whileO qo_L7 (i,0,a,b,()) with
      |some (.inl (i115,a116,b117,_))=>
       some (.inl (wr .i64 (i115+1),a116,b117,()))
      |some (.inr (v118,_))=>
       some (.inr (.inr (v118,())))
      |none=>none
    bif !(a.Cals.x2.Week==b.Cals.x1.Week) then
     k119 true
    else
     bif i==0 then
      bif i==0 then
       k119 (!((a.Cals.x0.Closed.length:Int)==(b.Cals.x0.Closed.length:Int)))
      else bif i==1 then
       k119 (!((a.Cals.x0.Closed.length:Int)==(b.Cals.x1.Closed.length:Int)))
      else bif i==2 then
       k119 (!((a.Cals.x0.Closed.length:Int)==(b.Cals.x2.Closed.length:Int)))
      else bif i==3 then
       k119 (!((a.Cals.x0.Closed.length:Int)==(b.Cals.x3.Closed.length:Int)))
      else none
     else bif i==1 then
      bif i==0 then
       k119 (!((a.Cals.x1.Closed.length:Int)==(b.Cals.x0.Closed.length:Int)))
      else bif i==1 then
       k119 (!((a.Cals.x1.Closed.length:Int)==(b.Cals.x1.Closed.length:Int)))
      else bif i==2 then
       k119 (!((a.Cals.x1.Closed.length:Int)==(b.Cals.x2.Closed.length:Int)))
      else bif i==3 then
       k119 (!((a.Cals.x1.Closed.length:Int)==(b.Cals.x3.Closed.length:Int)))
      else none
     else bif i==2 then
      bif i==0 then
       k119 (!((a.Cals.x2.Closed.length:Int)==(b.Cals.x0.Closed.length:Int)))
      else bif i==1 then
       k119 (!((a.Cals.x2.Closed.length:Int)==(b.Cals.x1.Closed.length:Int)))
      else bif i==2 then
       k119 (!((a.Cals.x2.Closed.length:Int)==(b.Cals.x2.Closed.length:Int)))
      else bif i==3 then
       k119 (!((a.Cals.x2.Closed.length:Int)==(b.Cals.x3.Closed.length:Int)))
      else none
     else bif i==3 then
      bif i==0 then
       k119 (!((a.Cals.x3.Closed.length:Int)==(b.Cals.x0.Closed.length:Int)))
      else bif i==1 then
       k119 (!((a.Cals.x3.Closed.length:Int)==(b.Cals.x1.Closed.length:Int)))
      else bif i==2 then
       k119 (!((a.Cals.x3.Closed.length:Int)==(b.Cals.x2.Closed.length:Int)))
      else bif i==3 then
       k119 (!((a.Cals.x3.Closed.length:Int)==(b.Cals.x3.Closed.length:Int)))
      else none
     else none
   else bif i==2 then
    let k113:Bool→Option ((Int×Circ×Circ×Unit)⊕((Unit)⊕(Bool×Unit))):=fun v108=>
     bif v108 then
      some (.inr (.inr (false,())))
     else
      match whileO qo_L7 (i,0,a,b,()) with
      |some (.inl (i109,a110,b111,_))=>
       some (.inl (wr .i64 (i109+1),a110,b111,()))
      |some (.inr (v112,_))=>
       some (.inr (.inr (v112,())))
      |none=>none
    bif !(a.Cals.x2.Week==b.Cals.x2.Week) then
     k113 true
    else
     bif i==0 then
      bif i==0 then
       k113 (!((a.Cals.x0.Closed.length:Int)==(b.Cals.x0.Closed.length:Int)))
      else bif i==1 then
       k113 (!((a.Cals.x0.Closed.length:Int)==(b.Cals.x1.Closed.length:Int)))
      else bif i==2 then
       k113 (!((a.Cals.x0.Closed.length:Int)==(b.Cals.x2.Closed.length:Int)))
      else bif i==3 then
       k113 (!((a.Cals.x0.Closed.length:Int)==(b.Cals.x3.Closed.length:Int)))
      else none
     else bif i==1 then
      bif i==0 then
       k113 (!((a.Cals.x1.Closed.length:Int)==(b.Cals.x0.Closed.length:Int)))
      else bif i==1 then
       k113 (!((a.Cals.x1.Closed.length:Int)==(b.Cals.x1.Closed.length:Int)))
      else bif i==2 then
       k113 (!((a.Cals.x1.Closed.length:Int)==(b.Cals.x2.Closed.length:Int)))
      else bif i==3 then
       k113 (!((a.Cals.x1.Closed.length:Int)==(b.Cals.x3.Closed.length:Int)))
      else none
     else bif i==2 then
      bif i==0 then
       k113 (!((a.Cals.x2.Closed.length:Int)==(b.Cals.x0.Closed.length:Int)))
      else bif i==1 then
       k113 (!((a.Cals.x2.Closed.length:Int)==(b.Cals.x1.Closed.length:Int)))
      else bif i==2 then
       k113 (!((a.Cals.x2.Closed.length:Int)==(b.Cals.x2.Closed.length:Int)))
      else bif i==3 then
       k113 (!((a.Cals.x2.Closed.length:Int)==(b.Cals.x3.Closed.length:Int)))
      else none
     else bif i==3 then
      bif i==0 then
       k113 (!((a.Cals.x3.Closed.length:Int)==(b.Cals.x0.Closed.length:Int)))
      else bif i==1 then
       k113 (!((a.Cals.x3.Closed.length:Int)==(b.Cals.x1.Closed.length:Int)))
      else bif i==2 then
       k113 (!((a.Cals.x3.Closed.length:Int)==(b.Cals.x2.Closed.length:Int)))
      else bif i==3 then
       k113 (!((a.Cals.x3.Closed.length:Int)==(b.Cals.x3.Closed.length:Int)))
      else none
     else none
   else bif i==3 then
    let k107:Bool→Option ((Int×Circ×Circ×Unit)⊕((Unit)⊕(Bool×Unit))):=fun v102=>
     bif v102 then
      some (.inr (.inr (false,())))
     else
      match whileO qo_L7 (i,0,a,b,()) with
      |some (.inl (i103,a104,b105,_))=>
       some (.inl (wr .i64 (i103+1),a104,b105,()))
      |some (.inr (v106,_))=>
       some (.inr (.inr (v106,())))
      |none=>none
    bif !(a.Cals.x2.Week==b.Cals.x3.Week) then
     k107 true
    else
     bif i==0 then
      bif i==0 then
       k107 (!((a.Cals.x0.Closed.length:Int)==(b.Cals.x0.Closed.length:Int)))
      else bif i==1 then
       k107 (!((a.Cals.x0.Closed.length:Int)==(b.Cals.x1.Closed.length:Int)))
      else bif i==2 then
       k107 (!((a.Cals.x0.Closed.length:Int)==(b.Cals.x2.Closed.length:Int)))
      else bif i==3 then
       k107 (!((a.Cals.x0.Closed.length:Int)==(b.Cals.x3.Closed.length:Int)))
      else none
     else bif i==1 then
      bif i==0 then
       k107 (!((a.Cals.x1.Closed.length:Int)==(b.Cals.x0.Closed.length:Int)))
      else bif i==1 then
       k107 (!((a.Cals.x1.Closed.length:Int)==(b.Cals.x1.Closed.length:Int)))
      else bif i==2 then
       k107 (!((a.Cals.x1.Closed.length:Int)==(b.Cals.x2.Closed.length:Int)))
      else bif i==3 then
       k107 (!((a.Cals.x1.Closed.length:Int)==(b.Cals.x3.Closed.length:Int)))
      else none
     else bif i==2 then
      bif i==0 then
       k107 (!((a.Cals.x2.Closed.length:Int)==(b.Cals.x0.Closed.length:Int)))
      else bif i==1 then
       k107 (!((a.Cals.x2.Closed.length:Int)==(b.Cals.x1.Closed.length:Int)))
      else bif i==2 then
       k107 (!((a.Cals.x2.Closed.length:Int)==(b.Cals.x2.Closed.length:Int)))
      else bif i==3 then
       k107 (!((a.Cals.x2.Closed.length:Int)==(b.Cals.x3.Closed.length:Int)))
      else none
     else bif i==3 then
      bif i==0 then
       k107 (!((a.Cals.x3.Closed.length:Int)==(b.Cals.x0.Closed.length:Int)))
      else bif i==1 then
       k107 (!((a.Cals.x3.Closed.length:Int)==(b.Cals.x1.Closed.length:Int)))
      else bif i==2 then
       k107 (!((a.Cals.x3.Closed.length:Int)==(b.Cals.x2.Closed.length:Int)))
      else bif i==3 then
       k107 (!((a.Cals.x3.Closed.length:Int)==(b.Cals.x3.Closed.length:Int)))
      else none
     else none
   else none
  else bif i==3 then
   bif i==0 then
    let k101:Bool→Option ((Int×Circ×Circ×Unit)⊕((Unit)⊕(Bool×Unit))):=fun v96=>
     bif v96 then
      some (.inr (.inr (false,())))
     else
      match whileO qo_L7 (i,0,a,b,()) with
      |some (.inl (i97,a98,b99,_))=>
       some (.inl (wr .i64 (i97+1),a98,b99,()))
      |some (.inr (v100,_))=>
       some (.inr (.inr (v100,())))
      |none=>none
    bif !(a.Cals.x3.Week==b.Cals.x0.Week) then
     k101 true
    else
     bif i==0 then
      bif i==0 then
       k101 (!((a.Cals.x0.Closed.length:Int)==(b.Cals.x0.Closed.length:Int)))
      else bif i==1 then
       k101 (!((a.Cals.x0.Closed.length:Int)==(b.Cals.x1.Closed.length:Int)))
      else bif i==2 then
       k101 (!((a.Cals.x0.Closed.length:Int)==(b.Cals.x2.Closed.length:Int)))
      else bif i==3 then
       k101 (!((a.Cals.x0.Closed.length:Int)==(b.Cals.x3.Closed.length:Int)))
      else none
     else bif i==1 then
      bif i==0 then
       k101 (!((a.Cals.x1.Closed.length:Int)==(b.Cals.x0.Closed.length:Int)))
      else bif i==1 then
       k101 (!((a.Cals.x1.Closed.length:Int)==(b.Cals.x1.Closed.length:Int)))
      else bif i==2 then
       k101 (!((a.Cals.x1.Closed.length:Int)==(b.Cals.x2.Closed.length:Int)))
      else bif i==3 then
       k101 (!((a.Cals.x1.Closed.length:Int)==(b.Cals.x3.Closed.length:Int)))
      else none
     else bif i==2 then
      bif i==0 then
       k101 (!((a.Cals.x2.Closed.length:Int)==(b.Cals.x0.Closed.length:Int)))
      else bif i==1 then
       k101 (!((a.Cals.x2.Closed.length:Int)==(b.Cals.x1.Closed.length:Int)))
      else bif i==2 then
       k101 (!((a.Cals.x2.Closed.length:Int)==(b.Cals.x2.Closed.length:Int)))
      else bif i==3 then
       k101 (!((a.Cals.x2.Closed.length:Int)==(b.Cals.x3.Closed.length:Int)))
      else none
     else bif i==3 then
      bif i==0 then
       k101 (!((a.Cals.x3.Closed.length:Int)==(b.Cals.x0.Closed.length:Int)))
      else bif i==1 then
       k101 (!((a.Cals.x3.Closed.length:Int)==(b.Cals.x1.Closed.length:Int)))
      else bif i==2 then
       k101 (!((a.Cals.x3.Closed.length:Int)==(b.Cals.x2.Closed.length:Int)))
      else bif i==3 then
       k101 (!((a.Cals.x3.Closed.length:Int)==(b.Cals.x3.Closed.length:Int)))
      else none
     else none
   else bif i==1 then
    let k95:Bool→Option ((Int×Circ×Circ×Unit)⊕((Unit)⊕(Bool×Unit))):=fun v90=>
     bif v90 then
      some (.inr (.inr (false,())))
     else
      match whileO qo_L7 (i,0,a,b,()) with
      |some (.inl (i91,a92,b93,_))=>
       some (.inl (wr .i64 (i91+1),a92,b93,()))
      |some (.inr (v94,_))=>
       some (.inr (.inr (v94,())))
      |none=>none
    bif !(a.Cals.x3.Week==b.Cals.x1.Week) then
     k95 true
    else
     bif i==0 then
      bif i==0 then
       k95 (!((a.Cals.x0.Closed.length:Int)==(b.Cals.x0.Closed.length:Int)))
      else bif i==1 then
       k95 (!((a.Cals.x0.Closed.length:Int)==(b.Cals.x1.Closed.length:Int)))
      else bif i==2 then
       k95 (!((a.Cals.x0.Closed.length:Int)==(b.Cals.x2.Closed.length:Int)))
      else bif i==3 then
       k95 (!((a.Cals.x0.Closed.length:Int)==(b.Cals.x3.Closed.length:Int)))
      else none
     else bif i==1 then
      bif i==0 then
       k95 (!((a.Cals.x1.Closed.length:Int)==(b.Cals.x0.Closed.length:Int)))
      else bif i==1 then
       k95 (!((a.Cals.x1.Closed.length:Int)==(b.Cals.x1.Closed.length:Int)))
      else bif i==2 then
       k95 (!((a.Cals.x1.Closed.length:Int)==(b.Cals.x2.Closed.length:Int)))
      else bif i==3 then
       k95 (!((a.Cals.x1.Closed.length:Int)==(b.Cals.x3.Closed.length:Int)))
      else none
     else bif i==2 then
      bif i==0 then
       k95 (!((a.Cals.x2.Closed.length:Int)==(b.Cals.x0.Closed.length:Int)))
      else bif i==1 then
       k95 (!((a.Cals.x2.Closed.length:Int)==(b.Cals.x1.Closed.length:Int)))
      else bif i==2 then
       k95 (!((a.Cals.x2.Closed.length:Int)==(b.Cals.x2.Closed.length:Int)))
      else bif i==3 then
       k95 (!((a.Cals.x2.Closed.length:Int)==(b.Cals.x3.Closed.length:Int)))
      else none
     else bif i==3 then
      bif i==0 then
       k95 (!((a.Cals.x3.Closed.length:Int)==(b.Cals.x0.Closed.length:Int)))
      else bif i==1 then
       k95 (!((a.Cals.x3.Closed.length:Int)==(b.Cals.x1.Closed.length:Int)))
      else bif i==2 then
       k95 (!((a.Cals.x3.Closed.length:Int)==(b.Cals.x2.Closed.length:Int)))
      else bif i==3 then
       k95 (!((a.Cals.x3.Closed.length:Int)==(b.Cals.x3.Closed.length:Int)))
      else none
     else none
   else bif i==2 then
    let k89:Bool→Option ((Int×Circ×Circ×Unit)⊕((Unit)⊕(Bool×Unit))):=fun v84=>
     bif v84 then
      some (.inr (.inr (false,())))
     else
      match whileO qo_L7 (i,0,a,b,()) with
      |some (.inl (i85,a86,b87,_))=>
       some (.inl (wr .i64 (i85+1),a86,b87,()))
      |some (.inr (v88,_))=>
       some (.inr (.inr (v88,())))
      |none=>none
    bif !(a.Cals.x3.Week==b.Cals.x2.Week) then
     k89 true
    else
     bif i==0 then
      bif i==0 then
       k89 (!((a.Cals.x0.Closed.length:Int)==(b.Cals.x0.Closed.length:Int)))
      else bif i==1 then
       k89 (!((a.Cals.x0.Closed.length:Int)==(b.Cals.x1.Closed.length:Int)))
      else bif i==2 then
       k89 (!((a.Cals.x0.Closed.length:Int)==(b.Cals.x2.Closed.length:Int)))
      else bif i==3 then
       k89 (!((a.Cals.x0.Closed.length:Int)==(b.Cals.x3.Closed.length:Int)))
      else none
     else bif i==1 then
      bif i==0 then
       k89 (!((a.Cals.x1.Closed.length:Int)==(b.Cals.x0.Closed.length:Int)))
      else bif i==1 then
       k89 (!((a.Cals.x1.Closed.length:Int)==(b.Cals.x1.Closed.length:Int)))
      else bif i==2 then
       k89 (!((a.Cals.x1.Closed.length:Int)==(b.Cals.x2.Closed.length:Int)))
      else bif i==3 then
       k89 (!((a.Cals.x1.Closed.length:Int)==(b.Cals.x3.Closed.length:Int)))
      else none
     else bif i==2 then
      bif i==0 then
       k89 (!((a.Cals.x2.Closed.length:Int)==(b.Cals.x0.Closed.length:Int)))
      else bif i==1 then
       k89 (!((a.Cals.x2.Closed.length:Int)==(b.Cals.x1.Closed.length:Int)))
      else bif i==2 then
       k89 (!((a.Cals.x2.Closed.length:Int)==(b.Cals.x2.Closed.length:Int)))
      else bif i==3 then
       k89 (!((a.Cals.x2.Closed.length:Int)==(b.Cals.x3.Closed.length:Int)))
      else none
     else bif i==3 then
      bif i==0 then
       k89 (!((a.Cals.x3.Closed.length:Int)==(b.Cals.x0.Closed.length:Int)))
      else bif i==1 then
       k89 (!((a.Cals.x3.Closed.length:Int)==(b.Cals.x1.Closed.length:Int)))
      else bif i==2 then
       k89 (!((a.Cals.x3.Closed.length:Int)==(b.Cals.x2.Closed.length:Int)))
      else bif i==3 then
       k89 (!((a.Cals.x3.Closed.length:Int)==(b.Cals.x3.Closed.length:Int)))
      else none
     else none
   else bif i==3 then
    let k:Bool→Option ((Int×Circ×Circ×Unit)⊕((Unit)⊕(Bool×Unit))):=fun v=>
     bif v then
      some (.inr (.inr (false,())))
     else
      match whileO qo_L7 (i,0,a,b,()) with
      |some (.inl (i80,a81,b82,_))=>
       some (.inl (wr .i64 (i80+1),a81,b82,()))
      |some (.inr (v83,_))=>
       some (.inr (.inr (v83,())))
      |none=>none
    bif !(a.Cals.x3.Week==b.Cals.x3.Week) then
     k true
    else
     bif i==0 then
      bif i==0 then
       k (!((a.Cals.x0.Closed.length:Int)==(b.Cals.x0.Closed.length:Int)))
      else bif i==1 then
       k (!((a.Cals.x0.Closed.length:Int)==(b.Cals.x1.Closed.length:Int)))
      else bif i==2 then
       k (!((a.Cals.x0.Closed.length:Int)==(b.Cals.x2.Closed.length:Int)))
      else bif i==3 then
       k (!((a.Cals.x0.Closed.length:Int)==(b.Cals.x3.Closed.length:Int)))
      else none
     else bif i==1 then
      bif i==0 then
       k (!((a.Cals.x1.Closed.length:Int)==(b.Cals.x0.Closed.length:Int)))
      else bif i==1 then
       k (!((a.Cals.x1.Closed.length:Int)==(b.Cals.x1.Closed.length:Int)))
      else bif i==2 then
       k (!((a.Cals.x1.Closed.length:Int)==(b.Cals.x2.Closed.length:Int)))
      else bif i==3 then
       k (!((a.Cals.x1.Closed.length:Int)==(b.Cals.x3.Closed.length:Int)))
      else none
     else bif i==2 then
      bif i==0 then
       k (!((a.Cals.x2.Closed.length:Int)==(b.Cals.x0.Closed.length:Int)))
      else bif i==1 then
       k (!((a.Cals.x2.Closed.length:Int)==(b.Cals.x1.Closed.length:Int)))
      else bif i==2 then
       k (!((a.Cals.x2.Closed.length:Int)==(b.Cals.x2.Closed.length:Int)))
      else bif i==3 then
       k (!((a.Cals.x2.Closed.length:Int)==(b.Cals.x3.Closed.length:Int)))
      else none
     else bif i==3 then
      bif i==0 then
       k (!((a.Cals.x3.Closed.length:Int)==(b.Cals.x0.Closed.length:Int)))
      else bif i==1 then
       k (!((a.Cals.x3.Closed.length:Int)==(b.Cals.x1.Closed.length:Int)))
      else bif i==2 then
       k (!((a.Cals.x3.Closed.length:Int)==(b.Cals.x2.Closed.length:Int)))
      else bif i==3 then
       k (!((a.Cals.x3.Closed.length:Int)==(b.Cals.x3.Closed.length:Int)))
      else none
     else none
   else none
  else none
 else
  some (.inr (.inl (())))
def qo (a:Circ) (b:Circ):Option Bool:=
 match whileO qo_L2 (0,a,b,()) with
 |some (.inl (_))=>
  some true
 |some (.inr (v,_))=>
  some v
 |none=>none
def qb_L6:(Int×Circ×Circ×Unit)→Option ((Int×Circ×Circ×Unit)⊕((Circ×Circ×Unit)⊕(Bool×Unit))):=fun (i,a,b,_)=>
 bif decide (i<(a.Items.length:Int)) then
  match getI a.Items i with
  |some x=>
   match getI b.Items i with
   |some x10=>
    bif !(eqT_Item x x10) then
     some (.inr (.inr (false,())))
    else
     some (.inl (wr .i64 (i+1),a,b,()))
   |none=>none
  |none=>none
 else
  some (.inr (.inl (a,b,())))
def qb_L11:(Int×Circ×Circ×Unit)→Option ((Int×Circ×Circ×Unit)⊕((Circ×Circ×Unit)⊕(Bool×Unit))):=fun (i,a,b,_)=>
 bif decide (i<(a.Patrons.length:Int)) then
  match getI a.Patrons i with
  |some x=>
   match getI b.Patrons i with
   |some x13=>
    bif !(eqT_Patron x x13) then
     some (.inr (.inr (false,())))
    else
     some (.inl (wr .i64 (i+1),a,b,()))
   |none=>none
  |none=>none
 else
  some (.inr (.inl (a,b,())))
def qb_L16:(Int×Circ×Circ×Unit)→Option ((Int×Circ×Circ×Unit)⊕((Circ×Circ×Unit)⊕(Bool×Unit))):=fun (i,a,b,_)=>
 bif decide (i<(a.Loans.length:Int)) then
  match getI a.Loans i with
  |some x=>
   match getI b.Loans i with
   |some x16=>
    bif !(eqT_Loan x x16) then
     some (.inr (.inr (false,())))
    else
     some (.inl (wr .i64 (i+1),a,b,()))
   |none=>none
  |none=>none
 else
  some (.inr (.inl (a,b,())))
def qb_L21:(Int×Circ×Circ×Unit)→Option ((Int×Circ×Circ×Unit)⊕((Circ×Circ×Unit)⊕(Bool×Unit))):=fun (i,a,b,_)=>
 bif decide (i<(a.Holds.length:Int)) then
  match getI a.Holds i with
  |some x=>
   match getI b.Holds i with
   |some x19=>
    bif !(eqT_Hold x x19) then
     some (.inr (.inr (false,())))
    else
     some (.inl (wr .i64 (i+1),a,b,()))
   |none=>none
  |none=>none
 else
  some (.inr (.inl (a,b,())))
def qb_L26:(Int×Circ×Circ×Unit)→Option ((Int×Circ×Circ×Unit)⊕((Circ×Circ×Unit)⊕(Bool×Unit))):=fun (i,a,b,_)=>
 bif decide (i<(a.Charges.length:Int)) then
  match getI a.Charges i with
  |some x=>
   match getI b.Charges i with
   |some x22=>
    bif !(eqT_Charge x x22) then
     some (.inr (.inr (false,())))
    else
     some (.inl (wr .i64 (i+1),a,b,()))
   |none=>none
  |none=>none
 else
  some (.inr (.inl (a,b,())))
def qb_L31:(Int×Circ×Circ×Unit)→Option ((Int×Circ×Circ×Unit)⊕((Circ×Circ×Unit)⊕(Bool×Unit))):=fun (i,a,b,_)=>
 bif decide (i<(a.Rules.length:Int)) then
  match getI a.Rules i with
  |some x=>
   match getI b.Rules i with
   |some x25=>
    bif !(eqT_Rule x x25) then
     some (.inr (.inr (false,())))
    else
     some (.inl (wr .i64 (i+1),a,b,()))
   |none=>none
  |none=>none
 else
  some (.inr (.inl (a,b,())))
def qb_L36:(Int×Circ×Circ×Unit)→Option ((Int×Circ×Circ×Unit)⊕((Circ×Circ×Unit)⊕(Bool×Unit))):=fun (i,a,b,_)=>
 bif decide (i<(a.Moves.length:Int)) then
  match getI a.Moves i with
  |some x=>
   match getI b.Moves i with
   |some x28=>
    bif !(eqT_Move x x28) then
     some (.inr (.inr (false,())))
    else
     some (.inl (wr .i64 (i+1),a,b,()))
   |none=>none
  |none=>none
 else
  some (.inr (.inl (a,b,())))
def qb (a:Circ) (b:Circ):Option Bool:=
 let k47:Bool→Option Bool:=fun v=>
  let k46:Bool→Option Bool:=fun v1=>
   let k45:Bool→Option Bool:=fun v2=>
    let k44:Bool→Option Bool:=fun v3=>
     bif v3 then
      some false
     else
      let k43:Bool→Option Bool:=fun v4=>
       let k42:Bool→Option Bool:=fun v5=>
        let k41:Bool→Option Bool:=fun v6=>
         let k40:Bool→Option Bool:=fun v7=>
          let k39:Bool→Option Bool:=fun v8=>
           let k:Bool→Option Bool:=fun v9=>
            bif v9 then
             some false
            else
             match whileO qb_L6 (0,a,b,()) with
             |some (.inl (a11,b12,_))=>
              match whileO qb_L11 (0,a11,b12,()) with
              |some (.inl (a14,b15,_))=>
               match whileO qb_L16 (0,a14,b15,()) with
               |some (.inl (a17,b18,_))=>
                match whileO qb_L21 (0,a17,b18,()) with
                |some (.inl (a20,b21,_))=>
                 match whileO qb_L26 (0,a20,b21,()) with
                 |some (.inl (a23,b24,_))=>
                  match whileO qb_L31 (0,a23,b24,()) with
                  |some (.inl (a26,b27,_))=>
                   match whileO qb_L36 (0,a26,b27,()) with
                   |some (.inl (a29,b30,_))=>
                    match qo a29 b30 with
                    |some r31=>
                     some r31
                    |none=>none
                   |some (.inr (v32,_))=>
                    some v32
                   |none=>none
                  |some (.inr (v33,_))=>
                   some v33
                  |none=>none
                 |some (.inr (v34,_))=>
                  some v34
                 |none=>none
                |some (.inr (v35,_))=>
                 some v35
                |none=>none
               |some (.inr (v36,_))=>
                some v36
               |none=>none
              |some (.inr (v37,_))=>
               some v37
              |none=>none
             |some (.inr (v38,_))=>
              some v38
             |none=>none
           bif v8 then
            k true
           else
            k (!((a.Moves.length:Int)==(b.Moves.length:Int)))
          bif v7 then
           k39 true
          else
           k39 (!((a.Rules.length:Int)==(b.Rules.length:Int)))
         bif v6 then
          k40 true
         else
          k40 (!((a.Charges.length:Int)==(b.Charges.length:Int)))
        bif v5 then
         k41 true
        else
         k41 (!((a.Holds.length:Int)==(b.Holds.length:Int)))
       bif v4 then
        k42 true
       else
        k42 (!((a.Loans.length:Int)==(b.Loans.length:Int)))
      bif !((a.Items.length:Int)==(b.Items.length:Int)) then
       k43 true
      else
       k43 (!((a.Patrons.length:Int)==(b.Patrons.length:Int)))
    bif v2 then
     k44 true
    else
     k44 (!(a.Local==b.Local))
   bif v1 then
    k45 true
   else
    k45 (!(a.NextCharge==b.NextCharge))
  bif v then
   k46 true
  else
   k46 (!(a.NextHold==b.NextHold))
 bif !(a.Today==b.Today) then
  k47 true
 else
  k47 (!(a.Cals.x0.Week==b.Cals.x0.Week))
def qe6 (c:Circ) (x:Item) (p:Patron):Option Bool:=
 match qev c with
 |some r1=>
  let k31:Bool→Option Bool:=fun v=>
   let k30:Bool→Option Bool:=fun v2=>
    bif v2 then
     match qdu with
     |some r4=>
      some r4
     |none=>none
    else
     match qai c x with
     |some (r6,r7)=>
      match qbm c x with
      |some (r9,r10)=>
       match qc1 c p with
       |some (r12,r13)=>
        match qd3 c p with
        |some (r15,r16)=>
         match qdu with
         |some r18=>
          let k29:Bool→Option Bool:=fun v21=>
           let k28:Bool→Option Bool:=fun v22=>
            let k27:Bool→Option Bool:=fun v25=>
             let k:Bool→Option Bool:=fun v26=>
              some v26
             bif v25 then
              k (r13==r16)
             else
              k false
            bif v22 then
             match qb r12 r15 with
             |some r24=>
              k27 r24
             |none=>none
            else
             k27 false
           bif v21 then
            k28 (r7==r10)
           else
            k28 false
          bif r18 then
           match qb r6 r9 with
           |some r20=>
            k29 r20
           |none=>none
          else
           k29 false
         |none=>none
        |none=>none
       |none=>none
      |none=>none
     |none=>none
   bif v then
    k30 true
   else
    k30 (decide (300<(p.Name.length:Int)))
  bif !r1 then
   k31 true
  else
   k31 (decide (300<(x.Call.length:Int)))
 |none=>none
end Go.Proofs.YtdahfgialanmpaaGreatDoor
