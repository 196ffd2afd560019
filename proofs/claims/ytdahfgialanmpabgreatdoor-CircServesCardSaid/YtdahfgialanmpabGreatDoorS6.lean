/- CircServes: a part of the proof of the given statement, which is proved without conditions. -/
import Derived.Test.YtdahfgialanmpabGreatDoorS5
set_option linter.all false
namespace Go.Proofs.YtdahfgialanmpabGreatDoor
open Ev
open Go (IntKind)
section
theorem a5j {l:List Hold} (hsort:∀i x,l[i]?=some x→u9 l i (fun y=>decide (x.ID≤y.ID))=false) {h:Hold} (hm:h∈l):b2g l h.ID=(h,true):=by
 unfold b2g;rw[a3m (key:=fun y:Hold=>y.ID) hsort hm]
theorem d5k {β:Type} {branch:Int} {vlocal:Bool} {x:Item} (fin:Int→β) (out:Int→β) (hfo:∀v:Int,True):∀(q:List Hold) (i:Nat) (f:Int),∃r:Int⊕Int,(match r with | .inl v=>v | .inr v=>v)=b4u branch vlocal x q f∧
 a2e (fun (_:Nat) h f=>match b6z branch vlocal x h f with | .inl f=>.inl f | .inr v=>.inr (out v)) fin i q f=(match r with | .inl v=>fin v | .inr v=>out v):=by
 intro q
 induction q with
 |nil=>intro i f;exact ⟨.inl f,rfl,rfl⟩
 |cons h q ih=>
  intro i f;simp only[a2e,b4u];cases b6z branch vlocal x h f with
  |inl f'=>exact ih (i+1) f'
  |inr v=>exact ⟨.inr v,rfl,rfl⟩
theorem d5l {β:Type} {branch:Int} {vlocal:Bool} {x:Item} (fin:Int→β) (out:Int→β) (hfo:∀v:Int,True):∀(q:List Hold) (i:Nat) (f:Int),∃r:Int⊕Int,(match r with | .inl v=>v | .inr v=>v)=a7t branch vlocal x q f∧
 a2e (fun (_:Nat) h f=>match c4y branch vlocal x h f with | .inl f=>.inl f | .inr v=>.inr (out v)) fin i q f=(match r with | .inl v=>fin v | .inr v=>out v):=by
 intro q
 induction q with
 |nil=>intro i f;exact ⟨.inl f,rfl,rfl⟩
 |cons h q ih=>
  intro i f;simp only[a2e,a7t];cases c4y branch vlocal x h f with
  |inl f'=>exact ih (i+1) f'
  |inr v=>exact ⟨.inr v,rfl,rfl⟩
theorem a9n {q:List Hold}:(u5 q).length≤10*q.length:=by
 have k:∀n:Int,(rk n q).length≤q.length:=fun n=>c5x
 unfold u5;simp only[yaX];have:=k 0;have:=k 1;have:=k 2;have:=k 3;have:=k 4;have:=k 5;have:=k 6;have:=k 7;have:=k 8;have:=k 9;omega
theorem e3b {l:List Hold} {x:Item} {branch day:Int} {vlocal:Bool} (hl:l.length<1000000) (h20:(l.filter (y7 x.Record day)).length<20) (hr:∀x∈l,rng 0 9 x.Rank=true) :
 qax l x branch day vlocal=some (b4u branch vlocal x (u5 (l.filter (y7 x.Record day))) 0):=by
 unfold qax;rw[h7k hl h20 hr];have hq:(u5 (l.filter (y7 x.Record day))).length<1000:=by have:=a9n (q:=l.filter (y7 x.Record day));omega
 generalize u5 (l.filter (y7 x.Record day))=q at hq ⊢;have h:=a2q (step:=b8l) (fun i f=>(branch,vlocal,f,q,(q.length:Int),(i:Int),x,())) q
  (fun _ h f=>match b6z branch vlocal x h f with | .inl f=>.inl f | .inr v=>.inr (.inr (v,()))) (fun f=>.inl (f,())) (by rw[j9];omega)
  (fun f=>by simp only[b8l,dge,yaa])
  (fun i y f hx=>by
   have hlt:=(zL hx)
   simp -zeta only[b8l,dlt hlt,b9,hx,yab,a0e,p7,g9 (show i<9223372036854775807 by omega)];unfold b6z;dsimp only;cases (!(y.Item==0)&&!(y.Item==x.ID)) with
   |true=>rfl
   |false=>
    cases (!vlocal||y.Pickup==branch) with
    |true=>rfl
    |false=>cases f==0<;>rfl) 0
 obtain ⟨r,r1,r2⟩:=d5k (branch:=branch) (vlocal:=vlocal) (x:=x) (fun f=>(.inl (f,()):(Int×Unit)⊕(Int×Unit))) (fun v=>.inr (v,())) (fun _=>trivial) q 0 0;rw[r2]at h;simp only;rw[show b8 b8l (branch,vlocal,0,q,(q.length:Int),0,x,())=_ from h,←r1];cases r<;>rfl
theorem e3v {l:List Hold} {x:Item} {branch day:Int} {vlocal:Bool} (hl:l.length<1000000) (hsort:∀i x,l[i]?=some x→u9 l i (fun y=>decide (x.ID≤y.ID))=false) :
 qhc l x branch day vlocal=some (a7t branch vlocal x (u5 (l.filter (y7 x.Record day))) 0):=by
 unfold qhc;rw[h5k hl];have hq:(u5 (l.filter (y7 x.Record day))).length<100000000:=by
  have:=a9n (q:=l.filter (y7 x.Record day));have:=yaw (y7 x.Record day) l;omega
 have hm:∀h∈u5 (l.filter (y7 x.Record day)),h∈l:=fun h hh=>(yax.1 (a3f hh)).1
 generalize u5 (l.filter (y7 x.Record day))=q at hq hm ⊢;have h:=a2q (step:=c5g) (fun i f=>(l,branch,vlocal,q.map (fun x=>x.ID),f,(i:Int),x,())) q
  (fun _ h f=>match c4y branch vlocal x h f with | .inl f=>.inl f | .inr v=>.inr (.inr (v,()))) (fun f=>.inl (f,())) (by rw[j9];omega)
  (fun f=>by
   have d:decide ((q.length:Int)<((q.map (fun x=>x.ID)).length:Int))=false:=by rw[yag,ybc];omega
   simp only[c5g,d,yaa])
  (fun i y f hx=>by
   have hlt:=(zL hx)
   have d:decide ((i:Int)<((q.map (fun x=>x.ID)).length:Int))=true:=by rw[yae,ybc];omega
   have gx:(q.map (fun x=>x.ID))[i]?=some y.ID:=by rw[yaH,hx];rfl
   simp -zeta only[c5g,d,b9,gx,yab,a0e,p7,b1n (show l.length<1000000000 by omega),a5j hsort (hm y (yaf hx)),g9 (show i<9223372036854775807 by omega)];unfold c4y;dsimp only;cases (!(y.Item==0)&&!(y.Item==x.ID)) with
   |true=>rfl
   |false=>
    cases (vlocal&&y.Pickup==branch) with
    |true=>rfl
    |false=>cases f==0<;>rfl) 0
 obtain ⟨r,r1,r2⟩:=d5l (branch:=branch) (vlocal:=vlocal) (x:=x) (fun f=>(.inl (f,()):(Int×Unit)⊕(Int×Unit))) (fun v=>.inr (v,())) (fun _=>trivial) q 0 0;rw[r2]at h;simp only;rw[show b8 c5g (l,branch,vlocal,q.map (fun x=>x.ID),0,0,x,())=_ from h,←r1];cases r<;>rfl
theorem a6b {c:Circ} (h:FitP c) {o:Hold} (ho:o∈c.Holds):rng 0 9 o.Rank=true∧o.ID≠0:=by
 have:=a1q h.holds ho;unfold p9 at this;have:=a0n this (by decide);simp only[yaj,yag]at this;obtain ⟨⟨hx,h1⟩,h2⟩:=this;refine ⟨by rw[w6];omega,?_⟩;have:=hx.1.1.1.1.1.1.1.1.1.1;omega
structure MidW (c:Circ):Prop where
 short:Short c
 moves:c.Moves.length≤2000
 holds:c.Holds.length≤64
 loans:c.Loans.length≤64
 few:∀r,(c.Holds.filter (fun o=>o.Record==r)).length<20
theorem SmallP.w {c:Circ} (h:SmallP c):MidW c:=by
 have h1:=h.moves;have h2:=h.holds;have h3:=h.loans;exact ⟨h.short,by omega,by omega,by omega,fun r=>by have:=yaw (fun o:Hold=>o.Record==r) c.Holds;omega⟩
theorem e0p {l:List Hold} {r day:Int} (h:(l.filter (fun o=>o.Record==r)).length<20):(l.filter (y7 r day)).length<20:=by
 have e:l.filter (y7 r day)=(l.filter (fun o=>o.Record==r)).filter (y7 r day):=by
  rw[ybL];apply ybU;intro o _;unfold y7;cases o.Record==r<;>simp
 rw[e];have:=yaw (y7 r day) (l.filter (fun o=>o.Record==r));omega
theorem g6i {c:Circ} (hs:MidW c) (h:FitP c) {x:Item} {branch day:Int} {vlocal:Bool}:qax c.Holds x branch day vlocal=qhc c.Holds x branch day vlocal:=by
 have h1:=hs.holds;rw[e3b (by omega) (e0p (hs.few x.Record)) (fun o ho=>(a6b h ho).1),e3v (by omega) (y8 h.holds)];congr 1;exact c4z (fun o ho=>(a6b h (yax.1 (a3f ho)).1).2) (fun _=>rfl)
end
section
def e73 (l:List Loan) (n:Loan):List Loan×Int:=
 bif decide (0≤a5a (fun x=>x.Item==n.Item) l) then ([],7)
 else bif !(o9 (b1d (fun x=>decide (n.Item<x.Item)) n l)==0) then ([],o9 (b1d (fun x=>decide (n.Item<x.Item)) n l)) else (b1d (fun x=>decide (n.Item<x.Item)) n l,0)
theorem h4r {l:List Loan} {n:Loan} (hl:l.length<100000000):qbw l n=some (e73 l n):=by
 have hl2:l.length<1000000000:=by omega
 have hi:(b1d (fun x=>decide (n.Item<x.Item)) n l).length<1000000000:=by rw[a84];omega
 unfold qbw q8 e73;dsimp only;rw[a4i hl2];rcases j3 (fun x:Loan=>x.Item==n.Item) l with ⟨h1,h2⟩|⟨i,x,h1,h2,h3,h4⟩
 ·have hc:qdm l=some l:=by unfold qdm;rw[a4c hl2];rfl
  have e:=c7t (p:=fun x:Loan=>decide (n.Item<x.Item)) (x:=n) hl2;have hI:∀i:Int,qd5 l i [n]=a7o l i [n]:=fun _=>rfl
  have hf:qbl (fun (g:Unit×Loan×Unit) x0=>qcv x0 g.2.1) l ((),(n,()))=some (match l.find? (fun x=>decide (n.Item<x.Item)) with|some x=>(x,a5a (fun x=>decide (n.Item<x.Item)) l)|none=>((⟨0,0,0,0,0,false⟩:Loan),-1)):=by
   unfold qbl;rw[e3y (p:=fun (g:Unit×Loan×Unit) x0=>qcv x0 g.2.1) (g:=((),(n,()))) (fun x=>decide (n.Item<x.Item)) hl2 (fun x _=>rfl)];rcases j3 (fun x:Loan=>decide (n.Item<x.Item)) l with ⟨h1,h2⟩|⟨i,x,h1,h2,h3,h4⟩
   ·simp only[h1,h2,a5c,yab]
   ·simp only[h1,h4,a1c,yaa,b9,h2]
  have d:decide ((0:Int)≤-1)=false:=rfl;simp only[h1,h2,d,yaa,hf,hc];rcases j3 (fun x:Loan=>decide (n.Item<x.Item)) l with ⟨g1,g2⟩|⟨i,x,g1,g2,g3,g4⟩
  ·rw[g1]at e;simp only[a5c,yab]at e;simp only[g2,a5c,yab,hI,e,e3j hi]
  ·rw[g1]at e;simp only[a1c,yaa]at e;simp only[g4,g1,a1c,yaa,hI,e,e3j hi]
 ·have d:decide ((0:Int)≤(i:Int))=true:=by rw[yae];omega
  simp only[h4,h1,d,yab]
theorem c0e {X:Type} {p q:X→Bool}:∀{l:List X},(∀x∈l,p x=q x)→l.findIdx? p=l.findIdx? q:=by
 intro l
 induction l with
 |nil=>intros;rfl
 |cons x l ih=>
  intro h;rw[ybp,ybp,h x (yaz ..),ih (fun y hy=>h y (yaC _ hy))]
theorem d52 {l:List Loan} {n:Loan} (hl:l.length<1000000000):b8 b8z (l,0,n,())=some (l,(match l.findIdx? (fun x=>!(decide (x.Item<n.Item))) with|some k=>(k:Int)|none=>(l.length:Int)),n,()):=by
 have h:=u3 (step:=b8z) (fun i=>(l,(i:Int),n,())) l (fun x=>!(decide (x.Item<n.Item))) (fun i _=>(l,(i:Int),n,())) (l,(l.length:Int),n,()) hl
  (by simp only[b8z,dge,yaa])
  (fun i x hx=>by
   have hi:=(zL hx)
   simp only[b8z,dlt hi,b9,hx,yab,g9 (show i<9223372036854775807 by omega)];cases decide (x.Item<n.Item)<;>rfl)
 rw[show b8 b8z (l,0,n,())=_ from h];congr 1;have key:∀(m:List Loan) (i:Nat) (d:Int),a34 (fun x:Loan=>!(decide (x.Item<n.Item))) (fun i _=>(l,(i:Int),n,())) (l,d,n,()) i m=(l,(match m.findIdx? (fun x=>!(decide (x.Item<n.Item))) with|some k=>((i+k:Nat):Int)|none=>d),n,()):=by
  intro m
  induction m with
  |nil=>intro i d;rfl
  |cons x m ih=>
   intro i d;rw[ybp];simp only[a34];cases !(decide (x.Item<n.Item)) with
   |true=>rfl
   |false=>
    simp only[yaa,yaB,ya7];rw[ih];cases m.findIdx? (fun x=>!(decide (x.Item<n.Item))) with
    |none=>rfl
    |some k=>simp only[ybF];rw[show i+1+k=i+(k+1) by omega]
 rw[key l 0];simp
theorem f73 {l:List Loan} {n:Loan} (hl:l.length<100000000):qhq l n=some (e73 l n):=by
 have hl2:l.length<1000000000:=by omega
 have hi:(b1d (fun x=>decide (n.Item<x.Item)) n l).length<1000000000:=by rw[a84];omega
 unfold qhq e73;rw[c41 hl2];dsimp only;rcases j3 (fun x:Loan=>x.Item==n.Item) l with ⟨h1,h2⟩|⟨i,x,h1,h2,h3,h4⟩
 ·have d:decide ((0:Int)≤-1)=false:=rfl;have ec:l.findIdx? (fun x=>!(decide (x.Item<n.Item)))=l.findIdx? (fun x=>decide (n.Item<x.Item)):=c0e (fun x hx=>by
   have hne:¬x.Item=n.Item:=by
    rw[ybi]at h2;have:=h2 x hx;simpa using this
   rw[ybB];simp;omega)
  simp only[h1,d,yaa,d52 hl2,ec];have fin:∀k:Nat,k≤l.length→b1d (fun x=>decide (n.Item<x.Item)) n l=l.take k++n::l.drop k→
   (bif decide (0≤(0:Int))&&(decide ((0:Int)≤(k:Int))&&decide ((k:Int)≤(l.length:Int))) then
    bif decide (([]:List Loan).length+((l.take (k:Int).toNat).drop (0:Int).toNat).length≤LIM) then
    bif decide ((([])++((l.take (k:Int).toNat).drop (0:Int).toNat)).length+([n]:List Loan).length≤LIM) then
    bif decide (0≤(k:Int))&&(decide ((k:Int)≤(l.length:Int))&&decide ((l.length:Int)≤(l.length:Int))) then
    bif decide (((([])++((l.take (k:Int).toNat).drop (0:Int).toNat))++([n]:List Loan)).length+((l.take (l.length:Int).toNat).drop (k:Int).toNat).length≤LIM) then
    (match qgc (((([])++((l.take (k:Int).toNat).drop (0:Int).toNat))++([n]:List Loan))++((l.take (l.length:Int).toNat).drop (k:Int).toNat)) with
    |some (r6,r7)=>some (r6,r7)
    |none=>none)
    else none
    else none
    else none
    else none
    else none)=some (bif !(o9 (b1d (fun x=>decide (n.Item<x.Item)) n l)==0) then ([],o9 (b1d (fun x=>decide (n.Item<x.Item)) n l)) else (b1d (fun x=>decide (n.Item<x.Item)) n l,0)):=by
   intro k hk e;have d1:decide ((0:Int)≤(k:Int))=true:=by rw[yae];omega
   have d2:decide ((k:Int)≤(l.length:Int))=true:=by rw[yae];omega
   have t1:decide (([]:List Loan).length+(l.take k).length≤LIM)=true:=a1d (by simp;omega);have t2:decide ((l.take k).length+([n]:List Loan).length≤LIM)=true:=a1d (by simp;omega);have t3:decide ((l.take k++[n]).length+(l.drop k).length≤LIM)=true:=a1d (by simp;omega);have e2:(l.take k++[n])++l.drop k=b1d (fun x=>decide (n.Item<x.Item)) n l:=by rw[e];simp
   simp only[d1,d2,yay,Int.toNat_zero,ybz,yaZ,List.take_length,t1,t2,t3,yb6,decide_true,ybS,yab,e2,f7t hi]
  cases hx:l.findIdx? (fun x=>decide (n.Item<x.Item)) with
  |none=>exact fin l.length (yaF _) (by rw[b3x hx];simp)
  |some k=>
   obtain ⟨e1,e2⟩:=b3y (x:=n) hx;exact fin k e2 e1
 ·have d:decide ((0:Int)≤(i:Int))=true:=by rw[yae];omega
  simp only[h1,d,yab]
end
section
def a1i (l:List Hold) (id:Int):List Hold×Hold×Int:=
 match l.find? (fun h=>h.ID==id) with|some h=>(l.filter (fun x=>!(x.ID==id)),h,0)|none=>([],a8v,9)
theorem d36 {l:List Hold} (hsort:∀i x,l[i]?=some x→u9 l i (fun y=>decide (x.ID≤y.ID))=false) {i:Nat} {x:Hold} (hx:l[i]?=some x):l.take i++l.drop (i+1)=l.filter (fun y=>!(y.ID==x.ID)):=by
 have hlt:=(zL hx)
 have e:l=l.take i++x::l.drop (i+1):=by
  have h2:l[i]=x:=(yaL.1 hx).2;rw[←h2,←ya4 hlt,ybT]
 have hA:(l.take i).filter (fun y=>!(y.ID==x.ID))=l.take i:=by
  rw[List.filter_eq_self];intro y hy;obtain ⟨j,hj⟩:=yau hy;have hj2:=(zL hj)
  rw[yaS]at hj2;rw[ybM (by omega)]at hj;have:=a18 (key:=fun y:Hold=>y.ID) hsort i j y x (by omega) hj hx;have hne:¬y.ID=x.ID:=by omega
  simpa using hne
 have hB:(l.drop (i+1)).filter (fun y=>!(y.ID==x.ID))=l.drop (i+1):=by
  rw[List.filter_eq_self];intro y hy;obtain ⟨j,hj⟩:=yau hy;rw[ybK]at hj;have:=a18 (key:=fun y:Hold=>y.ID) hsort (i+1+j) i x y (by omega) hx hj;have hne:¬y.ID=x.ID:=by omega
  simpa using hne
 conv=>rhs;rw[e]
 rw[yb5,hA,ya9,hB];simp
theorem h47 {l:List Hold} {id:Int} (hl:l.length<100000000) (hsort:∀i x,l[i]?=some x→u9 l i (fun y=>decide (x.ID≤y.ID))=false):qex l id=some (a1i l id):=by
 have hl2:l.length<1000000000:=by omega
 unfold qex qa5 a1i;rw[b40 (p:=fun (g:Unit×Int×Unit) x0=>qeh x0 g.2.1) (g:=((),(id,()))) (fun x=>x.ID==id) hl2 (fun x _=>rfl)];dsimp only;rcases j3 (fun x:Hold=>x.ID==id) l with ⟨h1,h2⟩|⟨i,x,h1,h2,h3,h4⟩
 ·simp only[h1,h2,a5c,yab]
  try rfl
 ·have hlt:=(zL h2)
  have hc:qdn l=some l:=by unfold qdn;rw[a4c hl2];rfl
  have hid:x.ID=id:=by simpa using h3
  have hd:qd8 l (i:Int) ((i+1:Nat):Int)=some (l.take i++l.drop (i+1)):=by
   show a7g l (i:Int) ((i+1:Nat):Int)=_
   unfold a7g;have d1:decide ((0:Int)≤(i:Int))=true:=by rw[yae];omega
   have d2:decide ((i:Int)≤((i+1:Nat):Int))=true:=by rw[yae];omega
   have d3:decide (((i+1:Nat):Int)≤(l.length:Int))=true:=by rw[yae];omega
   have d4:decide (l.length≤1073741824)=true:=by rw[yae];omega
   simp only[d1,d2,d3,d4,ybS,yab,yay]
  simp only[h4,h1,a1c,yaa,hc,g9 (show i<9223372036854775807 by omega),hd,b9,h2];rw[d36 hsort h2,hid]
theorem c49 {l:List Hold} {id:Int} (hl:l.length<100000000):qgi l id=some (a1i l id):=by
 have hl2:l.length<1000000000:=by omega
 unfold qgi a1i;rw[b1n hl2];unfold b2g;cases hf:l.find? (fun h=>h.ID==id) with
 |none=>rfl
 |some h=>
  have hw:=o8 (step:=c48) (fun (i:Nat) (s:List Hold)=>s.length≤i) (fun i s=>(l,id,(i:Int),a8v,h,s,())) l
   (fun i y s=>.inl (bif !(y.ID==id) then s++[y] else s)) (fun s=>(a8v,h,s,())) (by rw[j9];omega)
   (fun s _=>by simp only[c48,dge,yaa])
   (fun i y s hx hi=>by
    have hlt:=(zL hx)
    have l1:decide (s.length+([y]:List Hold).length≤LIM)=true:=a1d (by simp;omega);refine ⟨?_,fun s' hs'=>?_⟩
    ·simp only[c48,dlt hlt,b9,hx,yab,l1,g9 (show i<9223372036854775807 by omega)];cases !(y.ID==id)<;>rfl
    ·cases hs'
     cases !(y.ID==id)<;>simp<;>omega) [] (by simp)
  rw[y6]at hw;simp only[yai,yaa];rw[show b8 c48 (l,id,0,(⟨0,0,0,0,0,0,0,0,0,0,0⟩:Hold),h,([]:List Hold),())=_ from hw,a4x]
  try rfl
def i6 (c:Circ) (l:List Hold):Circ:=⟨c.Today,c.Items,c.Patrons,c.Loans,l,c.Charges,c.Rules,c.Cals,c.Moves,c.NextHold,c.NextCharge,c.Local⟩
theorem a6w (c:Circ) (l:List Hold):qcb l 0 ⟨c,0⟩=some ((),⟨i6 c l,0⟩):=rfl
theorem a2h (c:Circ) (l:List Hold) (e:Int) (he:e≠0):qcb l e ⟨c,0⟩=some ((),⟨i6 c c.Holds,e⟩):=by
 have h:(e==0)=false:=by simpa using he
 unfold qcb qo;simp only[h,yan,yab,yah,yaa]
 try rfl
end
section
def b64 {X:Type} (i:Int) (upd:X→X):Nat→List X→List X
 |_,[]=>[]
 |k,x::l=>(bif (k:Int)==i then upd x else x)::b64 i upd (k+1) l
theorem d6v {X:Type} {i:Nat} {upd:X→X}:∀{l:List X} {k:Nat},i<k→b64 (i:Int) upd k l=l:=by
 intro l
 induction l with
 |nil=>intros;rfl
 |cons x l ih=>
  intro k h;have:((k:Int)==(i:Int))=false:=by
   have hne:¬(k:Int)=(i:Int):=by omega
   simpa using hne
  simp only[b64,this,yaa];rw[ih (by omega)]
theorem e7j {X:Type} {upd:X→X} {x:X}:∀{l:List X} {k j:Nat},l[j]?=some x→b64 ((k+j:Nat):Int) upd k l=l.set j (upd x):=by
 intro l
 induction l with
 |nil=>intro k j h;simp at h
 |cons y l ih=>
  intro k j h;cases j with
  |zero=>
   simp at h;subst h;have:((k:Int)==((k+0:Nat):Int))=true:=by simp
   simp only[b64,this,yab,List.set_cons_zero];rw[d6v (by omega)]
  |succ j=>
   have hne:((k:Int)==((k+(j+1):Nat):Int))=false:=by
    have:¬(k:Int)=((k+(j+1):Nat):Int):=by omega
    simpa using this
   simp only[b64,hne,yaa,List.set_cons_succ];have:=ih (k:=k+1) (j:=j) (by simpa using h);rw[show k+1+j=k+(j+1) by omega]at this;rw[this]
theorem e4p {X β:Type} {i:Int} {upd:X→X} {g:List X→β}:∀{l:List X} {k:Nat} {s:List X},a2e (fun (k:Nat) x (s:List X)=>.inl (s++[bif (k:Int)==i then upd x else x])) g k l s=g (s++b64 i upd k l):=by
 intro l
 induction l with
 |nil=>intro k s;simp[a2e,b64]
 |cons x l ih=>intro k s;simp only[a2e,b64];rw[ih];simp
def y0 (u:Custody) (x:Item):Item:=⟨x.ID,x.Record,x.Branch,x.Kind,x.Price,x.Call,u⟩
def t7 (c:Circ) (i:Nat) (x:Item) (m:Move) (u:Custody):Circ:=⟨c.Today,c.Items.set i (y0 u x),c.Patrons,c.Loans,c.Holds,c.Charges,c.Rules,c.Cals,c.Moves++[m],c.NextHold,c.NextCharge,c.Local⟩
def a6h (c:Circ) (e:Int):Int:=bif e==0&&decide (2000≤(c.Moves.length:Int)) then 13 else e
theorem a30 {c:Circ} {i:Nat} {x:Item} {kind branch who:Int} (hs:Short c) (hm:c.Moves.length<100000000) (hx:c.Items[i]?=some x) :
 qam (i:Int) kind branch who ⟨c,0⟩=some ((),bif a6h c (s7 x.Custody ⟨c.Today,x.ID,kind,branch,who⟩).2==0 then ⟨t7 c i x ⟨c.Today,x.ID,kind,branch,who⟩ (s7 x.Custody ⟨c.Today,x.ID,kind,branch,who⟩).1,0⟩ else ⟨c,a6h c (s7 x.Custody ⟨c.Today,x.ID,kind,branch,who⟩).2⟩):=by
 have hc1:qcm c.Items=some c.Items:=by unfold qcm;rw[a4c hs.items];rfl
 have hc2:qdl c.Moves=some c.Moves:=by unfold qdl;rw[a4c hs.moves];rfl
 have l1:decide (c.Moves.length+([(⟨c.Today,x.ID,kind,branch,who⟩:Move)]:List Move).length≤LIM)=true:=a1d (by simp;omega);unfold qam a6h;simp -zeta only[yah,yai,yaa,b9,hx,h43,p7];generalize s7 x.Custody ⟨c.Today,x.ID,kind,branch,who⟩=q;obtain ⟨u,e⟩:=q;dsimp only;cases hb:(e==0&&decide (2000≤(c.Moves.length:Int))) with
 |true=>
  simp only[yab,qo,yah]
  try rfl
 |false=>
  simp only[yaa];cases he:e==0 with
  |true=>
   have:e=0:=by simpa using he
   subst this;simp only[yai,yaa,yab,hc1,hc2,b9,hx,yay,l1]
   try rfl
  |false=>
   simp only[yan,yab,yaa,qo,yah]
theorem c8g {c:Circ} {i:Nat} {m:Move} {u:Custody} (hs:Short c):b8 b02 ((i:Int),0,c,o4,m,u,[],())=some (c,o4,m,b64 (i:Int) (y0 u) 0 c.Items,()):=by
 have h:=o8 (step:=b02) (fun (k:Nat) (s:List Item)=>s.length≤k) (fun k s=>((i:Int),(k:Int),c,o4,m,u,s,())) c.Items
  (fun k x s=>.inl (s++[bif (k:Int)==(i:Int) then y0 u x else x])) (fun s=>(c,o4,m,s,())) (by rw[j9];have:=hs.items;omega)
  (fun s _=>by simp only[b02,dge,yaa])
  (fun k x s hx hi=>by
   have hlt:=(zL hx)
   have:=hs.items;have l1:∀y:Item,decide (s.length+([y]:List Item).length≤LIM)=true:=fun y=>a1d (by simp;omega)
   refine ⟨?_,fun s' hs'=>?_⟩
   ·simp only[b02,dlt hlt,b9,hx,yab,l1,g9 (show k<9223372036854775807 by omega)];cases (k:Int)==(i:Int)<;>rfl
   ·cases hs'
    simp;omega) [] (by simp)
 rw[e4p]at h;exact h
theorem c5c {c:Circ} {item:Int} {i:Nat} {x:Item} {kind branch who:Int} (hs:Short c) (hm:c.Moves.length<100000000) (hat:qs c item=some (i:Int)) (hx:c.Items[i]?=some x) (hid:x.ID=item) :
 qgo c item kind branch who=some (bif a6h c (s7 x.Custody ⟨c.Today,x.ID,kind,branch,who⟩).2==0 then (t7 c i x ⟨c.Today,x.ID,kind,branch,who⟩ (s7 x.Custody ⟨c.Today,x.ID,kind,branch,who⟩).1,0) else (o4,a6h c (s7 x.Custody ⟨c.Today,x.ID,kind,branch,who⟩).2)):=by
 subst hid;unfold qgo a6h;rw[hat];simp only[b9,hx,f7g];generalize s7 x.Custody ⟨c.Today,x.ID,kind,branch,who⟩=q;obtain ⟨u,e⟩:=q;simp only;cases he:e==0 with
 |false=>simp only[yan,yab,ybA,yaa,he];rfl
 |true=>
  have:e=0:=by simpa using he
  subst this;simp only[yai,yaa,ya1];cases decide (2000≤(c.Moves.length:Int)) with
  |true=>rfl
  |false=>
   have hw:=c8g (i:=i) (m:=⟨c.Today,x.ID,kind,branch,who⟩) (u:=u) hs;have l1:decide (c.Moves.length≤LIM)=true:=by rw[yae];unfold LIM;omega
   have l2:decide (c.Moves.length+([(⟨c.Today,x.ID,kind,branch,who⟩:Move)]:List Move).length≤LIM)=true:=a1d (by simp;omega);have es:=e7j (upd:=y0 u) (l:=c.Items) (k:=0) (j:=i) hx;rw[yaE]at es;rw[es]at hw;simp only[yaa];rw[show b8 b02 ((i:Int),0,c,ZN,(⟨c.Today,x.ID,kind,branch,who⟩:Move),u,([]:List Item),())=_ from hw];simp only[l1,l2,yab]
   try rfl
end
section
theorem e3x {l:List Loan} {p:Int} (hl:l.length<1000000000):qhu l p=some (l.filter (fun x=>x.Patron==p)):=by
 have h:=o8 (step:=c5n) (fun (i:Nat) (s:List Loan)=>s.length≤i) (fun i s=>(l,p,(i:Int),s,())) l
  (fun i y s=>.inl (bif y.Patron==p then s++[y] else s)) (fun s=>(s,())) (by rw[j9];omega)
  (fun s _=>by simp only[c5n,dge,yaa])
  (fun i y s hx hi=>by
   have hlt:=(zL hx)
   have l1:decide (s.length+([y]:List Loan).length≤LIM)=true:=a1d (by simp;omega);refine ⟨?_,fun s' hs'=>?_⟩
   ·simp only[c5n,dlt hlt,b9,hx,yab,l1,g9 (show i<9223372036854775807 by omega)];cases y.Patron==p<;>rfl
   ·cases hs'
    cases y.Patron==p<;>simp<;>omega) [] (by simp)
 rw[y6]at h;unfold qhu;rw[show b8 c5n (l,p,0,[],())=_ from h,a4x,yaZ]
theorem b4v {branch:Int} {vlocal:Bool} {x:Item}:∀{q:List Hold} {f:Int},a7t branch vlocal x q f=f∨∃h∈q,a7t branch vlocal x q f=h.ID:=by
 intro q
 induction q with
 |nil=>intro f;exact .inl rfl
 |cons h q ih=>
  intro f;have lift:∀g:Int,(a7t branch vlocal x q g=g∨∃o∈q,a7t branch vlocal x q g=o.ID)→(g=f∨g=h.ID)→(a7t branch vlocal x q g=f∨∃o∈h::q,a7t branch vlocal x q g=o.ID):=by
   intro g hg hgf;rcases hg with hg|⟨o,ho,hg⟩
   ·rcases hgf with e|e
    ·exact .inl (by rw[hg,e])
    ·exact .inr ⟨h,yaz ..,by rw[hg,e]⟩
   ·exact .inr ⟨o,yaC _ ho,hg⟩
  simp only[a7t,c4y];cases (!(h.Item==0)&&!(h.Item==x.ID)) with
  |true=>exact lift f ih (.inl rfl)
  |false=>
   cases (vlocal&&h.Pickup==branch) with
   |true=>exact .inr ⟨h,yaz ..,rfl⟩
   |false=>
    cases f==0 with
    |true=>exact lift h.ID ih (.inr rfl)
    |false=>exact lift f ih (.inl rfl)
theorem e0y {c:Circ} (h:FitP c) {x:Item} {branch day:Int} {vlocal:Bool} {v:Int} (hv:v=a7t branch vlocal x (u5 (c.Holds.filter (y7 x.Record day))) 0):(b2g c.Holds v).2=!(v==0):=by
 rcases b4v (branch:=branch) (vlocal:=vlocal) (x:=x) (q:=u5 (c.Holds.filter (y7 x.Record day))) (f:=0) with e|⟨o,ho,e⟩
 ·rw[e]at hv;subst hv;unfold b2g;have:c.Holds.find? (fun h=>h.ID==0)=none:=by
   rw[ybi];intro o ho;have:=(a6b h ho).2;simpa using this
  rw[this]
  try rfl
 ·rw[e]at hv;subst hv;have hm:=(yax.1 (a3f ho)).1;rw[a5j (y8 h.holds) hm];have:=(a6b h hm).2;simp[this]
end
section
theorem c0z {c:Circ} (hm:MidW c) (h:FitP c) {item patron branch:Int} {i:Nat} {x:Item} {p:Patron} (hat:qs c item=some (i:Int)) (hx:c.Items[i]?=some x) (hp:a5d c.Patrons patron=(p,true)) :
 ∃a b,qev c x p branch=some (a,b)∧qf6 c item patron branch=some (a,b):=by
 have hs:=hm.short;have hxm:=yaf hx;have hpi:=(c0h hp).2;have hb:=a8a h hxm;have hpk:=e3v (l:=c.Holds) (x:=x) (branch:=x.Custody.Branch) (day:=c.Today) (vlocal:=c.Local) (by have:=hm.holds;omega) (y8 h.holds);have hpk2:=g6i (x:=x) (branch:=x.Custody.Branch) (day:=c.Today) (vlocal:=c.Local) hm h;rw[hpk]at hpk2;have hget:=e0y h (x:=x) (branch:=x.Custody.Branch) (day:=c.Today) (vlocal:=c.Local) rfl;generalize a7t x.Custody.Branch c.Local x (u5 (c.Holds.filter (y7 x.Record c.Today))) 0=v at hpk hpk2 hget;have e1:qcw c x=some v:=by unfold qcw;rw[hpk2]
 have e2:qg1 c item=some v:=by unfold qg1;rw[hat];simp only[b9,hx,hpk]
 obtain ⟨r,b,hr,hrm⟩:=b05 (p:=patron) (x:=x) hs;unfold qev qf6;rw[hat];simp -zeta only[a26 hs.patrons,hp,b9,hx,e1,e2,b49 hs.holds,b1n hs.holds,e3m hs h.charges,e3p hs h.charges,hpi,b01 hs,hr,g6r hs.loans,e3x hs.loans,a1c,a0e,p7];dsimp only;simp only[yai,Bool.or_self,yaa];cases (!(x.Custody.State==3)&&!(x.Custody.State==5)) with
 |true=>exact ⟨_,_,rfl,rfl⟩
 |false=>
  cases hbr:x.Custody.Branch==branch with
  |false=>exact ⟨_,_,rfl,rfl⟩
  |true=>
   have hbr2:branch=x.Custody.Branch:=(by simpa using hbr:x.Custody.Branch=branch).symm;subst hbr2;simp only[yaa,yai];cases (x.Custody.State==5&&!(x.Custody.Who==patron)) with
   |true=>exact ⟨_,_,rfl,rfl⟩
   |false=>
    simp only[yaa];have tail:∃a b2,(bif decide (0<((a3v p c.Today (a8p patron c.Charges) (b6w patron c.Today c.Loans)).length:Int)) then (some (0,14):Option (Int×Int)) else
     bif !b then some (0,15) else bif decide (r.Loans≤((c.Loans.filter (fun x=>x.Patron==patron)).length:Int)) then some (0,15) else qht r (e7z c x.Custody.Branch) c.Today p.Until)=some (a,b2):=by
     obtain ⟨a,b2,hq⟩:=c0b (r:=r) (a6q h x.Custody.Branch) c.Today p.Until;rw[hq];exact a1h ⟨_,_,rfl⟩ (a1h ⟨_,_,rfl⟩ (a1h ⟨_,_,rfl⟩ ⟨_,_,rfl⟩))
    have tl:∀rr:Rule,∀bb:Bool,(bb=true→rr∈c.Rules)→(bif (!bb||decide (rr.Loans≤((c.Loans.filter (fun x=>x.Patron==patron)).length:Int))) then (some (0,15):Option (Int×Int)) else qht rr (e7z c x.Custody.Branch) c.Today p.Until)=(bif (!bb||decide (rr.Loans≤((c.Loans.filter (fun x=>x.Patron==patron)).length:Int))) then some (0,15) else qdh rr (e7z c x.Custody.Branch) c.Today p.Until):=fun rr bb hh=>by
     cases bb with
     |false=>rfl
     |true=>rw[c8f (a6q h _) (c09 h (hh rfl))]
    obtain ⟨a,b2,ht⟩:=tail;cases hb0:decide (0<((a3v p c.Today (a8p patron c.Charges) (b6w patron c.Today c.Loans)).length:Int)) with
    |true=>
     simp only[yab];cases x.Custody.State==3 with
     |false=>exact ⟨_,_,rfl,rfl⟩
     |true=>
      generalize b2g c.Holds v=gh at hget ⊢;obtain ⟨o,ok⟩:=gh;simp only at hget;subst hget;cases v==0<;>cases o.Patron==patron<;>exact ⟨_,_,rfl,rfl⟩
    |false=>
     rw[hb0]at ht;simp only[yaa]at ht ⊢;have key:∀(bb:Bool),bb=b→∃a b2,(match (some (r,bb):Option (Rule×Bool)) with
      |some (r14,r15)=>(bif (!r15||decide (r14.Loans≤((c.Loans.filter (fun x=>x.Patron==patron)).length:Int))) then (some (0,15):Option (Int×Int)) else match qcl c x.Custody.Branch with
       |some r20=>(match qdh r14 r20 c.Today p.Until with|some (r22,r23)=>some (r22,r23)|none=>none)
       |none=>none)
      |none=>none)=some (a,b2)∧(match (some (r,bb):Option (Rule×Bool)) with
      |some (r14,r15)=>(bif (!r15||decide (r14.Loans≤((c.Loans.filter (fun x=>x.Patron==patron)).length:Int))) then (some (0,15):Option (Int×Int)) else match qhm c x.Custody.Branch with
       |some r20=>(match qht r14 r20 c.Today p.Until with|some (r22,r23)=>some (r22,r23)|none=>none)
       |none=>none)
      |none=>none)=some (a,b2):=by
      intro bb hbb;subst hbb;simp only[b8q hb,b8y hb];cases bb with
      |false=>exact ⟨_,_,rfl,rfl⟩
      |true=>
       rw[c8f (a6q h _) (c09 h (hrm rfl))];obtain ⟨a,b2,hq⟩:=c0b (r:=r) (a6q h x.Custody.Branch) c.Today p.Until;rw[hq];cases decide (r.Loans≤((c.Loans.filter (fun x=>x.Patron==patron)).length:Int))<;>exact ⟨_,_,rfl,rfl⟩
     obtain ⟨a,b2,k1,k2⟩:=key b rfl;cases x.Custody.State==3 with
     |false=>exact ⟨a,b2,k1,k2⟩
     |true=>
      generalize b2g c.Holds v=gh at hget ⊢;obtain ⟨o,ok⟩:=gh;simp only at hget;subst hget;cases v==0 with
      |true=>exact ⟨a,b2,k1,k2⟩
      |false=>
       cases o.Patron==patron with
       |true=>exact ⟨a,b2,k1,k2⟩
       |false=>exact ⟨_,_,rfl,rfl⟩
end
section
def b34 (patron:Int) (x:Item) (h:Hold):Bool:=h.Patron==patron&&h.State==1&&c23 h x
theorem h4y (h:Hold) (v:Int) (x:Item):qdf h v x=some (b34 v x h):=by
 unfold qdf b34;simp -zeta only[f7h,a0e,p7]
 try rfl
def f0z:List Hold→Hold→Hold
 | [],h=>h
 |x::l,_=>f0z l x
def c7z (patron:Int) (x:Item) (l:List Hold) (h:Hold):Bool×Hold:=match l.find? (b34 patron x) with|some o=>(true,o)|none=>(false,f0z l h)
theorem b5f {c v:Circ} {patron due:Int} {x:Item} (hl:c.Holds.length<1000000):∀(k i:Nat) (h:Hold),i+k=c.Holds.length→
 o0 a2d (k+2) (patron,due,false,(i:Int),c,v,x,h,())=some (due,(c7z patron x (c.Holds.drop i) h).1,c,v,(c7z patron x (c.Holds.drop i) h).2,()):=by
 intro k
 induction k with
 |zero=>
  intro i h hi;have:i=c.Holds.length:=by omega
  subst this;rw[List.drop_length];simp only[o0,a2d,dge,yaa,c7z,List.find?_nil,f0z]
 |succ k ih=>
  intro i h hi;have hlt:i<c.Holds.length:=by omega
  have hx:c.Holds[i]?=some c.Holds[i]:=yac hlt;rw[ya4 hlt];have st:a2d (patron,due,false,(i:Int),c,v,x,h,())=some (.inl (patron,due,b34 patron x c.Holds[i],((i+1:Nat):Int),c,v,x,c.Holds[i],())):=by
   simp -zeta only[a2d,dlt hlt,b9,hx,yab,yan,e3r,p7,g9 (show i<9223372036854775807 by omega)]
   try rfl
  rw[o0,st];simp only;cases hq:b34 patron x c.Holds[i]with
  |true=>
   simp only[c7z,yb7,hq];rw[o0];simp only[a2d];cases decide (((i+1:Nat):Int)<(c.Holds.length:Int))<;>rfl
  |false=>
   rw[ih (i+1) c.Holds[i] (by omega)];simp only[c7z,yb7,hq,f0z]
end
section
theorem a5r (c:Circ) (l:List Loan) (e e0:Int) (h0:e0≠0):qca l e ⟨c,e0⟩=some ((),⟨f7 c c.Loans,e0⟩):=by
 have h:(e0==0)=false:=by simpa using h0
 unfold qca qo;simp only[h,yaa];cases !(e==0)<;>simp only[yab,yaa,h]<;>rfl
theorem a4f (c:Circ) (id e0:Int) (h0:e0≠0):qdq id ⟨c,e0⟩=some ((),⟨c,e0⟩):=by
 have h:(e0==0)=false:=by simpa using h0
 unfold qdq;simp only[h,yaa]
theorem a7i {c:Circ} {id:Int} (hl:c.Holds.length<100000000) (hsort:∀i x,c.Holds[i]?=some x→u9 c.Holds i (fun y=>decide (x.ID≤y.ID))=false) :
 qdq id ⟨c,0⟩=some ((),bif (a1i c.Holds id).2.2==0 then ⟨i6 c (a1i c.Holds id).1,0⟩ else ⟨i6 c c.Holds,(a1i c.Holds id).2.2⟩):=by
 unfold qdq;simp only[yah,yab,h47 hl hsort];generalize a1i c.Holds id=q;obtain ⟨l,o,e⟩:=q;simp only;by_cases he:e=0
 ·subst he;rw[a6w]
  try rfl
 ·have h:(e==0)=false:=by simpa using he
  rw[a2h c l e he,h]
  try rfl
theorem a5i (c:Circ) (n e0:Int) (h0:e0≠0):qbf n ⟨c,e0⟩=some ((o4,0,e0),⟨c,e0⟩):=by
 have h:(e0==0)=false:=by simpa using h0
 unfold qbf;simp only[h,yan,yab]
 try rfl
theorem c7i (c:Circ) (n:Int):qbf n ⟨c,0⟩=some ((c,n,0),⟨c,0⟩):=rfl
end
section
theorem f2u {l:List Loan} {n:Loan} (hl:l.length<100000000):(e73 l n).1.length<1000000000:=by
 unfold e73;cases decide (0≤a5a (fun x=>x.Item==n.Item) l) with
 |true=>simp
 |false=>
  simp only[yaa];cases (!(o9 (b1d (fun x=>decide (n.Item<x.Item)) n l)==0)) with
  |true=>simp
  |false=>simp only[yaa];rw[a84];omega
theorem c6w {l:List Hold} {id:Int} (hl:l.length<1000000000):(a1i l id).1.length<1000000000:=by
 unfold a1i;cases l.find? (fun h=>h.ID==id) with
 |none=>simp
 |some h=>simp only;have:=yaw (fun x:Hold=>!(x.ID==id)) l;omega
theorem b4p {c:Circ} {i:Nat} {x:Item} {m:Move} {u:Custody} (hs:Short c) (hm:c.Moves.length<100000000) (hx:c.Items[i]?=some x):Short (t7 c i x m u):=by
 obtain ⟨h1,h2,h3,h4,h5,h6,h7,h8,h9,h10,h11,h12,h13⟩:=hs;refine ⟨?_,h2,h3,h4,h5,h6,?_,fun z hz=>?_,h9,h10,h11,h12,h13⟩
 ·show (c.Items.set i _).length<_
  rw[List.length_set];exact h1
 ·show (c.Moves++[m]).length<_
  simp;omega
 ·rcases ybI hz with h|h
  ·exact h8 z h
  ·rw[h];exact h8 x (yaf hx)
theorem a2z {c:Circ} {l:List Hold} (hs:Short c) (hl:l.length<1000000000):Short (i6 c l):=by
 obtain ⟨h1,h2,h3,h4,h5,h6,h7,h8,h9,h10,h11,h12,h13⟩:=hs;exact ⟨h1,h2,h3,hl,h5,h6,h7,h8,h9,h10,h11,h12,h13⟩
end
section
theorem a0k {c:Circ} {id:Int} (hs:Short c):qbu id ⟨c,0⟩=some (a5a (fun x=>x.ID==id) c.Items,⟨c,bif decide (a5a (fun x=>x.ID==id) c.Items<0) then 9 else 0⟩):=by
 unfold qbu;simp only[d6c hs.items];cases decide (a5a (fun x:Item=>x.ID==id) c.Items<0)<;>rfl
theorem d4v {c:Circ} (hm:MidW c) (h:FitP c) {item patron branch:Int}:a5z (qbe c item patron branch) (qg8 c item patron branch):=by
 have hs:=hm.short;have hmv:=hm.moves;have hhl:=hm.holds;have hln:=hm.loans;unfold qbe qg8;simp -zeta only[qac,a0k hs,c43 hs.patrons];rcases j3 (fun x:Item=>x.ID==item) c.Items with ⟨h1,h2⟩|⟨i,x,h1,h2,h3,h4⟩
 ·have hat:qs c item=some (-1):=by rw[b5m hs.items,h1]
  have hml:qf6 c item patron branch=some (0,9):=by
   unfold qf6;rw[hat];simp -zeta only[a26 hs.patrons,a5c,a0e]
   try rfl
  rw[h1,hml];simp only[a5c,yab];cases (a5d c.Patrons patron).2<;>exact n8
 ·have hat:qs c item=some (i:Int):=by rw[b5m hs.items,h1]
  have hid:x.ID=item:=by simpa using h3
  rw[h1];simp only[a1c,yaa];cases hp:a5d c.Patrons patron with
  |mk p ok=>
   cases ok with
   |false=>
    have hml:qf6 c item patron branch=some (0,9):=by
     unfold qf6;rw[hat];simp -zeta only[a26 hs.patrons,hp,a0e]
     try rfl
    rw[hml];exact n8
   |true=>
    obtain ⟨a,e,m1,m2⟩:=c0z hm h (branch:=branch) hat h2 hp;simp only[yai,yaa,yah,b9,h2,m1,m2,hat];by_cases he:e=0
    ·subst he;have dm:=a30 (kind:=3) (branch:=branch) (who:=patron) hs (show c.Moves.length<100000000 by omega) h2;have rm:=c5c (kind:=3) (branch:=branch) (who:=patron) hs (show c.Moves.length<100000000 by omega) hat h2 hid;generalize a6h c (s7 x.Custody ⟨c.Today,x.ID,3,branch,patron⟩).2=E at dm rm;generalize (s7 x.Custody ⟨c.Today,x.ID,3,branch,patron⟩).1=u at dm rm;have lo:=h4r (l:=c.Loans) (n:=⟨item,patron,c.Today,a,0,false⟩) (by omega);have ro:=f73 (l:=c.Loans) (n:=⟨item,patron,c.Today,a,0,false⟩) (by omega);have ol:=f2u (l:=c.Loans) (n:=⟨item,patron,c.Today,a,0,false⟩) (by omega);generalize e73 c.Loans ⟨item,patron,c.Today,a,0,false⟩=q at lo ro ol;obtain ⟨l,e2⟩:=q;have hI:=b40 (p:=fun (g:Unit×Int×Item×Unit) x0=>qdf x0 g.2.1 g.2.2.1) (g:=((),(patron,x,()))) (b34 patron x) hs.holds (fun o _=>h4y o patron x);simp only[dm,rm,lo,b0a hs.holds,hI];by_cases hE:E=0
     ·subst hE;simp only[yah,yab,yai,yaa];generalize hc1:t7 c i x ⟨c.Today,x.ID,3,branch,patron⟩ u=c1;have t1:c1.Today=c.Today:=by rw[←hc1];rfl
      have t2:c1.Loans=c.Loans:=by rw[←hc1];rfl
      have t3:c1.Holds=c.Holds:=by rw[←hc1];rfl
      have sc1:Short c1:=by rw[←hc1];exact b4p hs (by omega) h2
      simp only[t1,t2,ro];by_cases hE2:e2=0
      ·subst hE2;simp only[a9q,yah,yai,yaa];have sc2:Short (f7 c1 l):=a4u sc1 ol;have hH:(f7 c1 l).Holds=c.Holds:=t3;have dd:∀id:Int,qdq id ⟨f7 c1 l,0⟩=some ((),bif (a1i c.Holds id).2.2==0 then ⟨i6 (f7 c1 l) (a1i c.Holds id).1,0⟩ else ⟨i6 (f7 c1 l) (f7 c1 l).Holds,(a1i c.Holds id).2.2⟩):=fun id=>by
        have:=a7i (c:=f7 c1 l) (id:=id) (by rw[hH];omega) (by rw[hH];exact y8 h.holds);rw[hH]at this;rw[this,hH]
       have cc:o6 (f7 c1 l) item=o6 c item:=by unfold o6;rw[hH]
       have rc:=b0b (c:=f7 c1 l) (item:=item) (by rw[hH];omega);rw[cc]at rc;have kc:(⟨c.Today,c1.Items,c1.Patrons,l,c1.Holds,c1.Charges,c1.Rules,c1.Cals,c1.Moves,c1.NextHold,c1.NextCharge,c1.Local⟩:Circ)=f7 c1 l:=by rw[←t1];rfl
       simp only[kc,rc];generalize f7 c1 l=c2 at dd sc2 hH;have fin:∀id:Int,a5z (match qdq id ⟨c2,0⟩ with
        |some (_,v)=>(match qbf a v with|some ((r25,r26,r27),v28)=>some (r25,r26,r27)|none=>none)
        |none=>none) (match qgi c2.Holds id with
        |some (r23,r24,r25)=>(bif !(r25==0) then some (o4,0,r25) else some (i6 c2 r23,a,0))
        |none=>none):=by
        intro id;rw[dd id,c49 (by rw[hH];omega),hH];have cl:=c6w (l:=c.Holds) (id:=id) hs.holds;generalize a1i c.Holds id=q at cl ⊢;obtain ⟨m,o,e⟩:=q;simp only at cl ⊢;by_cases he:e=0
        ·subst he;exact ⟨_,_,_,rfl,rfl,a2z sc2 cl⟩
        ·have he2:(e==0)=false:=by simpa using he
         simp only[he2,yaa,a5i _ _ _ he,yan,yab];exact n8
       generalize o6 c item=q2;obtain ⟨o,ok⟩:=q2;cases ok with
       |true=>
        have hw:b8 a2d (patron,a,true,0,c2,o4,x,o,())=some (a,true,c2,o4,o,()):=by
         refine o5 1 (by rw[j9];omega) ?_;simp only[o0,a2d];cases decide ((0:Int)<(c2.Holds.length:Int))<;>rfl
        simp only[yab];rw[show b8 a2d (patron,a,true,0,c2,ZN,x,o,())=_ from hw];exact fin o.ID
       |false=>
        have hw:=b5f (c:=c2) (v:=o4) (patron:=patron) (due:=a) (x:=x) (by rw[hH];omega) c2.Holds.length 0 o (by omega);have hw2:b8 a2d (patron,a,false,0,c2,o4,x,o,())=_:=o5 (c2.Holds.length+2) (by rw[j9,hH];omega) hw;rw[ybz,hH]at hw2;simp only[yaa];rw[show b8 a2d (patron,a,false,0,c2,ZN,x,o,())=_ from hw2];unfold c7z;rcases j3 (b34 patron x) c.Holds with ⟨g1,g2⟩|⟨j,y,g1,g2,g3,g4⟩
        ·rw[g1,g2];have d:decide ((0:Int)≤-1)=false:=rfl;simp only[d,yaa,c7i];exact ⟨c2,a,0,rfl,rfl,sc2⟩
        ·have d:decide ((0:Int)≤(j:Int))=true:=by rw[yae];omega
         rw[g1,g4];simp only[d,yab,b9,g2];exact fin y.ID
      ·have he2:(e2==0)=false:=by simpa using hE2
       simp only[a5s _ _ _ hE2,a4f _ _ _ hE2,a5i _ _ _ hE2,he2,yan,yab];cases (o6 c item).2 with
       |true=>exact n8
       |false=>
        simp only[yaa];rcases j3 (b34 patron x) c.Holds with ⟨g1,g2⟩|⟨j,o,g1,g2,g3,g4⟩
        ·rw[g1];exact n8
        ·have d:decide ((0:Int)≤(j:Int))=true:=by rw[yae];omega
         simp only[g1,d,yab,b9,g2];exact n8
     ·have hE2:(E==0)=false:=by simpa using hE
      simp only[hE2,yaa,a5r _ _ _ _ hE,a4f _ _ _ hE,a5i _ _ _ hE,yan,yab];cases (o6 c item).2 with
      |true=>exact n8
      |false=>
       simp only[yaa];rcases j3 (b34 patron x) c.Holds with ⟨g1,g2⟩|⟨j,o,g1,g2,g3,g4⟩
       ·rw[g1];exact n8
       ·have d:decide ((0:Int)≤(j:Int))=true:=by rw[yae];omega
        simp only[g1,d,yab,b9,g2];exact n8
    ·have he2:(e==0)=false:=by simpa using he
     simp only[he2,yan,yab];exact n8
end
section
structure MidP (c:Circ):Prop where
 short:Short c
 moves:c.Moves.length<10000000
 holdsN:c.Holds.length<1000000
 sorted:∀(i:Nat) (x:Hold),c.Holds[i]?=some x→u9 c.Holds i (fun y=>decide (x.ID≤y.ID))=false
 rank:∀o∈c.Holds,rng 0 9 o.Rank=true∧o.ID≠0
 few:∀r,(c.Holds.filter (fun o=>o.Record==r)).length<20
 cal:∀b,CalOk (e7z c b)
 rules:∀r∈c.Rules,a7y r=true
 branch:∀x∈c.Items,rng 1 4 x.Custody.Branch=true
 ids:∀(i:Nat) (x:Item) (j:Nat) (y:Item),c.Items[i]?=some x→c.Items[j]?=some y→x.ID=y.ID→i=j
 chN:c.Charges.length<1000000
theorem a6g {c:Circ} (h:MidP c) {i:Nat} {x:Item} (hx:c.Items[i]?=some x):qs c x.ID=some (i:Int):=by
 rw[b5m h.short.items];rcases j3 (fun y:Item=>y.ID==x.ID) c.Items with ⟨h1,h2⟩|⟨j,y,h1,h2,h3,h4⟩
 ·have:=ybi.1 h2 x (yaf hx);simp at this
 ·rw[h1,h.ids i x j y hx h2 (by simpa using (by simpa using h3:y.ID=x.ID).symm)]
theorem a1f {X Y:Type} {f:X→Y} {l:List X} {j:Nat} {x y:X} (hx:l[j]?=some x) (hf:f y=f x):(l.set j y).map f=l.map f:=by
 rw[List.map_set,hf];apply List.ext_getElem?;intro k;rw[List.getElem?_set];split
 ·rename_i e;subst e;split
  ·rw[yaH,hx];rfl
  ·rename_i hk;have:=(zL hx)
   exact absurd (by simpa using this) hk
 ·rfl
theorem g4t {l m:List Item} (e:m.map (fun x=>x.ID)=l.map (fun x=>x.ID)) (h:∀(i:Nat) (x:Item) (j:Nat) (y:Item),l[i]?=some x→l[j]?=some y→x.ID=y.ID→i=j) :
 ∀(i:Nat) (x:Item) (j:Nat) (y:Item),m[i]?=some x→m[j]?=some y→x.ID=y.ID→i=j:=by
 have key:∀(i:Nat) (x:Item),m[i]?=some x→∃x',l[i]?=some x'∧x'.ID=x.ID:=by
  intro i x hx;have h1:(m.map (fun x=>x.ID))[i]?=some x.ID:=by rw[yaH,hx];rfl
  rw[e,yaH]at h1;cases hl:l[i]? with
  |none=>rw[hl]at h1;cases h1
  |some x'=>rw[hl]at h1;exact ⟨x',rfl,by simpa using h1⟩
 intro i x j y hx hy hxy;obtain ⟨x',hx',ex⟩:=key i x hx;obtain ⟨y',hy',ey⟩:=key j y hy;exact h i x' j y' hx' hy' (by rw[ex,ey,hxy])
theorem e2y {c:Circ} (h:MidP c) {i:Nat} {x:Item} (hx:c.Items[i]?=some x) {m:Move} {u:Custody} (hu:rng 1 4 u.Branch=true) (hl:c.Moves.length<5000000):MidP (t7 c i x m u):=by
 refine ⟨b4p h.short (by omega) hx,?_,h.holdsN,h.sorted,h.rank,h.few,h.cal,h.rules,fun y hy=>?_,?_,h.chN⟩
 ·show (c.Moves++[m]).length<_
  simp;omega
 ·rcases ybI hy with hy|hy
  ·exact h.branch y hy
  ·rw[hy];exact hu
 ·exact g4t (a1f hx rfl) h.ids
theorem b6i {c:Custody} {m:Move} {u:Custody} (h:s7 c m=(u,0)):rng 1 4 u.Branch=true:=by
 have:=a9j (c:=c) (m:=m) (by rw[h];rfl);rw[h]at this;exact this
theorem a1k {c:Circ} (h:MidP c) {i:Nat} {x:Item} (hx:c.Items[i]?=some x) (kind branch who:Int) :
 (∃u,s7 x.Custody ⟨c.Today,x.ID,kind,branch,who⟩=(u,0)∧qam (i:Int) kind branch who ⟨c,0⟩=some ((),⟨t7 c i x ⟨c.Today,x.ID,kind,branch,who⟩ u,0⟩)∧
  qgo c x.ID kind branch who=some (t7 c i x ⟨c.Today,x.ID,kind,branch,who⟩ u,0)∧MidP (t7 c i x ⟨c.Today,x.ID,kind,branch,who⟩ u))∨
 (∃e,e≠0∧qam (i:Int) kind branch who ⟨c,0⟩=some ((),⟨c,e⟩)∧qgo c x.ID kind branch who=some (o4,e)):=by
 have hmv:=h.moves;have dm:=a30 (kind:=kind) (branch:=branch) (who:=who) h.short (by omega) hx;have rm:=c5c (kind:=kind) (branch:=branch) (who:=who) h.short (by omega) (a6g h hx) hx rfl;rw[dm,rm];cases ha:s7 x.Custody ⟨c.Today,x.ID,kind,branch,who⟩ with
 |mk u e=>
  by_cases hE:a6h c e=0
  ·left;simp only[hE,yah,yab];have he:e=0∧c.Moves.length<2000:=by
    unfold a6h at hE;cases hb:(e==0&&decide (2000≤(c.Moves.length:Int))) with
    |true=>rw[hb]at hE;cases hE
    |false=>
     rw[hb]at hE;simp only[yaa]at hE;subst hE;simp only[yah,ya1,yag]at hb;exact ⟨rfl,by omega⟩
   obtain ⟨rfl,hlen⟩:=he;exact ⟨u,rfl,rfl,rfl,e2y h hx (b6i ha) (by omega)⟩
  ·right;have hE2:(a6h c e==0)=false:=by simpa using hE
   simp only[hE2,yaa];exact ⟨a6h c e,hE,rfl,rfl⟩
theorem b99 (c:Circ) (i kind branch who e0:Int) (h0:e0≠0):qam i kind branch who ⟨c,e0⟩=some ((),⟨c,e0⟩):=by
 have h:(e0==0)=false:=by simpa using h0
 unfold qam;simp only[h,yan,yab]
theorem a8e {c:Circ} (h:MidP c) {i:Nat} {x:Item} (hx:c.Items[i]?=some x):∃v,qcw c x=some v∧qg1 c x.ID=some v∧(b2g c.Holds v).2=!(v==0)∧(v≠0→∃o∈c.Holds,o.ID=v∧b2g c.Holds v=(o,true)∧y7 x.Record c.Today o=true):=by
 have hf:(c.Holds.filter (y7 x.Record c.Today)).length<20:=by
  have e:c.Holds.filter (y7 x.Record c.Today)=(c.Holds.filter (fun o=>o.Record==x.Record)).filter (y7 x.Record c.Today):=by
   rw[ybL];apply ybU;intro o _;unfold y7;cases o.Record==x.Record<;>simp
  rw[e];have:=yaw (y7 x.Record c.Today) (c.Holds.filter (fun o=>o.Record==x.Record));have:=h.few x.Record;omega
 have q1:=e3b (l:=c.Holds) (x:=x) (branch:=x.Custody.Branch) (day:=c.Today) (vlocal:=c.Local) h.holdsN hf (fun o ho=>(h.rank o ho).1);have q2:=e3v (l:=c.Holds) (x:=x) (branch:=x.Custody.Branch) (day:=c.Today) (vlocal:=c.Local) h.holdsN h.sorted;rw[c4z (fun o ho=>(h.rank o (yax.1 (a3f ho)).1).2) (fun _=>rfl)]at q1;refine ⟨_,by unfold qcw;rw[q1],by unfold qg1;rw[a6g h hx];simp only[b9,hx,q2],?_,?_⟩
 ·rcases b4v (branch:=x.Custody.Branch) (vlocal:=c.Local) (x:=x) (q:=u5 (c.Holds.filter (y7 x.Record c.Today))) (f:=0) with e|⟨o,ho,e⟩
  ·rw[e];unfold b2g;have:c.Holds.find? (fun h=>h.ID==0)=none:=by
    rw[ybi];intro o ho;have:=(h.rank o ho).2;simpa using this
   rw[this]
   try rfl
  ·rw[e];have hm:=(yax.1 (a3f ho)).1;rw[a5j h.sorted hm];have:=(h.rank o hm).2;simp[this]
 ·intro hv;rcases b4v (branch:=x.Custody.Branch) (vlocal:=c.Local) (x:=x) (q:=u5 (c.Holds.filter (y7 x.Record c.Today))) (f:=0) with e|⟨o,ho,e⟩
  ·exact absurd e hv
  ·have hm:=yax.1 (a3f ho);exact ⟨o,hm.1,e.symm,by rw[e];exact a5j h.sorted hm.1,hm.2⟩
end
section
theorem h3y {α:Type} (a b:Bool) (x y:α):(bif a then (bif b then x else y) else y)=bif a&&b then x else y:=by cases a<;>rfl
def okS (state u:Int):Bool:=(state==3&&rng 1 109572 u)||(state==2&&u==0)
def c0i (x:Hold) (item state u:Int):Hold:=⟨x.ID,x.Patron,x.Record,x.Item,x.Pickup,x.Placed,state,item,u,x.Asleep,x.Rank⟩
def a2g (l:List Hold) (id item state u:Int):List Hold×Int:=
 match l.find? (fun h=>h.ID==id) with
 |none=>([],9)
 |some x=>bif !(rng 1 9999 item)||!(okS state u) then ([],1)
  else bif !(x.State==1)&&((!(x.State==2)||!(x.Got==item))||!(state==3)) then ([],12)
  else bif l.any (fun o=>o.Got==item&&!(o.ID==id)) then ([],7)
  else (l.set (a5a (fun h=>h.ID==id) l).toNat (c0i x item state u),0)
theorem b7b {l:List Hold} (hl:l.length<1000000000):qdn l=some l:=by
 unfold qdn;rw[a4c hl];rfl
theorem f7k {l:List Hold} {i:Nat} {x y:Hold} (hl:l.length<1000000000) (hx:l[i]?=some x):qd1 l (i:Int) y=some (l.set i y):=by
 unfold qd1;simp only[b7b hl,b9,hx,yay]
theorem g54 (state u:Int):(!(okS state u))=(!(state==3&&rng 1 109572 u)&&(!(state==2)||!(u==0))):=by
 unfold okS;cases (state==3&&rng 1 109572 u)<;>cases state==2<;>cases u==0<;>rfl
theorem f63 {l:List Hold} {id item state u:Int} (hl:l.length<1000000000):qap l id item state u=some (a2g l id item state u):=by
 unfold qap qa5 a2g;rw[b40 (p:=fun (g:Unit×Int×Unit) x0=>qeh x0 g.2.1) (g:=((),(id,()))) (fun x=>x.ID==id) hl (fun x _=>rfl)];have hc:=c8c (p:=fun (g:Unit×Int×Int×Unit) x0=>qcq x0 g.2.1 g.2.2.1) (g:=((),(item,id,()))) (fun o=>o.Got==item&&!(o.ID==id)) hl (fun o _=>by
  simp -zeta only[qcq,p7];rfl)
 rcases j3 (fun x:Hold=>x.ID==id) l with ⟨h1,h2⟩|⟨i,x,h1,h2,h3,h4⟩
 ·simp only[h1,h2,a5c,yab]
 ·simp -zeta only[h1,h4,a1c,yaa,b9,h2,e3c,a0e,p7,a94,yay];dsimp only;rw[g54];cases (!(rng 1 9999 item)||(!(state==3&&rng 1 109572 u)&&(!(state==2)||!(u==0)))) with
  |true=>rfl
  |false=>
   simp only[yaa,h3y];cases (!(x.State==1)&&((!(x.State==2)||!(x.Got==item))||!(state==3))) with
   |true=>rfl
   |false=>
    simp only[yaa,hc];cases l.any (fun o=>o.Got==item&&!(o.ID==id)) with
    |true=>rfl
    |false=>simp only[yaa,f7k hl h2];rfl
theorem e3u {l:List Hold} {y:Hold} (hl:l.length<1000000000):qhb l y=some (l.map (fun x=>bif x.ID==y.ID then y else x)):=by
 have h:=o8 (step:=c5f) (fun (i:Nat) (s:List Hold)=>s.length≤i) (fun i s=>(l,(i:Int),y,s,())) l
  (fun i x s=>.inl (s++[bif x.ID==y.ID then y else x])) (fun s=>(s,())) (by rw[j9];omega)
  (fun s _=>by simp only[c5f,dge,yaa])
  (fun i x s hx hi=>by
   have hlt:=(zL hx)
   have l1:∀z:Hold,decide (s.length+([z]:List Hold).length≤LIM)=true:=fun z=>a1d (by simp;omega)
   refine ⟨?_,fun s' hs'=>?_⟩
   ·simp only[c5f,dlt hlt,b9,hx,yab,l1,g9 (show i<9223372036854775807 by omega)];cases x.ID==y.ID<;>rfl
   ·cases hs'
    simp;omega) [] (by simp)
 rw[y6]at h;unfold qhb;rw[show b8 c5f (l,0,y,([]:List Hold),())=_ from h];simp only;congr 1;have key:∀(l o:List Hold),l.foldl (fun s x=>s++[bif x.ID==y.ID then y else x]) o=o++l.map (fun x=>bif x.ID==y.ID then y else x):=by
  intro l
  induction l with
  |nil=>intro o;simp
  |cons x l ih=>intro o;rw[ya6,ih];simp
 rw[key,yaZ]
theorem a8c {l:List Hold} (hsort:∀i x,l[i]?=some x→u9 l i (fun y=>decide (x.ID≤y.ID))=false) {i:Nat} {x y:Hold} (hx:l[i]?=some x) (hy:y.ID=x.ID):l.map (fun z=>bif z.ID==y.ID then y else z)=l.set i y:=by
 apply List.ext_getElem?;intro j;rw[yaH,List.getElem?_set];have hlt:=(zL hx)
 split
 ·rename_i e;subst e;simp only[hx,ybF,hlt,yby,hy,yah,yab]
 ·rename_i e;cases hj:l[j]? with
  |none=>rfl
  |some z=>
   have hne:¬z.ID=y.ID:=by
    rw[hy];rcases Nat.lt_or_gt_of_ne e with h|h
    ·have:=a18 (key:=fun y:Hold=>y.ID) hsort j i x z h hx hj;omega
    ·have:=a18 (key:=fun y:Hold=>y.ID) hsort i j z x h hj hx;omega
   have hb:(z.ID==y.ID)=false:=by simpa using hne
   simp only[ybF,hb,yaa]
theorem g53 (state u:Int):((!(state==2)&&!(state==3))||(state==3&&(decide (u<1)||!(rng 0 109572 u)))||(state==2&&!(u==0)))=!(okS state u):=by
 unfold okS;by_cases h3:state=3
 ·subst h3;unfold rng;by_cases h1:u<1
  ·have:¬1≤u:=by omega
   simp[h1,this]
  ·have a:1≤u:=by omega
   have b:0≤u:=by omega
   simp[h1,a,b]
 ·have e3:(state==3)=false:=by simpa using h3
  rw[e3];cases state==2<;>cases u==0<;>rfl
theorem d2r {l:List Hold} {id item state u:Int} (hl:l.length<1000000000) (hsort:∀i x,l[i]?=some x→u9 l i (fun y=>decide (x.ID≤y.ID))=false):qgu l id item state u=some (a2g l id item state u):=by
 unfold qgu a2g;rw[b1n hl];unfold b2g;rcases j3 (fun x:Hold=>x.ID==id) l with ⟨h1,h2⟩|⟨i,x,h1,h2,h3,h4⟩
 ·rw[h2];rfl
 ·have hxid:x.ID=id:=by simpa using h3
  have hw:=u3 (step:=c5e) (fun i=>(l,id,item,state,u,(i:Int),x,())) l (fun o=>!(o.ID==id)&&o.Got==item) (fun _ _=>(.inr ([],7,()):(List Hold×Int×Int×Int×Hold×Unit)⊕(List Hold×Int×Unit))) (.inl (l,item,state,u,x,())) hl
   (by simp only[c5e,dge,yaa])
   (fun j y hy=>by
    have hlt:=(zL hy)
    simp -zeta only[c5e,dlt hlt,b9,hy,yab,p7,g9 (show j<9223372036854775807 by omega)];rfl)
  rw[a3j]at hw;rw[h4];simp -zeta only[yai,yaa,f7q,f7o,a0e,p7,a94,h1,yay];dsimp only;rw[←g53];have eb:∀a b c d:Bool,((a||b||c)||d)=(a||(b||c||d)):=by decide
  cases hq:(!(rng 1 9999 item)||(!(state==2)&&!(state==3)||(state==3&&(decide (u<1)||!(rng 0 109572 u)))||(state==2&&!(u==0)))) with
  |true=>
   rw[←eb]at hq;rw[hq]
   try rfl
  |false=>
   rw[←eb]at hq;rw[hq];simp only[yaa,h3y];cases (!(x.State==1)&&((!(x.State==2)||!(x.Got==item))||!(state==3))) with
   |true=>rfl
   |false=>
    simp only[yaa];rw[show b8 c5e (l,id,item,state,u,0,x,())=_ from hw];have ea:l.any (fun o=>o.Got==item&&!(o.ID==id))=(l.find? (fun o=>!(o.ID==id)&&o.Got==item)).isSome:=by
     rw[ybB,List.find?_isSome,ybZ];constructor
     ·rintro ⟨o,ho,hp⟩;exact ⟨o,ho,by rw[Bool.and_comm];exact hp⟩
     ·rintro ⟨o,ho,hp⟩;exact ⟨o,ho,by rw[Bool.and_comm];exact hp⟩
    rw[ea];cases l.find? (fun o=>!(o.ID==id)&&o.Got==item) with
    |some o=>rfl
    |none=>
     simp only[yb4,yaa];have:=e3u (l:=l) (y:=c0i x item state u) hl;rw[a8c hsort h2 (y:=c0i x item state u) rfl]at this;rw[show qhb l (⟨x.ID,x.Patron,x.Record,x.Item,x.Pickup,x.Placed,state,item,u,x.Asleep,x.Rank⟩:Hold)=_ from this]
def a05 (o:Hold):Int×Int×Int:=(o.ID,o.Rank,o.Record)
theorem a9z {c:Circ} (h:MidP c) {l:List Hold} (e:l.map a05=c.Holds.map a05):MidP (i6 c l):=by
 have hlen:l.length=c.Holds.length:=by have:=congrArg List.length e;simpa using this
 have key:∀(i:Nat) (x:Hold),l[i]?=some x→∃x',c.Holds[i]?=some x'∧a05 x'=a05 x:=by
  intro i x hx;have h1:(l.map a05)[i]?=some (a05 x):=by rw[yaH,hx];rfl
  rw[e,yaH]at h1;cases hl:c.Holds[i]? with
  |none=>rw[hl]at h1;cases h1
  |some x'=>rw[hl]at h1;exact ⟨x',rfl,by simpa using h1⟩
 refine ⟨a2z h.short (by rw[hlen];exact h.short.holds),h.moves,?_,?_,?_,?_,h.cal,h.rules,h.branch,h.ids,h.chN⟩
 ·show l.length<_;rw[hlen];exact h.holdsN
 ·intro i x hx;obtain ⟨x',hx',ek⟩:=key i x hx;have hs:=h.sorted i x' hx';cases i with
  |zero=>rfl
  |succ j=>
   show u9 l (j+1) _=false
   unfold u9 at hs ⊢;simp only at hs ⊢;cases hj:l[j]? with
   |none=>rfl
   |some y=>
    obtain ⟨y',hy',ey⟩:=key j y hj;rw[hy']at hs;unfold a05 at ek ey;simp only[yaM]at ek ey;simp only at hs;rw[ek.1,ey.1]at hs;exact hs
 ·intro o ho;obtain ⟨i,hi⟩:=yau ho;obtain ⟨x',hx',ek⟩:=key i o hi;have:=h.rank x' (yaf hx');unfold a05 at ek;simp only[yaM]at ek;rw[←ek.1,←ek.2.1];exact this
 ·intro r;have e1:∀m:List Hold,(m.filter (fun o=>o.Record==r)).length=((m.map a05).filter (fun k=>k.2.2==r)).length:=by
   intro m;rw[List.filter_map,ybc]
   try rfl
  show (l.filter (fun o=>o.Record==r)).length<20
  rw[e1,e,←e1];exact h.few r
theorem b7a {l:List Hold} {id item state u:Int} (h:(a2g l id item state u).2=0):(a2g l id item state u).1.map a05=l.map a05:=by
 unfold a2g at h ⊢;rcases j3 (fun x:Hold=>x.ID==id) l with ⟨h1,h2⟩|⟨i,x,h1,h2,h3,h4⟩
 ·rw[h2]at h;cases h
 ·rw[h4]at h ⊢;simp only at h ⊢;cases hq:(!(rng 1 9999 item)||!(okS state u)) with
  |true=>rw[hq]at h;cases h
  |false=>
   rw[hq]at h;simp only[yaa]at h ⊢;cases hq2:(!(x.State==1)&&((!(x.State==2)||!(x.Got==item))||!(state==3))) with
   |true=>rw[hq2]at h;cases h
   |false=>
    rw[hq2]at h;simp only[yaa]at h ⊢;cases hq3:l.any (fun o=>o.Got==item&&!(o.ID==id)) with
    |true=>rw[hq3]at h;cases h
    |false=>
     simp only[yaa,h1,yay];exact a1f h2 rfl
end
section
structure Frame (c d:Circ):Prop where
 ids:d.Items.map (fun x=>x.ID)=c.Items.map (fun x=>x.ID)
 holds:d.Holds.map a05=c.Holds.map a05
 patrons:d.Patrons=c.Patrons
 loans:d.Loans=c.Loans
 charges:d.Charges=c.Charges
 rules:d.Rules=c.Rules
 cals:d.Cals=c.Cals
 today:d.Today=c.Today
 here:d.Local=c.Local
 nh:d.NextHold=c.NextHold
 nc:d.NextCharge=c.NextCharge
 br:d.Items.map (fun x=>x.Custody.Branch)=c.Items.map (fun x=>x.Custody.Branch)
 recs:d.Items.map (fun x=>x.Record)=c.Items.map (fun x=>x.Record)
theorem Frame.refl (c:Circ):Frame c c:=⟨rfl,rfl,rfl,rfl,rfl,rfl,rfl,rfl,rfl,rfl,rfl,rfl,rfl⟩
theorem Frame.trans {a b c:Circ} (h:Frame a b) (k:Frame b c):Frame a c:=
 ⟨k.ids.trans h.ids,k.holds.trans h.holds,k.patrons.trans h.patrons,k.loans.trans h.loans,k.charges.trans h.charges,k.rules.trans h.rules,k.cals.trans h.cals,k.today.trans h.today,k.here.trans h.here,k.nh.trans h.nh,k.nc.trans h.nc,k.br.trans h.br,k.recs.trans h.recs⟩
theorem a86 {c:Circ} {i:Nat} {x:Item} (hx:c.Items[i]?=some x) (m:Move) {u:Custody} (hu:u.Branch=x.Custody.Branch):Frame c (t7 c i x m u):=
 ⟨a1f hx rfl,rfl,rfl,rfl,rfl,rfl,rfl,rfl,rfl,rfl,rfl,a1f hx hu,a1f hx rfl⟩
theorem a8z {c:Custody} {m:Move} {u:Custody} (h:s7 c m=(u,0)) (hk:(a0i m.Kind==2)=false):u.Branch=c.Branch:=by
 unfold s7 at h;cases e1:(!(b0d c)||!(b0e m)) with
 |true=>rw[e1]at h;cases h
 |false=>
  rw[e1]at h;simp only[yaa]at h;cases e2:!(a7c c.State m.Kind) with
  |true=>rw[e2]at h;cases h
  |false=>
   rw[e2]at h;simp only[yaa]at h;cases e3:(m.Kind==3&&c.State==5&&!(m.Who==c.Who)) with
   |true=>rw[e3]at h;cases h
   |false=>
    rw[e3]at h;simp only[yaa]at h;cases e4:!(c46 c m) with
    |true=>rw[e4]at h;cases h
    |false=>
     rw[e4]at h;simp only[yaa,hk]at h;cases e5:(a0i m.Kind==4||(a0i m.Kind==5||a0i m.Kind==8)) with
     |true=>rw[e5]at h;cases h;rfl
     |false=>
      rw[e5]at h;simp only[yaa]at h;cases e6:(a0i m.Kind==6) with
      |true=>rw[e6]at h;cases h;rfl
      |false=>
       rw[e6]at h;simp only[yaa]at h;cases e7:(a0i m.Kind==9||a0i m.Kind==10) with
       |true=>rw[e7]at h;cases h;rfl
       |false=>rw[e7]at h;cases h;rfl
theorem a7h {c:Circ} {l:List Hold} (e:l.map a05=c.Holds.map a05):Frame c (i6 c l):=⟨rfl,e,rfl,rfl,rfl,rfl,rfl,rfl,rfl,rfl,rfl,rfl,rfl⟩
def c1i (a:Option (Unit×Circ_desk)) (b:Option (Circ×Int)) (Q:Circ→Prop):Prop:=
 (∃c,a=some ((),⟨c,0⟩)∧b=some (c,0)∧Q c)∨∃c e,e≠0∧a=some ((),⟨c,e⟩)∧b=some (o4,e)∧Short c
def a8q (a b:Option (Circ×Int)):Prop:=∃c e,a=some (c,e)∧b=some (c,e)∧Short c
theorem o7 {e:Int}:a8q (some (o4,e)) (some (o4,e)):=⟨_,_,rfl,rfl,b1h⟩
theorem n9 (c:Circ) (e0:Int) (h0:e0≠0):qh ⟨c,e0⟩=some ((o4,e0),⟨c,e0⟩):=by
 have h:(e0==0)=false:=by simpa using h0
 unfold qh;simp only[h,yan,yab]
 try rfl
theorem b98 {c:Circ} (h:MidP c) {b n:Int} (hb:rng 1 4 b=true):∃d e,qeq b n ⟨c,0⟩=some (d,⟨c,e⟩)∧qgy (e7z c b) c.Today n=some (d,e):=by
 obtain ⟨d,e,hq⟩:=a8b (h.cal b) c.Today n;refine ⟨d,e,?_,hq⟩;unfold qeq;simp only[b8q hb,c79 (h.cal b),hq];by_cases he:e=0
 ·subst he;rfl
 ·have he2:(e==0)=false:=by simpa using he
  simp only[he2,yan,yab,qo,yah]
theorem b6p {c:Circ} (h:MidP c) {b n e0:Int} (hb:rng 1 4 b=true) (h0:e0≠0):∃d,qeq b n ⟨c,e0⟩=some (d,⟨c,e0⟩):=by
 obtain ⟨d,e,hq⟩:=a8b (h.cal b) c.Today n;have h2:(e0==0)=false:=by simpa using h0
 refine ⟨d,?_⟩;unfold qeq;simp only[b8q hb,c79 (h.cal b),hq];cases e==0<;>simp only[yan,yai,yab,yaa,qo,h2]
theorem c1i.mono {a:Option (Unit×Circ_desk)} {b:Option (Circ×Int)} {Q R:Circ→Prop} (h:c1i a b Q) (hQ:∀d,Q d→R d):c1i a b R:=by
 rcases h with ⟨d,h1,h2,h3⟩|h
 ·exact .inl ⟨d,h1,h2,hQ d h3⟩
 ·exact .inr h
theorem b81 {c:Circ} (h:MidP c) {i:Nat} {x:Item} (hx:c.Items[i]?=some x) (o:Hold):c1i (qdo (i:Int) o ⟨c,0⟩) (qgn c x.ID o) (fun d=>(MidP d∧Frame c d)∧(∃u,d.Items=c.Items.set i (y0 u x))∧∃st u,a2g c.Holds o.ID x.ID st u=(d.Holds,0)):=by
 obtain ⟨r,b,hr,_⟩:=b05 (p:=o.Patron) (x:=x) h.short;have hb:=h.branch x (yaf hx);unfold qdo qgn;simp -zeta only[yah,yai,yaa,a6g h hx,b9,hx,b01 h.short,hr];rcases a1k h hx 5 x.Custody.Branch o.Patron with ⟨u,ha,m1,m2,hm2⟩|⟨e,he,m1,m2⟩
 ·have hf:=a86 hx ⟨c.Today,x.ID,5,x.Custody.Branch,o.Patron⟩ (a8z ha rfl);rw[m1,m2];have hh:(t7 c i x ⟨c.Today,x.ID,5,x.Custody.Branch,o.Patron⟩ u).Holds=c.Holds:=rfl;have hI:(t7 c i x ⟨c.Today,x.ID,5,x.Custody.Branch,o.Patron⟩ u).Items=c.Items.set i (y0 u x):=rfl;generalize t7 c i x ⟨c.Today,x.ID,5,x.Custody.Branch,o.Patron⟩ u=c2 at hm2 hf hh hI;dsimp only;have core:∀days:Int,∃d e,qeq x.Custody.Branch days ⟨c2,0⟩=some (d,⟨c2,e⟩)∧qgy (e7z c2 x.Custody.Branch) c2.Today days=some (d,e):=fun days=>b98 hm2 hb
  cases b
  all_goals
   simp only[yab,yaa,yah,yai,b8y hb];obtain ⟨d,e,l1,l2⟩:=core _;rw[l1,l2];by_cases he:e=0
   ·subst he;simp only[yah,yai,yab,yaa,f63 hm2.short.holds,d2r hm2.short.holds hm2.sorted];have ck:=b7a (l:=c2.Holds) (id:=o.ID) (item:=x.ID) (state:=3) (u:=d);generalize hcq:a2g c2.Holds o.ID x.ID 3 d=q at ck;obtain ⟨l,e⟩:=q;by_cases he:e=0
    ·subst he;exact .inl ⟨i6 c2 l,rfl,rfl,⟨a9z hm2 (ck rfl),hf.trans (a7h (ck rfl))⟩,⟨u,hI⟩,3,d,by rw[←hh];exact hcq⟩
    ·have he2:(e==0)=false:=by simpa using he
     simp only[a2h c2 l e he,he2,yan,yab];exact .inr ⟨_,e,he,rfl,rfl,hm2.short⟩
   ·have he2:(e==0)=false:=by simpa using he
    simp only[he2,yan,yab,yaa];exact .inr ⟨_,e,he,rfl,rfl,hm2.short⟩
 ·have he2:(e==0)=false:=by simpa using he
  rw[m1,m2];dsimp only;cases b
  all_goals
   simp only[yab,yaa,he2,yan];obtain ⟨d,l1⟩:=b6p (n:=_) h hb he;rw[l1];simp only[he2,yaa];exact .inr ⟨_,e,he,rfl,rfl,h.short⟩
theorem e4d {c:Circ} (h:MidP c) {i:Nat} {x:Item} (hx:c.Items[i]?=some x) (o:Hold):c1i (qdo (i:Int) o ⟨c,0⟩) (qgn c x.ID o) (fun d=>MidP d∧Frame c d):=(b81 h hx o).mono (fun _ h=>h.1)
theorem a2s {c:Circ} {i:Nat} {x:Item} (hx:c.Items[i]?=some x) (kind:Int):qbx (i:Int) kind ⟨c,0⟩=qam (i:Int) kind x.Custody.Branch 0 ⟨c,0⟩:=by
 unfold qbx;simp only[yah,yab,b9,hx];cases qam (i:Int) kind x.Custody.Branch 0 ⟨c,0⟩ with
 |none=>rfl
 |some p=>rfl
theorem a6v (c:Circ) (i kind e0:Int) (h0:e0≠0):qbx i kind ⟨c,e0⟩=some ((),⟨c,e0⟩):=by
 have h:(e0==0)=false:=by simpa using h0
 unfold qbx;simp only[h,yaa]
theorem a4e (c:Circ) (i e0:Int) (h0:e0≠0):qcg i ⟨c,e0⟩=some ((),⟨c,e0⟩):=by
 have h:(e0==0)=false:=by simpa using h0
 unfold qcg;simp only[h,yan,yab]
theorem b6q (c:Circ) (i e0:Int) (o:Hold) (h0:e0≠0):qdo i o ⟨c,e0⟩=some ((),⟨c,e0⟩):=by
 have h:(e0==0)=false:=by simpa using h0
 unfold qdo;simp only[h,yan,yab]
theorem d20 {X:Type} {l:List X} {i:Nat} {x:X} (h:l[i]?=some x):l.set i x=l:=by
 obtain ⟨h1,h2⟩:=yaL.1 h;rw[←h2,List.set_getElem_self]
theorem c0k {l:List Hold} (hs:∀i x,l[i]?=some x→u9 l i (fun y=>decide (x.ID≤y.ID))=false) {o p:Hold} (ho:o∈l) (hp:p∈l) (e:o.ID=p.ID):o=p:=by
 have h1:=a5j hs ho;have h2:=a5j hs hp;rw[e,h2]at h1;cases h1
 try rfl
def Put (c d:Circ) (i:Nat) (x:Item):Prop:=(∃u,d.Items=c.Items.set i (y0 u x))∧∃v,qcw c x=some v∧((v=0∧d.Holds=c.Holds)∨∃st u,a2g c.Holds v x.ID st u=(d.Holds,0)∧(st=3→∀o∈c.Holds,o.ID=v→o.Pickup=x.Custody.Branch))
theorem a9l {c:Circ} (h:MidP c) {i:Nat} {x:Item} (hx:c.Items[i]?=some x):c1i (qcg (i:Int) ⟨c,0⟩) (qg4 c x.ID) (fun d=>(MidP d∧Frame c d)∧Put c d i x):=by
 obtain ⟨v,p1,p2,g1,g2⟩:=a8e h hx;have mv:∀kind branch who:Int,(a0i kind==2)=false→c1i (qam (i:Int) kind branch who ⟨c,0⟩) (qgo c x.ID kind branch who) (fun d=>(MidP d∧Frame c d)∧d.Holds=c.Holds∧∃u,d.Items=c.Items.set i (y0 u x)):=by
  intro kind branch who hk;rcases a1k h hx kind branch who with ⟨u,ha,m1,m2,hm2⟩|⟨e,he,m1,m2⟩
  ·exact .inl ⟨_,m1,m2,⟨hm2,a86 hx _ (a8z ha hk)⟩,rfl,u,rfl⟩
  ·exact .inr ⟨_,e,he,m1,m2,h.short⟩
 unfold qcg qg4;simp -zeta only[yah,yai,yaa,a6g h hx,b9,hx,p1,p2,b49 h.short.holds,b1n h.short.holds,a2s hx,p7];by_cases hv:v=0
 ·subst hv;generalize b2g c.Holds 0=q at g1 ⊢;obtain ⟨o,ok⟩:=q;simp only[yah,yai]at g1;subst g1;dsimp only;simp only[yan,ya1,yah,yab];cases x.Branch==x.Custody.Branch with
  |false=>
   simp only[yan,yab];rcases mv 6 x.Branch 0 rfl with ⟨d,m1,m2,hQ,hH,hI⟩|⟨d,e,he,m1,m2,hsd⟩
   ·rw[m1,m2];exact .inl ⟨d,rfl,rfl,hQ,hI,0,p1,.inl ⟨rfl,hH⟩⟩
   ·rw[m1,m2];exact .inr ⟨d,e,he,rfl,rfl,hsd⟩
  |true=>
   simp only[yai,yaa];cases x.Custody.State==3 with
   |true=>exact .inl ⟨c,rfl,rfl,⟨h,Frame.refl c⟩,⟨x.Custody,(d20 hx).symm⟩,0,p1,.inl ⟨rfl,rfl⟩⟩
   |false=>
    simp only[yan,yab,yaa];rcases mv 2 x.Custody.Branch 0 rfl with ⟨d,m1,m2,hQ,hH,hI⟩|⟨d,e,he,m1,m2,hsd⟩
    ·rw[m1,m2];exact .inl ⟨d,rfl,rfl,hQ,hI,0,p1,.inl ⟨rfl,hH⟩⟩
    ·rw[m1,m2];exact .inr ⟨d,e,he,rfl,rfl,hsd⟩
 ·have hv2:(v==0)=false:=by simpa using hv
  obtain ⟨o,ho,hoi,hg,hw⟩:=g2 hv;rw[hg,hv2];dsimp only;simp only[yai,ybA,yaa];cases hpk:o.Pickup==x.Custody.Branch with
  |true=>
   simp only[yab];rcases b81 h hx o with ⟨d,m1,m2,hQ,hI,st,u,hH⟩|⟨d,e,he,m1,m2,hsd⟩
   ·rw[m1,m2];exact .inl ⟨d,rfl,rfl,hQ,hI,v,p1,.inr ⟨st,u,by rw[←hoi];exact hH,fun _ o2 ho2 hv2=>by rw[c0k h.sorted ho2 ho (hv2.trans hoi.symm)];simpa using hpk⟩⟩
   ·rw[m1,m2];exact .inr ⟨d,e,he,rfl,rfl,hsd⟩
  |false=>
   simp only[yaa];rcases mv 6 o.Pickup o.Patron rfl with ⟨d,m1,m2,⟨hm2,hf⟩,hH,hI⟩|⟨d,e,he,m1,m2,hsd⟩
   ·rw[m1,m2];simp only[yah,yai,yab,yaa,f63 hm2.short.holds,d2r hm2.short.holds hm2.sorted];have ck:=b7a (l:=d.Holds) (id:=v) (item:=x.ID) (state:=2) (u:=0);generalize hcq:a2g d.Holds v x.ID 2 0=q at ck;obtain ⟨l,e⟩:=q;by_cases he:e=0
    ·subst he;exact .inl ⟨i6 d l,rfl,rfl,⟨a9z hm2 (ck rfl),hf.trans (a7h (ck rfl))⟩,hI,v,p1,.inr ⟨2,0,by rw[←hH];exact hcq,fun h=>absurd h (by decide)⟩⟩
    ·have he2:(e==0)=false:=by simpa using he
     simp only[a2h d l e he,he2,yan,yab];exact .inr ⟨_,e,he,rfl,rfl,hm2.short⟩
   ·have he2:(e==0)=false:=by simpa using he
    rw[m1,m2];simp only[he2,yaa,yan,yab];exact .inr ⟨d,e,he,rfl,rfl,hsd⟩
theorem b9j {c:Circ} (h:MidP c) {i:Nat} {x:Item} (hx:c.Items[i]?=some x):c1i (qcg (i:Int) ⟨c,0⟩) (qg4 c x.ID) (fun d=>MidP d∧Frame c d):=(a9l h hx).mono (fun _ h=>h.1)
end
section
theorem a24 {c:Circ} {i:Nat} {x:Item} (hx:c.Items[i]?=some x) (m:Move) (u:Custody):(t7 c i x m u).Items[i]?=some (y0 u x):=by
 show (c.Items.set i (y0 u x))[i]?=_
 rw[ybs (zL hx)]
theorem y2 {c:Circ} (h:MidP c) (item:Int):(a5a (fun x=>x.ID==item) c.Items = -1∧qs c item=some (-1)∧c.Items.find? (fun x=>x.ID==item)=none)∨
 ∃(i:Nat) (x:Item),a5a (fun x=>x.ID==item) c.Items=(i:Int)∧qs c item=some (i:Int)∧c.Items[i]?=some x∧x.ID=item∧c.Items.find? (fun x=>x.ID==item)=some x:=by
 rcases j3 (fun x:Item=>x.ID==item) c.Items with ⟨h1,h2⟩|⟨i,x,h1,h2,h3,h4⟩
 ·exact .inl ⟨h1,by rw[b5m h.short.items,h1],h2⟩
 ·exact .inr ⟨i,x,h1,by rw[b5m h.short.items,h1],h2,by simpa using h3,h4⟩
theorem c08 {c:Circ} (h:MidP c) {item branch:Int}:a8q (qct c item branch) (qf9 c item branch):=by
 unfold qct qf9;simp -zeta only[qac,a0k h.short];rcases y2 h item with ⟨h1,h2,-⟩|⟨i,x,h1,h2,hx,hid,-⟩
 ·rw[h1,h2];exact o7
 ·subst hid;have d0:decide ((0:Int)≤(i:Int))=true:=by rw[yae];omega
  rw[h1,h2];simp only[a1c,d0,yab,yaa];rcases a1k h hx 1 branch 0 with ⟨u,ha,m1,m2,hm2⟩|⟨e,he,m1,m2⟩
  ·rw[m1,m2];simp only[yah,yai,yaa];rcases b9j hm2 (a24 hx _ u) with ⟨d,q1,q2,hd,_⟩|⟨d,e,he,q1,q2,hsd⟩
   ·rw[q1,show qg4 _ x.ID=_ from q2];exact ⟨d,0,rfl,rfl,hd.short⟩
   ·rw[q1,show qg4 _ x.ID=_ from q2];simp only[n9 d e he];exact o7
  ·have he2:(e==0)=false:=by simpa using he
   rw[m1,m2];simp only[a4e c _ e he,n9 c e he,he2,yan,yab];exact o7
theorem a9m {c:Circ} (h:MidP c) {item:Int} {b:Bool}:a8q (qef c item b) (qga c item b):=by
 unfold qef qga;simp -zeta only[qac,a0k h.short];rcases y2 h item with ⟨h1,h2,-⟩|⟨i,x,h1,h2,hx,hid,-⟩
 ·rw[h1,h2];exact o7
 ·subst hid;rw[h1,h2];simp only[a1c,yab,yaa,b9,hx,a2s hx];cases b with
  |true=>
   simp only[yab];rcases a1k h hx 8 x.Custody.Branch 0 with ⟨u,ha,m1,m2,hm2⟩|⟨e,he,m1,m2⟩
   ·rw[m1,m2];exact ⟨_,0,rfl,rfl,hm2.short⟩
   ·rw[m1,m2];simp only[n9 c e he];exact o7
  |false=>
   simp only[yaa];rcases a1k h hx 9 x.Branch 0 with ⟨u,ha,m1,m2,hm2⟩|⟨e,he,m1,m2⟩
   ·rw[m1,m2];simp only[yah,yai,yaa];rcases b9j hm2 (a24 hx _ u) with ⟨d,q1,q2,hd,_⟩|⟨d,e,he,q1,q2,hsd⟩
    ·rw[q1,show qg4 _ x.ID=_ from q2];exact ⟨d,0,rfl,rfl,hd.short⟩
    ·rw[q1,show qg4 _ x.ID=_ from q2];simp only[n9 d e he];exact o7
   ·have he2:(e==0)=false:=by simpa using he
    rw[m1,m2];simp only[a4e c _ e he,n9 c e he,he2,yan,yab];exact o7
end
section
theorem e0x {c d:Circ} (h:Frame c d):d.Items.length=c.Items.length:=by
 have:=congrArg List.length h.ids;simpa using this
theorem a8x (c:Circ) (record e:Int) (n i k:Nat) (he:e≠0) :
 o0 a4b (k+1) (record,(n:Int),(i:Int),⟨c,e⟩,())=some (.inl (⟨c,e⟩,()))∨o0 a4b (k+1) (record,(n:Int),(i:Int),⟨c,e⟩,())=some (.inr (⟨c,e⟩,())):=by
 have h:(e==0)=false:=by simpa using he
 simp only[o0,a4b];cases decide ((i:Int)<(n:Int)) with
 |false=>exact .inl rfl
 |true=>
  simp only[yab,h,yan];refine .inr ?_
  first|rfl|trivial
def e7x (r:Int) (c d:Circ):Prop:=d.Items.map (fun x=>x.Record)=c.Items.map (fun x=>x.Record)∧∀(j:Nat) (y:Item),c.Items[j]?=some y→¬y.Record=r→d.Items[j]?=some y
theorem e7x.refl (r:Int) (c:Circ):e7x r c c:=⟨rfl,fun _ _ h _=>h⟩
theorem e7x.trans {r:Int} {a b c:Circ} (h:e7x r a b) (k:e7x r b c):e7x r a c:=⟨k.1.trans h.1,fun j y hy hr=>k.2 j y (h.2 j y hy hr) hr⟩
theorem f3b {c d:Circ} {i:Nat} {x:Item} {record w:Int} (hx:c.Items[i]?=some x) (hp:Put c d i x) (hq:((x.Record==record&&x.Custody.State==3)&&!(w==0))=true):e7x record c d:=by
 obtain ⟨⟨u,hI⟩,-⟩:=hp;simp only[yad,yba]at hq;refine ⟨by rw[hI];exact a1f hx rfl,fun j y hy hr=>?_⟩;rw[hI,List.getElem?_set];split
 ·rename_i e;subst e;rw[hx]at hy;cases hy
  exact absurd hq.1.1 hr
 ·exact hy
theorem d6r {record:Int} {n:Nat} {v:Circ} (hn:n<1000000000):∀(k i:Nat) (c:Circ),i+k=n→MidP c→c.Items.length=n→
 (∃d,o0 a4b (k+2) (record,(n:Int),(i:Int),⟨c,0⟩,())=some (.inl (⟨d,0⟩,()))∧o0 a43 (k+2) (record,(i:Int),c,v,())=some (.inl (d,v,()))∧MidP d∧Frame c d∧e7x record c d)∨
 (∃d e,e≠0∧Short d∧(o0 a4b (k+2) (record,(n:Int),(i:Int),⟨c,0⟩,())=some (.inl (⟨d,e⟩,()))∨o0 a4b (k+2) (record,(n:Int),(i:Int),⟨c,0⟩,())=some (.inr (⟨d,e⟩,())))∧
  o0 a43 (k+2) (record,(i:Int),c,v,())=some (.inr (e,o4,()))):=by
 intro k
 induction k with
 |zero=>
  intro i c hi h hl;have:i=n:=by omega
  subst this;refine .inl ⟨c,?_,?_,h,Frame.refl c,e7x.refl _ c⟩
  ·simp only[o0,a4b,dge,yaa]
  ·simp only[o0,a43,hl,dge,yaa]
 |succ k ih=>
  intro i c hi h hl;have hlt:i<n:=by omega
  have hx:c.Items[i]?=some (c.Items[i]'(by omega)):=yac (by omega);generalize c.Items[i]'(by omega)=x at hx;obtain ⟨w,p1,p2,g1,g2⟩:=a8e h hx;have hsu:=g9 (show i<9223372036854775807 by omega);have s1:a4b (record,(n:Int),(i:Int),⟨c,0⟩,())=(bif (x.Record==record&&x.Custody.State==3)&&!(w==0) then (match qcg (i:Int) ⟨c,0⟩ with|some (_,v6)=>some (.inl (record,(n:Int),((i+1:Nat):Int),v6,()))|none=>none) else some (.inl (record,(n:Int),((i+1:Nat):Int),⟨c,0⟩,()))):=by
   simp -zeta only[a4b,dlt hlt,yab,yah,yai,yaa,b9,hx,p1,p7,hsu]
   try rfl
  have s2:a43 (record,(i:Int),c,v,())=(bif (x.Record==record&&x.Custody.State==3)&&!(w==0) then (match qg4 c x.ID with|some (r5,r6)=>(bif !(r6==0) then some (.inr (.inr (r6,o4,()))) else some (.inl (record,((i+1:Nat):Int),r5,v,())))|none=>none) else some (.inl (record,((i+1:Nat):Int),c,v,()))):=by
   simp -zeta only[a43,hl,dlt hlt,yab,b9,hx,p2,a0e,hsu];dsimp only;cases x.Record==record<;>cases x.Custody.State==3<;>cases w==0<;>rfl
  rw[o0,o0,s1,s2];cases hq:(x.Record==record&&x.Custody.State==3)&&!(w==0) with
  |false=>
   simp only[yaa];exact ih (i+1) c (by omega) h hl
  |true=>
   simp only[yab];rcases a9l h hx with ⟨d,q1,q2,⟨hd,hf⟩,hput⟩|⟨d,e,he,q1,q2,hsd⟩
   ·rw[q1,q2];simp only[yah,yai,yaa];rcases ih (i+1) d (by omega) hd (by rw[e0x hf,hl]) with ⟨d2,a1,a2,a3,a4,a5⟩|⟨d2,e,he,hsd,a1,a2⟩
    ·exact .inl ⟨d2,a1,a2,a3,hf.trans a4,(f3b hx hput hq).trans a5⟩
    ·exact .inr ⟨d2,e,he,hsd,a1,a2⟩
   ·have he2:(e==0)=false:=by simpa using he
    rw[q1,q2];simp only[he2,yan,yab];exact .inr ⟨d,e,he,hsd,a8x d record e n (i+1) (k+1) he,rfl⟩
theorem b51 {c:Circ} (h:MidP c) (record:Int):c1i (qas record ⟨c,0⟩) (qg2 c record) (fun d=>MidP d∧Frame c d∧e7x record c d):=by
 have hi:=h.short.items;unfold qas qg2;rcases d6r (record:=record) (v:=o4) hi c.Items.length 0 c (by omega) h rfl with ⟨d,a1,a2,a3,a4⟩|⟨d,e,he,hsd,a1,a2⟩
 ·have w1:=o5 _ (by rw[j9];omega) a1;have w2:=o5 _ (by rw[j9];omega) a2;rw[show b8 a4b (record,(c.Items.length:Int),0,⟨c,0⟩,())=_ from w1,show b8 a43 (record,0,c,ZN,())=_ from w2];exact .inl ⟨d,rfl,rfl,a3,a4⟩
 ·have w2:=o5 _ (by rw[j9];omega) a2;rw[show b8 a43 (record,0,c,ZN,())=_ from w2];rcases a1 with a1|a1
  ·have w1:=o5 _ (by rw[j9];omega) a1;rw[show b8 a4b (record,(c.Items.length:Int),0,⟨c,0⟩,())=_ from w1];exact .inr ⟨d,e,he,rfl,rfl,hsd⟩
  ·have w1:=o5 _ (by rw[j9];omega) a1;rw[show b8 a4b (record,(c.Items.length:Int),0,⟨c,0⟩,())=_ from w1];exact .inr ⟨d,e,he,rfl,rfl,hsd⟩
theorem a3q (c:Circ) (record e:Int) (he:e≠0):qas record ⟨c,e⟩=some ((),⟨c,e⟩):=by
 unfold qas;rcases a8x c record e c.Items.length 0 0 he with a1|a1
 ·have w1:=o5 _ (by rw[j9];omega) a1;rw[show b8 a4b (record,(c.Items.length:Int),0,⟨c,e⟩,())=_ from w1]
 ·have w1:=o5 _ (by rw[j9];omega) a1;rw[show b8 a4b (record,(c.Items.length:Int),0,⟨c,e⟩,())=_ from w1]
end
section
theorem c7q {l:List Hold} (h:t6 l=0) {o:Hold} (ho:o∈l):rng 0 9 o.Rank=true∧o.ID≠0:=by
 have:=a1q h ho;unfold p9 at this;have:=a0n this (by decide);simp only[yaj,yag]at this;obtain ⟨⟨hx,h1⟩,h2⟩:=this;refine ⟨by rw[w6];omega,?_⟩;have:=hx.1.1.1.1.1.1.1.1.1.1;omega
theorem e4n {c:Circ} (hs:Short c) {p:Int} {x:Item}:∃r b,qg0 c p x=some (r,b)∧(b=true→r∈c.Rules)∧(b=false→r.Rank=0):=by
 unfold qg0;rw[a26 hs.patrons];dsimp only;cases (a5d c.Patrons p).2 with
 |false=>exact ⟨_,false,rfl,fun h=>(by cases h),fun _=>rfl⟩
 |true=>
  simp only[yai,yaa];unfold qhj;rw[e3t hs.rules];dsimp only;rcases c1z (l:=c.Rules) (p:=(a5d c.Patrons p).1.Kind) (it:=x.Kind) (br:=x.Branch) with h|⟨k,hk,hlt⟩
  ·rw[show decide (d7z c.Rules (a5d c.Patrons p).1.Kind x.Kind x.Branch<0)=true by rw[yae];exact h];exact ⟨_,false,rfl,fun h=>(by cases h),fun _=>rfl⟩
  ·rw[hk,show decide ((k:Int)<0)=false by rw[yag];omega];simp only[yaa,b9,yac hlt];exact ⟨_,true,rfl,fun _=>ybq hlt,fun h=>(by cases h)⟩
def a7u (l:List Hold) (h:Hold):List Hold×Int:=
 bif (!(h.State==1)||!(h.Got==0))||!(h.Until==0) then ([],12) else bif !(t6 (l++[h])==0) then ([],t6 (l++[h])) else (l++[h],0)
theorem h41 {l:List Hold} {h:Hold} (hl:l.length<100000000):qe1 l h=some (a7u l h):=by
 have l1:decide (l.length+([h]:List Hold).length≤LIM)=true:=a1d (by simp;omega);unfold qe1 a7u;simp -zeta only[b7b (show l.length<1000000000 by omega),l1,yab,h7m (show (l++[h]).length<1000000000 by simp;omega),a0e];dsimp only;cases ((!(h.State==1)||!(h.Got==0))||!(h.Until==0)) with
 |true=>rfl
 |false=>
  simp only[yaa];cases !(t6 (l++[h])==0)<;>rfl
theorem f7x {l:List Hold} {h:Hold} (hl:l.length<100000000):qgt l h=some (a7u l h):=by
 have hw:=o8 (step:=c5d) (fun (i:Nat) (s:List Hold)=>s.length≤i) (fun i s=>(l,(i:Int),h,s,())) l
  (fun i x s=>.inl (s++[x])) (fun s=>(h,s,())) (by rw[j9];omega)
  (fun s _=>by simp only[c5d,dge,yaa])
  (fun i x s hx hi=>by
   have hlt:=(zL hx)
   have l1:∀z:Hold,decide (s.length+([z]:List Hold).length≤LIM)=true:=fun z=>a1d (by simp;omega)
   refine ⟨?_,fun s' hs'=>?_⟩
   ·simp only[c5d,dlt hlt,b9,hx,yab,l1,g9 (show i<9223372036854775807 by omega)]
   ·cases hs'
    simp;omega) [] (by simp)
 rw[y6]at hw;have key:∀(l o:List Hold),l.foldl (fun s x=>s++[x]) o=o++l:=by
  intro l
  induction l with
  |nil=>intro o;simp
  |cons x l ih=>intro o;rw[ya6,ih];simp
 rw[key,yaZ]at hw;have l1:decide (l.length+([h]:List Hold).length≤LIM)=true:=a1d (by simp;omega);unfold qgt a7u;rw[show b8 c5d (l,0,h,([]:List Hold),())=_ from hw];simp -zeta only[l1,yab,h5p (show (l++[h]).length<1000000000 by simp;omega),a0e];dsimp only;cases ((!(h.State==1)||!(h.Got==0))||!(h.Until==0)) with
 |true=>rfl
 |false=>
  simp only[yaa];cases !(t6 (l++[h])==0)<;>rfl
def b6d (c:Circ) (n:Int):Circ:=⟨c.Today,c.Items,c.Patrons,c.Loans,c.Holds,c.Charges,c.Rules,c.Cals,c.Moves,n,c.NextCharge,c.Local⟩
theorem h38 {c:Circ} (h:MidP c) (n:Int):MidP (b6d c n):=by
 obtain ⟨⟨a1,a2,a3,a4,a5,a6,a7,a8,a9,a10,a11,a12,a13⟩,h2,h3,h4,h5,h6,h7,h8,h9,h10,h11⟩:=h;exact ⟨⟨a1,a2,a3,a4,a5,a6,a7,a8,a9,a10,a11,a12,a13⟩,h2,h3,h4,h5,h6,h7,h8,h9,h10,h11⟩
theorem d5m {c:Circ} (h:MidP c) {l:List Hold} (hl:l.length<1000000) (he:t6 l=0) (hf:∀r,(l.filter (fun o=>o.Record==r)).length<20):MidP (i6 c l):=by
 obtain ⟨h1,h2,h3,h4,h5,h6,h7,h8,h9,h10,h11⟩:=h;exact ⟨a2z h1 (by omega),h2,hl,y8 he,fun o ho=>c7q he ho,hf,h7,h8,h9,h10,h11⟩
def c2n (record item:Int) (x:Item):Bool:=(x.Record==record&&!(x.Custody.State==12))&&(item==0||x.ID==item)
theorem h4t (x:Item) (o:Hold):qc5 x o=some (c2n o.Record o.Item x):=by
 have e1:qcz x o.Record=some (x.Record==o.Record&&!(x.Custody.State==12)):=by
  unfold qcz;simp -zeta only[p7]
  try rfl
 have e2:qch o x=some (x.Record==o.Record&&(o.Item==0||x.ID==o.Item)):=by
  unfold qch;simp -zeta only[p7,a0e];rw[BEq.comm (a:=o.Record),BEq.comm (a:=o.Item) (b:=x.ID)]
 unfold qc5 c2n;simp -zeta only[e1,e2,p7];dsimp only;cases x.Record==o.Record<;>cases !(x.Custody.State==12)<;>rfl
theorem f7u {c:Circ} {record item:Int} (hl:c.Items.length<1000000000):qgf c record item=some (match c.Items.find? (c2n record item) with|some x=>(x,true)|none=>(a4a,false)):=by
 unfold qgf;have h:=u3 (step:=c47) (fun i=>(record,item,(i:Int),c,a4a,())) c.Items (c2n record item) (fun _ x=>(.inr (true,x,()):(Item×Unit)⊕(Bool×Item×Unit))) (.inl (a4a,())) hl
  (by simp only[c47,dge,yaa])
  (fun i x hx=>by
   have hi:=(zL hx)
   simp -zeta only[c47,dlt hi,b9,hx,yab,p7,a0e,g9 (show i<9223372036854775807 by omega)];rfl)
 rw[a3j]at h;rw[show b8 c47 (record,item,0,c,(⟨0,0,0,0,0,[],⟨0,0,0,0⟩⟩:Item),())=_ from h];cases c.Items.find? (c2n record item)<;>rfl
def b6x (c:Circ) (record:Int) (n:Loan):Bool:=match c.Items.find? (fun x=>x.ID==n.Item) with|some x=>x.Record==record|none=>false
theorem e34 {c:Circ} {f:Int} {o:Hold} {l:List Loan} (hs:Short c) (hl:l.length<1000000000):b8 c8n (f,l,(l.length:Int),0,c,o,a4a,()) =
 some (match l.find? (b6x c o.Record) with|some _=>.inr (12,a4a,())|none=>.inl (f,c,a4a,())):=by
 have h:=u3 (step:=c8n) (fun i=>(f,l,(l.length:Int),(i:Int),c,o,a4a,())) l (b6x c o.Record) (fun _ _=>(.inr (12,a4a,()):(Int×Circ×Item×Unit)⊕(Int×Item×Unit))) (.inl (f,c,a4a,())) hl
  (by simp only[c8n,dge,yaa])
  (fun i n hn=>by
   have hi:=(zL hn)
   simp -zeta only[c8n,dlt hi,b9,hn,yab,d6c hs.items,g9 (show i<9223372036854775807 by omega)];dsimp only;unfold b6x;rcases j3 (fun x:Item=>x.ID==n.Item) c.Items with ⟨h1,h2⟩|⟨j,x,h1,h2,h3,h4⟩
   ·rw[h1,h2]
    try rfl
   ·have d0:decide ((0:Int)≤(j:Int))=true:=by rw[yae];omega
    rw[h1,h4];simp only[d0,yab,b9,h2];cases x.Record==o.Record<;>rfl)
 rw[a3j]at h;refine Eq.trans h ?_;cases l.find? (b6x c o.Record)<;>rfl
theorem b5g {c v:Circ} {p record item pickup:Int} {y:Item} {l:List Loan} (hs:Short c) (hl:l.length<1000000000) (hk:∀n∈l,(c.Items.find? (fun x=>x.ID==n.Item)).isSome=true):b8 a9b (p,record,item,pickup,l,0,c,v,y,()) =
 some (match l.find? (b6x c record) with|some _=>.inr (0,12,o4,())|none=>.inl (p,record,item,pickup,c,v,y,())):=by
 have h:=u3 (step:=a9b) (fun i=>(p,record,item,pickup,l,(i:Int),c,v,y,())) l (b6x c record) (fun _ _=>(.inr (0,12,o4,()):(Int×Int×Int×Int×Circ×Circ×Item×Unit)⊕(Int×Int×Circ×Unit))) (.inl (p,record,item,pickup,c,v,y,())) hl
  (by simp only[a9b,dge,yaa])
  (fun i n hn=>by
   have hi:=(zL hn)
   have hsome:=hk n (yaf hn);simp -zeta only[a9b,dlt hi,b9,hn,yab,b5m hs.items,g9 (show i<9223372036854775807 by omega)];unfold b6x;rcases j3 (fun x:Item=>x.ID==n.Item) c.Items with ⟨h1,h2⟩|⟨j,x,h1,h2,h3,h4⟩
   ·rw[h2]at hsome;cases hsome
   ·rw[h1,h4];simp only[b9,h2];cases x.Record==record<;>rfl)
 rw[a3j]at h;refine Eq.trans h ?_;cases l.find? (b6x c record)<;>rfl
theorem d4m {c:Circ} (m:MidP c) (h:FitP c) (hh:c.Holds.length<100000) (hf:∀r,(c.Holds.filter (fun o=>o.Record==r)).length<19) {vid record item pickup:Int}:a5z (qdy c vid record item pickup) (qg9 c vid record item pickup):=by
 have hs:=m.short;have hn:=m.holdsN;unfold qdy qg9 qt;have hI:=e3h (p:=fun (g:Unit×Hold×Unit) x0=>qc5 x0 g.2.1) (g:=((),((⟨c.NextHold,vid,record,item,pickup,c.Today,1,0,0,0,0⟩:Hold),()))) (c2n record item) hs.items (fun x _=>h4t x _);simp -zeta only[c43 hs.patrons,a26 hs.patrons,f7u hs.items,hI,a0e,qac];cases hp:a5d c.Patrons vid with
 |mk p ok=>
  cases ok with
  |false=>exact n8
  |true=>
   have hpi:=(c0h hp).2;subst hpi;dsimp only;rcases j3 (c2n record item) c.Items with ⟨h1,h2⟩|⟨i,x,h1,hx,h3,h4⟩
   ·rw[h1,h2];exact n8
   ·rw[h1,h4];simp only[yai,yaa,a1c,Bool.or_self];cases hq:(decide (pickup<1)||decide (4<pickup)) with
    |true=>exact n8
    |false=>
     simp only[yaa,e3m hs h.charges,e3p hs h.charges,hp,g6r hs.loans,e3x hs.loans];cases decide (0<((a3v p c.Today (a8p p.ID c.Charges) (b6w p.ID c.Today c.Loans)).length:Int)) with
     |true=>exact n8
     |false=>
      simp only[yaa];have hll:(c.Loans.filter (fun x=>x.Patron==p.ID)).length<1000000000:=by have:=yaw (fun x:Loan=>x.Patron==p.ID) c.Loans;have:=hs.loans;omega
      have r1:=e34 (c:=c) (f:=(i:Int)) (o:=(⟨c.NextHold,p.ID,record,item,pickup,c.Today,1,0,0,0,0⟩:Hold)) hs hll;have r2:=b5g (c:=c) (v:=o4) (p:=p.ID) (record:=record) (item:=item) (pickup:=pickup) (y:=x) hs hll (fun n hn=>by
       obtain ⟨x,p,hx,-⟩:=a4l h (yax.1 hn).1;rw[hx];rfl)
      rw[show b8 c8n ((i:Int),c.Loans.filter (fun x=>x.Patron==p.ID),((c.Loans.filter (fun x=>x.Patron==p.ID)).length:Int),0,c,(⟨c.NextHold,p.ID,record,item,pickup,c.Today,1,0,0,0,0⟩:Hold),(⟨0,0,0,0,0,[],⟨0,0,0,0⟩⟩:Item),())=_ from r1];rw[show b8 a9b (p.ID,record,item,pickup,c.Loans.filter (fun x=>x.Patron==p.ID),0,c,ZN,x,())=_ from r2];cases (c.Loans.filter (fun x=>x.Patron==p.ID)).find? (b6x c record) with
      |some _=>exact n8
      |none=>
       simp only;cases decide (99999<c.NextHold) with
       |true=>exact n8
       |false=>
        obtain ⟨r,b,hr,-,hr0⟩:=e4n (p:=p.ID) (x:=x) hs;simp only[yaa,b9,hx,yah,yai,b01 hs,hr];have core:a5z (match qe1 c.Holds (⟨c.NextHold,p.ID,record,item,pickup,c.Today,1,0,0,0,r.Rank⟩:Hold) with
         |some (r11,r12)=>(match qcb r11 r12 ⟨c,0⟩ with
          |some (_,v)=>(match qas record (⟨⟨v.c.Today,v.c.Items,v.c.Patrons,v.c.Loans,v.c.Holds,v.c.Charges,v.c.Rules,v.c.Cals,v.c.Moves,wr .i64 (v.c.NextHold+1),v.c.NextCharge,v.c.Local⟩,v.err⟩:Circ_desk) with
           |some (_,v15)=>(match qbf c.NextHold v15 with|some ((r17,r18,r19),v20)=>some (r17,r18,r19)|none=>none)
           |none=>none)
          |none=>none)
         |none=>none)
         (match qgt c.Holds (⟨c.NextHold,p.ID,record,item,pickup,c.Today,1,0,0,0,r.Rank⟩:Hold) with
         |some (r24,r25)=>(bif !(r25==0) then some (o4,0,r25) else match qg2 {c with Holds:=r24,NextHold:=wr .i64 (c.NextHold+1)} record with
          |some (r27,r28)=>(bif !(r28==0) then some (o4,0,r28) else some (r27,c.NextHold,0))
          |none=>none)
         |none=>none):=by
         rw[h41 (by omega),f7x (by omega)];have hpl:(a7u c.Holds (⟨c.NextHold,p.ID,record,item,pickup,c.Today,1,0,0,0,r.Rank⟩:Hold)).2=0→MidP (i6 c (a7u c.Holds (⟨c.NextHold,p.ID,record,item,pickup,c.Today,1,0,0,0,r.Rank⟩:Hold)).1):=by
          unfold a7u;simp only[yah,yai,Bool.or_self,yaa];by_cases he:t6 (c.Holds++[(⟨c.NextHold,p.ID,record,item,pickup,c.Today,1,0,0,0,r.Rank⟩:Hold)])=0
          ·intro _;simp only[he,yah,yai,yaa];refine d5m m (by simp;omega) he (fun k=>?_);rw[yb5,yaX];have:=hf k;have:=yaw (fun o:Hold=>o.Record==k) [(⟨c.NextHold,p.ID,record,item,pickup,c.Today,1,0,0,0,r.Rank⟩:Hold)];simp only[List.length_singleton]at this;omega
          ·have he2:(t6 (c.Holds++[(⟨c.NextHold,p.ID,record,item,pickup,c.Today,1,0,0,0,r.Rank⟩:Hold)])==0)=false:=by simpa using he
           simp only[he2,yan,yab];intro hc;exact absurd hc he
         generalize a7u c.Holds (⟨c.NextHold,p.ID,record,item,pickup,c.Today,1,0,0,0,r.Rank⟩:Hold)=q at hpl;obtain ⟨l,e⟩:=q;simp only at hpl ⊢;by_cases he:e=0
         ·subst he;have m2:=h38 (hpl rfl) (wr .i64 (c.NextHold+1));simp only[a6w,yah,yai,yaa];rcases b51 m2 record with ⟨d,a1,a2,a3,-⟩|⟨d,e,he,a1,a2,hsd⟩
          ·dsimp only[b6d,i6]at a1 a2 ⊢;rw[a1,a2];exact ⟨d,c.NextHold,0,rfl,rfl,a3.short⟩
          ·have he2:(e==0)=false:=by simpa using he
           dsimp only[b6d,i6]at a1 a2 ⊢;rw[a1,a2];simp only[a5i d _ e he,he2,yan,yab];exact n8
         ·have he2:(e==0)=false:=by simpa using he
          simp only[a2h c l e he,a3q _ _ _ he,a5i _ _ e he,he2,yan,yab];exact n8
        cases b with
        |true=>exact core
        |false=>
         have:=hr0 rfl;rw[this]at core;rw[this];exact core
end
section
theorem a63 {l:List Hold}:(∀i x,l[i]?=some x→u9 l i (fun y=>decide (x.ID≤y.ID))=false)↔l.Pairwise (fun a b=>a.ID<b.ID):=by
 constructor
 ·intro h;rw[ybd];intro i j hi hj hij;exact a18 (key:=fun y:Hold=>y.ID) h j i l[i] l[j] hij (yac hi) (yac hj)
 ·intro h i x hx;cases i with
  |zero=>rfl
  |succ j=>
   unfold u9;simp only;have hi:=(yaL.1 hx)
   have hj:j<l.length:=by have:=hi.1;omega
   rw[yac hj];have:=(ybd.1 h) j (j+1) hj hi.1 (by omega);rw[hi.2]at this;simp only[yag];omega
theorem b7k {c:Circ} (h:MidP c) (p:Hold→Bool):MidP (i6 c (c.Holds.filter p)):=by
 obtain ⟨h1,h2,h3,h4,h5,h6,h7,h8,h9,h10,h11⟩:=h;have hl:=yaw p c.Holds;refine ⟨a2z h1 (by omega),h2,by show (c.Holds.filter p).length<_;omega,a63.2 ((a63.1 h4).filter p),fun o ho=>h5 o (yax.1 ho).1,fun r=>?_,h7,h8,h9,h10,h11⟩;show ((c.Holds.filter p).filter _).length<20
 rw[ybL];have e:c.Holds.filter (fun a=>a.Record==r&&p a)=(c.Holds.filter (fun o=>o.Record==r)).filter p:=by
  rw[ybL];apply ybU;intro o _;exact Bool.and_comm _ _
 have h6r:=h6 r;rw[e];have:=yaw p (c.Holds.filter (fun o=>o.Record==r));omega
theorem a80 {l:List Hold} (hsort:∀i x,l[i]?=some x→u9 l i (fun y=>decide (x.ID≤y.ID))=false) {o:Hold} (ho:o∈l):a1i l o.ID=(l.filter (fun x=>!(x.ID==o.ID)),o,0):=by
 have:=a5j hsort ho;unfold b2g at this;unfold a1i;cases hq:l.find? (fun h=>h.ID==o.ID) with
 |none=>rw[hq]at this;cases this
 |some x=>rw[hq]at this;cases this;rfl
theorem e0w {c d:Circ} (h:Frame c d) {i:Nat} {x:Item} (hx:c.Items[i]?=some x):∃y,d.Items[i]?=some y∧y.ID=x.ID∧y.Custody.Branch=x.Custody.Branch:=by
 have h1:(c.Items.map (fun x=>x.ID))[i]?=some x.ID:=by rw[yaH,hx];rfl
 have h2:(c.Items.map (fun x=>x.Custody.Branch))[i]?=some x.Custody.Branch:=by rw[yaH,hx];rfl
 rw[←h.ids,yaH]at h1;rw[←h.br,yaH]at h2;cases hy:d.Items[i]? with
 |none=>rw[hy]at h1;cases h1
 |some y=>rw[hy]at h1 h2;exact ⟨y,rfl,by simpa using h1,by simpa using h2⟩
def h6z (c d:Circ) (o:Hold):Prop:=∃b,b=i6 c (c.Holds.filter (fun x=>!(x.ID==o.ID)))∧Frame b d
def a5n (c:Circ):Prop:=∀o∈c.Holds,o.State=3→∃(i:Nat) (x:Item),c.Items[i]?=some x∧x.ID=o.Got∧x.Custody.Branch=o.Pickup
theorem b5q {c d:Circ} (h:a5n c) (hf:Frame c d) (hH:∀o∈d.Holds,o.State=3→o∈c.Holds∨∃(i:Nat) (x:Item),c.Items[i]?=some x∧x.ID=o.Got∧x.Custody.Branch=o.Pickup):a5n d:=by
 intro o ho hs;have:∃(i:Nat) (x:Item),c.Items[i]?=some x∧x.ID=o.Got∧x.Custody.Branch=o.Pickup:=by
  rcases hH o ho hs with h1|h1
  ·exact h o h1 hs
  ·exact h1
 obtain ⟨i,x,hx,h1,h2⟩:=this;obtain ⟨y,hy,h3,h4⟩:=e0w hf hx;exact ⟨i,y,hy,h3.trans h1,h4.trans h2⟩
theorem d8b {l m:List Hold} {v item st u:Int} (h:a2g l v item st u=(m,0)):∀o∈m,o∈l∨∃x∈l,x.ID=v∧o=c0i x item st u:=by
 unfold a2g at h;rcases j3 (fun x:Hold=>x.ID==v) l with ⟨h1,h2⟩|⟨i,x,h1,h2,h3,h4⟩
 ·rw[h2]at h;cases h
 ·rw[h4]at h;simp only at h;cases hq:(!(rng 1 9999 item)||!(okS st u)) with
  |true=>rw[hq]at h;cases h
  |false=>
   rw[hq]at h;simp only[yaa]at h;cases hq2:(!(x.State==1)&&((!(x.State==2)||!(x.Got==item))||!(st==3))) with
   |true=>rw[hq2]at h;cases h
   |false=>
    rw[hq2]at h;simp only[yaa]at h;cases hq3:l.any (fun o=>o.Got==item&&!(o.ID==v)) with
    |true=>rw[hq3]at h;cases h
    |false=>
     rw[hq3]at h;simp only[yaa,h1,yay,yaM,and_true]at h;subst h;intro o ho;rcases ybI ho with ho|ho
     ·exact .inl ho
     ·exact .inr ⟨x,yaf h2,by simpa using h3,ho⟩
theorem e4c {c d:Circ} {i:Nat} {x:Item} (hx:c.Items[i]?=some x) (hf:Frame c d) (hp:Put c d i x) (h:a5n c):a5n d:=by
 obtain ⟨-,v,-,hp⟩:=hp;refine b5q h hf (fun o ho hs=>?_);rcases hp with ⟨-,hp⟩|⟨st,u,hp,hk⟩
 ·rw[hp]at ho;exact .inl ho
 ·rcases d8b hp o ho with h1|⟨y,hy,hv,rfl⟩
  ·exact .inl h1
  ·exact .inr ⟨i,x,hx,rfl,(hk hs y hy hv).symm⟩
theorem b1o {c:Circ} (h:a5n c) (p:Hold→Bool):a5n (i6 c (c.Holds.filter p)):=fun o ho hs=>h o (yax.1 ho).1 hs
theorem d0n {c:Circ} (h:MidP c) {o:Hold} (ho:o∈c.Holds) (hr:o.State=3→∃(i:Nat) (x:Item),c.Items[i]?=some x∧x.ID=o.Got∧x.Custody.Branch=o.Pickup) :
 c1i (qc6 o ⟨c,0⟩) (qgp c o.ID) (fun d=>MidP d∧h6z c d o∧(a5n c→a5n d)):=by
 have hn:=h.holdsN;have dd:=a7i (c:=c) (id:=o.ID) (by omega) h.sorted;have rc:=c49 (l:=c.Holds) (id:=o.ID) (by omega);rw[a80 h.sorted ho]at dd rc;simp only[yah,yab]at dd;unfold qc6 qgp;rw[rc];dsimp only;simp only[yah,yai,yaa];rw[show {c with Holds:=c.Holds.filter (fun x=>!(x.ID==o.ID))}=i6 c (c.Holds.filter (fun x=>!(x.ID==o.ID))) from rfl];have mb:=b7k h (fun x=>!(x.ID==o.ID));by_cases hst:o.State=3
 ·have hst2:(o.State==3)=true:=by simpa using hst
  obtain ⟨i,x,hx,hid,hbr⟩:=hr hst;have hf:a5a (fun y=>y.ID==o.Got) c.Items=(i:Int):=by
   have:=a6g h hx;rw[b5m h.short.items,hid]at this;simpa using this
  simp only[hst2,yai,yaa,a0k h.short,hf,a1c,yah,a2s hx];rw[←hid,←hbr];rcases a1k h hx 2 x.Custody.Branch 0 with ⟨u,ha,m1,m2,hm2⟩|⟨e,he,m1,m2⟩
  ·rcases a1k mb hx 2 x.Custody.Branch 0 with ⟨u2,ha2,-,q2,hq2⟩|⟨e,he,q1,q2⟩
   ·have eu:u2=u:=by
     have:=ha2.symm.trans (show s7 x.Custody ⟨(i6 c (c.Holds.filter fun x=>!(x.ID==o.ID))).Today,x.ID,2,x.Custody.Branch,0⟩=_ from ha);cases this;rfl
    subst eu;rw[m1,show qgo _ x.ID 2 x.Custody.Branch 0=_ from q2];have dd2:=a7i (c:=t7 c i x ⟨c.Today,x.ID,2,x.Custody.Branch,0⟩ u2) (id:=o.ID) (by show c.Holds.length<_;omega) h.sorted;rw[show a1i (t7 c i x ⟨c.Today,x.ID,2,x.Custody.Branch,0⟩ u2).Holds o.ID=_ from a80 h.sorted ho]at dd2;simp only[yah,yab]at dd2;dsimp only;simp only[dd2,yah,yai,yaa];rw[show i6 (t7 c i x ⟨c.Today,x.ID,2,x.Custody.Branch,0⟩ u2) (c.Holds.filter (fun x=>!(x.ID==o.ID)))=t7 (i6 c (c.Holds.filter (fun x=>!(x.ID==o.ID)))) i x ⟨(i6 c (c.Holds.filter (fun x=>!(x.ID==o.ID)))).Today,x.ID,2,x.Custody.Branch,0⟩ u2 from rfl];rcases a9l hq2 (a24 (c:=i6 c (c.Holds.filter fun x=>!(x.ID==o.ID))) hx ⟨(i6 c (c.Holds.filter fun x=>!(x.ID==o.ID))).Today,x.ID,2,x.Custody.Branch,0⟩ u2) with ⟨d,a1,a2,⟨hd,hfr⟩,hput⟩|⟨d,e,he,a1,a2,hsd⟩
    ·rw[a1,show qg4 _ x.ID=_ from a2];have hfm:=a86 (c:=i6 c (c.Holds.filter fun x=>!(x.ID==o.ID))) hx ⟨(i6 c (c.Holds.filter fun x=>!(x.ID==o.ID))).Today,x.ID,2,x.Custody.Branch,0⟩ (a8z ha2 rfl);exact .inl ⟨d,rfl,rfl,hd,⟨_,rfl,hfm.trans hfr⟩,fun hr=>e4c (a24 (c:=i6 c (c.Holds.filter fun x=>!(x.ID==o.ID))) hx ⟨(i6 c (c.Holds.filter fun x=>!(x.ID==o.ID))).Today,x.ID,2,x.Custody.Branch,0⟩ u2) hfr hput (b5q (b1o hr _) hfm (fun o ho _=>.inl ho))⟩
    ·rw[a1,show qg4 _ x.ID=_ from a2];exact .inr ⟨d,e,he,rfl,rfl,hsd⟩
   ·exfalso;have dm1:=a30 (kind:=2) (branch:=x.Custody.Branch) (who:=0) h.short (by have:=h.moves;omega) hx;have dm2:=a30 (c:=i6 c (c.Holds.filter fun x=>!(x.ID==o.ID))) (kind:=2) (branch:=x.Custody.Branch) (who:=0) mb.short (by have:=h.moves;show c.Moves.length<_;omega) hx;rw[m1]at dm1;rw[q1]at dm2;cases hE:a6h c (s7 x.Custody ⟨c.Today,x.ID,2,x.Custody.Branch,0⟩).2==0 with
    |true=>
     rw[show a6h (i6 c (c.Holds.filter fun x=>!(x.ID==o.ID))) (s7 x.Custody ⟨(i6 c (c.Holds.filter fun x=>!(x.ID==o.ID))).Today,x.ID,2,x.Custody.Branch,0⟩).2=a6h c (s7 x.Custody ⟨c.Today,x.ID,2,x.Custody.Branch,0⟩).2 from rfl,hE]at dm2;simp only[yab,yal,yaM,Circ_desk.mk.injEq]at dm2;exact he dm2.2.2
    |false=>
     rw[hE]at dm1;simp only[yaa,yal,yaM,Circ_desk.mk.injEq]at dm1;have:(a6h c (s7 x.Custody ⟨c.Today,x.ID,2,x.Custody.Branch,0⟩).2==0)=true:=by rw[←dm1.2.2];rfl
     rw[hE]at this;cases this
  ·have he2:(e==0)=false:=by simpa using he
   have rm2:=c5c (c:=i6 c (c.Holds.filter fun x=>!(x.ID==o.ID))) (kind:=2) (branch:=x.Custody.Branch) (who:=0) mb.short (by have:=h.moves;show c.Moves.length<_;omega) (a6g mb hx) hx rfl;have rm1:=c5c (kind:=2) (branch:=x.Custody.Branch) (who:=0) h.short (by have:=h.moves;omega) (a6g h hx) hx rfl;rw[m2]at rm1;have e2:qgo (i6 c (c.Holds.filter fun x=>!(x.ID==o.ID))) x.ID 2 x.Custody.Branch 0=some (o4,e):=by
    rw[rm2];cases hE:a6h c (s7 x.Custody ⟨c.Today,x.ID,2,x.Custody.Branch,0⟩).2==0 with
    |true=>
     rw[hE]at rm1;simp only[yab,yal,yaM]at rm1;exact absurd rm1.2 he
    |false=>
     rw[hE]at rm1;simp only[yaa,yal,yaM]at rm1;rw[show a6h (i6 c (c.Holds.filter fun x=>!(x.ID==o.ID))) (s7 x.Custody ⟨(i6 c (c.Holds.filter fun x=>!(x.ID==o.ID))).Today,x.ID,2,x.Custody.Branch,0⟩).2=a6h c (s7 x.Custody ⟨c.Today,x.ID,2,x.Custody.Branch,0⟩).2 from rfl,hE];simp only[yaa];rw[←rm1.2]
   rw[m1,show qgo _ x.ID 2 x.Custody.Branch 0=_ from e2];simp only[a4f _ _ _ he,a4e _ _ _ he,he2,yan,yab];exact .inr ⟨c,e,he,rfl,rfl,h.short⟩
 ·have hst2:(o.State==3)=false:=by simpa using hst
  simp only[hst2,yan,yab,dd];exact .inl ⟨_,rfl,rfl,mb,⟨_,rfl,Frame.refl _⟩,fun hr=>b1o hr _⟩
theorem b7o {c:Circ} (h:FitP c) {o:Hold} (ho:o∈c.Holds) (hst:o.State=3):∃(i:Nat) (x:Item),c.Items[i]?=some x∧x.ID=o.Got∧x.Custody.Branch=o.Pickup:=by
 have hg:=h.holdG o ho;unfold a3s at hg;have h1:(o.State==1)=false:=by rw[hst];rfl
 have h3:(o.State==3)=true:=by rw[hst];rfl
 rw[h1,h3]at hg;simp only[yad,ybt]at hg;rcases j3 (fun x:Item=>x.ID==o.Got) c.Items with ⟨q1,q2⟩|⟨i,x,q1,q2,q3,q4⟩
 ·rw[q2]at hg;cases hg.2
 ·rw[q4]at hg;simp only[ya1,yad,yar,yaj,yaI,yba]at hg;exact ⟨i,x,q2,by simpa using q3,hg.2.1.2.1.2⟩
theorem c2c {c:Circ} (m:MidP c) (h:FitP c) {id:Int}:a8q (qfn c id) (qgh c id):=by
 have hn:=m.holdsN;unfold qfn qgh;simp only[b49 m.short.holds,qac];cases hq:c.Holds.find? (fun o=>o.ID==id) with
 |none=>
  have e1:b2g c.Holds id=(a8v,false):=by unfold b2g;rw[hq]
  have e2:qgp c id=some (o4,9):=by
   unfold qgp;rw[c49 (by omega)];unfold a1i;rw[hq]
   try rfl
  rw[e1,e2];exact o7
 |some o=>
  have ho:=yaR hq;have hid:o.ID=id:=by have:=ybh hq;simpa using this
  have e1:b2g c.Holds id=(o,true):=by unfold b2g;rw[hq]
  rw[e1];simp only[yai,yaa];subst hid;rcases d0n m ho (b7o h ho) with ⟨d,a1,a2,a3,-⟩|⟨d,e,he,a1,a2,hsd⟩
  ·rw[a1,a2];exact ⟨d,0,rfl,rfl,a3.short⟩
  ·rw[a1,a2];simp only[n9 d e he];exact o7
end
section
def c1q (l:List Charge) (c:Charge):List Charge×Int:=bif !(s8 (l++[c])==0) then ([],s8 (l++[c])) else (l++[c],0)
theorem h4z {l:List Charge} {c:Charge} (hl:l.length<1000000):qdj l c=some (c1q l c):=by
 have l1:decide (l.length+([c]:List Charge).length≤LIM)=true:=a1d (by simp;omega);have l0:decide (l.length≤LIM)=true:=by rw[yae];unfold LIM;omega
 unfold qdj c1q;simp only[l0,l1,yab,h4o (show (l++[c]).length<1000000000 by simp;omega)];cases !(s8 (l++[c])==0)<;>rfl
theorem d4i {X:Type}:∀(l o:List X),l.foldl (fun s x=>s++[x]) o=o++l:=by
 intro l
 induction l with
 |nil=>intro o;simp
 |cons x l ih=>intro o;rw[ya6,ih];simp
theorem h5o {l:List Charge} {c:Charge} (hl:l.length<1000000):qhs l c=some (c1q l c):=by
 have hw:=o8 (step:=c5m) (fun (i:Nat) (s:List Charge)=>s.length≤i) (fun i s=>(l,(i:Int),c,s,())) l
  (fun i x s=>.inl (s++[x])) (fun s=>(c,s,())) (by rw[j9];omega)
  (fun s _=>by simp only[c5m,dge,yaa])
  (fun i x s hx hi=>by
   have hlt:=(zL hx)
   have l1:∀z:Charge,decide (s.length+([z]:List Charge).length≤LIM)=true:=fun z=>a1d (by simp;omega)
   refine ⟨?_,fun s' hs'=>?_⟩
   ·simp only[c5m,dlt hlt,b9,hx,yab,l1,g9 (show i<9223372036854775807 by omega)]
   ·cases hs'
    simp;omega) [] (by simp)
 rw[y6,d4i,yaZ]at hw;have l1:decide (l.length+([c]:List Charge).length≤LIM)=true:=a1d (by simp;omega);unfold qhs c1q;rw[show b8 c5m (l,0,c,([]:List Charge),())=_ from hw];simp only[l1,yab,f6y (show (l++[c]).length<1000000000 by simp;omega)];cases !(s8 (l++[c])==0)<;>rfl
def a48 (c:Circ) (l:List Charge) (n:Int):Circ:=⟨c.Today,c.Items,c.Patrons,c.Loans,c.Holds,l,c.Rules,c.Cals,c.Moves,c.NextHold,n,c.Local⟩
theorem c2l {c:Circ} (h:MidP c) {l:List Charge} (hl:l.length<1000000) (n:Int):MidP (a48 c l n):=by
 obtain ⟨⟨a1,a2,a3,a4,a5,a6,a7,a8,a9,a10,a11,a12,a13⟩,h2,h3,h4,h5,h6,h7,h8,h9,h10,h11⟩:=h;exact ⟨⟨a1,a2,a3,a4,by show l.length<_;omega,a6,a7,a8,a9,a10,a11,a12,a13⟩,h2,h3,h4,h5,h6,h7,h8,h9,h10,hl⟩
theorem e8f {l:List Charge} {x:Charge} (h:(c1q l x).2=0):(c1q l x).1=l++[x]∧s8 (l++[x])=0:=by
 unfold c1q at h ⊢;by_cases he:s8 (l++[x])=0
 ·simp only[he,yah,yai,yaa,and_self]
 ·have he2:(s8 (l++[x])==0)=false:=by simpa using he
  rw[he2]at h;exact absurd h he
theorem b0p {c:Circ} (h:MidP c) (vid item kind amount:Int):c1i (qep vid item kind amount ⟨c,0⟩) (qf7 c vid item kind amount)
 (fun d=>d=a48 c (c.Charges++[⟨c.NextCharge,vid,item,c.Today,kind,amount,0⟩]) (wr .i64 (c.NextCharge+1))∧s8 (c.Charges++[⟨c.NextCharge,vid,item,c.Today,kind,amount,0⟩])=0∧c.NextCharge≤99999):=by
 unfold qep qf7;simp only[yah,yai,yaa,h4z h.chN,h5o h.chN];cases hq:decide (99999<c.NextCharge) with
 |true=>exact .inr ⟨c,13,by decide,rfl,rfl,h.short⟩
 |false=>
  have hq:¬99999<c.NextCharge:=by simpa using hq
  simp only[yaa];have ho:=e8f (l:=c.Charges) (x:=⟨c.NextCharge,vid,item,c.Today,kind,amount,0⟩);generalize c1q c.Charges ⟨c.NextCharge,vid,item,c.Today,kind,amount,0⟩=q at ho ⊢;obtain ⟨l,e⟩:=q;by_cases he:e=0
  ·subst he;have:=ho rfl;exact .inl ⟨a48 c l (wr .i64 (c.NextCharge+1)),rfl,rfl,by rw[←this.1],this.2,by omega⟩
  ·have he2:(e==0)=false:=by simpa using he
   simp only[he2,yan,yab];exact .inr ⟨c,e,he,by simp only[qo,yah,yab],rfl,h.short⟩
theorem b3p (c:Circ) (vid item kind amount e0:Int) (h0:e0≠0):qep vid item kind amount ⟨c,e0⟩=some ((),⟨c,e0⟩):=by
 have h:(e0==0)=false:=by simpa using h0
 unfold qep;simp only[h,yan,yab]
theorem a81 {l:List Charge} (h:s8 l=0):l.length<1000000:=by have:=(a57 h).1;omega
theorem c6y {c:Circ} (h:MidP c) {item:Int}:a8q (qfq c item) (qgr c item):=by
 unfold qfq qgr;simp -zeta only[qac,a0k h.short];rcases y2 h item with ⟨h1,h2,-⟩|⟨i,x,h1,h2,hx,hid,-⟩
 ·rw[h1,h2];simp only[a5c,yab,a6v c _ _ 9 (by decide),n9 c 9 (by decide)];exact o7
 ·subst hid;rw[h1,h2];simp only[a1c,yaa,a2s hx,b9,hx];rcases a1k h hx 11 x.Custody.Branch 0 with ⟨u,ha,m1,m2,hm2⟩|⟨e,he,m1,m2⟩
  ·rw[m1,m2];exact ⟨_,0,rfl,rfl,hm2.short⟩
  ·rw[m1,m2];simp only[n9 c e he];exact o7
def b1x (l:List Hold) (item:Int):List Hold×Int:=
 match l.find? (fun h=>h.Got==item) with
 |none=>([],9)
 |some x=>bif item==0 then ([],9) else (l.set (a5a (fun h=>h.Got==item) l).toNat (c0i x 0 1 0),0)
theorem h4v {l:List Hold} {item:Int} (hl:l.length<1000000000):qce l item=some (b1x l item):=by
 unfold qce b1x;rw[b40 (p:=fun (g:Unit×Int×Unit) x0=>qei x0 g.2.1) (g:=((),(item,()))) (fun x=>x.Got==item) hl (fun x _=>rfl)];rcases j3 (fun x:Hold=>x.Got==item) l with ⟨h1,h2⟩|⟨i,x,h1,h2,h3,h4⟩
 ·rw[h1,h2];rfl
 ·rw[h1,h4];simp only[a1c,yaa,yay,b9,h2,f7k hl h2];cases item==0<;>rfl
theorem f70 {l:List Hold} {item:Int} (hl:l.length<1000000000) (hsort:∀i x,l[i]?=some x→u9 l i (fun y=>decide (x.ID≤y.ID))=false):qhd l item=some (b1x l item):=by
 unfold qhd b1x;have h:=u3 (step:=c5h) (fun i=>(l,item,(i:Int),())) l (fun x=>!(item==0)&&x.Got==item) (fun i x=>(.inr (l.set i (c0i x 0 1 0),0,()):Unit⊕(List Hold×Int×Unit))) (.inl ()) hl
  (by simp only[c5h,dge,yaa])
  (fun i x hx=>by
   have hi:=(zL hx)
   have hw:=e3u (l:=l) (y:=c0i x 0 1 0) hl;rw[a8c hsort hx (y:=c0i x 0 1 0) rfl]at hw;simp -zeta only[c5h,dlt hi,b9,hx,yab,p7,g9 (show i<9223372036854775807 by omega)];rw[show qhb l (⟨x.ID,x.Patron,x.Record,x.Item,x.Pickup,x.Placed,1,0,0,x.Asleep,x.Rank⟩:Hold)=_ from hw])
 rw[show b8 c5h (l,item,0,())=_ from h];have key:∀(p:Hold→Bool) (m:List Hold) (k:Nat),a34 p (fun i x=>(.inr (l.set i (c0i x 0 1 0),0,()):Unit⊕(List Hold×Int×Unit))) (.inl ()) k m =
  (match m.find? p with|some x=>.inr (l.set (k+(a5a p m).toNat) (c0i x 0 1 0),0,())|none=>.inl ()):=by
  intro p m
  induction m with
  |nil=>intro k;rfl
  |cons x m ih=>
   intro k;simp only[a34,yb7];cases hp:p x with
   |true=>
    have:a5a p (x::m)=0:=by unfold a5a;simp[ybp,hp]
    simp[this]
   |false=>
    simp only[yaa,ih];rcases j3 p m with ⟨a1,a2⟩|⟨i,y,a1,a2,a3,a4⟩
    ·rw[a2]
    ·have e2:a5a p (x::m)=((i+1:Nat):Int):=by
      unfold a5a at a1 ⊢;simp only[ybp,hp];cases hf:m.findIdx? p with
      |none=>rw[hf]at a1;simp at a1<;>omega
      |some j=>rw[hf]at a1;simp at a1 ⊢;omega
     rw[a4,a1,e2];simp only[yay];rw[show k+1+i=k+(i+1) by omega]
 rw[key];cases h0:item==0 with
 |true=>
  have e:(fun x:Hold=>!true&&x.Got==item)=fun _=>false:=by funext x;rfl
  rw[e];have:l.find? (fun _:Hold=>false)=none:=by rw[ybi];simp
  rw[this];cases l.find? (fun h=>h.Got==item)<;>rfl
 |false=>
  have e:(fun x:Hold=>!false&&x.Got==item)=fun x=>x.Got==item:=by funext x;rfl
  rw[e,yaE];cases l.find? (fun h=>h.Got==item)<;>rfl
theorem c2v {l:List Hold} {item:Int} (h:(b1x l item).2=0):(b1x l item).1.map a05=l.map a05:=by
 unfold b1x at h ⊢;rcases j3 (fun x:Hold=>x.Got==item) l with ⟨h1,h2⟩|⟨i,x,h1,h2,h3,h4⟩
 ·rw[h2]at h;cases h
 ·rw[h4]at h ⊢;simp only at h ⊢;cases hq:item==0 with
  |true=>rw[hq]at h;cases h
  |false=>
   simp only[yaa,h1,yay];exact a1f h2 rfl
theorem b6o (c:Circ) (l:List Hold) (e e0:Int) (h0:e0≠0):qcb l e ⟨c,e0⟩=some ((),⟨i6 c c.Holds,e0⟩):=by
 have h:(e0==0)=false:=by simpa using h0
 unfold qcb qo;simp only[h,yaa];cases !(e==0)<;>simp only[yab,yaa,h]<;>rfl
theorem d5b {c:Circ} (h:MidP c) {item:Int}:a8q (qft c item) (qg6 c item):=by
 unfold qft qg6;simp -zeta only[qac,a0k h.short,a0e];rcases y2 h item with ⟨h1,h2,-⟩|⟨i,x,h1,h2,hx,hid,-⟩
 ·rw[h1,h2];exact o7
 ·subst hid;rw[h1,h2];simp -zeta only[a1c,yaa,a2s hx,b9,hx];dsimp only;cases (x.Custody.State==4||x.Custody.State==9) with
  |true=>
   simp only[yab];rcases a1k h hx 12 x.Custody.Branch 0 with ⟨u,ha,m1,m2,hm2⟩|⟨e,he,m1,m2⟩
   ·rw[m1,m2];simp only[yah,yai,yaa];cases x.Price==0 with
    |true=>exact ⟨_,0,rfl,rfl,hm2.short⟩
    |false=>
     simp only[yan,yab,yaa];rcases b0p hm2 x.Custody.Who x.ID 2 x.Price with ⟨d,q1,q2,hd,hd2,-⟩|⟨d,e,he,q1,q2,hsd⟩
     ·rw[q1,q2];exact ⟨d,0,rfl,rfl,by rw[hd];exact (c2l hm2 (a81 hd2) _).short⟩
     ·rw[q1,q2];simp only[n9 d e he];exact o7
   ·have he2:(e==0)=false:=by simpa using he
    rw[m1,m2];simp only[b3p _ _ _ _ _ _ he,n9 c e he,he2,yan,yab];cases !(x.Price==0)<;>exact o7
  |false=>
   simp only[yaa,b0a h.short.holds,h4v h.short.holds];rcases a1k h hx 13 x.Custody.Branch 0 with ⟨u,ha,m1,m2,hm2⟩|⟨e,he,m1,m2⟩
   ·rw[m1,m2];simp only[yah,yai,yaa,b0b hm2.short.holds];rw[show o6 (t7 c i x ⟨c.Today,x.ID,13,x.Custody.Branch,0⟩ u) x.ID=o6 c x.ID from rfl];have hk:=c2v (l:=c.Holds) (item:=x.ID);have rd:=f70 (item:=x.ID) hm2.short.holds hm2.sorted;generalize hc2:t7 c i x ⟨c.Today,x.ID,13,x.Custody.Branch,0⟩ u=c2 at hm2 rd ⊢;have hH:c2.Holds=c.Holds:=by rw[←hc2];rfl
    rw[hH]at rd;simp only[hH,rd];cases (o6 c x.ID).2 with
    |false=>exact ⟨c2,0,rfl,rfl,hm2.short⟩
    |true=>
     simp only[yab,yai,yaa];generalize b1x c.Holds x.ID=q at hk ⊢;obtain ⟨l,e⟩:=q;by_cases he:e=0
     ·subst he;have hm3:=a9z hm2 (l:=l) (by rw[hH];exact hk rfl);simp only[a6w,yah,yai,yaa];rcases b51 hm3 x.Record with ⟨d,a1,a2,a3,-⟩|⟨d,e,he,a1,a2,hsd⟩
      ·dsimp only[i6]at a1 a2 ⊢;rw[a1,a2];exact ⟨d,0,rfl,rfl,a3.short⟩
      ·dsimp only[i6]at a1 a2 ⊢;rw[a1,a2];simp only[n9 d e he];exact o7
     ·have he2:(e==0)=false:=by simpa using he
      simp only[a2h c2 l e he,a3q _ _ _ he,n9 _ e he,he2,yan,yab];exact o7
   ·have he2:(e==0)=false:=by simpa using he
    rw[m1,m2];simp only[n9 c e he,he2,yan,yab];cases (o6 c x.ID).2 with
    |true=>
     simp only[yab];generalize b1x c.Holds x.ID=q;obtain ⟨l,e2⟩:=q;simp only[b6o _ _ _ _ he,a3q _ _ _ he,n9 _ e he];exact o7
    |false=>exact o7
end
section
def a5b (l:List Loan) (item:Int):List Loan×Loan×Int:=
 match l.find? (fun n=>n.Item==item) with
 |some n=>(l.take (a5a (fun n=>n.Item==item) l).toNat++l.drop ((a5a (fun n=>n.Item==item) l).toNat+1),n,0)
 |none=>([],a8w,9)
theorem f7n {l:List Loan} {item:Int} (hl:l.length<100000000):qdx l item=some (a5b l item):=by
 have hl2:l.length<1000000000:=by omega
 unfold qdx a5b q8;dsimp only;rw[a4i hl2];rcases j3 (fun x:Loan=>x.Item==item) l with ⟨h1,h2⟩|⟨i,x,h1,h2,h3,h4⟩
 ·rw[h2];rfl
 ·have hlt:=(zL h2)
  have hc:qdm l=some l:=by unfold qdm;rw[a4c hl2];rfl
  have hd:qd7 l (i:Int) ((i+1:Nat):Int)=some (l.take i++l.drop (i+1)):=by
   show a7g l (i:Int) ((i+1:Nat):Int)=_
   unfold a7g;have d1:decide ((0:Int)≤(i:Int))=true:=by rw[yae];omega
   have d2:decide ((i:Int)≤((i+1:Nat):Int))=true:=by rw[yae];omega
   have d3:decide (((i+1:Nat):Int)≤(l.length:Int))=true:=by rw[yae];omega
   have d4:decide (l.length≤1073741824)=true:=by rw[yae];omega
   simp only[d1,d2,d3,d4,ybS,yab,yay]
  rw[h4,h1];unfold qfg;simp only[a1c,yaa,hc,g9 (show i<9223372036854775807 by omega),hd,yay]
theorem d2s {l:List Loan} {item:Int} (hl:l.length<100000000):qhf l item=some (a5b l item):=by
 have hl2:l.length<1000000000:=by omega
 unfold qhf a5b;rw[c41 hl2];rcases j3 (fun x:Loan=>x.Item==item) l with ⟨h1,h2⟩|⟨i,x,h1,h2,h3,h4⟩
 ·rw[h1,h2];rfl
 ·have hlt:=(zL h2)
  have d1:decide ((0:Int)≤(i:Int))=true:=by rw[yae];omega
  have d2:decide ((i:Int)≤(l.length:Int))=true:=by rw[yae];omega
  have d3:decide (((i+1:Nat):Int)≤(l.length:Int))=true:=by rw[yae];omega
  have d4:decide ((0:Int)≤((i+1:Nat):Int))=true:=by rw[yae];omega
  have d5:decide ((0:Int)≤0)=true:=rfl;have d6:decide ((l.length:Int)≤(l.length:Int))=true:=by simp
  have t0:((l.take i).drop (0:Int).toNat)=l.take i:=by simp
  have t1:(l.take (l.length:Int).toNat)=l:=by simp
  have l1:decide (([]:List Loan).length+(l.take i).length≤LIM)=true:=a1d (by rw[yaS];simp;omega);have l2:decide (([]++l.take i).length+(l.drop (i+1)).length≤LIM)=true:=a1d (by rw[yaZ,yaS,ya5];omega);rw[h1,h4];simp only[a1c,yaa,d1,d2,d3,d4,d5,d6,ybS,yab,g9 (show i<9223372036854775807 by omega),yay,t0,t1,l1,l2,b9,h2,yaZ,List.take_length];have l3:decide ((l.take i).length+(l.drop (i+1)).length≤LIM)=true:=a1d (by rw[yaS,ya5];omega);rw[l3]
  try rfl
theorem c90 {l:List Loan} {item:Int} (hl:l.length<1000000000):(a5b l item).1.length<1000000000:=by
 unfold a5b;cases l.find? (fun n=>n.Item==item) with
 |none=>simp
 |some n=>
  simp only[yaX,yaS,ya5];omega
theorem b35 {c:Circ} (h:MidP c) {l:List Loan} (hl:l.length<1000000000):MidP (f7 c l):=by
 obtain ⟨⟨a1,a2,a3,a4,a5,a6,a7,a8,a9,a10,a11,a12,a13⟩,h2,h3,h4,h5,h6,h7,h8,h9,h10,h11⟩:=h;exact ⟨⟨a1,a2,hl,a4,a5,a6,a7,a8,a9,a10,a11,a12,a13⟩,h2,h3,h4,h5,h6,h7,h8,h9,h10,h11⟩
def b6n (y:Item) (record:Int):Bool:=y.Record==record&&!(y.Custody.State==12)
theorem f7j (y:Item) (record:Int):qcz y record=some (b6n y record):=by
 unfold qcz b6n;simp -zeta only[p7]
 try rfl
def b77 (c:Circ) (x:Item):Bool:=c.Items.any (fun y=>!(y.ID==x.ID)&&b6n y x.Record)
def c4w (c:Circ) (x:Item) (o:Hold):Bool:=o.Item==x.ID||(b6n x x.Record&&!(b77 c x)&&o.Record==x.Record)
theorem h4f {c:Circ} {x:Item} (hs:Short c):qaf c x=some (c.Holds.any (c4w c x)):=by
 unfold qaf;rw[g6n (p:=fun (g:Unit×Item×Unit) x0=>qdc x0 g.2.1) (g:=((),(x,()))) (fun y=>!(y.ID==x.ID)&&b6n y x.Record) hs.items (fun y _=>by
  unfold qdc;simp -zeta only[f7j,p7];rfl)]
 simp -zeta only[f7j,p7];dsimp only;rw[c8c (p:=fun (g:Unit×Item×Bool×Unit) x0=>qcr x0 g.2.1 g.2.2.1) (g:=((),(x,(b6n x x.Record&&!(c.Items.any (fun y=>!(y.ID==x.ID)&&b6n y x.Record))),()))) (c4w c x) hs.holds (fun o _=>by
  unfold qcr c4w b77;simp -zeta only[a0e,p7];rfl)]
theorem e0t {X:Type} (q:X→Bool):∀(l:List X) (b:Bool),l.foldl (fun s x=>s||q x) b=(b||l.any q):=by
 intro l
 induction l with
 |nil=>intro b;simp
 |cons x l ih=>intro b;rw[ya6,ih,List.any_cons,ybE]
theorem b8s {c v:Circ} (h:MidP c) {i:Nat} {x:Item} (hx:c.Items[i]?=some x):b8 b5d (x.ID,(i:Int),false,0,c,v,x,())=some (x.ID,b77 c x,c,v,x,()):=by
 have hs:=h.short.items;have hw:=a65 (step:=b5d) (fun (k:Nat) (s:Bool)=>(x.ID,(i:Int),s,(k:Int),c,v,x,())) c.Items (fun y s=>s||(!(y.ID==x.ID)&&b6n y x.Record)) (fun s=>(x.ID,s,c,v,x,())) hs
  (fun s=>by simp only[b5d,dge,yaa])
  (fun k y s hy=>by
   have hlt:=(zL hy)
   have e:((k:Int)==(i:Int))=(y.ID==x.ID):=by
    rw[ybB];simp only[yba];constructor
    ·intro hk;have:k=i:=by omega
     subst this;rw[hx]at hy;cases hy;rfl
    ·intro hk;rw[h.ids k y i x hy hx hk]
   simp -zeta only[b5d,dlt hlt,b9,hy,yab,a0e,p7,e,g9 (show k<9223372036854775807 by omega)];dsimp only;unfold b6n;cases s<;>cases y.ID==x.ID<;>cases y.Record==x.Record<;>rfl) false
 rw[e0t,ybt]at hw;exact hw
theorem b5c {c v:Circ} {x:Item} {b:Bool} (hl:c.Holds.length<1000000000):b8 b5b (x.ID,b,0,c,v,x,()) =
 some (match c.Holds.find? (fun o=>o.Item==x.ID||(o.Record==x.Record&&!b&&!(x.Custody.State==12))) with|some _=>.inr (10,o4,())|none=>.inl (x.ID,c,v,x,())):=by
 have hw:=u3 (step:=b5b) (fun k=>(x.ID,b,(k:Int),c,v,x,())) c.Holds (fun o=>o.Item==x.ID||(o.Record==x.Record&&!b&&!(x.Custody.State==12))) (fun _ _=>(.inr (10,o4,()):(Int×Circ×Circ×Item×Unit)⊕(Int×Circ×Unit))) (.inl (x.ID,c,v,x,())) hl
  (by simp only[b5b,dge,yaa])
  (fun k o ho=>by
   have hlt:=(zL ho)
   simp -zeta only[b5b,dlt hlt,b9,ho,yab,a0e,p7,g9 (show k<9223372036854775807 by omega)];dsimp only;cases o.Item==x.ID<;>cases o.Record==x.Record<;>cases b<;>cases x.Custody.State==12<;>rfl)
 rw[a3j]at hw;refine Eq.trans hw ?_;cases c.Holds.find? (fun o=>o.Item==x.ID||(o.Record==x.Record&&!b&&!(x.Custody.State==12)))<;>rfl
theorem d4h {l:List Loan} {item:Int}:(a1p l item).2=((a5b l item).2.2==0):=by
 unfold a1p a5b;cases l.find? (fun n=>n.Item==item)<;>rfl
theorem b66 {c:Circ} (h:MidP c) (hln:c.Loans.length<100000000) {item:Int} (hk:∀n∈c.Loans,(c.Items.find? (fun x=>x.ID==n.Item)).isSome=true):a8q (qfj c item) (qf5 c item):=by
 unfold qfj qf5;simp -zeta only[qac,a0k h.short,e3i h.short.loans,f7n hln];rcases y2 h item with ⟨h1,h2,h3⟩|⟨i,x,h1,h2,hx,hid,-⟩
 ·have hf:(a1p c.Loans item).2=false:=by
   unfold a1p;cases hq:c.Loans.find? (fun n=>n.Item==item) with
   |none=>rfl
   |some n=>
    have a:=hk n (yaR hq);have b:n.Item=item:=by have:=ybh hq;simpa using this
    rw[b,h3]at a;cases a
  have d0:decide ((0:Int)≤-1)=false:=rfl;rw[h1,h2];simp only[d0,yaa,a5c,yab,hf,a6v c _ _ 9 (by decide),n9 c 9 (by decide)];exact o7
 ·subst hid;have d0:decide ((0:Int)≤(i:Int))=true:=by rw[yae];omega
  rw[h1,h2];simp only[d0,yab,a1c,yaa,b9,hx,h4f h.short];rw[show b8 b5d (x.ID,(i:Int),false,0,c,ZN,x,())=_ from b8s h hx];simp only;rw[b5c h.short.holds];have e:(fun o:Hold=>o.Item==x.ID||(o.Record==x.Record&&!(b77 c x)&&!(x.Custody.State==12)))=c4w c x:=by
   funext o;unfold c4w b6n;simp only[yah,ya1];cases o.Item==x.ID<;>cases o.Record==x.Record<;>cases b77 c x<;>cases x.Custody.State==12<;>rfl
  rw[e];have ea:c.Holds.any (c4w c x)=(c.Holds.find? (c4w c x)).isSome:=by rw[ybB,List.find?_isSome,ybZ]
  rw[ea];cases c.Holds.find? (c4w c x) with
  |some o=>
   simp only[Option.isSome_some,yab,qo,yah,a6v c _ _ 10 (by decide)];cases (a1p c.Loans x.ID).2 with
   |false=>
    simp only[yaa,n9 c 10 (by decide)];exact o7
   |true=>
    generalize a5b c.Loans x.ID=q;obtain ⟨l,n,e⟩:=q;simp only[yab,a5r c l e 10 (by decide),n9 _ 10 (by decide)];exact o7
  |none=>
   simp only[yb4,yaa,a2s hx];rcases a1k h hx 15 x.Custody.Branch 0 with ⟨u,ha,m1,m2,hm2⟩|⟨e,he,m1,m2⟩
   ·rw[m1,m2];simp only[yah,yai,yaa];rw[show (t7 c i x ⟨c.Today,x.ID,15,x.Custody.Branch,0⟩ u).Loans=c.Loans from rfl];rw[d2s hln,d4h];have bl:=c90 (item:=x.ID) h.short.loans;generalize hc2:t7 c i x ⟨c.Today,x.ID,15,x.Custody.Branch,0⟩ u=c2 at hm2 ⊢;have hL:c2.Loans=c.Loans:=by rw[←hc2];rfl
    rw[←hL]at bl ⊢;generalize a5b c2.Loans x.ID=q at bl ⊢;obtain ⟨l,n,e⟩:=q;by_cases he:e=0
    ·subst he;exact ⟨f7 c2 l,0,rfl,rfl,(b35 hm2 bl).short⟩
    ·have he2:(e==0)=false:=by simpa using he
     simp only[he2,yaa];exact ⟨c2,0,rfl,rfl,hm2.short⟩
   ·have he2:(e==0)=false:=by simpa using he
    rw[m1,m2];simp only[he2,yan,yab];cases (a1p c.Loans x.ID).2 with
    |false=>
     simp only[yaa,n9 c e he];exact o7
    |true=>
     generalize a5b c.Loans x.ID=q;obtain ⟨l,n,e2⟩:=q;simp only[yab,a5r c l e2 e he,n9 _ e he];exact o7
theorem d4w {c:Circ} (h:MidP c) {item partner:Int}:a8q (qfu c item partner) (qg7 c item partner):=by
 unfold qfu qg7;simp -zeta only[qac,a0k h.short,p7];rcases y2 h item with ⟨h1,h2,h3⟩|⟨i,x,h1,h2,hx,hid,-⟩
 ·rw[h1,h2];exact o7
 ·subst hid;obtain ⟨v,p1,p2,-,-⟩:=a8e h hx;rw[h1,h2];simp -zeta only[a1c,yaa,b9,hx,p1,p2,p7];dsimp only;cases (x.Custody.State==3&&!(v==0)) with
  |true=>
   simp only[yab,qo,yah,b99 c _ _ _ _ 16 (by decide),n9 c 16 (by decide)];exact o7
  |false=>
   simp only[yaa];rcases a1k h hx 10 x.Custody.Branch partner with ⟨u,ha,m1,m2,hm2⟩|⟨e,he,m1,m2⟩
   ·rw[m1,m2];exact ⟨_,0,rfl,rfl,hm2.short⟩
   ·rw[m1,m2];simp only[n9 c e he];exact o7
end
section
def c1k (p:Int→Bool) (f:Int):Nat→Int
 |0=>0
 |k+1=>c1k p f k+(bif p (f+k) then 1 else 0)
theorem c6z {p:Int→Bool} {f:Int}:∀k:Nat,0≤c1k p f k∧c1k p f k≤k:=by
 intro k
 induction k with
 |zero=>exact ⟨by simp[c1k],by simp[c1k]⟩
 |succ k ih=>
  simp only[c1k];cases p (f+k)<;>simp only[yab,yaa]<;>omega
theorem b3d {p:Int→Bool} {f:Int} {k:Nat}:c1k p f (k+1)=c1k p f k+(bif p (f+k) then 1 else 0):=rfl
theorem d8o {p:Int→Bool}:∀(k:Nat) (f:Int),c1k p f (k+1)=(bif p f then 1 else 0)+c1k p (f+1) k:=by
 intro k
 induction k with
 |zero=>intro f;simp[c1k]
 |succ k ih=>
  intro f;rw[b3d,ih f,b3d];rw[show f+((k+1:Nat):Int)=f+1+(k:Int) by omega];omega
theorem g6q {c:Calendar} (hc:CalOk c) {t:Int}:∀(k:Nat) (d n:Int),0≤d→d+k=(if 109572<t then 109572 else t)+1→0≤n→n+k<1000000000→o0 b8x (k+1) (t,n,d,c,())=some (n+c1k (a69 c) d k,()):=by
 intro k
 induction k with
 |zero=>
  intro d n h0 h1 h2 h3;have:decide (d≤(if 109572<t then 109572 else t))=false:=by rw[yag];omega
  simp only[o0,b8x,this,yaa,c1k,Int.add_zero]
 |succ k ih=>
  intro d n h0 h1 h2 h3;have hd:decide (d≤(if 109572<t then 109572 else t))=true:=by rw[yae];omega
  have hb:d<200000:=by split at h1<;>omega
  rw[o0];simp only[b8x,hd,yab,b5j hc];rw[d8o,a0l (n:=d+1) (by omega) (by omega),a0l (n:=n+1) (by omega) (by omega)];cases a69 c d with
  |true=>
   simp only[yab];rw[ih (d+1) (n+1) (by omega) (by omega) (by omega) (by omega)];rw[Int.add_assoc]
  |false=>
   simp only[yaa];rw[ih (d+1) n (by omega) (by omega) (by omega) (by omega),Int.zero_add]
theorem h5l {c:Calendar} (hc:CalOk c) (f t:Int):qgz c f t=some (c1k (a69 c) (if f<0 then 0 else f) ((if 109572<t then 109572 else t)+1-(if f<0 then 0 else f)).toNat):=by
 unfold qgz;generalize hF:(if f<0 then 0 else f)=F;have hF0:0≤F:=by rw[←hF];split<;>omega
 have hT:(if 109572<t then 109572 else t)≤109572:=by split<;>omega
 by_cases hk:F≤(if 109572<t then 109572 else t)+1
 ·have:=g6q hc (t:=t) ((if 109572<t then 109572 else t)+1-F).toNat F 0 hF0 (by omega) (by omega) (by omega);rw[o5 _ (by rw[j9];omega) this,Int.zero_add]
 ·have h0:((if 109572<t then 109572 else t)+1-F).toNat=0:=by omega
  have hd:decide (F≤(if 109572<t then 109572 else t))=false:=by rw[yag];omega
  have:o0 b8x 1 (t,0,F,c,())=some (0,()):=by simp only[o0,b8x,hd,yaa]
  rw[o5 _ (by rw[j9];omega) this,h0]
  try rfl
def upS (d w:Int):Int:=if d<w then 0 else (d-w) / 7+1
theorem b86 {d:Int} (h:rng 0 109572 d=true):qdb d=some (d.tmod 7):=by
 have e:qfp d=some (rng 0 109572 d):=by
  unfold qfp;simp -zeta only[p7]
  try rfl
 unfold qdb;rw[e,h]
 try rfl
theorem e7n {d w:Int} (h0 : -1≤d) (h1:d≤109572) (h2:0≤w) (h3:w<7):qet d w=some (upS d w):=by
 unfold qet upS;rw[b86 rfl];have e0:(0:Int).tmod 7=0:=rfl;simp only[e0];rw[a0l (n:=w-0) (by omega) (by omega),a0l (n:=w-0+7) (by omega) (by omega)];have e1:(w-0+7).tmod 7=w:=by rw[Int.tmod_eq_emod_of_nonneg (by omega)];omega
 rw[e1];by_cases hd:d<w
 ·simp only[hd,decide_true,yab,yby]
 ·simp only[hd,decide_false,yaa,ya7];rw[a0l (n:=d-w) (by omega) (by omega),Int.tdiv_eq_ediv_of_nonneg (by omega),a0l (n:=(d-w) / 7) (by omega) (by omega),a0l (by omega) (by omega)]
theorem f3o {d w:Int} (h0:0≤d) (h2:0≤w) (h3:w<7):upS d w=upS (d-1) w+(if d % 7=w then 1 else 0):=by
 unfold upS;split<;>split<;>split<;>omega
theorem a8j {d w:Int} (h0 : -1≤d) (h1:d≤109572) (h2:0≤w) (h3:w<7):0≤upS d w∧upS d w≤20000:=by
 unfold upS;split<;>omega
def wk (c:Calendar):V7 Bool:=⟨a0h c.Week 0,a0h c.Week 1,a0h c.Week 2,a0h c.Week 3,a0h c.Week 4,a0h c.Week 5,a0h c.Week 6⟩
def y5 (c:Calendar) (f t:Int) (w:Nat):Int:=bif a0h c.Week w then upS t w-upS (f-1) w else 0
theorem e8g {b:Bool} {n a:Int} (hn : -1000000≤n) (hn2:n≤1000000) (ha : -100000≤a) (ha2:a≤100000) {α:Type} (k:Int→α):(bif b then k (wr .i64 (n+wr .i64 a)) else k n)=k (n+(bif b then a else 0)):=by
 cases b with
 |true=>simp only[yab];rw[a0l (n:=a) (by omega) (by omega),a0l (by omega) (by omega)]
 |false=>simp only[yaa,Int.add_zero]
theorem w7 {c:Calendar} {f t:Int} {w:Nat} (hf:0≤f) (hf2:f≤109573) (ht : -1≤t) (ht2:t≤109572) (hw:w<7) : -20000≤y5 c f t w∧y5 c f t w≤20000:=by
 unfold y5;have a:=a8j ht ht2 (show 0≤(w:Int) by omega) (by omega);have b:=a8j (d:=f-1) (by omega) (by omega) (show 0≤(w:Int) by omega) (by omega);cases a0h c.Week w<;>simp only[yab,yaa]<;>omega
theorem c2o {c:Calendar} {f t:Int} (hf:0≤f) (hf2:f≤109573) (ht : -1≤t) (ht2:t≤109572):b8 b43 (f,t,0,wk c,0,c,wk c,()) =
 some (f,t,y5 c f t 0+y5 c f t 1+y5 c f t 2+y5 c f t 3+y5 c f t 4+y5 c f t 5+y5 c f t 6,c,wk c,()):=by
 have st:∀(w:Nat) (n:Int),w<7→-200000≤n→n≤200000→b43 (f,t,n,wk c,(w:Int),c,wk c,())=some (.inl (f,t,n+y5 c f t w,wk c,((w+1:Nat):Int),c,wk c,())):=by
  intro w n hw h1 h2;have u1:=e7n ht ht2 (show 0≤(w:Int) by omega) (by omega);have u2:=e7n (d:=f-1) (by omega) (by omega) (show 0≤(w:Int) by omega) (by omega);have b1:=a8j ht ht2 (show 0≤(w:Int) by omega) (by omega);have b2:=a8j (d:=f-1) (by omega) (by omega) (show 0≤(w:Int) by omega) (by omega);have hd:decide ((w:Int)<7)=true:=by rw[yae];omega
  have hw1:wr .i64 (f-1)=f-1:=a0l (by omega) (by omega);have hw2:=g9 (show w<9223372036854775807 by omega);unfold y5;simp -zeta only[b43,hd,yab,u1,hw1,u2,hw2];dsimp only;have ap:=fun b=>e8g (b:=b) (n:=n) (a:=upS t w-upS (f-1) w) (by omega) (by omega) (by omega) (by omega) (fun n7=>(some (.inl (f,t,n7,wk c,((w+1:Nat):Int),c,wk c,())):Option ((Int×Int×Int×(V7 Bool)×Int×Calendar×(V7 Bool)×Unit)⊕((Int×Int×Int×Calendar×(V7 Bool)×Unit)))))
  have hcs:w=0∨w=1∨w=2∨w=3∨w=4∨w=5∨w=6:=by omega
  rcases hcs with h|h|h|h|h|h|h<;>subst h<;>exact ap _
 have p0:=w7 (c:=c) hf hf2 ht ht2 (show 0<7 by omega);have p1:=w7 (c:=c) hf hf2 ht ht2 (show 1<7 by omega);have p2:=w7 (c:=c) hf hf2 ht ht2 (show 2<7 by omega);have p3:=w7 (c:=c) hf hf2 ht ht2 (show 3<7 by omega);have p4:=w7 (c:=c) hf hf2 ht ht2 (show 4<7 by omega);have p5:=w7 (c:=c) hf hf2 ht ht2 (show 5<7 by omega);have p6:=w7 (c:=c) hf hf2 ht ht2 (show 6<7 by omega);refine o5 8 (by rw[j9];omega) ?_;have s0:=st 0 0 (by omega) (by omega) (by omega);have s1:=st 1 (0+y5 c f t 0) (by omega) (by omega) (by omega);have s2:=st 2 (0+y5 c f t 0+y5 c f t 1) (by omega) (by omega) (by omega);have s3:=st 3 (0+y5 c f t 0+y5 c f t 1+y5 c f t 2) (by omega) (by omega) (by omega);have s4:=st 4 (0+y5 c f t 0+y5 c f t 1+y5 c f t 2+y5 c f t 3) (by omega) (by omega) (by omega);have s5:=st 5 (0+y5 c f t 0+y5 c f t 1+y5 c f t 2+y5 c f t 3+y5 c f t 4) (by omega) (by omega) (by omega);have s6:=st 6 (0+y5 c f t 0+y5 c f t 1+y5 c f t 2+y5 c f t 3+y5 c f t 4+y5 c f t 5) (by omega) (by omega) (by omega);rw[o0,show b43 (f,t,0,wk c,0,c,wk c,())=_ from s0];simp only;rw[o0,s1];simp only;rw[o0,s2];simp only;rw[o0,s3];simp only;rw[o0,s4];simp only;rw[o0,s5];simp only;rw[o0,s6];simp only;rw[o0];rw[Int.zero_add]
 try rfl
def b0j (c:Calendar) (f t:Int) (x:Int):Bool:=decide (f≤x)&&decide (x≤t)&&a0h c.Week (x.tmod 7).toNat
theorem h70 (c:Calendar) {α:Type} (k:Bool→α) (d:α) {r:Int} (h0:0≤r) (h1:r<7):(bif r==0 then k (wk c).x0 else bif r==1 then k (wk c).x1 else bif r==2 then k (wk c).x2 else bif r==3 then k (wk c).x3 else bif r==4 then k (wk c).x4 else bif r==5 then k (wk c).x5 else bif r==6 then k (wk c).x6 else d)=k (a0h c.Week r.toNat):=by
 have hcs:r=0∨r=1∨r=2∨r=3∨r=4∨r=5∨r=6:=by omega
 rcases hcs with h|h|h|h|h|h|h<;>subst h<;>rfl
theorem b90 {c:Calendar} {f t n:Int} {l:List Int} (hl:l.length<1000000000) (hf:0≤f) (ht:t≤109572) (hn : -1000000≤n) (hn2:n≤1000000) :
 b8 b00 (f,t,n,l,(l.length:Int),0,wk c,())=some (n-(l.filter (b0j c f t)).length,()):=by
 have h:=o8 (step:=b00) (fun (i:Nat) (s:Int)=>-1000000-(i:Int)≤s∧s≤1000000) (fun i s=>(f,t,s,l,(l.length:Int),(i:Int),wk c,())) l
  (fun i x s=>.inl (bif b0j c f t x then s-1 else s)) (fun s=>(s,())) (by rw[j9];omega)
  (fun s _=>by simp only[b00,dge,yaa])
  (fun i x s hx hi=>by
   have hlt:=(zL hx)
   obtain ⟨b1,b2⟩:=hi;have hw:wr .i64 (s-1)=s-1:=a0l (by omega) (by omega);refine ⟨?_,fun s' hs'=>?_⟩
   ·simp -zeta only[b00,dlt hlt,b9,hx,yab,p7,g9 (show i<9223372036854775807 by omega),hw];unfold b0j;cases hq:(decide (f≤x)&&decide (x≤t)) with
    |false=>rfl
    |true=>
     simp only[yad,yae]at hq;have hr:rng 0 109572 x=true:=by rw[w6];omega
     have hm:=g93 (d:=x) (by omega);dsimp only;rw[b86 hr];simp only[yab,ya1];rw[h70 c (fun v17=>(bif v17 then some (.inl (f,t,s-1,l,(l.length:Int),((i+1:Nat):Int),wk c,())) else some (.inl (f,t,s,l,(l.length:Int),((i+1:Nat):Int),wk c,())):Option ((Int×Int×Int×(List Int)×Int×Int×(V7 Bool)×Unit)⊕((Int×Unit))))) none hm.1 hm.2];cases a0h c.Week (x.tmod 7).toNat<;>rfl
   ·cases hs'
    cases b0j c f t x<;>simp only[yab,yaa]<;>omega) n (by omega)
 rw[y6]at h;have key:∀(m:List Int) (s:Int),m.foldl (fun s x=>bif b0j c f t x then s-1 else s) s=s-(m.filter (b0j c f t)).length:=by
  intro m
  induction m with
  |nil=>intro s;simp
  |cons x m ih=>
   intro s;rw[ya6,ih,ya9];cases b0j c f t x with
   |true=>simp only[yab,yby,yaK];omega
   |false=>simp
 rw[key]at h;exact h
theorem c7e (p r:Int→Bool):∀(l:List Int),(∀x∈l,¬(p x=true∧r x=true))→(l.filter (fun x=>p x||r x)).length=(l.filter p).length+(l.filter r).length:=by
 intro l
 induction l with
 |nil=>intro _;rfl
 |cons x l ih=>
  intro h;have hx:=h x (yaz ..);have:=ih (fun y hy=>h y (yaC _ hy));simp only[ya9];cases hp:p x<;>cases hr:r x<;>simp_all<;>omega
theorem e0g {d:Int} {q:Int→Bool}:∀{l:List Int},(∀(j i:Nat) (x y:Int),i<j→l[i]?=some x→l[j]?=some y→x<y)→(l.filter (fun x=>x==d&&q x)).length=if (l.any (fun x=>x==d)&&q d)=true then 1 else 0:=by
 intro l
 induction l with
 |nil=>intro _;rfl
 |cons x l ih=>
  intro h;have h2:∀(j i:Nat) (x y:Int),i<j→l[i]?=some x→l[j]?=some y→x<y:=fun j i a b hij ha hb=>h (j+1) (i+1) a b (by omega) (by simpa using ha) (by simpa using hb)
  have ih:=ih h2;rw[ya9,List.any_cons];by_cases e:x=d
  ·subst e;have hn:l.any (fun y=>y==x)=false:=by
    rw[ybV];intro y hy he;obtain ⟨j,hj⟩:=yau hy;have:=h (j+1) 0 x y (by omega) (by simp) (by simpa using hj);have:y=x:=by simpa using he
    omega
   rw[hn]at ih;simp only[yah,ya1,Bool.true_or,ybA]at ih ⊢;cases q x with
   |true=>simp only[yby,yaK];rw[ih];rfl
   |false=>simp only[yaB,ya7];exact ih
  ·have e2:(x==d)=false:=by simpa using e
   simp only[e2,ybA,ybt,yaB,ya7];exact ih
theorem f3l (c:Calendar) (f d:Int) (h0:0≤d):y5 c f d 0+y5 c f d 1+y5 c f d 2+y5 c f d 3+y5 c f d 4+y5 c f d 5+y5 c f d 6 =
 (y5 c f (d-1) 0+y5 c f (d-1) 1+y5 c f (d-1) 2+y5 c f (d-1) 3+y5 c f (d-1) 4+y5 c f (d-1) 5+y5 c f (d-1) 6)+(bif a0h c.Week (d.tmod 7).toNat then 1 else 0):=by
 have st:∀w:Nat,w<7→y5 c f d w=y5 c f (d-1) w+(bif a0h c.Week w then (if d % 7=w then 1 else 0) else 0):=by
  intro w hw;unfold y5;have:=f3o (d:=d) (w:=w) h0 (by omega) (by omega);cases a0h c.Week w<;>simp only[yab,yaa]<;>omega
 rw[st 0 (by omega),st 1 (by omega),st 2 (by omega),st 3 (by omega),st 4 (by omega),st 5 (by omega),st 6 (by omega)];have e:(d.tmod 7).toNat=(d % 7).toNat:=by rw[Int.tmod_eq_emod_of_nonneg h0]
 rw[e];have hcs:d % 7=0∨d % 7=1∨d % 7=2∨d % 7=3∨d % 7=4∨d % 7=5∨d % 7=6:=by omega
 have z:∀b:Bool,(bif b then (0:Int) else 0)=0:=by intro b;cases b<;>rfl
 rcases hcs with h|h|h|h|h|h|h<;>rw[h]<;>simp[z]<;>omega
theorem e0f {c:Calendar} (hc:CalOk c) {f:Int} (hf:0≤f):∀k:Nat,f+k≤109573→
 y5 c f (f+k-1) 0+y5 c f (f+k-1) 1+y5 c f (f+k-1) 2+y5 c f (f+k-1) 3+y5 c f (f+k-1) 4+y5 c f (f+k-1) 5+y5 c f (f+k-1) 6-(c.Closed.filter (b0j c f (f+k-1))).length=c1k (a69 c) f k:=by
 intro k
 induction k with
 |zero=>
  intro _;have z:∀w:Nat,y5 c f (f+((0:Nat):Int)-1) w=0:=by
   intro w;unfold y5;rw[show f+((0:Nat):Int)-1=f-1 by omega];cases a0h c.Week w<;>simp
  have e:c.Closed.filter (b0j c f (f+((0:Nat):Int)-1))=[]:=by
   rw[List.filter_eq_nil_iff];intro x _;unfold b0j;simp only[yad,yae];omega
  rw[z,z,z,z,z,z,z,e]
  try rfl
 |succ k ih=>
  intro hk;have ih:=ih (by omega);rw[b3d,←ih];have ed:f+((k+1:Nat):Int)-1=f+(k:Int):=by omega
  rw[ed];rw[f3l c f (f+k) (by omega)];have e1:(c.Closed.filter (b0j c f (f+k))).length=(c.Closed.filter (b0j c f (f+k-1))).length+(c.Closed.filter (fun x=>x==f+k&&a0h c.Week (x.tmod 7).toNat)).length:=by
   rw[←c7e]
   ·congr 1;apply ybU;intro x _;unfold b0j;by_cases h1:f≤x
    ·by_cases h2:x=f+k
     ·subst h2;have a:decide (f≤f+(k:Int))=true:=by rw[yae];omega
      have b:decide (f+(k:Int)≤f+(k:Int))=true:=by rw[yae];omega
      simp only[a,b,yah,ya1];cases decide (f+(k:Int)≤f+(k:Int)-1)<;>simp
     ·have a:(x==f+(k:Int))=false:=by simpa using h2
      have b:decide (x≤f+(k:Int))=decide (x≤f+(k:Int)-1):=by rw[decide_eq_decide];omega
      rw[a,b];simp
    ·have a:decide (f≤x)=false:=by rw[yag];exact h1
     have b:(x==f+(k:Int))=false:=by
      have:¬x=f+(k:Int):=by omega
      simpa using this
     rw[a,b]
     try rfl
   ·intro x _;unfold b0j;simp only[yad,yae,yba];omega
  rw[e1,e0g (b3w hc.inc)];have hr:rng 0 109572 (f+(k:Int))=true:=by rw[w6];omega
  unfold a69;rw[hr];cases c.Closed.any (fun x=>x==f+(k:Int))<;>cases a0h c.Week ((f+(k:Int)).tmod 7).toNat<;>simp<;>omega
theorem h4e {c:Calendar} (hc:CalOk c) (f t:Int):qae c f t=some (c1k (a69 c) (if f<0 then 0 else f) ((if 109572<t then 109572 else t)+1-(if f<0 then 0 else f)).toNat):=by
 unfold qae;generalize hF:(if f<0 then 0 else f)=F;generalize hT:(if 109572<t then 109572 else t)=T;have hF0:0≤F:=by rw[←hF];split<;>omega
 have hT0:T≤109572:=by rw[←hT];split<;>omega
 by_cases hk:T<F
 ·have h0:(T+1-F).toNat=0:=by omega
  simp only[hk,decide_true,yab,h0,c1k]
 ·simp only[hk,decide_false,yaa,f65];rw[show b8 b43 (F,T,0,(⟨a0h c.Week 0,a0h c.Week 1,a0h c.Week 2,a0h c.Week 3,a0h c.Week 4,a0h c.Week 5,a0h c.Week 6⟩:V7 Bool),0,c,(⟨a0h c.Week 0,a0h c.Week 1,a0h c.Week 2,a0h c.Week 3,a0h c.Week 4,a0h c.Week 5,a0h c.Week 6⟩:V7 Bool),())=_ from c2o (c:=c) hF0 (by omega) (by omega) hT0];simp only;have p0:=w7 (c:=c) (f:=F) (t:=T) hF0 (by omega) (by omega) hT0 (show 0<7 by omega);have p1:=w7 (c:=c) (f:=F) (t:=T) hF0 (by omega) (by omega) hT0 (show 1<7 by omega);have p2:=w7 (c:=c) (f:=F) (t:=T) hF0 (by omega) (by omega) hT0 (show 2<7 by omega);have p3:=w7 (c:=c) (f:=F) (t:=T) hF0 (by omega) (by omega) hT0 (show 3<7 by omega);have p4:=w7 (c:=c) (f:=F) (t:=T) hF0 (by omega) (by omega) hT0 (show 4<7 by omega);have p5:=w7 (c:=c) (f:=F) (t:=T) hF0 (by omega) (by omega) hT0 (show 5<7 by omega);have p6:=w7 (c:=c) (f:=F) (t:=T) hF0 (by omega) (by omega) hT0 (show 6<7 by omega);rw[b90 hc.len hF0 hT0 (by omega) (by omega)];simp only;have:=e0f hc hF0 (T+1-F).toNat (by omega);rw[show F+((T+1-F).toNat:Int)-1=T by omega]at this;rw[this]
end
section
theorem g43 {c:Calendar} (hc:CalOk c) {r:Rule} (hr:a7y r=true) (due back:Int):∃v,qfs r c due back=some v∧qhh r c due back=some v∧0≤v:=by
 have ec:∀n:Int,qek n=some (rng 0 109572 n):=fun n=>by
  unfold qek;simp -zeta only[p7]
  try rfl
 unfold qfs qhh;simp -zeta only[h7o hc.len,e38 hc.len,h4e hc,h5l hc,ec,e3q,a0e];dsimp only;cases (!(a1v c==0)||!(rng 0 109572 due))||!(rng 0 109572 back) with
 |true=>exact ⟨0,rfl,rfl,by omega⟩
 |false=>
  simp only[yaa];have hb:=c6z (p:=a69 c) (f:=if wr .i64 (due+1)<0 then 0 else wr .i64 (due+1)) ((if 109572<back then 109572 else back)+1-(if wr .i64 (due+1)<0 then 0 else wr .i64 (due+1))).toNat;have hk:((if 109572<back then 109572 else back)+1-(if wr .i64 (due+1)<0 then 0 else wr .i64 (due+1))).toNat≤109573:=by
   have h1:(if 109572<back then 109572 else back)≤109572:=by split<;>omega
   have h2:0≤(if wr .i64 (due+1)<0 then 0 else wr .i64 (due+1)):=by split<;>omega
   omega
  generalize c1k (a69 c) _ _=n at hb ⊢;generalize ((if 109572<back then 109572 else back)+1-(if wr .i64 (due+1)<0 then 0 else wr .i64 (due+1))).toNat=k at hb hk;cases decide (n≤r.Grace) with
  |true=>exact ⟨0,rfl,rfl,by omega⟩
  |false=>
   simp only[yaa];refine ⟨_,rfl,rfl,?_⟩;unfold a7y at hr;simp only[yad,w6]at hr;obtain ⟨⟨⟨⟨⟨_,⟨hf,_⟩,hm⟩,_⟩,_⟩,_⟩,_⟩:=hr;have hp:0≤n*r.Fine:=Int.mul_nonneg hb.1 hf.1;have hq:n*r.Fine≤109573*1000:=Int.mul_le_mul (by omega) hf.2 hf.1 (by omega);rw[a0l (by omega) (by omega)];split<;>omega
def b5t (p item kind:Int) (x:Charge):Bool:=(x.Patron==p&&x.Item==item)&&(kind==0||x.Kind==kind)
theorem f66 {l:List Charge} {p item kind:Int} (hl:l.length<1000000000):∃v,qb0 l p item kind=some (l.filter (fun x=>!(b5t p item kind x)),v):=by
 have hq:∀x:Charge,qc9 x p item kind=some (b5t p item kind x):=fun x=>by
  unfold qc9 b5t;simp -zeta only[p7,a0e]
  try rfl
 have h:=o8 (step:=b8i (fun (g:Unit×Int×Int×Int×Unit) x0=>qc9 x0 g.2.1 g.2.2.1 g.2.2.2.1)) (fun (i:Nat) (s:Int×Int×List Charge)=>s.2.2.length≤i)
  (fun i s=>(((),(p,item,kind,())),s.1,s.2.1,l,(l.length:Int),(i:Int),s.2.2,())) l
  (fun i x s=>.inl (bif b5t p item kind x then (wr .i64 (s.1+x.Paid),wr .i64 (s.2.1+1),s.2.2) else (s.1,s.2.1,s.2.2++[x]))) (fun s=>(s.1,s.2.1,s.2.2,())) (by rw[j9];omega)
  (fun s _=>by simp only[b8i,dge,yaa])
  (fun i x s hx hi=>by
   have hlt:=(zL hx)
   have l1:∀z:Charge,decide (s.2.2.length+([z]:List Charge).length≤LIM)=true:=fun z=>a1d (by simp;omega)
   refine ⟨?_,fun s' hs'=>?_⟩
   ·simp only[b8i,dlt hlt,b9,hx,yab,hq,l1,g9 (show i<9223372036854775807 by omega)];cases b5t p item kind x<;>rfl
   ·cases hs'
    cases b5t p item kind x<;>simp<;>omega) (0,0,[]) (by simp)
 rw[y6]at h;have key:∀(m:List Charge) (s:Int×Int×List Charge),∃a b,m.foldl (fun s x=>bif b5t p item kind x then (wr .i64 (s.1+x.Paid),wr .i64 (s.2.1+1),s.2.2) else (s.1,s.2.1,s.2.2++[x])) s=(a,b,s.2.2++m.filter (fun x=>!(b5t p item kind x))):=by
  intro m
  induction m with
  |nil=>intro s;exact ⟨s.1,s.2.1,by simp⟩
  |cons x m ih=>
   intro s;rw[ya6,ya9];cases b5t p item kind x with
   |true=>
    obtain ⟨a,b,e⟩:=ih (wr .i64 (s.1+x.Paid),wr .i64 (s.2.1+1),s.2.2);exact ⟨a,b,by simp only[yab];rw[e];simp⟩
   |false=>
    obtain ⟨a,b,e⟩:=ih (s.1,s.2.1,s.2.2++[x]);exact ⟨a,b,by simp only[yaa];rw[e];simp⟩
 obtain ⟨a,b,e⟩:=key l (0,0,[]);rw[e]at h;refine ⟨a,?_⟩;unfold qb0 qau;rw[show b8 (b8i (fun (g:Unit×Int×Int×Int×Unit) x0=>qc9 x0 g.2.1 g.2.2.1 g.2.2.2.1)) (((),(p,item,kind,())),0,0,l,(l.length:Int),0,([]:List Charge),())=_ from h]
 try rfl
theorem f7w {l:List Charge} {p item kind:Int} (hl:l.length<1000000):∃v,qgk l p item kind=some (l.filter (fun x=>!(b5t p item kind x)),v):=by
 have h:=o8 (step:=c5a) (fun (i:Nat) (s:Int×List Charge)=>s.2.length≤i)
  (fun i s=>(l,p,item,kind,s.1,(i:Int),s.2,())) l
  (fun i x s=>.inl (bif b5t p item kind x then (wr .i64 (s.1+x.Paid),s.2) else (s.1,s.2++[x]))) (fun s=>(s.1,s.2,())) (by rw[j9];omega)
  (fun s _=>by simp only[c5a,dge,yaa])
  (fun i x s hx hi=>by
   have hlt:=(zL hx)
   have l1:∀z:Charge,decide (s.2.length+([z]:List Charge).length≤LIM)=true:=fun z=>a1d (by simp;omega)
   refine ⟨?_,fun s' hs'=>?_⟩
   ·simp -zeta only[c5a,dlt hlt,b9,hx,yab,p7,a0e,l1,g9 (show i<9223372036854775807 by omega)];dsimp only;unfold b5t;cases ((x.Patron==p&&x.Item==item)&&(kind==0||x.Kind==kind))<;>rfl
   ·cases hs'
    cases b5t p item kind x<;>simp<;>omega) (0,[]) (by simp)
 rw[y6]at h;have key:∀(m:List Charge) (s:Int×List Charge),∃a,m.foldl (fun s x=>bif b5t p item kind x then (wr .i64 (s.1+x.Paid),s.2) else (s.1,s.2++[x])) s=(a,s.2++m.filter (fun x=>!(b5t p item kind x))):=by
  intro m
  induction m with
  |nil=>intro s;exact ⟨s.1,by simp⟩
  |cons x m ih=>
   intro s;rw[ya6,ya9];cases b5t p item kind x with
   |true=>
    obtain ⟨a,e⟩:=ih (wr .i64 (s.1+x.Paid),s.2);exact ⟨a,by simp only[yab];rw[e];simp⟩
   |false=>
    obtain ⟨a,e⟩:=ih (s.1,s.2++[x]);exact ⟨a,by simp only[yaa];rw[e];simp⟩
 obtain ⟨a,e⟩:=key l (0,[]);rw[e]at h;refine ⟨a,?_⟩;unfold qgk;rw[show b8 c5a (l,p,item,kind,0,0,([]:List Charge),())=_ from h]
 try rfl
theorem d0e {c:Circ} (h:Short c) {l:List Charge} (hl:l.length<1000000000) (n:Int):Short (a48 c l n):=by
 obtain ⟨a1,a2,a3,a4,a5,a6,a7,a8,a9,a10,a11,a12,a13⟩:=h;exact ⟨a1,a2,a3,a4,hl,a6,a7,a8,a9,a10,a11,a12,a13⟩
def a9r (c:Circ) (i:Nat) (x:Item) (branch:Int) (u:Custody) (l:List Loan):Circ:=f7 (t7 c i x ⟨c.Today,x.ID,4,branch,0⟩ u) l
theorem c59 {c:Circ} (h:MidP c) (hln:c.Loans.length<100000000) {i:Nat} {x:Item} (hx:c.Items[i]?=some x) {n:Loan} (hn:c.Loans.find? (fun n=>n.Item==x.ID)=some n) {branch:Int} (hb:rng 1 4 branch=true) :
 c1i (qff (i:Int) branch ⟨c,0⟩) (qf3 c x.ID branch) (fun d=>MidP d∧∃u ch nc,s7 x.Custody ⟨c.Today,x.ID,4,branch,0⟩=(u,0)∧d=a48 (a9r c i x branch u (a5b c.Loans x.ID).1) ch nc):=by
 unfold qff qf3;simp only[b9,hx];rcases a1k h hx 4 branch 0 with ⟨u,ha,m1,m2,hm2⟩|⟨e,he,m1,m2⟩
 ·rw[m1,m2];have hat:=a6g hm2 (a24 hx ⟨c.Today,x.ID,4,branch,0⟩ u);have hx2:=a24 hx ⟨c.Today,x.ID,4,branch,0⟩ u;have hbk:a5b c.Loans x.ID=((a5b c.Loans x.ID).1,n,0):=by unfold a5b;rw[hn]
  have bl:=c90 (item:=x.ID) h.short.loans;have hL:(t7 c i x ⟨c.Today,x.ID,4,branch,0⟩ u).Loans=c.Loans:=rfl;simp only[yah,yai,yaa,hL,f7n hln,d2s hln];rw[hbk];simp only[yah,yai,yaa,a9q];have hm3:=b35 hm2 bl;show c1i _ _ (fun d=>MidP d∧∃u ch nc,s7 x.Custody ⟨c.Today,x.ID,4,branch,0⟩=(u,0)∧d=a48 (a9r c i x branch u (a5b c.Loans x.ID).1) ch nc)
  generalize hl:(a5b c.Loans x.ID).1=l at hm3 bl;have hat3:qs (f7 (t7 c i x ⟨c.Today,x.ID,4,branch,0⟩ u) l) x.ID=some (i:Int):=a6g (x:=y0 u x) hm3 hx2;have hc3:a9r c i x branch u l=f7 (t7 c i x ⟨c.Today,x.ID,4,branch,0⟩ u) l:=rfl;rw[show (⟨(t7 c i x ⟨c.Today,x.ID,4,branch,0⟩ u).Today,(t7 c i x ⟨c.Today,x.ID,4,branch,0⟩ u).Items,(t7 c i x ⟨c.Today,x.ID,4,branch,0⟩ u).Patrons,l,(t7 c i x ⟨c.Today,x.ID,4,branch,0⟩ u).Holds,(t7 c i x ⟨c.Today,x.ID,4,branch,0⟩ u).Charges,(t7 c i x ⟨c.Today,x.ID,4,branch,0⟩ u).Rules,(t7 c i x ⟨c.Today,x.ID,4,branch,0⟩ u).Cals,(t7 c i x ⟨c.Today,x.ID,4,branch,0⟩ u).Moves,(t7 c i x ⟨c.Today,x.ID,4,branch,0⟩ u).NextHold,(t7 c i x ⟨c.Today,x.ID,4,branch,0⟩ u).NextCharge,(t7 c i x ⟨c.Today,x.ID,4,branch,0⟩ u).Local⟩:Circ)=f7 (t7 c i x ⟨c.Today,x.ID,4,branch,0⟩ u) l from rfl];rw[hat3];simp only[b9,hx2];have hru:qg0 (f7 (t7 c i x ⟨c.Today,x.ID,4,branch,0⟩ u) l) n.Patron (y0 u x)=qg0 (f7 (t7 c i x ⟨c.Today,x.ID,4,branch,0⟩ u) l) n.Patron x:=rfl;rw[hru,b01 hm3.short];obtain ⟨r,b,hr,hrm⟩:=b05 (c:=f7 (t7 c i x ⟨c.Today,x.ID,4,branch,0⟩ u) l) (p:=n.Patron) (x:=x) hm3.short;have hT:(t7 c i x ⟨c.Today,x.ID,4,branch,0⟩ u).Today=(f7 (t7 c i x ⟨c.Today,x.ID,4,branch,0⟩ u) l).Today:=rfl;rw[hr,hT];rw[←hc3]at hm3 hrm ⊢;have fin:∀d:Circ,MidP d→(∃ch nc,d=a48 (a9r c i x branch u l) ch nc)→c1i (match qb0 d.Charges n.Patron x.ID 2 with
   |some (r19,r20)=>some ((),(⟨⟨d.Today,d.Items,d.Patrons,d.Loans,d.Holds,r19,d.Rules,d.Cals,d.Moves,d.NextHold,d.NextCharge,d.Local⟩,0⟩:Circ_desk))
   |none=>none) (match qgk d.Charges n.Patron x.ID 2 with
   |some (r21,r22)=>some ({d with Charges:=r21},0)
   |none=>none) (fun d=>MidP d∧∃u ch nc,s7 x.Custody ⟨c.Today,x.ID,4,branch,0⟩=(u,0)∧d=a48 (a9r c i x branch u l) ch nc):=by
   intro d hd hw;obtain ⟨v1,f1⟩:=f66 (p:=n.Patron) (item:=x.ID) (kind:=2) hd.short.charges;obtain ⟨v2,f2⟩:=f7w (p:=n.Patron) (item:=x.ID) (kind:=2) hd.chN;have hfl:=yaw (fun y=>!(b5t n.Patron x.ID 2 y)) d.Charges;have:=hd.chN;rw[f1,f2];obtain ⟨ch,nc,rfl⟩:=hw;exact .inl ⟨_,rfl,rfl,c2l hd (by omega) nc,u,_,nc,ha,rfl⟩
  have f0:=fin (a9r c i x branch u l) hm3 ⟨(a9r c i x branch u l).Charges,(a9r c i x branch u l).NextCharge,rfl⟩;cases b with
  |false=>exact f0
  |true=>
   obtain ⟨v,lv1,lv2,lv0⟩:=g43 (hm3.cal branch) (hm3.rules r (hrm rfl)) n.Due (a9r c i x branch u l).Today;simp only[yab,b8q hb,b8y hb,lv1,lv2];by_cases hv:v=0
   ·subst hv;exact f0
   ·have hv2:(v==0)=false:=by simpa using hv
    have hv3:decide (0<v)=true:=by rw[yae];omega
    simp only[hv2,hv3,yan,yab];rcases b0p hm3 n.Patron x.ID 1 v with ⟨d,q1,q2,hd,hd2,-⟩|⟨d,e,he,q1,q2,hsd⟩
    ·rw[q1,q2];have hmd:MidP d:=by rw[hd];exact c2l hm3 (a81 hd2) _
     exact fin d hmd ⟨_,_,hd⟩
    ·obtain ⟨v1,f1⟩:=f66 (p:=n.Patron) (item:=x.ID) (kind:=2) hsd.charges;have hfl:=yaw (fun y=>!(b5t n.Patron x.ID 2 y)) d.Charges;have:=hsd.charges;have he2:(e==0)=false:=by simpa using he
     rw[q1,q2];simp only[he2,yan,yab,f1];exact .inr ⟨a48 d (d.Charges.filter (fun y=>!(b5t n.Patron x.ID 2 y))) d.NextCharge,e,he,rfl,rfl,d0e hsd (by omega) _⟩
 ·have he2:(e==0)=false:=by simpa using he
  rw[m1,m2];simp only[he2,yan,yab];exact .inr ⟨c,e,he,rfl,rfl,h.short⟩
end
section
def b9r (i item:Int) (d:Circ_desk):Option (Circ×Int×Int):=
 match qao d.c item with
 |some (o,ok)=>
  match (bif ok&&o.State==2 then qdo i o d else qcg i d) with
  |some (_,v)=>(match qao v.c item with
   |some (r,_)=>(match qbf r.ID v with
    |some ((a,b,e),_)=>some (a,b,e)
    |none=>none)
   |none=>none)
  |none=>none
 |none=>none
def e4e (item e:Int) (c:Circ):Option (Circ×Int×Int):=
 bif !(e==0) then some (o4,0,e)
 else match qav c item with
  |some (o,ok)=>(match (bif ok then qgn c item o else qg4 c item) with
   |some (d,f)=>(bif !(f==0) then some (o4,0,f) else match qav d item with
    |some (r,_)=>some (d,r.ID,0)
    |none=>none)
   |none=>none)
  |none=>none
def d62 (i item:Int) (a:Option (Unit×Circ_desk)):Option (Circ×Int×Int):=match a with|some (_,v)=>b9r i item v|none=>none
def d3g (item:Int) (a:Option (Circ×Int)):Option (Circ×Int×Int):=match a with|some (c,e)=>e4e item e c|none=>none
theorem b3b {c:Circ} (hs:Short c) (i item e:Int) (he:e≠0):b9r i item ⟨c,e⟩=some (o4,0,e):=by
 unfold b9r;simp only[b0a hs.holds,b6q c i e _ he,a4e c i e he];cases ((o6 c item).2&&(o6 c item).1.State==2)<;>
  simp only[yab,yaa,b0a hs.holds,a5i c _ e he]
theorem a1a (u:Custody):a2o u=(u.State==4||u.State==9||u.State==10):=by
 unfold a2o;cases u.State==4<;>cases u.State==9<;>rfl
theorem h45 {c:Circ} (hs:Short c) {i:Nat} {x:Item} (hf:a5a (fun y=>y.ID==x.ID) c.Items=(i:Int)) (hx:c.Items[i]?=some x) (branch:Int) :
 qel c x.ID branch=(bif a2o x.Custody then d62 i x.ID (qff i branch ⟨c,0⟩) else bif x.Custody.State==8 then d62 i x.ID (qam i 4 branch 0 ⟨c,0⟩)
  else bif x.Custody.State==11 then d62 i x.ID (qam i 14 branch 0 ⟨c,0⟩) else bif x.Custody.State==6 then d62 i x.ID (qam i 7 branch 0 ⟨c,0⟩) else b9r i x.ID ⟨c,12⟩):=by
 have leaf:∀v23:Circ_desk,(match qao v23.c x.ID with
  |some (r25,r26)=>
   let k41:Bool→Option (Circ×Int×Int):=fun v27=>
    let k:Circ_desk→Option (Circ×Int×Int):=fun v32=>
     match qao v32.c x.ID with
     |some (r34,r35)=>(match qbf r34.ID v32 with
      |some ((r37,r38,r39),v40)=>some (r37,r38,r39)
      |none=>none)
     |none=>none
    bif v27 then (match qdo (i:Int) r25 v23 with|some (_,v29)=>k v29|none=>none)
    else (match qcg (i:Int) v23 with|some (_,v31)=>k v31|none=>none)
   bif r26 then k41 (r25.State==2) else k41 false
  |none=>none)=b9r i x.ID v23:=by
  intro v;unfold b9r;cases qao v.c x.ID with
  |none=>rfl
  |some q=>
   obtain ⟨o,ok⟩:=q;dsimp only;cases ok with
   |false=>rfl
   |true=>cases o.State==2<;>rfl
 have leaf2:∀a:Option (Unit×Circ_desk),d62 i x.ID a=d62 i x.ID a:=fun _=>rfl
 unfold qel;simp -zeta only[qac,a0k hs,hf,a1c,yaa,b9,hx];rw[a1a];have tb:∀(a:Option (Unit×Circ_desk)) (K:Circ_desk→Option (Circ×Int×Int)),(∀v,K v=b9r i x.ID v)→(match a with|some (_,v)=>K v|none=>none)=d62 i x.ID a:=by
  intro a K hK;unfold d62;cases a with
  |none=>rfl
  |some p=>exact hK _
 cases x.Custody.State==4 with
 |true=>exact tb _ _ leaf
 |false=>
  cases x.Custody.State==9 with
  |true=>exact tb _ _ leaf
  |false=>
   cases x.Custody.State==10 with
   |true=>exact tb _ _ leaf
   |false=>
    cases x.Custody.State==8 with
    |true=>exact tb _ _ leaf
    |false=>
     cases x.Custody.State==11 with
     |true=>exact tb _ _ leaf
     |false=>
      cases x.Custody.State==6 with
      |true=>exact tb _ _ leaf
      |false=>exact leaf _
theorem f7z {c:Circ} (hs:Short c) {i:Nat} {x:Item} (hf:qs c x.ID=some (i:Int)) (hx:c.Items[i]?=some x) (branch:Int) :
 qha c x.ID branch=(bif a2o x.Custody then (bif decide (branch<1)||decide (4<branch) then some (o4,0,1) else d3g x.ID (qf3 c x.ID branch)) else bif x.Custody.State==8 then d3g x.ID (qgo c x.ID 4 branch 0)
  else bif x.Custody.State==11 then d3g x.ID (qgo c x.ID 14 branch 0) else bif x.Custody.State==6 then d3g x.ID (qgo c x.ID 7 branch 0) else e4e x.ID 12 c):=by
 have leaf:∀(e21:Int) (c22:Circ),(bif !(e21==0) then (some (o4,0,e21):Option (Circ×Int×Int))
  else match qav c22 x.ID with
   |some (r24,r25)=>
    let k37:Int→Circ→Option (Circ×Int×Int):=fun e32 c33=>
     bif !(e32==0) then some (o4,0,e32)
     else match qav c33 x.ID with
      |some (r35,r36)=>some (c33,r35.ID,0)
      |none=>none
    bif r25 then (match qgn c22 x.ID r24 with|some (r27,r28)=>k37 r28 r27|none=>none)
    else (match qg4 c22 x.ID with|some (r30,r31)=>k37 r31 r30|none=>none)
   |none=>none)=e4e x.ID e21 c22:=by
  intro e d;unfold e4e;cases !(e==0) with
  |true=>rfl
  |false=>
   simp only[yaa];cases qav d x.ID with
   |none=>rfl
   |some q=>
    obtain ⟨o,ok⟩:=q;cases ok<;>rfl
 have tb:∀(a:Option (Circ×Int)) (K:Int→Circ→Option (Circ×Int×Int)),(∀e v,K e v=e4e x.ID e v)→(match a with|some (v,e)=>K e v|none=>none)=d3g x.ID a:=by
  intro a K hK;unfold d3g;cases a with
  |none=>rfl
  |some p=>exact hK _ _
 unfold qha;simp -zeta only[hf,a1c,yaa,b9,hx,e3o];cases a2o x.Custody with
 |true=>
  cases decide (branch<1) with
  |true=>rfl
  |false=>
   cases decide (4<branch) with
   |true=>rfl
   |false=>exact tb _ _ leaf
 |false=>
  cases x.Custody.State==8 with
  |true=>exact tb _ _ leaf
  |false=>
   cases x.Custody.State==11 with
   |true=>exact tb _ _ leaf
   |false=>
    cases x.Custody.State==6 with
    |true=>exact tb _ _ leaf
    |false=>exact leaf 12 c
theorem d70 {i:Nat} {item:Int} {a:Option (Unit×Circ_desk)} {b:Option (Circ×Int)} {Q:Circ→Prop} (hs:c1i a b Q)
 (hQ:∀d,Q d→MidP d∧∃y,d.Items[i]?=some y∧y.ID=item∧((o6 d item).2=true→(o6 d item).1.State=2)):a5z (d62 i item a) (d3g item b):=by
 rcases hs with ⟨d,rfl,rfl,hq⟩|⟨d,e,he,rfl,rfl,hsd⟩
 ·obtain ⟨hd,y,hy,rfl,hC⟩:=hQ d hq;unfold d62 d3g b9r e4e;simp only[yah,yai,yaa,b0a hd.short.holds,b0b hd.short.holds];have fin:∀(a:Option (Unit×Circ_desk)) (b:Option (Circ×Int)),c1i a b (fun d=>MidP d∧Frame d d)→True:=fun _ _ _=>trivial
  cases hok:(o6 d y.ID).2 with
  |true=>
   have h2:((o6 d y.ID).1.State==2)=true:=by simpa using hC hok
   simp only[h2,ybS,yab];rcases e4d hd hy (o6 d y.ID).1 with ⟨d2,a1,a2,hd2,-⟩|⟨d2,e,he,a1,a2,hsd⟩
   ·rw[a1,a2];simp only[b0a hd2.short.holds,b0b hd2.short.holds,yah,yai,yaa,c7i];exact ⟨_,_,_,rfl,rfl,hd2.short⟩
   ·have he2:(e==0)=false:=by simpa using he
    rw[a1,a2];simp only[b0a hsd.holds,a5i d2 _ e he,he2,yan,yab];exact n8
  |false=>
   simp only[ybA,yaa];rcases b9j hd hy with ⟨d2,a1,a2,hd2,-⟩|⟨d2,e,he,a1,a2,hsd⟩
   ·rw[a1,a2];simp only[b0a hd2.short.holds,b0b hd2.short.holds,yah,yai,yaa,c7i];exact ⟨_,_,_,rfl,rfl,hd2.short⟩
   ·have he2:(e==0)=false:=by simpa using he
    rw[a1,a2];simp only[b0a hsd.holds,a5i d2 _ e he,he2,yan,yab];exact n8
 ·have he2:(e==0)=false:=by simpa using he
  unfold d62 d3g;simp only[b3b hsd _ _ e he];unfold e4e;simp only[he2,yan,yab];exact n8
theorem d3d {u:Custody} {day item kind branch who:Int} (h:(decide (branch<1)||decide (4<branch))=true):s7 u ⟨day,item,kind,branch,who⟩=(⟨0,0,0,0⟩,1):=by
 have hw:b0e ⟨day,item,kind,branch,who⟩=false:=by
  unfold b0e;simp only[ybg,yae]at h;rcases h with h|h
  ·have:decide (1≤branch)=false:=by rw[yag];omega
   simp[this]
  ·have:decide (branch≤4)=false:=by rw[yag];omega
   simp[this]
 unfold s7;rw[hw];simp
theorem d3y {c:Circ} (h:FitP c) {x:Item} (hx:x∈c.Items) (hs:¬x.Custody.State=5) {o:Hold} (ho:o∈c.Holds) (hg:o.Got=x.ID):o.State=2∧x.Custody.State=6:=by
 have hsh:=a1q h.holds ho;have hid:=e1c h hx;have h1:¬o.State=1:=by
  intro e;unfold p9 at hsh;have h2:=a0n hsh (by decide);rw[h2]at hsh;simp only[yaa]at hsh;have h3:=a0n hsh (by decide);rw[h3]at hsh;simp only[yaa]at hsh;have h4:=a0n hsh (by decide);simp only[yaj]at h4;have e1:(o.State==1)=true:=by simpa using e
  have e2:decide (0<o.Got)=true:=by rw[yae,hg];omega
  rw[e1,e2]at h4;exact absurd h4.1 (by decide)
 have hG:=h.holdG o ho;unfold a3s at hG;have hfind:c.Items.find? (fun y=>y.ID==o.Got)=some x:=by
  rw[hg];exact a3m (key:=fun y:Item=>y.ID) (a2v h.items) hx
 rw[hfind]at hG;have e1:(o.State==1)=false:=by simpa using h1
 rw[e1]at hG;simp only[yad,ybt,yar,ybk,yaj,yaI,yba,yaT,ne_eq]at hG;obtain ⟨_,⟨_,q3⟩,q2⟩:=hG;rcases d4n hsh with e|e|e
 ·exact absurd e h1
 ·refine ⟨e,?_⟩;rcases q2 with q2|q2
  ·exact absurd e q2
  ·exact q2.1.1
 ·rcases q3 with q3|q3
  ·exact absurd e q3
  ·exact absurd q3.1.1 hs
theorem a5f {c:Circ} {item:Int} (h:(o6 c item).2=true):(o6 c item).1∈c.Holds∧(o6 c item).1.Got=item:=by
 unfold o6 at h ⊢;cases hq:c.Holds.find? (fun h=>h.Got==item) with
 |none=>rw[hq]at h;cases h
 |some o=>exact ⟨yaR hq,by have:=ybh hq;simpa using this⟩
theorem b9n {c d:Circ} {item:Int} (h:d.Holds=c.Holds):o6 d item=o6 c item:=by unfold o6;rw[h]
theorem d3e {c:Circ} (m:MidP c) (h:FitP c) (hln:c.Loans.length<100000000) {item branch:Int}:a5z (qel c item branch) (qha c item branch):=by
 rcases y2 m item with ⟨h1,h2,-⟩|⟨i,x,h1,h2,hx,hid,-⟩
 ·unfold qel qha;simp -zeta only[qac,a0k m.short];rw[h1,h2];exact n8
 ·subst hid;rw[h45 m.short h1 hx,f7z m.short h2 hx];have hmem:=yaf hx;have hC:∀d:Circ,d.Holds=c.Holds→¬x.Custody.State=5→((o6 d x.ID).2=true→(o6 d x.ID).1.State=2):=by
   intro d hd h5 hk;rw[b9n hd]at hk ⊢;have:=a5f hk;exact (d3y h hmem h5 this.1 this.2).1
  have mv:∀kind:Int,¬x.Custody.State=5→a5z (d62 i x.ID (qam i kind branch 0 ⟨c,0⟩)) (d3g x.ID (qgo c x.ID kind branch 0)):=by
   intro kind h5;refine d70 (Q:=fun d=>∃u,d=t7 c i x ⟨c.Today,x.ID,kind,branch,0⟩ u∧MidP d) ?_ ?_
   ·rcases a1k m hx kind branch 0 with ⟨u,ha,m1,m2,hm2⟩|⟨e,he,m1,m2⟩
    ·exact .inl ⟨_,m1,m2,u,rfl,hm2⟩
    ·exact .inr ⟨c,e,he,m1,m2,m.short⟩
   ·rintro d ⟨u,rfl,hd⟩;exact ⟨hd,y0 u x,a24 hx _ u,rfl,hC _ rfl h5⟩
  cases hp:a2o x.Custody with
  |true=>
   simp only[yab];have h5:¬x.Custody.State=5:=by
    intro e;rw[a1a,e]at hp;cases hp
   have hl:=h.itemG x hmem;rw[hp]at hl;unfold a1p at hl;cases hb:(decide (branch<1)||decide (4<branch)) with
   |true=>
    simp only[yab];have dm:=a30 (kind:=4) (branch:=branch) (who:=0) m.short (by have:=m.moves;omega) hx;rw[d3d hb]at dm;have e1:qff (i:Int) branch ⟨c,0⟩=some ((),⟨c,1⟩):=by
     unfold qff;simp only[b9,hx];rw[dm]
     try rfl
    rw[e1];show a5z (b9r i x.ID ⟨c,1⟩) _
    rw[b3b m.short _ _ 1 (by decide)];exact n8
   |false=>
    simp only[yaa];have hbr:rng 1 4 branch=true:=by
     rw[w6];simp only[yaj,yag]at hb;omega
    cases hn:c.Loans.find? (fun n=>n.Item==x.ID) with
    |none=>rw[hn]at hl;cases hl
    |some n=>
     refine d70 (c59 m hln hx hn hbr) ?_;rintro d ⟨hd,u,ch,nc,-,rfl⟩;exact ⟨hd,y0 u x,a24 hx ⟨c.Today,x.ID,4,branch,0⟩ u,rfl,hC _ rfl h5⟩
  |false=>
   simp only[yaa];cases h8:x.Custody.State==8 with
   |true=>exact mv 4 (by have:x.Custody.State=8:=(by simpa using h8);omega)
   |false=>
    simp only[yaa];cases h11:x.Custody.State==11 with
    |true=>exact mv 14 (by have:x.Custody.State=11:=(by simpa using h11);omega)
    |false=>
     simp only[yaa];cases h6:x.Custody.State==6 with
     |true=>exact mv 7 (by have:x.Custody.State=6:=(by simpa using h6);omega)
     |false=>
      simp only[yaa];rw[b3b m.short _ _ 12 (by decide)];exact n8
end
section
theorem g50 {c:Circ} (h:MidP c) (r:Int):(c.Holds.filter (y7 r c.Today)).length<20:=by
 have e:c.Holds.filter (y7 r c.Today)=(c.Holds.filter (fun o=>o.Record==r)).filter (y7 r c.Today):=by
  rw[ybL];apply ybU;intro o _;unfold y7;cases o.Record==r<;>simp
 rw[e];have:=yaw (y7 r c.Today) (c.Holds.filter (fun o=>o.Record==r));have:=h.few r;omega
theorem f2s {c:Circ} (h:MidP c) (x:Item) (branch:Int):qax c.Holds x branch c.Today c.Local=some (b4u branch c.Local x (u5 (c.Holds.filter (y7 x.Record c.Today))) 0):=
 e3b h.holdsN (g50 h x.Record) (fun o ho=>(h.rank o ho).1)
end
section
def a71 {σ τ β:Type} (φ:σ→τ):Option (σ⊕β)→Option (τ⊕β)
 |some (.inl s)=>some (.inl (φ s))
 |some (.inr b)=>some (.inr b)
 |none=>none
theorem a64 {σ τ β:Type} (φ:σ→τ) (b:Bool) (x y:Option (σ⊕β)):a71 φ (bif b then x else y)=bif b then a71 φ x else a71 φ y:=by cases b<;>rfl
theorem b56 {σ τ β:Type} (φ:σ→τ) (s:σ):a71 (β:=β) φ (some (.inl s))=some (.inl (φ s)):=rfl
theorem b57 {σ τ β:Type} (φ:σ→τ) (b:β):a71 φ (some (.inr b))=some (.inr b):=rfl
theorem b1s {σ τ β:Type} (φ:σ→τ):a71 (β:=β) φ none=none:=rfl
theorem e1d {σ τ β:Type} {f:σ→Option (σ⊕β)} {g:τ→Option (τ⊕β)} (φ:σ→τ) (h:∀s,g (φ s)=a71 φ (f s)):∀(k:Nat) (s:σ),o0 g k (φ s)=o0 f k s:=by
 intro k
 induction k with
 |zero=>intro s;rfl
 |succ k ih=>
  intro s;rw[o0,o0,h];cases hf:f s with
  |none=>rfl
  |some q=>
   cases q with
   |inl s'=>exact ih s'
   |inr b=>rfl
theorem b87 {σ τ β:Type} {f:σ→Option (σ⊕β)} {g:τ→Option (τ⊕β)} (φ:σ→τ) (h:∀s,g (φ s)=a71 φ (f s)) (s:σ):b8 g (φ s)=b8 f s:=e1d φ h _ s
theorem d2t (l:List Charge) (p amount:Int):qhr l p amount=qbk l p amount:=by
 have h:=b87 (f:=e3w) (g:=b1l) (fun s=>(s.2.1,s.2.2.1,s.1,(s.1.length:Int),s.2.2.2.1,s.2.2.2.2.1,())) (by
  rintro ⟨l,p,a,i,o,u⟩;simp only[e3w,b1l,a64];cases m7 l i with
  |none=>cases decide (i<(l.length:Int))<;>rfl
  |some x=>simp only[a64,b56,b57,b1s]) (l,p,amount,0,[],())
 unfold qhr qbk;rw[show b8 b1l (p,amount,l,(l.length:Int),0,([]:List Charge),())=_ from h]
 try rfl
theorem d2p (l:List Hold) (day:Int):qgb l day=qbo l day:=by
 have h:=b87 (f:=e3s) (g:=b0c) (fun s=>(s.2.1,s.1,(s.1.length:Int),s.2.2.1,s.2.2.2.1,())) (by
  rintro ⟨l,d,i,o,u⟩;simp only[e3s,b0c,a64];cases m7 l i with
  |none=>cases decide (i<(l.length:Int))<;>rfl
  |some x=>simp only[a64,b56,b57,b1s]) (l,day,0,[],())
 unfold qgb qbo;rw[show b8 b0c (day,l,(l.length:Int),0,([]:List Int),())=_ from h]
 try rfl
theorem f2x (p:Int):∀(l:List Charge) (r:Int),(b78 p l r).1.length≤l.length:=by
 intro l
 induction l with
 |nil=>intro r;exact yaF _
 |cons x l ih=>
  intro r;unfold b78;have h1:=ih r;have h2:=ih (r-(if x.Amount-x.Paid<r then x.Amount-x.Paid else r));cases x.Patron==p with
  |true=>
   simp only[yab];cases decide (x.Paid+(if x.Amount-x.Paid<r then x.Amount-x.Paid else r)<x.Amount) with
   |true=>simp only[yab,yaK];omega
   |false=>simp only[yaa,yaK];omega
  |false=>simp only[yaa,yaK];omega
theorem e24 {c:Circ} (hs:Short c) (h:FitP c) {p amount:Int}:a5z (qfv c p amount) (qhn c p amount):=by
 unfold qfv qhn;rw[c43 hs.patrons,a26 hs.patrons,d2t];have hc:=a57 h.charges;rw[f7a (by have:=hc.1;omega) hc.2];dsimp only;cases (a5d c.Patrons p).2 with
 |false=>exact n8
 |true=>
  simp only[yai,yaa];cases (decide (amount<1)||decide (100000000<amount)) with
  |true=>exact n8
  |false=>
   simp only[yaa,yah,yai];have:=f2x p c.Charges amount;exact ⟨_,_,_,rfl,rfl,d0e hs (l:=(b78 p c.Charges amount).1) (by have:=hs.charges;omega) c.NextCharge⟩
end
section
theorem h2f (d:Array Int) (hs:∀i j,i≤j→j<d.size→d[i]!≤d[j]!):∀m,m≤d.size→(Go.Lib.compactUpTo d m).Pairwise (fun a b=>a<b)∧(∀x,x∈Go.Lib.compactUpTo d m↔∃j,j<m∧d[j]! = x):=by
 intro m
 induction m with
 |zero=>intro _;simp[Go.Lib.compactUpTo]
 |succ m ih=>
  intro hm;obtain ⟨h1,h2⟩:=ih (by omega);have e:Go.Lib.compactUpTo d (m+1)=Go.Lib.compactUpTo d m++(if Go.Lib.keeps d m=true then [d[m]!] else []):=by
   unfold Go.Lib.compactUpTo;rw[List.range_succ,yb5,List.map_append];congr 1;simp only[ya9,List.filter_nil];split<;>rfl
  rw[e];by_cases hk:Go.Lib.keeps d m=true
  ·rw[yaP hk];have hk2:m=0∨¬d[m]! = d[m-1]!:=by
    unfold Go.Lib.keeps at hk;exact yaQ hk
   have hlt:∀x∈Go.Lib.compactUpTo d m,x<d[m]!:=by
    intro x hx;obtain ⟨j,hj,rfl⟩:=(h2 x).1 hx;have a:=hs j (m-1) (by omega) (by omega);have b:=hs (m-1) m (by omega) (by omega);rcases hk2 with h|h
    ·omega
    ·omega
   constructor
   ·rw[List.pairwise_append];refine ⟨h1,by simp,fun a ha b hb=>?_⟩;have:b=d[m]!:=by simpa using hb
    rw[this];exact hlt a ha
   ·intro x;rw[yas,h2];constructor
    ·rintro (⟨j,hj,e⟩|hx)
     ·exact ⟨j,by omega,e⟩
     ·have:x=d[m]!:=by simpa using hx
      exact ⟨m,by omega,this.symm⟩
    ·rintro ⟨j,hj,e⟩;by_cases hjm:j=m
     ·right;rw[←e,hjm];simp
     ·left;exact ⟨j,by omega,e⟩
  ·rw[yat hk,List.append_nil];have hk2:¬m=0∧d[m]! = d[m-1]!:=by
    unfold Go.Lib.keeps at hk;have:=fun h=>hk (decide_eq_true h)
    constructor
    ·intro h;exact this (.inl h)
    ·by_cases q:d[m]! = d[m-1]!
     ·exact q
     ·exact absurd (.inr q) this
   refine ⟨h1,fun x=>?_⟩;rw[h2];constructor
   ·rintro ⟨j,hj,e⟩;exact ⟨j,by omega,e⟩
   ·rintro ⟨j,hj,e⟩;by_cases hjm:j=m
    ·exact ⟨m-1,by omega,by rw[←e,hjm,hk2.2]⟩
    ·exact ⟨j,by omega,e⟩
theorem e97 (l:List Int):(Go.Lib.compact (l.mergeSort fun x y=>decide (x≤y))).Pairwise (fun a b=>a<b)∧∀x,x∈Go.Lib.compact (l.mergeSort fun x y=>decide (x≤y))↔x∈l:=by
 have hp:=List.pairwise_mergeSort (le:=fun x y:Int=>decide (x≤y)) (fun a b c h1 h2=>by simp only[yae]at *;omega) (fun a b=>by simp only[ybg,yae];omega) l;have hm:∀x,x∈(l.mergeSort fun x y=>decide (x≤y))↔x∈l:=fun x=>List.mem_mergeSort
 generalize (l.mergeSort fun x y=>decide (x≤y))=s at hp hm;have hget:∀i (h:i<s.length),s.toArray[i]! = s[i]:=fun i h=>by simp[h]
 obtain ⟨h1,h2⟩:=h2f s.toArray (fun i j hij hj=>by
  have hj2:j<s.length:=by simpa using hj
  rw[hget i (by omega),hget j hj2];by_cases e:i=j
  ·subst e;exact yb6 _
  ·have:=(ybd.1 hp) i j (by omega) hj2 (by omega);simpa using this) s.length (by simp)
 refine ⟨h1,fun x=>?_⟩;unfold Go.Lib.compact;rw[h2,←hm];constructor
 ·rintro ⟨j,hj,rfl⟩;rw[hget j hj];exact ybq hj
 ·intro hx;obtain ⟨j,hj,e⟩:=List.getElem_of_mem hx;exact ⟨j,hj,by rw[hget j hj,e]⟩
def e0m (day:Int) (o:Hold):Bool:=o.State==3&&decide (o.Until<day)
theorem c27 {X Y:Type} (q:X→Bool) (f:X→Y):∀(l:List X) (s:List Y),l.foldl (fun s x=>bif q x then s++[f x] else s) s=s++(l.filter q).map f:=by
 intro l
 induction l with
 |nil=>intro s;simp
 |cons x l ih=>
  intro s;rw[ya6,ih,ya9];cases q x<;>simp
theorem f7c {l:List Hold} {day:Int} (hl:l.length<1000000000):qbo l day=some ((l.filter (e0m day)).map (fun o=>o.ID)):=by
 have h:=o8 (step:=b0c) (fun (i:Nat) (s:List Int)=>s.length≤i) (fun i s=>(day,l,(l.length:Int),(i:Int),s,())) l
  (fun i x s=>.inl (bif e0m day x then s++[x.ID] else s)) (fun s=>(s,())) (by rw[j9];omega)
  (fun s _=>by simp only[b0c,dge,yaa])
  (fun i x s hx hi=>by
   have hlt:=(zL hx)
   have l1:∀z:Int,decide (s.length+([z]:List Int).length≤LIM)=true:=fun z=>a1d (by simp;omega)
   refine ⟨?_,fun s' hs'=>?_⟩
   ·simp -zeta only[b0c,dlt hlt,b9,hx,yab,p7,l1,g9 (show i<9223372036854775807 by omega)];unfold e0m;cases (x.State==3&&decide (x.Until<day))<;>rfl
   ·cases hs'
    cases e0m day x<;>simp<;>omega) [] (by simp)
 rw[y6,c27,yaZ]at h;unfold qbo;rw[show b8 b0c (day,l,(l.length:Int),0,([]:List Int),())=_ from h]
theorem f7d {c:Circ} (hs:Short c):qbp c=some (Go.Lib.compact (((c.Items.filter (fun x=>x.Custody.State==3)).map (fun x=>x.Record)).mergeSort fun x y=>decide (x≤y))):=by
 have hl:=hs.items;have h:=o8 (step:=b8p) (fun (i:Nat) (s:List Int)=>s.length≤i) (fun i s=>(c.Items,(c.Items.length:Int),(i:Int),s,())) c.Items
  (fun i x s=>.inl (bif x.Custody.State==3 then s++[x.Record] else s)) (fun s=>(s,())) (by rw[j9];omega)
  (fun s _=>by simp only[b8p,dge,yaa])
  (fun i x s hx hi=>by
   have hlt:=(zL hx)
   have l1:∀z:Int,decide (s.length+([z]:List Int).length≤LIM)=true:=fun z=>a1d (by simp;omega)
   refine ⟨?_,fun s' hs'=>?_⟩
   ·simp only[b8p,dlt hlt,b9,hx,yab,l1,g9 (show i<9223372036854775807 by omega)];cases x.Custody.State==3<;>rfl
   ·cases hs'
    cases x.Custody.State==3<;>simp<;>omega) [] (by simp)
 rw[y6,c27 (fun x:Item=>x.Custody.State==3),yaZ]at h;have hf:=yaw (fun x:Item=>x.Custody.State==3) c.Items;have l1:decide (((c.Items.filter (fun x=>x.Custody.State==3)).map (fun x=>x.Record)).length≤LIM)=true:=by rw[yae,ybc];unfold LIM;omega
 have l2:decide ((((c.Items.filter (fun x=>x.Custody.State==3)).map (fun x=>x.Record)).mergeSort fun x y=>decide (x≤y)).length≤LIM)=true:=by rw[yae,List.length_mergeSort,ybc];unfold LIM;omega
 unfold qbp;rw[show b8 b8p (c.Items,(c.Items.length:Int),0,([]:List Int),())=_ from h];simp only[qc3,qdk,l1,l2,yab]
theorem b97 {c:Circ} {id e:Int} (hs:Short c) (he:e≠0):qbu id ⟨c,e⟩=some (a5a (fun x=>x.ID==id) c.Items,⟨c,e⟩):=by
 have he2:(e==0)=false:=by simpa using he
 unfold qbu;simp only[d6c hs.items];cases decide (a5a (fun x:Item=>x.ID==id) c.Items<0) with
 |true=>simp only[yab,qo,he2,yaa]
 |false=>rfl
theorem b96 {c:Circ} (hs:Short c) (o:Hold) {e:Int} (he:e≠0):qc6 o ⟨c,e⟩=some ((),⟨c,e⟩):=by
 have he2:(e==0)=false:=by simpa using he
 unfold qc6;simp only[a4f c _ e he,b97 hs he,he2,yan,yab];cases !(o.State==3)<;>rfl
theorem c2s {ids:List Int} {n:Nat} {v:Circ} {c:Circ} {e:Int} (hn:ids.length=n) (hl:n<1000000000) (hs:Short c) (he:e≠0):∀k i:Nat,i+k=n→o0 a42 (k+1) (ids,(n:Int),(i:Int),v,⟨c,e⟩,())=some (v,⟨c,e⟩,()):=by
 intro k
 induction k with
 |zero=>
  intro i hi;have:i=n:=by omega
  subst this;simp only[o0,a42,dge,yaa]
 |succ k ih=>
  intro i hi;have hlt:i<n:=by omega
  have hx:ids[i]?=some (ids[i]'(by omega)):=yac (by omega);have hst:a42 (ids,(n:Int),(i:Int),v,⟨c,e⟩,())=some (.inl (ids,(n:Int),((i+1:Nat):Int),v,⟨c,e⟩,())):=by
   simp only[a42,dlt hlt,yab,b9,hx,b49 hs.holds,b96 hs _ he,g9 (show i<9223372036854775807 by omega)];cases (b2g c.Holds (ids[i]'(by omega))).2<;>rfl
  rw[o0,hst];exact ih (i+1) (by omega)
theorem f0c {ids:List Int} {n:Nat} {v:Circ} (hn:ids.length=n) (hl:n<1000000000) (hnd:ids.Nodup):∀(k i:Nat) (c:Circ),i+k=n→MidP c→a5n c→(∀id∈ids.drop i,∃o∈c.Holds,o.ID=id)→
 (∃d,o0 a42 (k+1) (ids,(n:Int),(i:Int),v,⟨c,0⟩,())=some (v,⟨d,0⟩,())∧o0 a44 (k+1) (ids,(i:Int),c,v,())=some (.inl (d,v,()))∧MidP d∧d.Items.map (fun x=>x.Record)=c.Items.map (fun x=>x.Record))∨
 (∃d e,e≠0∧Short d∧o0 a42 (k+1) (ids,(n:Int),(i:Int),v,⟨c,0⟩,())=some (v,⟨d,e⟩,())∧o0 a44 (k+1) (ids,(i:Int),c,v,())=some (.inr (e,o4,()))):=by
 intro k
 induction k with
 |zero=>
  intro i c hi h hr hh;have:i=n:=by omega
  subst this;refine .inl ⟨c,?_,?_,h,rfl⟩
  ·simp only[o0,a42,dge,yaa]
  ·simp only[o0,a44,hn,dge,yaa]
 |succ k ih=>
  intro i c hi h hr hh;have hlt:i<n:=by omega
  have hdrop:ids.drop i=ids[i]'(by omega)::ids.drop (i+1):=ya4 (by omega);have hx:ids[i]?=some (ids[i]'(by omega)):=yac (by omega);rw[hdrop]at hh;have hnd2:(ids.drop i).Nodup:=List.Nodup.sublist (List.drop_sublist i ids) hnd;rw[hdrop,List.nodup_cons]at hnd2;generalize ids[i]'(by omega)=x at hx hh hnd2 hdrop;obtain ⟨o,ho,hid⟩:=hh x (yaz ..);subst hid;have hg:=a5j h.sorted ho;have hsu:=g9 (show i<9223372036854775807 by omega);rcases d0n h ho (hr o ho) with ⟨d,a1,a2,hd,⟨b,rfl,hf⟩,hrd⟩|⟨d,e,he,a1,a2,hsd⟩
  ·have s1:a42 (ids,(n:Int),(i:Int),v,⟨c,0⟩,())=some (.inl (ids,(n:Int),((i+1:Nat):Int),v,⟨d,0⟩,())):=by
    simp only[a42,dlt hlt,yab,b9,hx,b49 h.short.holds,hg,a1,hsu]
   have s2:a44 (ids,(i:Int),c,v,())=some (.inl (ids,((i+1:Nat):Int),d,v,())):=by
    simp only[a44,hn,dlt hlt,yab,b9,hx,a2,yah,yai,yaa,hsu]
   have hd2:∀id∈ids.drop (i+1),∃p∈d.Holds,p.ID=id:=by
    intro id hid;obtain ⟨p,hp,e⟩:=hh id (yaC _ hid);have hne:¬p.ID=o.ID:=by
     intro q;rw[e]at q;rw[q]at hid;exact hnd2.1 hid
    have hp2:p∈c.Holds.filter (fun x=>!(x.ID==o.ID)):=yax.2 ⟨hp,by simpa using hne⟩;have hk:a05 p∈d.Holds.map a05:=by rw[hf.holds];exact List.mem_map_of_mem hp2
    obtain ⟨p',hp',e'⟩:=ya8.1 hk;unfold a05 at e';simp only[yaM]at e';exact ⟨p',hp',e'.1.trans e⟩
   rw[o0,o0,s1,s2];rcases ih (i+1) d (by omega) hd (hrd hr) hd2 with ⟨d2,b1,b2,b3,b4⟩|⟨d2,e,he,hsd,b1,b2⟩
   ·exact .inl ⟨d2,b1,b2,b3,b4.trans hf.recs⟩
   ·exact .inr ⟨d2,e,he,hsd,b1,b2⟩
  ·have he2:(e==0)=false:=by simpa using he
   have s1:a42 (ids,(n:Int),(i:Int),v,⟨c,0⟩,())=some (.inl (ids,(n:Int),((i+1:Nat):Int),v,⟨d,e⟩,())):=by
    simp only[a42,dlt hlt,yab,b9,hx,b49 h.short.holds,hg,a1,hsu]
   have s2:a44 (ids,(i:Int),c,v,())=some (.inr (.inr (e,o4,()))):=by
    simp only[a44,hn,dlt hlt,yab,b9,hx,a2,he2,yan,yaa]
    try rfl
   rw[o0,o0,s1,s2];exact .inr ⟨d,e,he,hsd,c2s hn hl hsd he k (i+1) (by omega),rfl⟩
def a5t (last:Int) (l:List Item) (r:Int):Int:=l.foldl (fun r x=>bif (x.Custody.State==3&&decide (last<x.Record))&&(r==0||decide (x.Record<r)) then x.Record else r) r
theorem a8f (last:Int):∀(l:List Item) (r:Int),(∀x∈l,1≤x.Record)→
 (a5t last l r=r∨∃x∈l,x.Custody.State=3∧last<x.Record∧a5t last l r=x.Record)∧(∀x∈l,x.Custody.State=3→last<x.Record→a5t last l r≠0∧a5t last l r≤x.Record)∧(r≠0→a5t last l r≠0∧a5t last l r≤r):=by
 intro l
 induction l with
 |nil=>intro r _;exact ⟨.inl rfl,by simp,fun h=>⟨h,yb6 _⟩⟩
 |cons y l ih=>
  intro r hr;have hy:=hr y (yaz ..);have ih:=fun r=>ih r (fun x hx=>hr x (yaC _ hx))
  have e:a5t last (y::l) r=a5t last l (bif (y.Custody.State==3&&decide (last<y.Record))&&(r==0||decide (y.Record<r)) then y.Record else r):=rfl;rw[e];cases hq:(y.Custody.State==3&&decide (last<y.Record))&&(r==0||decide (y.Record<r)) with
  |true=>
   simp only[yab];simp only[yad,ybg,yba,yae]at hq;obtain ⟨h1,h2,h3⟩:=ih y.Record;have h3:=h3 (by omega);refine ⟨?_,?_,fun h=>⟨h3.1,by rcases hq.2 with q|q<;>omega⟩⟩
   ·rcases h1 with h1|⟨x,hx,a,b,c⟩
    ·exact .inr ⟨y,yaz ..,hq.1.1,hq.1.2,h1⟩
    ·exact .inr ⟨x,yaC _ hx,a,b,c⟩
   ·intro x hx a b;rcases yaN.1 hx with rfl|hx
    ·exact h3
    ·exact h2 x hx a b
  |false=>
   simp only[yaa];obtain ⟨h1,h2,h3⟩:=ih r;refine ⟨?_,?_,h3⟩
   ·rcases h1 with h1|⟨x,hx,a,b,c⟩
    ·exact .inl h1
    ·exact .inr ⟨x,yaC _ hx,a,b,c⟩
   ·intro x hx a b;rcases yaN.1 hx with rfl|hx
    ·have a2:(x.Custody.State==3)=true:=by simpa using a
     have b2:decide (last<x.Record)=true:=by simpa using b
     rw[a2,b2]at hq;simp only[ybS,ya1,yaj,yaT,ne_eq,yag]at hq;have h3:=h3 hq.1;exact ⟨h3.1,by omega⟩
    ·exact h2 x hx a b
theorem a4t {last:Int} {c v:Circ} (hl:c.Items.length<1000000000):b8 b5k (last,0,0,c,v,())=some (a5t last c.Items 0,c,v,()):=by
 have h:=a65 (step:=b5k) (fun i (s:Int)=>(last,s,(i:Int),c,v,())) c.Items (fun x r=>bif (x.Custody.State==3&&decide (last<x.Record))&&(r==0||decide (x.Record<r)) then x.Record else r) (fun s=>(s,c,v,())) hl
  (fun s=>by simp only[b5k,dge,yaa])
  (fun i x s hx=>by
   have hi:=(zL hx)
   simp only[b5k,dlt hi,yab,b9,hx,g9 (show i<9223372036854775807 by omega)];cases x.Custody.State==3<;>cases decide (last<x.Record)<;>cases s==0<;>cases decide (x.Record<s)<;>rfl) 0
 exact h
theorem d0h {all:List Int} {n:Nat} {v:Circ} {c:Circ} {e:Int} (hn:all.length=n) (hl:n<1000000000) (he:e≠0):∀k i:Nat,i+k=n→o0 a2c (k+1) (all,(n:Int),(i:Int),v,⟨c,e⟩,())=some (v,⟨c,e⟩,()):=by
 intro k
 induction k with
 |zero=>
  intro i hi;have:i=n:=by omega
  subst this;simp only[o0,a2c,dge,yaa]
 |succ k ih=>
  intro i hi;have hlt:i<n:=by omega
  have hx:all[i]?=some (all[i]'(by omega)):=yac (by omega);have hst:a2c (all,(n:Int),(i:Int),v,⟨c,e⟩,())=some (.inl (all,(n:Int),((i+1:Nat):Int),v,⟨c,e⟩,())):=by
   simp only[a2c,dlt hlt,yab,b9,hx,a3q c _ e he,g9 (show i<9223372036854775807 by omega)]
  rw[o0,hst];exact ih (i+1) (by omega)
theorem h7a {all:List Int} {n:Nat} {v w:Circ} (hn:all.length=n) (hl:n<1000000000):∀(k i:Nat) (last:Int) (c:Circ),i+k=n→MidP c→(∀x∈c.Items,1≤x.Record)→
 (∀r,last<r→(r∈all.drop i↔∃x∈c.Items,x.Custody.State=3∧x.Record=r))→(∀r∈all.drop i,last<r)→(all.drop i).Pairwise (fun a b=>a<b)→
 (∃d,o0 a2c (k+1) (all,(n:Int),(i:Int),v,⟨c,0⟩,())=some (v,⟨d,0⟩,())∧o0 a2p (k+1) (last,c,w,())=some (0,d,())∧MidP d)∨
 (∃d e,e≠0∧Short d∧o0 a2c (k+1) (all,(n:Int),(i:Int),v,⟨c,0⟩,())=some (v,⟨d,e⟩,())∧o0 a2p (k+1) (last,c,w,())=some (e,o4,())):=by
 intro k
 induction k with
 |zero=>
  intro i last c hi h hr hall hlast hp;have:i=n:=by omega
  subst this;have hnil:all.drop i=[]:=List.drop_eq_nil_of_le (by omega);obtain ⟨q1,q2,q3⟩:=a8f last c.Items 0 hr;have h0:a5t last c.Items 0=0:=by
   rcases q1 with q1|⟨x,hx,a,b,-⟩
   ·exact q1
   ·have:=(hall x.Record b).2 ⟨x,hx,a,rfl⟩;rw[hnil]at this;cases this
  refine .inl ⟨c,?_,?_,h⟩
  ·simp only[o0,a2c,dge,yaa]
  ·simp only[o0,a2p,a4t h.short.items,h0,yah,yab]
 |succ k ih=>
  intro i last c hi h hr hall hlast hp;have hlt:i<n:=by omega
  have hdrop:all.drop i=all[i]'(by omega)::all.drop (i+1):=ya4 (by omega);have hx:all[i]?=some (all[i]'(by omega)):=yac (by omega);rw[hdrop]at hall hlast hp;generalize all[i]'(by omega)=r at hx hall hlast hp hdrop;rw[List.pairwise_cons]at hp;have hlr:=hlast r (yaz ..);obtain ⟨x0,hx0,s0,rfl⟩:=(hall r hlr).1 (yaz ..);obtain ⟨q1,q2,q3⟩:=a8f last c.Items 0 hr;have hnext:a5t last c.Items 0=x0.Record:=by
   have a:=q2 x0 hx0 s0 hlr;rcases q1 with q1|⟨y,hy,b1,b2,b3⟩
   ·exact absurd q1 a.1
   ·have:=(hall y.Record b2).2 ⟨y,hy,b1,rfl⟩;rcases yaN.1 this with e|e
    ·rw[b3,e]
    ·have:=hp.1 _ e;have:=a.2;omega
  have hpos:=hr x0 hx0;have hne:(x0.Record==0)=false:=by
   have:¬x0.Record=0:=by omega
   simpa using this
  have hsu:=g9 (show i<9223372036854775807 by omega);rcases b51 h x0.Record with ⟨d,a1,a2,hd,hf,hrest⟩|⟨d,e,he,a1,a2,hsd⟩
  ·have s1:a2c (all,(n:Int),(i:Int),v,⟨c,0⟩,())=some (.inl (all,(n:Int),((i+1:Nat):Int),v,⟨d,0⟩,())):=by
    simp only[a2c,dlt hlt,yab,b9,hx,a1,hsu]
   have s2:a2p (last,c,w,())=some (.inl (x0.Record,d,w,())):=by
    simp only[a2p,a4t h.short.items,hnext,hne,yaa,a2,yah,yai]
   rw[o0,o0,s1,s2];have back:∀(j:Nat) (y:Item),d.Items[j]?=some y→∃y',c.Items[j]?=some y'∧y'.Record=y.Record:=by
    intro j y hy;have h1:(d.Items.map (fun x=>x.Record))[j]?=some y.Record:=by rw[yaH,hy];rfl
    rw[hrest.1,yaH]at h1;cases hc:c.Items[j]? with
    |none=>rw[hc]at h1;cases h1
    |some y'=>rw[hc]at h1;exact ⟨y',rfl,by simpa using h1⟩
   have hr2:∀x∈d.Items,1≤x.Record:=by
    intro y hy;obtain ⟨j,hj⟩:=yau hy;obtain ⟨y',hy',e⟩:=back j y hj;rw[←e];exact hr y' (yaf hy')
   have hall2:∀r,x0.Record<r→(r∈all.drop (i+1)↔∃x∈d.Items,x.Custody.State=3∧x.Record=r):=by
    intro r hlr2;constructor
    ·intro hm;obtain ⟨y,hy,b1,b2⟩:=(hall r (by omega)).1 (yaC _ hm);obtain ⟨j,hj⟩:=yau hy;exact ⟨y,yaf (hrest.2 j y hj (by omega)),b1,b2⟩
    ·rintro ⟨y,hy,b1,b2⟩;obtain ⟨j,hj⟩:=yau hy;obtain ⟨y',hy',e⟩:=back j y hj;have h3:=hrest.2 j y' hy' (by omega);rw[hj]at h3;cases h3
     have:=(hall r (by omega)).2 ⟨y,yaf hy',b1,b2⟩;rcases yaN.1 this with e2|e2
     ·omega
     ·exact e2
   rcases ih (i+1) x0.Record d (by omega) hd hr2 hall2 hp.1 hp.2 with ⟨d2,b1,b2,b3⟩|⟨d2,e,he,hsd,b1,b2⟩
   ·exact .inl ⟨d2,b1,b2,b3⟩
   ·exact .inr ⟨d2,e,he,hsd,b1,b2⟩
  ·have he2:(e==0)=false:=by simpa using he
   have s1:a2c (all,(n:Int),(i:Int),v,⟨c,0⟩,())=some (.inl (all,(n:Int),((i+1:Nat):Int),v,⟨d,e⟩,())):=by
    simp only[a2c,dlt hlt,yab,b9,hx,a1,hsu]
   have s2:a2p (last,c,w,())=some (.inr (e,o4,())):=by
    simp only[a2p,a4t h.short.items,hnext,hne,yaa,a2,he2,yan,yab]
    try rfl
   rw[o0,o0,s1,s2];exact .inr ⟨d,e,he,hsd,d0h hn hl he k (i+1) (by omega),rfl⟩
def a1b (c:Circ) (n:Int):Circ:=⟨n,c.Items,c.Patrons,c.Loans,c.Holds,c.Charges,c.Rules,c.Cals,c.Moves,c.NextHold,c.NextCharge,c.Local⟩
theorem e7m {c:Circ} (h:MidP c) (n:Int):MidP (a1b c n):=by
 obtain ⟨⟨a1,a2,a3,a4,a5,a6,a7,a8,a9,a10,a11,a12,a13⟩,h2,h3,h4,h5,h6,h7,h8,h9,h10,h11⟩:=h;exact ⟨⟨a1,a2,a3,a4,a5,a6,a7,a8,a9,a10,a11,a12,a13⟩,h2,h3,h4,h5,h6,h7,h8,h9,h10,h11⟩
theorem c7w {c:Circ} (h:FitP c) {x:Item} (hx:x∈c.Items):1≤x.Record:=by
 have h:=h.items;unfold a16 at h;simp only[yad]at h;obtain ⟨i,hi⟩:=yau hx;have:=(a4n.1 h.2.1) i x hi;rw[yaE]at this;simp only[yar,yaj,yaI]at this;have h2:=this.1;unfold a06 at h2;simp only[yad,w6]at h2;omega
theorem b5s (d:Circ):(Go.Lib.compact (((d.Items.filter (fun x=>x.Custody.State==3)).map (fun x=>x.Record)).mergeSort fun x y=>decide (x≤y))).length≤d.Items.length:=by
 have q1:∀(l:List Int) (k:Nat),(Go.Lib.compactUpTo l.toArray k).length≤k:=by
  intro l k;unfold Go.Lib.compactUpTo;rw[ybc];have:=yaw (Go.Lib.keeps l.toArray) (List.range k);rw[List.length_range]at this;exact this
 have q2:=q1 (((d.Items.filter (fun x=>x.Custody.State==3)).map (fun x=>x.Record)).mergeSort fun x y=>decide (x≤y)) (((d.Items.filter (fun x=>x.Custody.State==3)).map (fun x=>x.Record)).mergeSort fun x y=>decide (x≤y)).length;unfold Go.Lib.compact;rw[List.length_mergeSort,ybc]at q2;have:=yaw (fun x:Item=>x.Custody.State==3) d.Items;rw[List.length_mergeSort,ybc];omega
theorem e0j {c:Circ} (m:MidP c) (h:FitP c) (hh:c.Holds.length<100000) (hi:c.Items.length<100000) (hrec:∀x∈c.Items,1≤x.Record):a8q (qah c) (qho c):=by
 unfold qah qho;simp only[d2p,qac];cases decide (109572≤c.Today) with
 |true=>exact o7
 |false=>
  simp only[yaa,f7c m.short.holds];have m1:=e7m m (wr .i64 (c.Today+1));have r1:a5n (a1b c (wr .i64 (c.Today+1))):=fun o ho hs=>b7o h ho hs
  have hmem:∀id∈(c.Holds.filter (e0m (wr .i64 (c.Today+1)))).map (fun o=>o.ID),∃o∈(a1b c (wr .i64 (c.Today+1))).Holds,o.ID=id:=by
   intro id hid;obtain ⟨o,ho,e⟩:=ya8.1 hid;exact ⟨o,(yax.1 ho).1,e⟩
  have hnd:((c.Holds.filter (e0m (wr .i64 (c.Today+1)))).map (fun o=>o.ID)).Nodup:=by
   have h1:=(a63.1 m.sorted).filter (e0m (wr .i64 (c.Today+1)));rw[List.nodup_iff_pairwise_ne,ybv];exact h1.imp (fun h=>by omega)
  have hlen:((c.Holds.filter (e0m (wr .i64 (c.Today+1)))).map (fun o=>o.ID)).length<1000000:=by
   rw[ybc];have:=yaw (e0m (wr .i64 (c.Today+1))) c.Holds;omega
  generalize (c.Holds.filter (e0m (wr .i64 (c.Today+1)))).map (fun o=>o.ID)=ids at hmem hnd hlen;rw[show {c with Today:=wr .i64 (c.Today+1)}=a1b c (wr .i64 (c.Today+1)) from rfl];have hrec1:∀r∈(a1b c (wr .i64 (c.Today+1))).Items.map (fun x=>x.Record),1≤r:=by
   intro r hr;obtain ⟨x,hx,rfl⟩:=ya8.1 hr;exact hrec x hx
  have hil:(a1b c (wr .i64 (c.Today+1))).Items.length<100000:=hi;generalize a1b c (wr .i64 (c.Today+1))=c1 at m1 r1 hmem hrec1 hil;rcases f0c (v:=o4) (n:=ids.length) rfl (by omega) hnd ids.length 0 c1 (by omega) m1 r1 (by rw[ybz];exact hmem) with ⟨d,a1,a2,hd,hrd⟩|⟨d,e,he,hsd,a1,a2⟩
  ·have w1:=o5 _ (by rw[j9];omega) a1;have w2:=o5 _ (by rw[j9];omega) a2;rw[show b8 a42 (ids,(ids.length:Int),0,ZN,⟨c1,0⟩,())=_ from w1,
    show b8 a44 (ids,0,c1,ZN,())=_ from w2]
   simp only[f7d hd.short];have hcs:=e97 ((d.Items.filter (fun x=>x.Custody.State==3)).map (fun x=>x.Record));have hcl:=b5s d;have hdi:=hd.short.items;generalize Go.Lib.compact (((d.Items.filter (fun x=>x.Custody.State==3)).map (fun x=>x.Record)).mergeSort fun x y=>decide (x≤y))=all at hcs hcl;have hrd2:∀x∈d.Items,1≤x.Record:=fun x hx=>hrec1 _ (by rw[←hrd];exact List.mem_map_of_mem hx)
   have hall:∀r,r∈all↔∃x∈d.Items,x.Custody.State=3∧x.Record=r:=by
    intro r;rw[hcs.2,ya8];constructor
    ·rintro ⟨x,hx,e⟩;have:=yax.1 hx;exact ⟨x,this.1,by simpa using this.2,e⟩
    ·rintro ⟨x,hx,hs,e⟩;exact ⟨x,yax.2 ⟨hx,by simpa using hs⟩,e⟩
   rcases h7a (v:=o4) (w:=o4) (n:=all.length) rfl (by omega) all.length 0 0 d (by omega) hd hrd2 (fun r _=>by rw[ybz];exact hall r) (fun r hr=>by
    rw[ybz]at hr;obtain ⟨x,hx,-,e⟩:=(hall r).1 hr;have:=hrd2 x hx;omega) (by rw[ybz];exact hcs.1) with ⟨d2,b1,b2,hd2⟩|⟨d2,e,he,hsd,b1,b2⟩
   ·have w1:=o5 _ (by rw[j9];omega) b1;have w2:=o5 _ (by rw[j9];omega) b2;rw[show b8 a2c (all,(all.length:Int),0,o4,⟨d,0⟩,())=_ from w1,show b8 a2p (0,d,o4,())=_ from w2];exact ⟨d2,0,rfl,rfl,hd2.short⟩
   ·have w1:=o5 _ (by rw[j9];omega) b1;have w2:=o5 _ (by rw[j9];omega) b2;rw[show b8 a2c (all,(all.length:Int),0,o4,⟨d,0⟩,())=_ from w1,show b8 a2p (0,d,o4,())=_ from w2];simp only[n9 d2 e he];exact o7
  ·have w1:=o5 _ (by rw[j9];omega) a1;have w2:=o5 _ (by rw[j9];omega) a2;rw[show b8 a42 (ids,(ids.length:Int),0,ZN,⟨c1,0⟩,())=_ from w1,
    show b8 a44 (ids,0,c1,ZN,())=_ from w2]
   simp only[f7d hsd];have hcl:=b5s d;have hdi:=hsd.items;generalize Go.Lib.compact (((d.Items.filter (fun x=>x.Custody.State==3)).map (fun x=>x.Record)).mergeSort fun x y=>decide (x≤y))=all at hcl;have w3:=o5 _ (by rw[j9];omega) (d0h (all:=all) (v:=o4) (c:=d) rfl (by omega) he all.length 0 (by omega));rw[show b8 a2c (all,(all.length:Int),0,o4,⟨d,e⟩,())=_ from w3];simp only[n9 d e he];exact o7
end
section
theorem b1p (m:Move) (item:Int):∀(l:List Move) (i:Nat) (c:Custody),
 a0x i (l++[m]) item c=(match a0x i l item c with
  |.inl c'=>bif m.Item==item then (bif (s7 c' m).2==0 then .inl (s7 c' m).1 else .inr (((i+l.length:Nat):Int),(s7 c' m).2)) else .inl c'
  |.inr p=>.inr p):=by
 intro l
 induction l with
 |nil=>
  intro i c;simp only[yaZ,a0x,ybP,ybj]
 |cons x l ih=>
  intro i c;simp only[yb0,a0x];rw[ih,ih];have e:i+1+l.length=i+(x::l).length:=by simp;omega
  rw[e];cases x.Item==item with
  |false=>rfl
  |true=>
   simp only[yab];cases (s7 c x).2==0<;>rfl
theorem c5s {branch:Int} {l:List Move} {m:Move} {item:Int} (h:(m.Item==item)=false) (hr:(a1m branch l item).2.2=0):a1m branch (l++[m]) item=a1m branch l item:=by
 unfold a1m at *;rw[b1p,h];cases decide (branch<1)||decide (4<branch) with
 |true=>rfl
 |false=>cases a0x 0 l item (c07 branch)<;>rfl
theorem c8v {branch:Int} {l:List Move} {m:Move} {item:Int} {u:Custody} (h:m.Item=item) (hr:(a1m branch l item).2.2=0) (ha:s7 (a1m branch l item).1 m=(u,0)):a1m branch (l++[m]) item=(u,-1,0):=by
 unfold a1m at *;rw[b1p,show (m.Item==item)=true by simpa using h];cases hb:(decide (branch<1)||decide (4<branch)) with
 |true=>rw[hb]at hr;cases hr
 |false=>
  rw[hb]at hr ha;simp only[yaa]at hr ha ⊢;cases hf:a0x 0 l item (c07 branch) with
  |inr p=>
   obtain ⟨i,e⟩:=p;rw[hf]at hr ha;simp only at hr ha;subst hr;exact absurd hf (by
    have key:∀(l:List Move) (i:Nat) (c:Custody) (j:Int),a0x i l item c≠.inr (j,0):=by
     intro l
     induction l with
     |nil=>intro i c j h;cases h
     |cons x l ih=>
      intro i c j h;unfold a0x at h;cases hx:x.Item==item with
      |false=>rw[hx]at h;exact ih _ _ _ h
      |true=>
       rw[hx]at h;simp only[yab]at h;cases hz:(s7 c x).2==0 with
       |true=>rw[hz]at h;exact ih _ _ _ h
       |false=>
        rw[hz]at h;simp only[yaa]at h;have h2:=Sum.inr.inj h;have h3:(s7 c x).2=0:=(Prod.mk.inj h2).2;rw[h3]at hz;cases hz
    exact key _ _ _ _)
  |inl c'=>
   rw[hf]at ha;simp only at ha ⊢;rw[ha]
   try rfl
def b84 (x:Item) (u:Custody) (z:Item):Item:=bif z.ID==x.ID then y0 u z else z
theorem d21 {l:List Item} {i:Nat} {x:Item} {u:Custody} (hi:∀(i:Nat) (x:Item) (j:Nat) (y:Item),l[i]?=some x→l[j]?=some y→x.ID=y.ID→i=j) (hx:l[i]?=some x):l.set i (y0 u x)=l.map (b84 x u):=by
 apply List.ext_getElem?;intro j;rw[yaH];by_cases e:i=j
 ·subst e;rw[ybs (zL hx),hx];unfold b84;simp
 ·rw[List.getElem?_set_ne e];cases hj:l[j]? with
  |none=>rfl
  |some y=>
   have:(y.ID==x.ID)=false:=by
    rw[yaT];intro q;exact e (hi i x j y hx hj q.symm)
   show some y=some (b84 x u y)
   unfold b84;rw[this];rfl
theorem c1d (x:Item) (u:Custody) (z:Item):(b84 x u z).ID=z.ID:=by unfold b84;cases z.ID==x.ID<;>rfl
theorem d6q (x:Item) (u:Custody) (z:Item):a06 (b84 x u z)=a06 z:=by unfold b84;cases z.ID==x.ID<;>rfl
theorem c87 (x:Item) (u:Custody) (z:Item):(b84 x u z).Branch=z.Branch:=by unfold b84;cases z.ID==x.ID<;>rfl
theorem c2z (x:Item) (u:Custody) (id:Int) (l:List Item):(l.map (b84 x u)).find? (fun z=>z.ID==id)=(l.find? (fun z=>z.ID==id)).map (b84 x u):=by
 rw[List.find?_map];congr 2;funext z;show ((b84 x u z).ID==id)=_
 rw[c1d]
theorem e28 {X Y:Type} (g:X→Y) (f:Y→Bool) (l:List X) (i:Nat):u9 (l.map g) i f=u9 l i (fun z=>f (g z)):=by
 unfold u9;cases i with
 |zero=>rfl
 |succ j=>
  simp only;rw[yaH];cases l[j]?<;>rfl
theorem d4s {c:Circ} (h:a16 c=true) (hi:∀(i:Nat) (x:Item) (j:Nat) (y:Item),c.Items[i]?=some x→c.Items[j]?=some y→x.ID=y.ID→i=j) {i:Nat} {x:Item} (hx:c.Items[i]?=some x) {m:Move} {u:Custody}
 (hm:m.Item=x.ID) (ha:s7 x.Custody m=(u,0)) (hl:c.Moves.length<2000):a16 (t7 c i x m u)=true:=by
 have hall:=fun (y:Item) (hy:y∈c.Items)=>b1f h hy
 have hmem:=yaf hx;unfold a16 at h ⊢;simp only[yad]at h ⊢;obtain ⟨h1,h2,h3,h4⟩:=h;have hit:(t7 c i x m u).Items=c.Items.map (b84 x u):=d21 hi hx;have hmv:(t7 c i x m u).Moves=c.Moves++[m]:=rfl;rw[hit,hmv];refine ⟨?_,?_,?_,?_⟩
 ·rw[ybc,yaX];simp only[yar,yaj,yag]at h1 ⊢;refine ⟨h1.1,?_⟩;simp;omega
 ·rw[a4n]at h2 ⊢;intro k y hk;rw[yaH]at hk;cases hz:c.Items[k]? with
  |none=>rw[hz]at hk;cases hk
  |some z=>
   rw[hz]at hk;cases hk
   have:=h2 k z hz;rw[d6q,e28,c1d];simp only[c1d];exact this
 ·unfold c73 at h3 ⊢;rw[hmv,hit,List.all_append];simp only[yad,yam]at h3 ⊢;refine ⟨fun w hw=>?_,fun w hw=>?_⟩
  ·rw[c2z,Option.isSome_map];exact h3 w hw
  ·have:w=m:=by simpa using hw
   subst this;rw[c2z,Option.isSome_map,hm,List.find?_isSome];exact ⟨x,hmem,by simp⟩
 ·rw[yam];intro y hy;obtain ⟨z,hz,rfl⟩:=ya8.1 hy;have hr:=hall z hz;unfold a2k at hr ⊢;simp only[yar,yaj,yaI,yba]at hr ⊢;obtain ⟨r1,r2⟩:=hr;have r2:=a23.1 r2;rw[hmv,c87,c1d];cases hq:z.ID==x.ID with
  |true=>
   have hid:z.ID=x.ID:=by simpa using hq
   have hzx:z=x:=by
    obtain ⟨j,hj⟩:=List.mem_iff_getElem?.1 hz;have:=hi j z i x hj hx hid;subst this;rw[hx]at hj;cases hj;rfl
   subst hzx;have:=c8v (branch:=z.Branch) (l:=c.Moves) (item:=z.ID) hm r1 (by rw[r2];exact ha);rw[this];refine ⟨rfl,?_⟩;rw[a23];unfold b84;rw[hq];rfl
  |false=>
   have hmz:(m.Item==z.ID)=false:=by
    rw[hm,yaT];rw[yaT]at hq;exact fun e=>hq e.symm
   rw[c5s hmz r1];refine ⟨r1,?_⟩;rw[a23,r2];unfold b84;rw[hq];rfl
end
section
theorem g91 {X:Type} (key:X→Int) {l:List X}:(∀i x,l[i]?=some x→u9 l i (fun y=>decide (key x≤key y))=false)↔l.Pairwise (fun a b=>key a<key b):=by
 constructor
 ·intro h;rw[ybd];intro i j hi hj hij;exact a18 (key:=key) h j i l[i] l[j] hij (yac hi) (yac hj)
 ·intro h i x hx;cases i with
  |zero=>rfl
  |succ j=>
   unfold u9;simp only;have hi:=(yaL.1 hx)
   have hj:j<l.length:=by have:=hi.1;omega
   rw[yac hj];have:=(ybd.1 h) j (j+1) hj hi.1 (by omega);rw[hi.2]at this;simp only[yag];omega
theorem h7c {X:Type} (key:X→Int) (sh:X→Int) {l:List X}:a0g (fun i x=>bif u9 l i (fun y=>decide (key x≤key y)) then 7 else sh x) 0 l=0↔(∀x∈l,sh x=0)∧l.Pairwise (fun a b=>key a<key b):=by
 rw[b7i,←g91 key];constructor
 ·intro h;have h2:∀i x,l[i]?=some x→u9 l i (fun y=>decide (key x≤key y))=false:=fun i x hx=>by
   have:=h i x hx;rw[yaE]at this;exact a0n this (by decide)
  refine ⟨fun x hx=>?_,h2⟩;obtain ⟨i,hi⟩:=yau hx;have:=h i x hi;rw[yaE,h2 i x hi]at this;exact this
 ·rintro ⟨h1,h2⟩ i x hx;rw[yaE,h2 i x hx];exact h1 x (yaf hx)
theorem c6t {n:Nat} {m:Int} {e:Int}:(bif decide (m<(n:Int)) then (13:Int) else e)=0↔(n:Int)≤m∧e=0:=by
 by_cases h:m<(n:Int)
 ·rw[decide_eq_true h];constructor
  ·intro h;cases h
  ·rintro ⟨h2,-⟩;omega
 ·rw[decide_eq_false h];exact ⟨fun e=>⟨by omega,e⟩,fun e=>e.2⟩
def a96 (x:Loan):Int:=bif decide (x.Item<1)||decide (9999<x.Item)||decide (x.Patron<1)||decide (9999<x.Patron)||decide (x.Out<0)||decide (109572<x.Out)||decide (x.Due<0)||decide (109572<x.Due)||decide (x.Due<x.Out)||decide (x.Renewals<0)||decide (10<x.Renewals) then 2 else 0
theorem a7q {l:List Loan}:o9 l=0↔(l.length:Int)≤64∧(∀x∈l,a96 x=0)∧l.Pairwise (fun a b=>a.Item<b.Item):=by
 unfold o9;rw[c6t];exact and_congr Iff.rfl (h7c (fun x:Loan=>x.Item) a96)
theorem a9p {l:List Charge}:s8 l=0↔(l.length:Int)≤128∧(∀x∈l,a0u x=0)∧l.Pairwise (fun a b=>a.ID<b.ID):=by
 unfold s8;rw[c6t];exact and_congr Iff.rfl (h7c (fun x:Charge=>x.ID) a0u)
theorem c7p (l:List Hold):a0w l=fun i x=>bif u9 l i (fun y=>decide (x.ID≤y.ID)) then 7 else p9 x:=by
 funext i x;rw[a4g]
theorem d3b {l:List Hold}:a2u l=true↔l.Pairwise (fun a b=>a0d b a=false):=by
 unfold a2u;rw[a4n,ybd];constructor
 ·intro h i j hi hj hij;have:=h j l[j] (yac hj);rw[yaE,yam]at this;have h2:=this l[i] (by rw[List.mem_take_iff_getElem];exact ⟨i,by omega,rfl⟩);simpa using h2
 ·intro h i x hx;rw[yaE,yam];intro y hy;rw[List.mem_take_iff_getElem]at hy;obtain ⟨j,hj,rfl⟩:=hy;obtain ⟨hi,rfl⟩:=yaL.1 hx;have:=h j i (by omega) hi (by omega);simpa using this
theorem a9y {l:List Hold}:t6 l=0↔(l.length:Int)≤64∧((∀x∈l,p9 x=0)∧l.Pairwise (fun a b=>a.ID<b.ID))∧l.Pairwise (fun a b=>a0d b a=false):=by
 unfold t6;rw[c6t,←d3b,←h7c (fun x:Hold=>x.ID) p9,←c7p];refine and_congr Iff.rfl ?_;by_cases e:a0g (a0w l) 0 l=0
 ·rw[e];cases a2u l<;>simp
 ·have h2:(a0g (a0w l) 0 l==0)=false:=by simpa using e
  rw[h2];exact ⟨fun h=>absurd h e,fun h=>absurd h.1 e⟩
theorem a6p {b:Bool} {n m:Int} (hn:n≠0):(bif b then n else m)=0↔b=false∧m=0:=by
 cases b with
 |true=>exact ⟨fun h=>absurd h hn,fun h=>by cases h.1⟩
 |false=>exact ⟨fun h=>⟨rfl,h⟩,fun h=>h.2⟩
theorem g4f {p:Prop} [Decidable p] {n m:Int}:(decide p=!(n==m))↔(p↔¬n=m):=by
 by_cases h:p<;>by_cases k:n=m<;>simp[h,k]
theorem g4d {p:Prop} [Decidable p] {n m:Int}:(decide p=(n==m))↔(p↔n=m):=by
 by_cases h:p<;>by_cases k:n=m<;>simp[h,k]
theorem e7e {h:Hold}:p9 h=0↔((1≤h.ID∧h.ID≤99999)∧(1≤h.Patron∧h.Patron≤9999)∧(1≤h.Record∧h.Record≤9999)∧(h.Item=0∨(1≤h.Item∧h.Item≤9999))∧(1≤h.Pickup∧h.Pickup≤4)∧(0≤h.Placed∧h.Placed≤109572)∧
 (h.Got=0∨(1≤h.Got∧h.Got≤9999))∧(0≤h.Until∧h.Until≤109572)∧(0≤h.Asleep∧h.Asleep≤109572)∧(0≤h.Rank∧h.Rank≤9))∧(1≤h.State∧h.State≤3)∧(0<h.Got↔¬h.State=1)∧(0<h.Until↔h.State=3):=by
 unfold p9;rw[a6p (by decide),a6p (by decide),a6p (by decide)];simp only[yaj,yag,yaI,w6,ybk,yba,g4f,g4d,and_true];constructor
 ·rintro ⟨h1,h2,h3⟩;exact ⟨by omega,by omega,h3⟩
 ·rintro ⟨h1,h2,h3⟩;exact ⟨by omega,by omega,h3⟩
theorem a7n {h:Hold} (e:p9 h=0):(1≤h.ID∧h.ID≤99999)∧(1≤h.Record∧h.Record≤9999)∧(1≤h.Pickup∧h.Pickup≤4)∧(h.State=1∨h.State=2∨h.State=3)∧(h.State=1→h.Got=0)∧(h.State≠1→1≤h.Got)∧(1≤h.Patron∧h.Patron≤9999):=by
 rw[e7e]at e;obtain ⟨⟨a1,a2,a3,a4,a5,a6,a7,a8,a9,a10⟩,b,c,d⟩:=e;refine ⟨a1,a3,a5,by omega,fun q=>?_,fun q=>?_,a2⟩
 ·by_cases g:0<h.Got
  ·exact absurd q (c.1 g)
  ·omega
 ·exact c.2 q
end
section
def h6y (c:Custody) (m:Move):Custody:=
 bif a0i m.Kind==2 then ⟨a0i m.Kind,m.Branch,0,0⟩
 else bif a0i m.Kind==4||(a0i m.Kind==5||a0i m.Kind==8) then ⟨a0i m.Kind,c.Branch,m.Who,0⟩
 else bif a0i m.Kind==6 then ⟨a0i m.Kind,c.Branch,m.Who,m.Branch⟩
 else bif a0i m.Kind==9||a0i m.Kind==10 then ⟨a0i m.Kind,c.Branch,c.Who,0⟩
 else ⟨a0i m.Kind,c.Branch,0,0⟩
structure AppP (c:Custody) (m:Move) (u:Custody):Prop where
 res:u=h6y c m
 right:b0d c=true
 within:b0e m=true
 allow:a7c c.State m.Kind=true
 same:m.Kind=3→c.State=5→m.Who=c.Who
 fits:c46 c m=true
theorem c6q {c:Custody} {m:Move} {u:Custody} (h:s7 c m=(u,0)):AppP c m u:=by
 unfold s7 at h;cases e1:(!(b0d c)||!(b0e m)) with
 |true=>rw[e1]at h;cases h
 |false=>
  have e0:=e1;simp only[yaj,yaI]at e0;rw[e1]at h;simp only[yaa]at h;cases e2:!(a7c c.State m.Kind) with
  |true=>rw[e2]at h;cases h
  |false=>
   rw[e2]at h;simp only[yaa]at h;cases e3:(m.Kind==3&&c.State==5&&!(m.Who==c.Who)) with
   |true=>rw[e3]at h;cases h
   |false=>
    rw[e3]at h;simp only[yaa]at h;cases e4:!(c46 c m) with
    |true=>rw[e4]at h;cases h
    |false=>
     rw[e4]at h;simp only[yaa]at h;have hr:u=h6y c m:=by
      unfold h6y;generalize a0i m.Kind=k at h ⊢;cases k2:k==2 with
      |true=>rw[k2]at h;cases h;rfl
      |false=>
       rw[k2]at h;simp only[yaa]at h ⊢;cases k4:k==4||(k==5||k==8) with
       |true=>rw[k4]at h;cases h;rfl
       |false=>
        rw[k4]at h;simp only[yaa]at h ⊢;cases k6:k==6 with
        |true=>rw[k6]at h;cases h;rfl
        |false=>
         rw[k6]at h;simp only[yaa]at h ⊢;cases k9:k==9||k==10 with
         |true=>rw[k9]at h;cases h;rfl
         |false=>rw[k9]at h;cases h;rfl
     refine ⟨hr,e0.1,e0.2,by simpa using e2,fun a b=>?_,by simpa using e4⟩;simp only[ybk,yaT,yaI,yba,ne_eq]at e3;rcases e3 with (q|q)|q
     ·exact absurd a q
     ·exact absurd b q
     ·exact q
theorem e8j {s k:Int} (h:a7c s k=true):s∈c8d k:=by
 unfold a7c at h;rw[ybZ]at h;obtain ⟨x,hx,e⟩:=h;have:x=s:=by simpa using e
 exact this▸hx
def f3r (u:Custody) (h:Hold):Prop:=(h.State=3→u.State=5∧u.Branch=h.Pickup∧u.Who=h.Patron)∧(h.State=2→u.State=6∧u.To=h.Pickup∧u.Who=h.Patron)
structure Val (it:Int) (c:Circ):Prop where
 nums:a5k c=true
 patrons:a4m c.Patrons=0
 loans:o9 c.Loans=0
 holds:t6 c.Holds=0
 charges:s8 c.Charges=0
 rules:a60 c.Rules=0
 cals:a6r c=true
 chG:∀x∈c.Charges,a04 c x=true
 items:a16 c=true
 loanP:∀n∈c.Loans,(a5d c.Patrons n.Patron).2=true
 loanI:∀n∈c.Loans,∃x∈c.Items,x.ID=n.Item∧(n.Item≠it→a2o x.Custody=true∧x.Custody.Who=n.Patron)
 itemL:∀x∈c.Items,x.ID≠it→a2o x.Custody=true→∃n∈c.Loans,n.Item=x.ID
 holdP:∀h∈c.Holds,(a5d c.Patrons h.Patron).2=true∧h.ID<c.NextHold
 holdI:∀h∈c.Holds,h.State≠1→∃x∈c.Items,x.ID=h.Got∧x.Record=h.Record∧(h.Got≠it→f3r x.Custody h)
 itemH:∀x∈c.Items,x.ID≠it→x.Custody.State=5→∃h∈c.Holds,h.Got=x.ID∧h.State=3
theorem y4 {c:Circ} (h:a16 c=true) {x y:Item} (hx:x∈c.Items) (hy:y∈c.Items) (e:x.ID=y.ID):x=y:=by
 have h1:=a3m (key:=fun y:Item=>y.ID) (a2v h) hx;have h2:=a3m (key:=fun y:Item=>y.ID) (a2v h) hy;rw[e,h2]at h1;cases h1;rfl
theorem b32 {c:Circ} (h:a16 c=true) {x:Item} (hx:x∈c.Items) {id:Int} (e:x.ID=id):c.Items.find? (fun y=>y.ID==id)=some x:=by
 subst e;exact a3m (key:=fun y:Item=>y.ID) (a2v h) hx
theorem a07 {c:Circ} (h:a16 c=true) {x:Item} (hx:x∈c.Items):1≤x.ID∧x.ID≤9999∧1≤x.Record∧(1≤x.Branch∧x.Branch≤4)∧x.Call.length≤200:=by
 unfold a16 at h;simp only[yad]at h;obtain ⟨i,hi⟩:=yau hx;have:=(a4n.1 h.2.1) i x hi;rw[yaE]at this;simp only[yar,yaj,yaI]at this;have h2:=this.1;unfold a06 at h2;simp only[yad,w6,yae]at h2;omega
theorem h6o {c:Circ} (h:a68 c=true):Val 0 c:=by
 have f:=h72 h;have hch:∀x∈c.Charges,a04 c x=true:=by
  unfold a68 at h;simp only[yad,yam]at h;exact h.2.2.2.1
 have hcal:a6r c=true:=by
  unfold a68 at h;simp only[yad]at h;exact h.2.2.1
 refine ⟨f.nums,f.patrons,f.loans,f.holds,f.charges,f.rules,hcal,hch,f.items,fun n hn=>?_,fun n hn=>?_,fun x hx _ hw=>?_,fun o ho=>?_,fun o ho h1=>?_,fun x hx _ h5=>?_⟩
 ·obtain ⟨x,p,-,-,-,hp,-⟩:=a4l f hn;rw[hp]
 ·obtain ⟨x,p,-,hx,hi,-,-,hw,hwho⟩:=a4l f hn;exact ⟨x,hx,hi,fun _=>⟨hw,hwho⟩⟩
 ·have:=f.itemG x hx;rw[hw]at this;unfold a1p at this;cases hq:c.Loans.find? (fun n=>n.Item==x.ID) with
  |none=>rw[hq]at this;cases this
  |some n=>exact ⟨n,yaR hq,by have:=ybh hq;simpa using this⟩
 ·have:=f.holdG o ho;unfold a3s at this;simp only[yad,yar,yaj,yaI,yag]at this;exact ⟨this.1.1,by have:=this.1.2;omega⟩
 ·have hg:=f.holdG o ho;unfold a3s at hg;rw[show (o.State==1)=false by simpa using h1]at hg;simp only[yad,ybt]at hg;have hg:=hg.2;cases hq:c.Items.find? (fun x=>x.ID==o.Got) with
  |none=>rw[hq]at hg;cases hg
  |some x=>
   rw[hq]at hg;refine ⟨x,yaR hq,by have:=ybh hq;simpa using this,?_,fun _=>?_⟩
   ·simp only[yad,Bool.not_not,yba]at hg;exact hg.1.1
   ·simp only[yad,Bool.not_not,yba,yar,ybk,yaj,yaI,yaT,ne_eq]at hg;obtain ⟨⟨-,g3⟩,g2⟩:=hg;refine ⟨fun e=>?_,fun e=>?_⟩
    ·rcases g3 with g3|g3
     ·exact absurd e g3
     ·exact ⟨g3.1.1,g3.1.2,g3.2⟩
    ·rcases g2 with g2|g2
     ·exact absurd e g2
     ·exact ⟨g2.1.1,g2.1.2,g2.2⟩
 ·have hg:=f.readyG x hx;unfold a45 at hg;rw[h5]at hg;simp only[yah,yai,ybt,yar,yaj,yaI,yba]at hg;have:=a5f hg.1;exact ⟨_,this.1,this.2,hg.2⟩
theorem e7o {c:Circ} (v:Val 0 c):a68 c=true:=by
 have hid:=fun x hx=>a07 (x:=x) v.items hx
 unfold a68;simp only[yad,yam];refine ⟨v.nums,?_,v.cals,v.chG,by rw[b1e];exact v.items,?_,?_⟩
 ·unfold a95;rw[v.patrons,v.loans,v.holds,v.charges,v.rules];rfl
 ·unfold a6f;simp only[yad,yam,yba];refine ⟨fun n hn=>?_,fun x hx=>?_⟩
  ·obtain ⟨x,hx,hi,hw⟩:=v.loanI n hn;have:=(hid x hx).1;have hw:=hw (by omega);unfold a6z;rw[b32 v.items hx hi];simp only[v.loanP n hn,hw.1,hw.2];simp
  ·have:=(hid x hx).1;cases hw:a2o x.Custody with
   |true=>
    obtain ⟨n,hn,e⟩:=v.itemL x hx (by omega) hw;unfold a1p;cases hq:c.Loans.find? (fun n=>n.Item==x.ID) with
    |none=>exact absurd (ybi.1 hq n hn) (by simpa using e)
    |some m=>rfl
   |false=>
    unfold a1p;cases hq:c.Loans.find? (fun n=>n.Item==x.ID) with
    |none=>rfl
    |some m=>
     have hm:=yaR hq;have he:m.Item=x.ID:=by have:=ybh hq;simpa using this
     obtain ⟨y,hy,hi,hy2⟩:=v.loanI m hm;have:=y4 v.items hy hx (hi.trans he);subst this;rw[(hy2 (by omega)).1]at hw;cases hw
 ·unfold a6c;simp only[yad,yam];refine ⟨fun o ho=>?_,fun x hx=>?_⟩
  ·unfold a3s;obtain ⟨p1,p2⟩:=v.holdP o ho;rw[p1,show decide (c.NextHold≤o.ID)=false by rw[yag];omega];by_cases h1:o.State=1
   ·rw[show (o.State==1)=true by simpa using h1];rfl
   ·obtain ⟨x,hx,hg,hr,ha⟩:=v.holdI o ho h1;have:=(hid x hx).1;obtain ⟨a3,a2⟩:=ha (by omega);rw[show (o.State==1)=false by simpa using h1,b32 v.items hx hg];simp only[hr,yah,yai,yan,ya1,Bool.or_false,ybt];by_cases e3:o.State=3
    ·obtain ⟨q1,q2,q3⟩:=a3 e3;simp[e3,q1,q2,q3]
    ·by_cases e2:o.State=2
     ·obtain ⟨q1,q2,q3⟩:=a2 e2;simp[e2,q1,q2,q3]
     ·simp[e2,e3]
  ·unfold a45;have:=(hid x hx).1;by_cases h5:x.Custody.State=5
   ·rw[show (x.Custody.State==5)=true by simpa using h5];obtain ⟨o,ho,hg,h3⟩:=v.itemH x hx (by omega) h5;unfold o6;cases hq:c.Holds.find? (fun h=>h.Got==x.ID) with
    |none=>exact absurd (ybi.1 hq o ho) (by simpa using hg)
    |some p=>
     have hp:=yaR hq;have hpg:p.Got=x.ID:=by have:=ybh hq;simpa using this
     have hn:=a7n (a1q v.holds hp);have hp1:p.State≠1:=fun e=>by have:=hn.2.2.2.2.1 e;omega
     obtain ⟨y,hy,hyg,-,ha⟩:=v.holdI p hp hp1;have:=y4 v.items hy hx (hyg.trans hpg);subst this;have ha:=(ha (by omega)).2;have h3:p.State=3:=by
      rcases hn.2.2.2.1 with e|e|e
      ·exact absurd e hp1
      ·have:=(ha e).1;omega
      ·exact e
     simp[h3]
   ·rw[show (x.Custody.State==5)=false by simpa using h5];rfl
theorem Val.weak {c:Circ} (v:Val 0 c) (it:Int):Val it c:=by
 have hid:=fun x hx=>a07 (x:=x) v.items hx
 refine ⟨v.nums,v.patrons,v.loans,v.holds,v.charges,v.rules,v.cals,v.chG,v.items,v.loanP,fun n hn=>?_,fun x hx _ hw=>?_,v.holdP,fun o ho h1=>?_,fun x hx _ h5=>?_⟩
 ·obtain ⟨x,hx,hi,hw⟩:=v.loanI n hn;have:=(hid x hx).1;exact ⟨x,hx,hi,fun _=>hw (by omega)⟩
 ·have:=(hid x hx).1;exact v.itemL x hx (by omega) hw
 ·obtain ⟨x,hx,hg,hr,ha⟩:=v.holdI o ho h1;have:=(hid x hx).1;exact ⟨x,hx,hg,hr,fun _=>ha (by omega)⟩
 ·have:=(hid x hx).1;exact v.itemH x hx (by omega) h5
theorem Val.close {it:Int} {c:Circ} (v:Val it c) {x:Item} (hx:x∈c.Items) (hi:x.ID=it)
 (h1:∀n∈c.Loans,n.Item=it→a2o x.Custody=true∧x.Custody.Who=n.Patron) (h2:a2o x.Custody=true→∃n∈c.Loans,n.Item=it)
 (h3:∀h∈c.Holds,h.State≠1→h.Got=it→f3r x.Custody h) (h4:x.Custody.State=5→∃h∈c.Holds,h.Got=it∧h.State=3):Val 0 c:=by
 refine ⟨v.nums,v.patrons,v.loans,v.holds,v.charges,v.rules,v.cals,v.chG,v.items,v.loanP,fun n hn=>?_,fun y hy _ hw=>?_,v.holdP,fun o ho hs1=>?_,fun y hy _ h5=>?_⟩
 ·obtain ⟨y,hy,hiy,hw⟩:=v.loanI n hn;refine ⟨y,hy,hiy,fun _=>?_⟩;by_cases e:n.Item=it
  ·have:=y4 v.items hy hx (by omega);subst this;exact h1 n hn e
  ·exact hw e
 ·by_cases e:y.ID=it
  ·have:=y4 v.items hy hx (by omega);subst this;obtain ⟨n,hn,e2⟩:=h2 hw;exact ⟨n,hn,by omega⟩
  ·exact v.itemL y hy e hw
 ·obtain ⟨y,hy,hg,hr,ha⟩:=v.holdI o ho hs1;refine ⟨y,hy,hg,hr,fun _=>?_⟩;by_cases e:o.Got=it
  ·have:=y4 v.items hy hx (by omega);subst this;exact h3 o ho hs1 e
  ·exact ha e
 ·by_cases e:y.ID=it
  ·have:=y4 v.items hy hx (by omega);subst this;obtain ⟨n,hn,e2,e3⟩:=h4 h5;exact ⟨n,hn,by omega,e3⟩
  ·exact v.itemH y hy e h5
end
section
theorem b0u {c:Circ} (h:a16 c=true):∀(i:Nat) (x:Item) (j:Nat) (y:Item),c.Items[i]?=some x→c.Items[j]?=some y→x.ID=y.ID→i=j:=by
 intro i x j y hx hy e;have hs:=a2v h;rcases Nat.lt_trichotomy i j with hl|hl|hl
 ·have:=a18 (key:=fun y:Item=>y.ID) hs j i x y hl hx hy;omega
 ·exact hl
 ·have:=a18 (key:=fun y:Item=>y.ID) hs i j y x hl hy hx;omega
theorem a00 {c:Circ} (h:a16 c=true) {i:Nat} {x:Item} (hx:c.Items[i]?=some x) {m:Move} {u:Custody} {y:Item}:y∈(t7 c i x m u).Items↔(y∈c.Items∧y.ID≠x.ID)∨y=y0 u x:=by
 have hit:(t7 c i x m u).Items=c.Items.map (b84 x u):=d21 (b0u h) hx;rw[hit,ya8];constructor
 ·rintro ⟨z,hz,rfl⟩;unfold b84;by_cases e:z.ID=x.ID
  ·have:=y4 h hz (yaf hx) e;subst this;right;simp
  ·left;rw[show (z.ID==x.ID)=false by simpa using e];exact ⟨hz,e⟩
 ·rintro (⟨hy,e⟩|rfl)
  ·refine ⟨y,hy,?_⟩;unfold b84;rw[show (y.ID==x.ID)=false by simpa using e];rfl
  ·refine ⟨x,yaf hx,?_⟩;unfold b84;simp
theorem Val.move {c:Circ} {i:Nat} {x:Item} (v:Val x.ID c) (hx:c.Items[i]?=some x) {m:Move} {u:Custody} (hm:m.Item=x.ID) (ha:s7 x.Custody m=(u,0)) (hl:c.Moves.length<2000):Val x.ID (t7 c i x m u):=by
 have mm:=fun y=>a00 (y:=y) v.items hx (m:=m) (u:=u)
 refine ⟨v.nums,v.patrons,v.loans,v.holds,v.charges,v.rules,v.cals,v.chG,d4s v.items (b0u v.items) hx hm ha hl,v.loanP,fun n hn=>?_,fun y hy hne hw=>?_,v.holdP,fun o ho h1=>?_,fun y hy hne h5=>?_⟩
 ·obtain ⟨y,hy,hi,hw⟩:=v.loanI n hn;by_cases e:y.ID=x.ID
  ·exact ⟨y0 u x,(mm _).2 (.inr rfl),e.symm.trans hi,fun q=>absurd (hi.symm.trans e) q⟩
  ·exact ⟨y,(mm _).2 (.inl ⟨hy,e⟩),hi,hw⟩
 ·rcases (mm y).1 hy with ⟨hy,_⟩|rfl
  ·exact v.itemL y hy hne hw
  ·exact absurd rfl hne
 ·obtain ⟨y,hy,hg,hr,ha⟩:=v.holdI o ho h1;by_cases e:y.ID=x.ID
  ·have:=y4 v.items hy (yaf hx) e;subst this;exact ⟨y0 u y,(mm _).2 (.inr rfl),hg,hr,fun q=>absurd hg.symm q⟩
  ·exact ⟨y,(mm _).2 (.inl ⟨hy,e⟩),hg,hr,ha⟩
 ·rcases (mm y).1 hy with ⟨hy,_⟩|rfl
  ·exact v.itemH y hy hne h5
  ·exact absurd rfl hne
theorem a6d {l:List Hold} (h:t6 l=0) {o p:Hold} (ho:o∈l) (hp:p∈l) (e:o.ID=p.ID):o=p:=c0k (y8 h) ho hp e
def b65 (l:List Hold) (id:Int) (o:Hold):List Hold:=l.map (fun z=>bif z.ID==id then o else z)
theorem a3t {l:List Hold} {o p z:Hold} (ho:o∈l):z∈b65 l o.ID p↔(z∈l∧z.ID≠o.ID)∨z=p:=by
 unfold b65;rw[ya8];constructor
 ·rintro ⟨y,hy,rfl⟩;by_cases e:y.ID=o.ID
  ·right;rw[show (y.ID==o.ID)=true by simpa using e];rfl
  ·left;rw[show (y.ID==o.ID)=false by simpa using e];exact ⟨hy,e⟩
 ·rintro (⟨hz,e⟩|rfl)
  ·exact ⟨z,hz,by rw[show (z.ID==o.ID)=false by simpa using e];rfl⟩
  ·exact ⟨o,ho,by rw[show (o.ID==o.ID)=true by simp];rfl⟩
theorem f3m {l:List Hold} (h:t6 l=0) {o p:Hold} (ho:o∈l) (k1:p.ID=o.ID) (k2:p.Patron=o.Patron) (k3:p.Record=o.Record) (hs:p9 p=0) (hg:∀z∈l,0<p.Got→z.Got=p.Got→z.ID=o.ID):t6 (b65 l o.ID p)=0:=by
 rw[a9y]at h ⊢;obtain ⟨h1,⟨h2,h3⟩,h4⟩:=h;refine ⟨by unfold b65;rw[ybc];exact h1,⟨fun z hz=>?_,?_⟩,?_⟩
 ·rcases (a3t ho).1 hz with ⟨hz,_⟩|rfl
  ·exact h2 z hz
  ·exact hs
 ·unfold b65;rw[ybv];have key:∀z:Hold,(bif z.ID==o.ID then p else z).ID=z.ID:=by
   intro z;by_cases e:z.ID=o.ID
   ·rw[show (z.ID==o.ID)=true by simpa using e,yab,k1,e]
   ·rw[show (z.ID==o.ID)=false by simpa using e];rfl
  refine h3.imp (fun {a b} q=>?_);rw[key,key];exact q
 ·unfold b65;rw[ybv];refine (h3.and h4).imp_of_mem (fun {a b} ha hb q=>?_);obtain ⟨q1,q2⟩:=q;have one:∀z∈l,z.ID=o.ID→z=o:=fun z hz e=>c0k (a63.2 h3) hz ho e
  unfold a0d at q2 ⊢;simp only[yaj,ybk,yaT,ne_eq,yag]at q2 ⊢;by_cases ea:a.ID=o.ID
  ·have:=one a ha ea;subst this;have eb:¬b.ID=a.ID:=by omega
   rw[show (b.ID==a.ID)=false by simpa using eb,show (a.ID==a.ID)=true by simp];simp only[yab,yaa,k2,k3];refine ⟨q2.1,?_⟩;by_cases e:b.Got=p.Got
   ·left;intro hpos;exact eb (hg b hb (by omega) e)
   ·exact .inr e
  ·by_cases eb:b.ID=o.ID
   ·have:=one b hb eb;subst this;rw[show (a.ID==b.ID)=false by simpa using ea,show (b.ID==b.ID)=true by simp];simp only[yab,yaa,k2,k3];refine ⟨q2.1,?_⟩;by_cases e:p.Got=a.Got
    ·left;intro hpos;exact ea (hg a ha hpos e.symm)
    ·exact .inr e
   ·rw[show (a.ID==o.ID)=false by simpa using ea,show (b.ID==o.ID)=false by simpa using eb];exact q2
theorem Val.swap {it:Int} {c:Circ} (v:Val it c) {o p:Hold} (ho:o∈c.Holds) (k1:p.ID=o.ID) (k2:p.Patron=o.Patron) (k3:p.Record=o.Record) (hs:p9 p=0) (hg:∀z∈c.Holds,0<p.Got→z.Got=p.Got→z.ID=o.ID)
 (old:o.State≠3∨o.Got=it) (new:p.State≠1→p.Got=it∧∃x∈c.Items,x.ID=it∧x.Record=o.Record):Val it (i6 c (b65 c.Holds o.ID p)):=by
 refine ⟨v.nums,v.patrons,v.loans,f3m v.holds ho k1 k2 k3 hs hg,v.charges,v.rules,v.cals,v.chG,v.items,v.loanP,v.loanI,v.itemL,fun z hz=>?_,fun z hz h1=>?_,fun y hy hne h5=>?_⟩
 ·rcases (a3t ho).1 hz with ⟨hz,_⟩|rfl
  ·exact v.holdP z hz
  ·have:=v.holdP o ho;exact ⟨by rw[k2];exact this.1,by rw[k1];exact this.2⟩
 ·rcases (a3t ho).1 hz with ⟨hz,_⟩|rfl
  ·exact v.holdI z hz h1
  ·obtain ⟨e,x,hx,hi,hr⟩:=new h1;exact ⟨x,hx,by rw[hi,e],by rw[hr,k3],fun q=>absurd e q⟩
 ·obtain ⟨z,hz,e,e3⟩:=v.itemH y hy hne h5;refine ⟨z,(a3t ho).2 (.inl ⟨hz,fun q=>?_⟩),e,e3⟩;have:=a6d v.holds hz ho q;subst this;rcases old with q|q
  ·exact q e3
  ·exact hne (e.symm.trans q)
theorem d4g {l:List Hold} (h:t6 l=0) (p:Hold→Bool):t6 (l.filter p)=0:=by
 rw[a9y]at h ⊢;have:=yaw p l;exact ⟨by omega,⟨fun x hx=>h.2.1.1 x (yax.1 hx).1,h.2.1.2.filter p⟩,h.2.2.filter p⟩
theorem Val.remove {it:Int} {c:Circ} (v:Val it c) {o:Hold} (ho:o∈c.Holds) (old:o.State≠3∨o.Got=it):Val it (i6 c (c.Holds.filter (fun x=>!(x.ID==o.ID)))):=by
 refine ⟨v.nums,v.patrons,v.loans,d4g v.holds _,v.charges,v.rules,v.cals,v.chG,v.items,v.loanP,v.loanI,v.itemL,fun z hz=>v.holdP z (yax.1 hz).1,fun z hz=>v.holdI z (yax.1 hz).1,fun y hy hne h5=>?_⟩;obtain ⟨z,hz,e,e3⟩:=v.itemH y hy hne h5;refine ⟨z,yax.2 ⟨hz,?_⟩,e,e3⟩;rw[yar,yaT];intro q;have:=a6d v.holds hz ho q;subst this;rcases old with q|q
 ·exact q e3
 ·exact hne (e.symm.trans q)
theorem Val.setLoans {it:Int} {c:Circ} (v:Val it c) {l:List Loan} (he:o9 l=0) (h1:∀n∈l,(a5d c.Patrons n.Patron).2=true∧((∃n0∈c.Loans,n0.Item=n.Item∧n0.Patron=n.Patron)∨(n.Item=it∧∃x∈c.Items,x.ID=it)))
 (h2:∀n0∈c.Loans,n0.Item≠it→∃n∈l,n.Item=n0.Item):Val it (f7 c l):=by
 refine ⟨v.nums,v.patrons,he,v.holds,v.charges,v.rules,v.cals,v.chG,v.items,fun n hn=>(h1 n hn).1,fun n hn=>?_,fun x hx hne hw=>?_,v.holdP,v.holdI,v.itemH⟩
 ·rcases (h1 n hn).2 with ⟨n0,hn0,e1,e2⟩|⟨e,x,hx,hi⟩
  ·obtain ⟨x,hx,hi,hw⟩:=v.loanI n0 hn0;exact ⟨x,hx,by rw[hi,e1],fun q=>by have:=hw (by rw[e1];exact q);rw[e2]at this;exact this⟩
  ·exact ⟨x,hx,by rw[hi,e],fun q=>absurd e q⟩
 ·obtain ⟨n,hn,e⟩:=v.itemL x hx hne hw;obtain ⟨m,hm,e2⟩:=h2 n hn (by rw[e];exact hne);exact ⟨m,hm,e2.trans e⟩
theorem a7r {c:Circ} (h:a5k c=true):(0≤c.Today∧c.Today≤109572)∧(1≤c.NextHold∧c.NextHold≤100000)∧(1≤c.NextCharge∧c.NextCharge≤100000):=by
 unfold a5k at h;simp only[yar,yaj,yag]at h;omega
theorem c75 {c:Circ} (h:(0≤c.Today∧c.Today≤109572)∧(1≤c.NextHold∧c.NextHold≤100000)∧(1≤c.NextCharge∧c.NextCharge≤100000)):a5k c=true:=by
 unfold a5k;simp only[yar,yaj,yag];omega
theorem b29 {c:Circ} {x:Charge} (h:a04 c x=true):(a5d c.Patrons x.Patron).2=true∧x.ID<c.NextCharge:=by
 unfold a04 at h;simp only[yar,yaj,yaI,yag]at h;exact ⟨h.1,by omega⟩
theorem d8k {c:Circ} {x:Charge} (h:(a5d c.Patrons x.Patron).2=true) (h2:x.ID<c.NextCharge):a04 c x=true:=by
 unfold a04;simp only[yar,yaj,yaI,yag];exact ⟨h,by omega⟩
theorem Val.setCharges {it:Int} {c:Circ} (v:Val it c) {l:List Charge} {n:Int} (he:s8 l=0) (hn:c.NextCharge≤n∧n≤100000) (h1:∀x∈l,(a5d c.Patrons x.Patron).2=true∧x.ID<n):Val it (a48 c l n):=by
 have hv:=a7r v.nums;exact ⟨c75 ⟨hv.1,hv.2.1,(by omega:1≤n),hn.2⟩,v.patrons,v.loans,v.holds,he,v.rules,v.cals,fun x hx=>d8k (h1 x hx).1 (h1 x hx).2,v.items,v.loanP,v.loanI,v.itemL,v.holdP,v.holdI,v.itemH⟩
theorem Val.setToday {it:Int} {c:Circ} (v:Val it c) {t:Int} (h:0≤t∧t≤109572):Val it (a1b c t):=by
 have hv:=a7r v.nums;exact ⟨c75 ⟨h,hv.2⟩,v.patrons,v.loans,v.holds,v.charges,v.rules,v.cals,v.chG,v.items,v.loanP,v.loanI,v.itemL,v.holdP,v.holdI,v.itemH⟩
theorem Val.place {it:Int} {c:Circ} (v:Val it c) {o:Hold} (he:t6 (c.Holds++[o])=0) (h1:o.State=1) (hid:o.ID=c.NextHold) (hn:c.NextHold≤99999) (hp:(a5d c.Patrons o.Patron).2=true):Val it (b6d (i6 c (c.Holds++[o])) (c.NextHold+1)):=by
 have hmem:∀z,z∈c.Holds++[o]↔z∈c.Holds∨z=o:=by intro z;simp
 refine ⟨?_,v.patrons,v.loans,he,v.charges,v.rules,v.cals,v.chG,v.items,v.loanP,v.loanI,v.itemL,fun z hz=>?_,fun z hz hz1=>?_,fun y hy hne h5=>?_⟩
 ·have hv:=a7r v.nums;exact c75 ⟨hv.1,⟨(by omega:1≤c.NextHold+1),(by omega:c.NextHold+1≤100000)⟩,hv.2.2⟩
 ·rcases (hmem z).1 hz with hz|rfl
  ·have:=v.holdP z hz;exact ⟨this.1,by show z.ID<c.NextHold+1;omega⟩
  ·exact ⟨hp,by show z.ID<c.NextHold+1;omega⟩
 ·rcases (hmem z).1 hz with hz|rfl
  ·exact v.holdI z hz hz1
  ·exact absurd h1 hz1
 ·obtain ⟨z,hz,e⟩:=v.itemH y hy hne h5;exact ⟨z,(hmem z).2 (.inl hz),e⟩
end
section
theorem a08 {c d:Circ} (h:MidP c) {i:Nat} {x:Item} (hx:c.Items[i]?=some x) {kind branch who:Int} (e:qgo c x.ID kind branch who=some (d,0)) :
 ∃u,s7 x.Custody ⟨c.Today,x.ID,kind,branch,who⟩=(u,0)∧c.Moves.length<2000∧d=t7 c i x ⟨c.Today,x.ID,kind,branch,who⟩ u∧MidP d:=by
 have hmv:=h.moves;rcases a1k h hx kind branch who with ⟨u,ha,-,m2,hm2⟩|⟨e',he,-,m2⟩
 ·rw[m2]at e;cases e
  have rm:=c5c (kind:=kind) (branch:=branch) (who:=who) h.short (by omega) (a6g h hx) hx rfl;rw[m2,ha]at rm;refine ⟨u,ha,?_,rfl,hm2⟩;by_cases hl:c.Moves.length<2000
  ·exact hl
  ·have e1:a6h c 0=13:=by
    unfold a6h;rw[show decide (2000≤(c.Moves.length:Int))=true by rw[yae];omega];rfl
   rw[e1]at rm;have q:(0:Int)=13:=congrArg Prod.snd (ybO rm);exact absurd q (by decide)
 ·rw[m2]at e;cases e
  exact absurd rfl he
theorem c1i.b {a:Option (Unit×Circ_desk)} {b:Option (Circ×Int)} {Q:Circ→Prop} (h:c1i a b Q) {d:Circ} (e:b=some (d,0)):Q d:=by
 rcases h with ⟨d',-,h2,h3⟩|⟨d',e',he,-,h2,-⟩
 ·rw[e]at h2;cases h2
  exact h3
 ·rw[e]at h2;cases h2
  exact absurd rfl he
def Rdy (c d:Circ) (i:Nat) (x:Item) (o:Hold):Prop:=∃u l un,s7 x.Custody ⟨c.Today,x.ID,5,x.Custody.Branch,o.Patron⟩=(u,0)∧c.Moves.length<2000∧a2g c.Holds o.ID x.ID 3 un=(l,0)∧d=i6 (t7 c i x ⟨c.Today,x.ID,5,x.Custody.Branch,o.Patron⟩ u) l
theorem c5p {c d:Circ} (h:MidP c) {i:Nat} {x:Item} (hx:c.Items[i]?=some x) {o:Hold} (e:qgn c x.ID o=some (d,0)):Rdy c d i x o:=by
 obtain ⟨r,b,hr,_⟩:=b05 (p:=o.Patron) (x:=x) h.short;have hb:=h.branch x (yaf hx);unfold qgn at e;simp -zeta only[a6g h hx,b9,hx,hr]at e;have key:∀days:Int,(match qgo c x.ID 5 x.Custody.Branch o.Patron with
  |some (r6,r7)=>bif !(r7==0) then some (o4,r7) else
   match qhm r6 x.Custody.Branch with
   |some r9=>(match qgy r9 r6.Today days with
    |some (r11,r12)=>bif !(r12==0) then some (o4,r12) else
     match qgu r6.Holds o.ID x.ID 3 r11 with
     |some (r14,r15)=>bif !(r15==0) then some (o4,r15) else some ({r6 with Holds:=r14},0)
     |none=>none
    |none=>none)
   |none=>none
  |none=>none)=some (d,0)→Rdy c d i x o:=by
  intro days e;cases hm:qgo c x.ID 5 x.Custody.Branch o.Patron with
  |none=>rw[hm]at e;cases e
  |some p=>
   obtain ⟨c2,e2⟩:=p;rw[hm]at e;dsimp only at e;by_cases he2:e2=0
   ·subst he2;obtain ⟨u,ha,hl,rfl,hm2⟩:=a08 h hx hm;simp only[yah,yai,yaa,b8y hb]at e;obtain ⟨dd,ee,hq⟩:=a8b (hm2.cal x.Custody.Branch) (t7 c i x ⟨c.Today,x.ID,5,x.Custody.Branch,o.Patron⟩ u).Today days;rw[hq]at e;dsimp only at e;by_cases hee:ee=0
    ·subst hee;simp only[yah,yai,yaa,d2r hm2.short.holds hm2.sorted]at e;generalize hc:a2g (t7 c i x ⟨c.Today,x.ID,5,x.Custody.Branch,o.Patron⟩ u).Holds o.ID x.ID 3 dd=q at e;obtain ⟨l,e3⟩:=q;dsimp only at e;by_cases he3:e3=0
     ·subst he3;simp only[yah,yai,yaa]at e;cases e
      exact ⟨u,l,dd,ha,hl,hc,rfl⟩
     ·rw[show (e3==0)=false by simpa using he3]at e;simp only[yan,yab]at e;cases e
      exact absurd rfl he3
    ·rw[show (ee==0)=false by simpa using hee]at e;simp only[yan,yab]at e;cases e
     exact absurd rfl hee
   ·rw[show (e2==0)=false by simpa using he2]at e;simp only[yan,yab]at e;cases e
    exact absurd rfl he2
 cases b with
 |true=>exact key _ e
 |false=>exact key _ e
inductive Aw (c d:Circ) (i:Nat) (x:Item):Prop
 |stay (h0:qcw c x=some 0) (h3:x.Custody.State=3) (hd:d=c)
 |move (h0:qcw c x=some 0) (kind branch:Int) (hk:kind=6∨kind=2) (u:Custody) (ha:s7 x.Custody ⟨c.Today,x.ID,kind,branch,0⟩=(u,0)) (hl:c.Moves.length<2000) (hd:d=t7 c i x ⟨c.Today,x.ID,kind,branch,0⟩ u)
 |ready (o:Hold) (ho:o∈c.Holds) (hw:y7 x.Record c.Today o=true) (hp:o.Pickup=x.Custody.Branch) (hr:Rdy c d i x o)
 |send (o:Hold) (ho:o∈c.Holds) (hw:y7 x.Record c.Today o=true) (u:Custody) (l:List Hold) (ha:s7 x.Custody ⟨c.Today,x.ID,6,o.Pickup,o.Patron⟩=(u,0)) (hl:c.Moves.length<2000) (hc:a2g c.Holds o.ID x.ID 2 0=(l,0))
  (hd:d=i6 (t7 c i x ⟨c.Today,x.ID,6,o.Pickup,o.Patron⟩ u) l)
theorem b9i {c d:Circ} (h:MidP c) {i:Nat} {x:Item} (hx:c.Items[i]?=some x) (e:qg4 c x.ID=some (d,0)):Aw c d i x:=by
 obtain ⟨v,p1,p2,g1,g2⟩:=a8e h hx;unfold qg4 at e;simp -zeta only[a6g h hx,b9,hx,p2,b1n h.short.holds]at e;dsimp only at e;by_cases hv:v=0
 ·subst hv;simp only[yah,yab]at e;have mv:∀kind branch:Int,(kind=6∨kind=2)→(match qgo c x.ID kind branch 0 with|some (r5,r6)=>some (r5,r6)|none=>none)=some (d,0)→Aw c d i x:=by
   intro kind branch hk e;cases hm:qgo c x.ID kind branch 0 with
   |none=>rw[hm]at e;cases e
   |some p=>
    obtain ⟨c2,e2⟩:=p;rw[hm]at e;cases e
    obtain ⟨u,ha,hl,hd,-⟩:=a08 h hx hm;exact .move p1 kind branch hk u ha hl hd
  cases hb:x.Branch==x.Custody.Branch with
  |false=>
   rw[hb]at e;exact mv 6 _ (.inl rfl) e
  |true=>
   rw[hb]at e;simp only[yai,yaa]at e;cases h3:x.Custody.State==3 with
   |true=>
    rw[h3]at e;cases e
    exact .stay p1 (by simpa using h3) rfl
   |false=>
    rw[h3]at e;exact mv 2 _ (.inr rfl) e
 ·obtain ⟨o,ho,hoi,hg,hw⟩:=g2 hv;rw[show (v==0)=false by simpa using hv,hg]at e;simp only[yaa]at e;cases hpk:o.Pickup==x.Custody.Branch with
  |true=>
   rw[hpk]at e;simp only[yab]at e;cases hm:qgn c x.ID o with
   |none=>rw[hm]at e;cases e
   |some p=>
    obtain ⟨c2,e2⟩:=p;rw[hm]at e;cases e
    exact .ready o ho hw (by simpa using hpk) (c5p h hx hm)
  |false=>
   rw[hpk]at e;simp only[yaa]at e;cases hm:qgo c x.ID 6 o.Pickup o.Patron with
   |none=>rw[hm]at e;cases e
   |some p=>
    obtain ⟨c2,e2⟩:=p;rw[hm]at e;dsimp only at e;by_cases he2:e2=0
    ·subst he2;obtain ⟨u,ha,hl,rfl,hm2⟩:=a08 h hx hm;simp only[yah,yai,yaa,d2r hm2.short.holds hm2.sorted]at e;generalize hc:a2g (t7 c i x ⟨c.Today,x.ID,6,o.Pickup,o.Patron⟩ u).Holds v x.ID 2 0=q at e;obtain ⟨l,e3⟩:=q;dsimp only at e;by_cases he3:e3=0
     ·subst he3;simp only[yah,yai,yaa]at e;cases e
      exact .send o ho hw u l ha hl (by rw[hoi];exact hc) rfl
     ·rw[show (e3==0)=false by simpa using he3]at e;simp only[yan,yab]at e;cases e
      exact absurd rfl he3
    ·rw[show (e2==0)=false by simpa using he2]at e;simp only[yan,yab]at e;cases e
     exact absurd rfl he2
end
section
theorem a9o {l m:List Hold} (hs:∀i x,l[i]?=some x→u9 l i (fun y=>decide (x.ID≤y.ID))=false) {id it st un:Int} (h:a2g l id it st un=(m,0)) :
 ∃o∈l,o.ID=id∧(1≤it∧it≤9999)∧((st=3∧1≤un∧un≤109572)∨(st=2∧un=0))∧(o.State=1∨(o.State=2∧o.Got=it∧st=3))∧(∀p∈l,p.Got=it→p.ID=id)∧m=b65 l o.ID (c0i o it st un):=by
 unfold a2g at h;rcases j3 (fun x:Hold=>x.ID==id) l with ⟨h1,h2⟩|⟨i,x,h1,h2,h3,h4⟩
 ·rw[h2]at h;cases h
 ·rw[h4]at h;simp only at h;have hid:x.ID=id:=by simpa using h3
  cases hq:(!(rng 1 9999 it)||!(okS st un)) with
  |true=>rw[hq]at h;cases h
  |false=>
   rw[hq]at h;simp only[yaa]at h;cases hq2:(!(x.State==1)&&((!(x.State==2)||!(x.Got==it))||!(st==3))) with
   |true=>rw[hq2]at h;cases h
   |false=>
    rw[hq2]at h;simp only[yaa]at h;cases hq3:l.any (fun o=>o.Got==it&&!(o.ID==id)) with
    |true=>rw[hq3]at h;cases h
    |false=>
     rw[hq3]at h;simp only[yaa,h1,yay,yaM,and_true]at h;subst h;simp only[yaj,yaI,w6]at hq;refine ⟨x,yaf h2,hid,hq.1,?_,?_,fun p hp e=>?_,?_⟩
     ·have:=hq.2;unfold okS at this;simp only[ybg,yad,yba,w6]at this;rcases this with q|q
      ·exact .inl ⟨q.1,q.2.1,q.2.2⟩
      ·exact .inr q
     ·simp only[ybk,yaj,yaI,yba]at hq2;rcases hq2 with q|q
      ·exact .inl q
      ·exact .inr ⟨q.1.1,q.1.2,q.2⟩
     ·rw[ybV]at hq3;have:=hq3 p hp;simp only[yad,yba,yar,yaT,ne_eq,not_and,Decidable.not_not]at this;exact this e
     ·exact (a8c hs h2 (y:=c0i x it st un) rfl).symm
theorem e00 {o:Hold} (h:p9 o=0) {it st un:Int} (h1:1≤it∧it≤9999) (h2:(st=3∧1≤un∧un≤109572)∨(st=2∧un=0)):p9 (c0i o it st un)=0:=by
 rw[e7e]at h ⊢;obtain ⟨⟨a1,a2,a3,a4,a5,a6,a7,a8,a9,a10⟩,b,c,d⟩:=h;have e1:1≤st∧st≤3:=by omega
 have e2:¬st=1:=by omega
 have e3:0≤un∧un≤109572:=by omega
 have e4:0<un↔st=3:=by omega
 exact ⟨⟨a1,a2,a3,a4,a5,a6,.inr h1,e3,a9,a10⟩,e1,⟨fun _=>e2,fun _=>(by have:=h1.1;show 0<it;omega)⟩,e4⟩
theorem Val.catch {it:Int} {c:Circ} (v:Val it c) {id st un:Int} {l:List Hold} (h:a2g c.Holds id it st un=(l,0)) {x:Item} (hx:x∈c.Items) (hi:x.ID=it) (hr:∀o∈c.Holds,o.ID=id→x.Record=o.Record):Val it (i6 c l):=by
 obtain ⟨o,ho,hid,h1,h2,h3,h4,rfl⟩:=a9o (y8 v.holds) h;refine v.swap ho rfl rfl rfl (e00 (a1q v.holds ho) h1 h2) (fun z hz _ e=>(h4 z hz e).trans hid.symm) (.inl (by omega)) (fun _=>⟨rfl,x,hx,hi,hr o ho hid⟩)
def b6g (c:Circ) (it:Int):Prop:=∀n∈c.Loans,n.Item≠it
def b89 (c:Circ) (it:Int):Prop:=∀h∈c.Holds,h.State≠1→h.Got≠it
theorem e4b {c d:Circ} {i:Nat} {x:Item} {o:Hold} (v:Val x.ID c) (hx:c.Items[i]?=some x) (hl:b6g c x.ID) (ho:o∈c.Holds) (hrec:x.Record=o.Record) (hp:o.Pickup=x.Custody.Branch)
 (hf:∀h∈c.Holds,h.State≠1→h.Got=x.ID→h.ID=o.ID) (r:Rdy c d i x o):Val 0 d:=by
 obtain ⟨u,l,un,ha,hlen,hc,rfl⟩:=r;have v2:=v.move hx rfl ha hlen;have hm:y0 u x∈(t7 c i x ⟨c.Today,x.ID,5,x.Custody.Branch,o.Patron⟩ u).Items:=(a00 v.items hx).2 (.inr rfl);have v3:=v2.catch hc hm rfl (fun p hp e=>by rw[a6d v.holds hp ho e];exact hrec);have hu:u=⟨5,x.Custody.Branch,o.Patron,0⟩:=(c6q ha).res;obtain ⟨p,hpm,hid,h1,h2,h3,h4,rfl⟩:=a9o (y8 v.holds) hc;have:=a6d v.holds hpm ho hid;subst this;refine v3.close hm rfl (fun n hn e=>absurd e (hl n hn)) (fun h=>?_) (fun h hh hs1 hg=>?_) (fun _=>⟨c0i p x.ID 3 un,(a3t hpm).2 (.inr rfl),rfl,rfl⟩)
 ·rw[show (y0 u x).Custody=u from rfl,hu]at h;cases h
 ·rw[show (y0 u x).Custody=u from rfl,hu];rcases (a3t hpm).1 hh with ⟨hh,hne⟩|rfl
  ·exact absurd (hf h hh hs1 hg) hne
  ·exact ⟨fun _=>⟨rfl,hp.symm,rfl⟩,fun e=>absurd (show (3:Int)=2 from e) (by decide)⟩
theorem b0k {r t:Int} {o:Hold} (h:y7 r t o=true):o.Record=r∧o.State=1∧o.Asleep≤t:=by
 unfold y7 at h;simp only[yad,yba,yae]at h;exact ⟨h.1.1,h.1.2,h.2⟩
theorem d7w {c d:Circ} {i:Nat} {x:Item} (v:Val x.ID c) (hx:c.Items[i]?=some x) (hl:b6g c x.ID) (hf:b89 c x.ID) (r:Aw c d i x):Val 0 d:=by
 have hm0:=yaf hx;cases r with
 |stay _ h3 hd=>
  subst hd;refine v.close hm0 rfl (fun n hn e=>absurd e (hl n hn)) (fun h=>?_) (fun h hh hs1 hg=>absurd hg (hf h hh hs1)) (fun h=>by omega);unfold a2o at h;rw[h3]at h;cases h
 |move _ kind branch hk u ha hlen hd=>
  subst hd;have v2:=v.move hx rfl ha hlen;have hm:y0 u x∈(t7 c i x ⟨c.Today,x.ID,kind,branch,0⟩ u).Items:=(a00 v.items hx).2 (.inr rfl);have hu:=(c6q ha).res;have hs:u.State=6∨u.State=3:=by
   rcases hk with rfl|rfl
   ·left;rw[hu];rfl
   ·right;rw[hu];rfl
  refine v2.close hm rfl (fun n hn e=>absurd e (hl n hn)) (fun h=>?_) (fun h hh hs1 hg=>absurd hg (hf h hh hs1)) (fun h=>?_)
  ·rw[show (y0 u x).Custody=u from rfl,a1a]at h;rcases hs with e|e<;>rw[e]at h<;>cases h
  ·rw[show (y0 u x).Custody=u from rfl]at h;omega
 |ready o ho hw hp hr=>exact e4b v hx hl ho (b0k hw).1.symm hp (fun h hh hs1 hg=>absurd hg (hf h hh hs1)) hr
 |send o ho hw u l ha hlen hc hd=>
  subst hd;have v2:=v.move hx rfl ha hlen;have hm:y0 u x∈(t7 c i x ⟨c.Today,x.ID,6,o.Pickup,o.Patron⟩ u).Items:=(a00 v.items hx).2 (.inr rfl);have v3:=v2.catch hc hm rfl (fun p hp e=>by rw[a6d v.holds hp ho e];exact (b0k hw).1.symm);have hu:u=⟨6,x.Custody.Branch,o.Patron,o.Pickup⟩:=(c6q ha).res;obtain ⟨p,hpm,hid,h1,h2,h3,h4,rfl⟩:=a9o (y8 v.holds) hc;have:=a6d v.holds hpm ho hid;subst this;refine v3.close hm rfl (fun n hn e=>absurd e (hl n hn)) (fun h=>?_) (fun h hh hs1 hg=>?_) (fun h=>?_)
  ·rw[show (y0 u x).Custody=u from rfl,hu]at h;cases h
  ·rw[show (y0 u x).Custody=u from rfl,hu];rcases (a3t hpm).1 hh with ⟨hh,hne⟩|rfl
   ·exact absurd hg (hf h hh hs1)
   ·exact ⟨fun e=>absurd (show (2:Int)=3 from e) (by decide),fun _=>⟨rfl,rfl,rfl⟩⟩
  ·rw[show (y0 u x).Custody=u from rfl,hu]at h;cases h
def a9h (c:Circ) (x:Item):Prop:=∀o∈c.Holds,y7 x.Record c.Today o=true→(o.Item==0||o.Item==x.ID)=false
theorem b4s (b:Int) (v:Bool) (x:Item) (h:Hold) (f:Int):((h.Item==0||h.Item==x.ID)=false∧b6z b v x h f=.inl f)∨((h.Item==0||h.Item==x.ID)=true∧(b6z b v x h f=.inr h.ID∨b6z b v x h f=.inl (bif f==0 then h.ID else f))):=by
 unfold b6z;cases h.Item==0<;>cases h.Item==x.ID<;>cases (!v||h.Pickup==b)<;>simp
theorem f2y {b:Int} {v:Bool} {x:Item}:∀{q:List Hold} {f:Int},(∀h∈q,h.ID≠0)→f≠0→b4u b v x q f≠0:=by
 intro q
 induction q with
 |nil=>intro f _ hf;exact hf
 |cons h q ih=>
  intro f hq hf;have hq2:=fun y hy=>hq y (yaC _ hy)
  unfold b4u;rcases b4s b v x h f with ⟨-,e⟩|⟨-,e|e⟩
  ·rw[e];exact ih hq2 hf
  ·rw[e];exact hq h (yaz ..)
  ·rw[e];have h0:(f==0)=false:=by simpa using hf
   rw[h0];exact ih hq2 hf
theorem d5i {b:Int} {v:Bool} {x:Item}:∀{q:List Hold},(∀h∈q,h.ID≠0)→(b4u b v x q 0=0↔∀h∈q,(h.Item==0||h.Item==x.ID)=false):=by
 intro q
 induction q with
 |nil=>intro _;exact ⟨fun _ h hh=>(by cases hh),fun _=>rfl⟩
 |cons h q ih=>
  intro hq;have hq2:=fun y hy=>hq y (yaC _ hy)
  have h1:=hq h (yaz ..);unfold b4u;rcases b4s b v x h 0 with ⟨k,e⟩|⟨k,e|e⟩
  ·rw[e];constructor
   ·intro p y hy;rcases yaN.1 hy with rfl|hy
    ·exact k
    ·exact (ih hq2).1 p y hy
   ·intro p;exact (ih hq2).2 (fun y hy=>p y (yaC _ hy))
  ·rw[e];constructor
   ·intro p;exact absurd p h1
   ·intro p;have:=p h (yaz ..);rw[k]at this;cases this
  ·rw[e];constructor
   ·intro p;exact absurd p (f2y hq2 h1)
   ·intro p;have:=p h (yaz ..);rw[k]at this;cases this
theorem d5d {q:List Hold} {o:Hold} (h:o∈q) (hr:rng 0 9 o.Rank=true):o∈u5 q:=by
 rw[w6]at hr;have k:∀n:Int,o.Rank=n→o∈rk n q:=fun n e=>yax.2 ⟨h,by simpa using e⟩
 have:o.Rank=0∨o.Rank=1∨o.Rank=2∨o.Rank=3∨o.Rank=4∨o.Rank=5∨o.Rank=6∨o.Rank=7∨o.Rank=8∨o.Rank=9:=by omega
 unfold u5;simp only[yas];rcases this with e|e|e|e|e|e|e|e|e|e<;>simp[k _ e]
theorem a99 {c:Circ} (h:MidP c) (x:Item) (branch:Int):∃v,qax c.Holds x branch c.Today c.Local=some v∧(v=0↔a9h c x):=by
 refine ⟨_,f2s h x branch,?_⟩;have hm:∀o∈u5 (c.Holds.filter (y7 x.Record c.Today)),o∈c.Holds∧y7 x.Record c.Today o=true:=fun o ho=>yax.1 (a3f ho)
 rw[d5i (fun o ho=>(h.rank o (hm o ho).1).2)];constructor
 ·intro p o ho hw;exact p o (d5d (yax.2 ⟨ho,hw⟩) (h.rank o ho).1)
 ·intro p o ho;exact p o (hm o ho).1 (hm o ho).2
theorem d2m {c:Circ} (h:MidP c) {x:Item} (e:qcw c x=some 0):a9h c x:=by
 obtain ⟨v,hv,hz⟩:=a99 h x x.Custody.Branch;unfold qcw at e;rw[hv]at e;cases e
 exact hz.1 rfl
end
section
def c6j (d c:Circ):Prop:=d.Today=c.Today∧∀o∈d.Holds,o.State=1→o∈c.Holds
theorem c6j.refl (c:Circ):c6j c c:=⟨rfl,fun _ h _=>h⟩
theorem c6j.trans {a b c:Circ} (h:c6j a b) (k:c6j b c):c6j a c:=⟨h.1.trans k.1,fun o ho hs=>k.2 o (h.2 o ho hs) hs⟩
theorem a9h.less {c d:Circ} {x y:Item} (h:a9h c x) (l:c6j d c) (e1:y.ID=x.ID) (e2:y.Record=x.Record):a9h d y:=by
 intro o ho hw;rw[l.1,e2]at hw;rw[e1];exact h o (l.2 o ho (b0k hw).2.1) hw
structure Stp (c d:Circ):Prop where
 pats:d.Patrons=c.Patrons
 cals:d.Cals=c.Cals
 rules:d.Rules=c.Rules
 moves:∃m,d.Moves=c.Moves++m
theorem Stp.refl (c:Circ):Stp c c:=⟨rfl,rfl,rfl,[],by simp⟩
theorem Stp.trans {a b c:Circ} (h:Stp a b) (k:Stp b c):Stp a c:=by
 obtain ⟨m,e⟩:=h.moves;obtain ⟨n,f⟩:=k.moves;exact ⟨k.pats.trans h.pats,k.cals.trans h.cals,k.rules.trans h.rules,m++n,by rw[f,e,ybw]⟩
theorem a0t {c:Circ} {i:Nat} {x:Item} {m:Move} {u:Custody}:Stp c (t7 c i x m u):=⟨rfl,rfl,rfl,[m],rfl⟩
theorem a4y {c:Circ} {l:List Hold}:Stp c (i6 c l):=⟨rfl,rfl,rfl,[],by simp[i6]⟩
theorem a97 {c:Circ} {l:List Loan}:Stp c (f7 c l):=⟨rfl,rfl,rfl,[],by simp[f7]⟩
theorem d8j {c:Circ} {l:List Charge} {n:Int}:Stp c (a48 c l n):=⟨rfl,rfl,rfl,[],by simp[a48]⟩
def d63 (it:Int) (c:Circ):Prop:=∀y∈c.Items,y.ID≠it→y.Custody.State=3→a9h c y
def a9g (c:Circ):Prop:=∀y∈c.Items,y.Custody.State=3→a9h c y
theorem b0m {c:Circ} (hs:t6 c.Holds=0) {id it st un:Int} {l:List Hold} (h:a2g c.Holds id it st un=(l,0)):c6j (i6 c l) c:=by
 obtain ⟨o,ho,hid,h1,h2,h3,h4,rfl⟩:=a9o (y8 hs) h;refine ⟨rfl,fun z hz e=>?_⟩;rcases (a3t ho).1 hz with ⟨hz,_⟩|rfl
 ·exact hz
 ·have e:st=1:=e;omega
structure AwF (c d:Circ) (i:Nat) (x:Item):Prop where
 items:∃u,d.Items=c.Items.set i (y0 u x)∧(u.State=3→qcw c x=some 0)
 stp:Stp c d
 less:c6j d c
theorem b9h {c d:Circ} {i:Nat} {x:Item} (hs:t6 c.Holds=0) (hx:c.Items[i]?=some x) (r:Aw c d i x):AwF c d i x:=by
 cases r with
 |stay h0 h3 hd=>subst hd;exact ⟨⟨x.Custody,(d20 hx).symm,fun _=>h0⟩,.refl _,.refl _⟩
 |move h0 kind branch hk u ha hlen hd=>subst hd;exact ⟨⟨u,rfl,fun _=>h0⟩,a0t,⟨rfl,fun o ho _=>ho⟩⟩
 |ready o ho hw hp hr=>
  obtain ⟨u,l,un,ha,hlen,hc,rfl⟩:=hr;have hl:=b0m (c:=t7 c i x ⟨c.Today,x.ID,5,x.Custody.Branch,o.Patron⟩ u) hs hc;refine ⟨⟨u,rfl,fun e=>?_⟩,a0t.trans a4y,hl.trans ⟨rfl,fun o ho _=>ho⟩⟩;rw[show u=⟨5,x.Custody.Branch,o.Patron,0⟩ from (c6q ha).res]at e;exact absurd (show (5:Int)=3 from e) (by decide)
 |send o ho hw u l ha hlen hc hd=>
  subst hd;have hl:=b0m (c:=t7 c i x ⟨c.Today,x.ID,6,o.Pickup,o.Patron⟩ u) hs hc;refine ⟨⟨u,rfl,fun e=>?_⟩,a0t.trans a4y,hl.trans ⟨rfl,fun o ho _=>ho⟩⟩;rw[show u=⟨6,x.Custody.Branch,o.Patron,o.Pickup⟩ from (c6q ha).res]at e;exact absurd (show (6:Int)=3 from e) (by decide)
theorem a41 {c:Circ} (h:a16 c=true) {i:Nat} {x:Item} (hx:c.Items[i]?=some x) {u:Custody} {y:Item}:y∈c.Items.set i (y0 u x)↔(y∈c.Items∧y.ID≠x.ID)∨y=y0 u x:=a00 (m:=⟨0,0,0,0,0⟩) h hx
theorem d7v {c d:Circ} {i:Nat} {x:Item} (hi:a16 c=true) (m:MidP c) (hx:c.Items[i]?=some x) (f:AwF c d i x) (h:d63 x.ID c):a9g d:=by
 obtain ⟨u,e,hu⟩:=f.items;intro y hy h3;rw[e,a41 hi hx]at hy;rcases hy with ⟨hy,hne⟩|rfl
 ·exact (h y hy hne h3).less f.less rfl rfl
 ·exact (d2m m (hu h3)).less f.less rfl rfl
theorem ma {c c1 d:Circ} {i:Nat} {x:Item} {kind branch who:Int} (v:Val x.ID c) (m:MidP c) (hx:c.Items[i]?=some x) (hl:b6g c x.ID) (hf:b89 c x.ID)
 (e1:qgo c x.ID kind branch who=some (c1,0)) (e2:qg4 c1 x.ID=some (d,0)):Val 0 d∧Stp c d∧c6j d c∧(d63 x.ID c→a9g d):=by
 obtain ⟨u,ha,hlen,rfl,m1⟩:=a08 m hx e1;have v1:=v.move hx rfl ha hlen;have hx1:=a24 hx ⟨c.Today,x.ID,kind,branch,who⟩ u;have r:=b9i m1 (x:=y0 u x) hx1 e2;have f:=b9h v1.holds hx1 r;refine ⟨d7w (x:=y0 u x) v1 hx1 hl hf r,a0t.trans f.stp,f.less.trans ⟨rfl,fun o ho _=>ho⟩,fun h=>d7v v1.items m1 hx1 f (fun y hy hne h3=>?_)⟩;rcases (a00 v.items hx).1 hy with ⟨hy,_⟩|rfl
 ·exact h y hy hne h3
 ·exact absurd rfl hne
theorem Val.lfree {c:Circ} (v:Val 0 c) {x:Item} (hx:x∈c.Items) (h:a2o x.Custody=false):b6g c x.ID:=by
 intro n hn e;obtain ⟨y,hy,hi,hw⟩:=v.loanI n hn;have:=y4 v.items hy hx (hi.trans e);subst this;have:=a07 v.items hy;rw[(hw (by omega)).1]at h;cases h
theorem Val.hfree {c:Circ} (v:Val 0 c) {x:Item} (hx:x∈c.Items) (h5:x.Custody.State≠5) (h6:x.Custody.State≠6):b89 c x.ID:=by
 intro o ho hs1 e;obtain ⟨y,hy,hi,-,hw⟩:=v.holdI o ho hs1;have:=y4 v.items hy hx (hi.trans e);subst this;have:=a07 v.items hy;have hw:=hw (by omega);rcases (a7n (a1q v.holds ho)).2.2.2.1 with q|q|q
 ·exact hs1 q
 ·exact h6 (hw.2 q).1
 ·exact h5 (hw.1 q).1
theorem a9g.x {c:Circ} (h:a9g c) (it:Int):d63 it c:=fun y hy _ h3=>h y hy h3
theorem c3q {c v:Circ} (h:MidP c) {record:Int} {i:Nat} {x:Item} (hx:c.Items[i]?=some x):∃w,qcw c x=some w∧
 a43 (record,(i:Int),c,v,())=(bif (x.Record==record&&x.Custody.State==3)&&!(w==0) then (match qg4 c x.ID with|some (r5,r6)=>(bif !(r6==0) then some (.inr (.inr (r6,o4,()))) else some (.inl (record,((i+1:Nat):Int),r5,v,())))|none=>none) else some (.inl (record,((i+1:Nat):Int),c,v,()))):=by
 obtain ⟨w,p1,p2,-,-⟩:=a8e h hx;refine ⟨w,p1,?_⟩;have hlt:=(zL hx)
 have:=h.short.items;simp -zeta only[a43,dlt hlt,yab,b9,hx,p2,a0e,g9 (show i<9223372036854775807 by omega)];dsimp only;cases x.Record==record<;>cases x.Custody.State==3<;>cases w==0<;>rfl
structure LentI (record:Int) (c0 c:Circ) (k:Nat):Prop where
 mid:MidP c
 val:Val 0 c
 stp:Stp c0 c
 less:c6j c c0
 done:∀(j:Nat) (y:Item),j<k→c.Items[j]?=some y→y.Record=record→y.Custody.State=3→a9h c y
 rest:∀y∈c.Items,y.Record≠record→y∈c0.Items
 shelf:∀y∈c.Items,y.Custody.State=3→y∈c0.Items
theorem c0q {c d:Circ} {record:Int} (m:MidP c) (v:Val 0 c) (e:qg2 c record=some (d,0)):LentI record c d d.Items.length:=by
 unfold qg2 at e;cases hw:b8 a43 (record,0,c,o4,()) with
 |none=>rw[show b8 a43 (record,0,c,ZN,())=_ from hw]at e;cases e
 |some r=>
  rw[show b8 a43 (record,0,c,ZN,())=_ from hw]at e;obtain ⟨b,⟨hb1,k,hb2,hk,I⟩,hb⟩:=a8l (fun s:Int×Int×Circ×Circ×Unit=>s.1=record∧∃k:Nat,s.2.1=(k:Int)∧k≤s.2.2.1.Items.length∧LentI record c s.2.2.1 k) (by
   rintro ⟨rr,ii,c1,v1,_⟩ ⟨rr2,ii2,c2,v2,_⟩ ⟨h1,k,h2,hk,I⟩ hs;dsimp only at h1 h2 hk I;subst h1 h2;by_cases hlt:k<c1.Items.length
   ·have hx:c1.Items[k]?=some (c1.Items[k]):=yac hlt;generalize c1.Items[k]=x at hx;obtain ⟨w,p1,hst⟩:=c3q (v:=v1) (record:=rr) I.mid hx;rw[hst]at hs;cases hq:(x.Record==rr&&x.Custody.State==3)&&!(w==0) with
    |false=>
     rw[hq]at hs;cases hs
     refine ⟨rfl,k+1,rfl,(by show k+1≤c1.Items.length;omega),I.mid,I.val,I.stp,I.less,fun j y hj hy hr h3=>?_,I.rest,I.shelf⟩;by_cases ejk:j=k
     ·subst ejk;rw[hx]at hy;cases hy
      rw[hr,h3]at hq;have:w=0:=by simpa using hq
      subst this;exact d2m I.mid p1
     ·exact I.done j y (by omega) hy hr h3
    |true=>
     rw[hq]at hs;simp only[yab]at hs;simp only[yad,yba,yar,yaT,ne_eq]at hq;cases ha:qg4 c1 x.ID with
     |none=>rw[ha]at hs;cases hs
     |some p=>
      obtain ⟨c3,e3⟩:=p;rw[ha]at hs;dsimp only at hs;by_cases he3:e3=0
      ·subst he3;simp only[yah,yai,yaa]at hs;cases hs
       have hm:=yaf hx;have r:=b9i I.mid hx ha;have f:=b9h I.val.holds hx r;have hm3:=((a9l I.mid hx).b ha).1.1;have hwp:a2o x.Custody=false:=by unfold a2o;rw[hq.1.2];rfl
       have v3:=d7w (I.val.weak x.ID) hx (I.val.lfree hm hwp) (I.val.hfree hm (by omega) (by omega)) r;obtain ⟨u,eI,hu⟩:=f.items;have hu3:u.State≠3:=fun e=>by
        have:=hu e;rw[p1]at this;exact hq.2 (ybO this)
       refine ⟨rfl,k+1,rfl,(by show k+1≤c2.Items.length;rw[eI,List.length_set];omega),hm3,v3,I.stp.trans f.stp,f.less.trans I.less,fun j y hj hy hr h3=>?_,fun y hy hr=>?_,fun y hy h3=>?_⟩
       ·rw[eI]at hy;by_cases ejk:j=k
        ·subst ejk;rw[ybs hlt]at hy;cases hy
         exact absurd h3 hu3
        ·rw[List.getElem?_set_ne (fun e=>ejk e.symm)]at hy;exact (I.done j y (by omega) hy hr h3).less f.less rfl rfl
       ·rw[eI,a41 I.val.items hx]at hy;rcases hy with ⟨hy,_⟩|rfl
        ·exact I.rest y hy hr
        ·exact absurd hq.1.1 hr
       ·rw[eI,a41 I.val.items hx]at hy;rcases hy with ⟨hy,_⟩|rfl
        ·exact I.shelf y hy h3
        ·exact absurd h3 hu3
      ·rw[show (e3==0)=false by simpa using he3]at hs;cases hs
   ·have:k=c1.Items.length:=by omega
    subst this;simp only[a43,dge,yaa]at hs;cases hs) ⟨rfl,0,rfl,Nat.zero_le _,m,v,.refl _,.refl _,fun j y hj=>absurd hj (by omega),fun y hy _=>hy,fun y hy _=>hy⟩ hw
  obtain ⟨rr,ii,c1,v1,_⟩:=b;dsimp only at hb1 hb2 hk I;subst hb1 hb2;by_cases hlt:k<c1.Items.length
  ·have hx:c1.Items[k]?=some (c1.Items[k]):=yac hlt;generalize c1.Items[k]=x at hx;obtain ⟨w,p1,hst⟩:=c3q (v:=v1) (record:=rr) I.mid hx;rw[hst]at hb;cases hq:(x.Record==rr&&x.Custody.State==3)&&!(w==0) with
   |false=>rw[hq]at hb;cases hb
   |true=>
    rw[hq]at hb;simp only[yab]at hb;cases ha:qg4 c1 x.ID with
    |none=>rw[ha]at hb;cases hb
    |some p=>
     obtain ⟨c3,e3⟩:=p;rw[ha]at hb;dsimp only at hb;by_cases he3:e3=0
     ·rw[show (e3==0)=true by simpa using he3]at hb;cases hb
     ·rw[show (e3==0)=false by simpa using he3]at hb;cases hb
      cases e
      exact absurd rfl he3
  ·have:k=c1.Items.length:=by omega
   subst this;simp only[a43,dge,yaa]at hb;cases hb
   cases e
   exact I
end
end Go.Proofs.YtdahfgialanmpabGreatDoor
